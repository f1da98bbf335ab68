/- Package value: put and read, for any parts. -/
import Derived.Test.YthlakkdgcgkcdaaGreatDoorMg3
namespace Go.Proofs.YthlakkdgcgkcdaaGreatDoor
set_option maxHeartbeats 8000000
set_option maxRecDepth 100000
open Go.RowKit Go.Extern.Stop Go.Stop Go.Extern
set_option linter.unusedVariables false
attribute [local irreducible] wpList wpAnyH Code.wp Oper.wp Go
abbrev Nm:=Nat×Int×Int
def partC(p:Nm):List Value:=[.int .i64 (p.1:Int),.int .i64 p.2.1,.int .i64 p.2.2]
theorem Uz(p:Nm):(partC p).length=3:=rfl
def Yl:Nm:=(4,0,0)
def Wi(ps:List Nm):Prop:=ps.length≤1000∧∀ i,i<ps.length→((ps.getD i Yl).1=4∨(ps.getD i Yl).1=8)∧0≤(ps.getD i Yl).2.1∧(ps.getD i Yl).2.2<9223372036854775808∧((ps.getD i Yl).1=4→(ps.getD i Yl).2.2<4294967296)
def inP (p:Nm)(n:Int):Bool:=decide (p.2.1≤n∧n≤p.2.2)
def Nj(ps:List Nm)(N:List Int)(k:Nat):Bool:=(List.range k).all fun i=>inP (ps.getD i Yl) (N.getD i 0)
theorem allIn_succ(ps:List Nm)(N:List Int)(k:Nat):Nj ps N (k+1)=(Nj ps N k&&inP (ps.getD k Yl) (N.getD k 0)):=by simp[Nj,List.range_succ]
theorem Ah{ps:List Nm}{N:List Int}{i k:Nat}(hi:i<k)(h:inP (ps.getD i Yl) (N.getD i 0)=false):Nj ps N k=false:=by
 unfold Nj
 rw[List.all_eq_false]
 exact⟨i,List.mem_range.2 hi,by rw[h];decide⟩
def putL(ps:List Nm)(N:List Int)(k:Nat):List UInt8:=(List.range k).flatMap fun i=>leB (N.getD i 0) (ps.getD i Yl).1
theorem Sj(ps:List Nm)(N:List Int)(k:Nat):putL ps N (k+1)=putL ps N k++leB (N.getD k 0) (ps.getD k Yl).1:=by simp[putL,List.range_succ]
def Ux(ps:List Nm)(k:Nat):List Nat:=(List.range k).map fun i=>(ps.getD i Yl).1
theorem Hc(ps:List Nm)(k:Nat):Ux ps (k+1)=Ux ps k++[(ps.getD k Yl).1]:=by simp[Ux,List.range_succ]
theorem Bb(ps:List Nm)(k:Nat):(Ux ps k).length=k:=by simp[Ux]
theorem wids_get(ps:List Nm){k i:Nat}(h:i<k):(Ux ps k).getD i 0=(ps.getD i Yl).1:=by simp[Ux,List.getD,List.getElem?_range h]
theorem Zgs(ps:List Nm)(N:List Int)(k:Nat):(putL ps N k).length=(Ux ps k).sum:=by
 induction k with
 | zero=>rfl
 | succ k ih=>rw[Sj,Hc,List.length_append,Zo,ih];simp
theorem Pack_48(g w:Nat)(n:Int)(W:World)(hw:w=4∨w=8)(h0:0≤n)(hb:w=4→n<4294967296)(hk:Blk W g [.int .i64 (w:Int),.int .i64 n] 236):Calls Tryz.prog 131 #[.slice (some ⟨g,0,none⟩) 1 1] W (Vn (fun w' r=>∃ p c,r=.tuple #[.slice p w c,.int .i64 0]∧w'.ownsRow W.heap.size 5 1 (.slice p w c) w ((leB n w).map bv)) W):=by
 rcases hw with rfl|rfl
 ·exact So g n h0 (hb rfl) W hk
 ·exact Pack_8 g n h0 W hk
def ValPutP(ps:List Nm)(N:List Int)(w:World)(e:Ending)(w':World):Prop :=
 (Nj ps N ps.length=false∧e=.returned (.string ⟨#[]⟩)∧Below w.heap.size w w')∨(Nj ps N ps.length=true∧e=.returned (.string ⟨(putL ps N ps.length).toArray⟩)∧Below w.heap.size w w')
theorem value_putG(ps:List Nm)(N:List Int)(gl gn:Option Addr)(cl cn:Nat)(w:World)(hps:Wi ps)(hNl:N.length=ps.length)(hP:Sts partC w (.slice gl ps.length cl) ps)(hN:Sl w (.slice gn ps.length cn) ps.length (N.map (Value.int .i64))) :
 Calls Tryz.prog 87 #[.slice gl ps.length cl,.slice gn ps.length cn] w (ValPutP ps N w):=by
 have hpl:=hps.1
 refine zin 51 Tryz.func87 ?_
 have hB:=Below.refl w.heap.size w
 refine zl 19 51 (fun zm zkv V=>∃ (i m:Nat) (q:Option Addr) (d:Nat),zkv=[(1,.slice gn ps.length cn),(5,.slice q m d),(10,.slice gl ps.length cl),(11,.int .i64 (↑ps.length:Int)),(12,.int .i64 (↑i:Int))]∧zm=ps.length-((↑i:Int)).toNat∧Below w.heap.size w V∧V.ownsRow w.heap.size 5 1 (.slice q m d) m ((putL ps N i).map bv)∧i≤ps.length∧m=(Ux ps i).sum∧m≤i*8∧Nj ps N i=true) ⟨0,0,_,_,rfl,rfl,hB,World.ownsRow_nil _ _ _ _,Nat.zero_le _,rfl,Nat.zero_le _,rfl⟩ ?_
 rintro _ _ W1 ⟨i,m,q,d,rfl,rfl,hB_1,ho,hi,hm,hm2,hall⟩ J1 hJ1 r1
 refine xid 6 ((↑i:Int)<(↑ps.length:Int)) (fun hc2=>?_) (fun hc2=>?_)
 ·refine xx 7 _ ps.length i 3 (Sts.cell hP Uz Yl (k:=i) (i:=0) (by omega) rfl).1 ?_
  refine xlv 0 (Sts.rp (k:=i) (hP.below hB_1) Uz Yl (by omega) (by decide)) ?_
  refine xa 0 [.int .i64 0,.int .i64 0,.int .i64 0] 176 fun b3 W3 n3=>?_
  have g3:=n3.ge hB_1
  refine xsv 1 n3.blk [.int .i64 (↑(ps.getD i Yl).1:Int),.int .i64 ((ps.getD i Yl).2.1),.int .i64 ((ps.getD i Yl).2.2)] fun W4 u4 k4=>?_
  refine xd 4 .z ?_
  refine xx (.e [0,1] 2) _ ps.length i 1 (IntsN.elem hN hNl (k:=i) (by omega)).1 ?_
  have hB'1:=bln (u4.below (bln hB_1 n3.below) g3) (Za W4)
  refine xl (.e [] 3) ((IntsN.elem (hN.below hB'1) hNl (k:=i) (by omega)).2) ?_
  have k4'1:=k4.below (Za W4)
  refine xb (.e [4] 5) 1 k4'1 ?_
  refine xg (.b [6,7]) [23,24] (decide ((N.getD i 0)<(ps.getD i Yl).2.1)) (fun hc5=>?_) (fun hc5=>?_)
  ·have hc5:=of_decide_eq_true hc5
   exact xe (.r [8,9,10,11,12,13,14,15] 15) (.string ⟨#[]⟩) (.inl ⟨Ah (i:=i) (by omega) (decide_eq_false (by omega)),rfl,hB'1⟩)
  have hc5:=of_decide_eq_false hc5
  refine xx (.e [8,9] 10) _ ps.length i 1 (IntsN.elem hN hNl (k:=i) (by omega)).1 ?_
  refine xl (.e [] 11) ((IntsN.elem (hN.below hB'1) hNl (k:=i) (by omega)).2) ?_
  refine xb (.e [12] 13) 2 k4'1 ?_
  refine xid (.r [14,15] 2) ((N.getD i 0)>(ps.getD i Yl).2.2) (fun hc6=>?_) (fun hc6=>?_)
  ·exact xe 12 (.string ⟨#[]⟩) (.inl ⟨Ah (i:=i) (by omega) (decide_eq_false (by omega)),rfl,hB'1⟩)
  refine xd 3 .z ?_
  have k4'2:=k4'1.below (Za W4.drew)
  refine xb (.e [0] 1) 0 k4'2 ?_
  refine xx (.e [2,3] 4) _ ps.length i 1 (IntsN.elem hN hNl (k:=i) (by omega)).1 ?_
  have hB'2:=bln hB'1 (Za W4.drew)
  refine xl (.e [] 5) ((IntsN.elem (hN.below hB'2) hNl (k:=i) (by omega)).2) ?_
  refine xbs (.o [6] 7) 1 [.int .i64 (↑(ps.getD i Yl).1:Int),.int .i64 (N.getD i 0)] 236 fun b7 W7 n7=>?_
  have g7:=n7.ge hB'2
  refine yc (.o [] 8) (args:=#[.slice (some ⟨b7,0,none⟩) 1 1]) .z (Pack_48 b7 (ps.getD i Yl).1 (N.getD i 0) _ (hps.2 i (by omega)).1 (by have:=(hps.2 i (by omega)).2.1;omega) (fun q=>by have:=(hps.2 i (by omega)).2.2.2 q;omega) n7.blk) ?_
  rintro _ W8 ⟨_,rfl,hb8,p2,c2,rfl,h2⟩
  have hs8:=(bln hB'2 n7.below).size
  refine⟨hb8,?_⟩
  have ho'1:=Zb (Zb (Zb (Zb (u4.own2 (Zb ho n3.below) n3.blk (by decide)) (Za W4)) (Za W4.drew)) n7.below) hb8
  have h2'1:=Zd h2 hs8
  have hB'3:=bln (bln hB'2 n7.below) hb8
  refine xbi (.r [9,10,11,12,13] 5) fun _ _ _ _ zJ zQ zo zx zy zK=>Zp (m:=(ps.getD i Yl).1) (news:=(leB (N.getD i 0) (ps.getD i Yl).1).map bv) (.int .u8 0) 1 1 ((m+(ps.getD i Yl).1)) (((putL ps N (i+1)).map bv)) zo Tryz.underlying22 (by kernel_rfl) rfl (by decide) zx ho'1 zy (Zf h2'1) (by simp[Zo]) (Vd _) (by unfold maxLen;have:=(hps.2 i (by omega)).1;omega) (by have:=(hps.2 i (by omega)).1;omega) hB'3.size (by rfl) (by rw[Sj,List.map_append]) fun px9 cx9 W9 o9 hg9 hb9=>?_
  refine zK _ _ ?_
  refine xwm 5 ((↑i:Int)+1) (↑(i+1):Int) ?_
  have hB'4:=hB'3.trans hb9
  exact ze 2 (hJ1 _ _ _ ⟨i+1,_,_,_,rfl,rfl,hB'4,o9,by omega,by rw[Hc,hm];simp,by have:=(hps.2 i (by omega)).1;omega,by rw[allIn_succ,hall];exact decide_eq_true ⟨by omega,by omega⟩⟩ (by omega))
 refine xcv0 8 (fun _ _ _ zo zx=>Qi zo zx (Qk (Zf ho) (by rw[Zgs];exact hm.symm)) (by rw[Zgs];exact hm.symm) Tryz.underlying22 Tryz.underlying5 Tryz.underlying9) ?_
 refine xe 4 (.string ⟨(putL ps N i).toArray⟩) ?_
 obtain rfl:i=ps.length:=by omega
 exact .inr ⟨hall,rfl,hB_1⟩
def Lb(ps:List Nm)(s:List UInt8):List Nat:=Hh s 0 (Ux ps ps.length)
theorem Zc7(ps:List Nm)(s:List UInt8):(Lb ps s).length=ps.length:=by rw[Lb,Zag,Bb]
def Hm(ps:List Nm)(s:List UInt8):Bool:=Nj ps ((Lb ps s).map fun n:Nat=>(n:Int)) ps.length
def Xq(ps:List Nm)(s:List UInt8):Int:=if s.length=(Ux ps ps.length).sum then(if Hm ps s then 0 else 2) else 7
def Xy(ps:List Nm)(s:List UInt8):List Nat:=if Xq ps s=0 then Lb ps s else List.replicate ps.length 0
theorem Jy(ps:List Nm)(s:List UInt8):(Xy ps s).length=ps.length:=by
 unfold Xy;split
 ·exact Zc7 ps s
 ·simp
theorem readOk_lt{ps:List Nm}{s:List UInt8}(hp:Wi ps)(h:Hm ps s=true):∀ i,i<(Ux ps ps.length).length→(Hh s 0 (Ux ps ps.length)).getD i 0<9223372036854775808:=by
 intro i hi
 rw[Bb] at hi
 unfold Hm Nj at h
 rw[List.all_eq_true] at h
 have h1:=of_decide_eq_true (h i (List.mem_range.2 hi))
 have h2:=(hp.2 i hi).2.2.1
 rw[show((Lb ps s).map fun n:Nat=>(n:Int)).getD i 0=(((Lb ps s).getD i 0:Nat):Int) by simp[List.getD,show i<(Lb ps s).length by rw[Zc7];exact hi]] at h1
 change (Lb ps s).getD i 0<_
 omega
theorem map_nv(l:List Nat):l.map nv=(l.map fun n:Nat=>(n:Int)).map (Value.int .i64):=by simp[nv]
theorem putL_ne{ps:List Nm}{N:List Int}(hp:Wi ps)(h0:0<ps.length):((⟨(putL ps N ps.length).toArray⟩:ByteArray).toList==(⟨#[]⟩:ByteArray).toList)=false:=by
 rw[show(⟨#[]⟩:ByteArray)=⟨([]:List UInt8).toArray⟩ from rfl,Ce]
 apply beq_false_of_ne
 intro q
 have h1:=congrArg List.length q
 obtain⟨k,hk⟩:∃ k,ps.length=k+1:=⟨ps.length-1,by omega⟩
 rw[hk,Sj,List.length_append,Zo] at h1
 rw[List.length_nil] at h1
 have:=(hp.2 k (by omega)).1
 omega
theorem Oj(n:Nat):Hn (Value.int .i64 0).cells.toList n=(List.replicate n 0).map nv:=by
 rw[show(Value.int .i64 0).cells.toList=[Value.int .i64 0] from rfl,Hn,List.map_replicate]
 induction n with
 | zero=>rfl
 | succ n ih=>rw[List.replicate_succ,List.flatten_cons,ih,List.replicate_succ];rfl
theorem Ri(ps:List Nm)(s:List UInt8)(gl:Option Addr)(cl:Nat)(w:World)(hps:Wi ps)(h0:0<ps.length)(hs:s.length≤100000)(hP:Sts partC w (.slice gl ps.length cl) ps)(hsl:s.length≠(Ux ps ps.length).sum) :
 Calls Tryz.prog 58 #[.slice gl ps.length cl,.string ⟨s.toArray⟩] w (Vn (fun w' r=>∃ p c,r=.tuple #[.slice p ps.length c,.int .i64 (Xq ps s)]∧w'.ownsRow w.heap.size 3 1 (.slice p ps.length c) ps.length ((Xy ps s).map nv)) w):=by
 have hpl:=hps.1
 refine zin 54 Tryz.func58 ?_
 have hB:=Below.refl w.heap.size w
 refine zl 25 54 (fun zm zkv V=>∃ (i:Nat) (q:Option Addr) (d:Nat),zkv=[(0,.slice gl ps.length cl),(1,.string ⟨s.toArray⟩),(4,.slice none 0 0),(5,.int .i64 0),(6,.slice q i d),(7,.int .i64 (↑(Ux ps i).sum:Int)),(12,.slice gl ps.length cl),(13,.int .i64 (↑ps.length:Int)),(14,.int .i64 (↑i:Int))]∧zm=ps.length-((↑i:Int)).toNat∧Below w.heap.size w V∧V.ownsRow w.heap.size 3 1 (.slice q i d) i ((Ux ps i).map nv)∧i≤ps.length∧(Ux ps i).sum≤i*8) ⟨0,_,_,rfl,rfl,hB,World.ownsRow_nil _ _ _ _,Nat.zero_le _,Nat.zero_le _⟩ ?_
 rintro _ _ W1 ⟨i,q,d,rfl,rfl,hB_1,ho,hi,hm2⟩ J1 hJ1 r1
 have hwd:i<ps.length→(ps.getD i Yl).1≤8:=fun q=>by have:=(hps.2 i q).1;omega
 refine xid 6 ((↑i:Int)<(↑ps.length:Int)) (fun hc2=>?_) (fun hc2=>?_)
 ·refine xx 6 _ ps.length i 3 (Sts.cell hP Uz Yl (k:=i) (i:=0) (by omega) rfl).1 ?_
  refine xlv 0 (Sts.rp (k:=i) (hP.below hB_1) Uz Yl (by omega) (by decide)) ?_
  refine xa 0 [.int .i64 0,.int .i64 0,.int .i64 0] 176 fun b3 W3 n3=>?_
  have g3:=n3.ge hB_1
  refine xsv 0 n3.blk [.int .i64 (↑(ps.getD i Yl).1:Int),.int .i64 ((ps.getD i Yl).2.1),.int .i64 ((ps.getD i Yl).2.2)] fun W4 u4 k4=>?_
  refine xb 6 0 k4 ?_
  refine xbs 0 1 [.int .i64 (↑(ps.getD i Yl).1:Int)] 3 fun b5 W5 n5=>?_
  have hB'1:=u4.below (bln hB_1 n3.below) g3
  have g5:=n5.ge hB'1
  have ho'1:=u4.own2 (Zb ho n3.below) n3.blk (by decide)
  have r5_ho:=Zu ho'1 n5
  have ho'2:=Zb ho'1 n5.below
  have hB'2:=bln hB'1 n5.below
  refine xbi 0 fun _ _ _ _ zJ zQ zo zx zy zK=>Zp (m:=1) (news:=[.int .i64 (↑(ps.getD i Yl).1:Int)]) (.int .i64 0) 1 8 (i+1) (((Ux ps (i+1)).map nv)) zo Tryz.underlying30 (by kernel_rfl) rfl (by decide) zx ho'2 zy (n5.blk.sl 1 1 (by decide) (by decide)) rfl (by simp[Value.oneCell']) (by unfold maxLen;omega) (by omega) hB'2.size (by rfl) (by rw[Hc,List.map_append];rfl) fun px6 cx6 W6 o6 hg6 hb6=>?_
  refine zK _ _ ?_
  have k4'1:=(k4.below n5.below).grown hg6 ho'2 (by decide)
  refine xb 6 0 k4'1 ?_
  refine xwm 0 ((↑(Ux ps i).sum:Int)+(↑(ps.getD i Yl).1:Int)) (↑((Ux ps i).sum+((ps.getD i Yl).1)):Int) ?_
  refine xwm 5 ((↑i:Int)+1) (↑(i+1):Int) ?_
  refine xv1 2 7 (show(.int .i64 (↑((Ux ps i).sum+((ps.getD i Yl).1)):Int):Value)=.int .i64 (↑(Ux ps (i+1)).sum:Int) from by rw[Hc];simp) ?_
  have hB'3:=hB'2.trans hb6
  exact ze 0 (hJ1 _ _ _ ⟨i+1,_,_,rfl,rfl,hB'3,o6,by omega,by rw[Hc,List.sum_append,List.sum_cons,List.sum_nil];have:=hwd (by omega);omega⟩ (by omega))
 refine xk 14 (show(((↑s.length:Int) != (↑(Ux ps i).sum:Int)):Bool)=true from bne_iff_ne.2 (by rw[show i=ps.length by omega];omega)) ?_
 refine xmk 4 fun _ _ _ _ zJ zQ zo zx zy zK=>Gb ps.length (.int .i64 0) 1 8 ((List.replicate ps.length 0).map nv) zo zx zy Tryz.underlying30 (by kernel_rfl) rfl (by omega) (by omega) (Oj _) fun b7 W7 n7=>?_
 have g7:=n7.ge hB_1
 have r7_ho:=Zu ho n7
 refine zK _ _ ?_
 have hB'4:=bln hB_1 n7.below
 have o7:=Zw (size:=1) (n:=ps.length) n7.blk g7 (by simp) (by unfold maxLen;omega)
 refine xe 6 (.tuple #[.slice (some ⟨b7,0,none⟩) ps.length ps.length,.int .i64 7]) ?_
 have he:Xq ps s=7:=if_neg hsl
 exact⟨_,rfl,hB'4,_,_,by rw[he],by rw[Xy,if_neg (by rw[he];decide)];exact o7⟩
def UnpP(s:List UInt8)(ws:List Nat)(n:Nat)(W:World)(e:Ending)(w':World):Prop :=
 ((¬ ∀ i,i<ws.length→(Hh s 0 ws).getD i 0<9223372036854775808)∧e=.returned (.tuple #[.slice none 0 0,.int .i64 2])∧Below W.heap.size W w') ∨
 ((∀ i,i<ws.length→(Hh s 0 ws).getD i 0<9223372036854775808)∧∃ p c,e=.returned (.tuple #[.slice p n c,.int .i64 0])∧Below W.heap.size W w'∧w'.ownsRow W.heap.size 3 1 (.slice p n c) n ((Hh s 0 ws).map nv))
theorem Unpack_P(a:Option Addr)(n c m:Nat)(s:List UInt8)(aw:Option Addr)(cw:Nat)(ws:List Nat)(W:World)(hn:s.length=n)(hm:ws.length=m)(hk:∀ i,i<ws.length→ws.getD i 0=1∨ws.getD i 0=2∨ws.getD i 0=4∨ws.getD i 0=8)(hs:ws.sum≤n)(hl:n≤100000000)(hw:m≤1000)(h:Bys W (.slice a n c) s)(hws:Sl W (.slice aw m cw) m (ws.map nv)) :
 Calls Tryz.prog 93 #[.slice a n c,.slice aw m cw] W (UnpP s ws m W):=by
 subst hn hm
 by_cases hq:∀ i,i<ws.length→(Hh s 0 ws).getD i 0<9223372036854775808
 ·refine(Zby a c s aw cw ws W hk hs hl hw h hws hq).mono ?_
  rintro e V ⟨_,rfl,hb,p,c2,rfl,ho⟩
  exact .inr ⟨hq,p,c2,rfl,hb,ho⟩
 ·refine(Unpack_bad a c s aw cw ws W hk hs hl hw h hws hq).mono ?_
  rintro e V ⟨rfl,hb⟩
  exact .inl ⟨hq,rfl,hb⟩
theorem rawsI_len(ps:List Nm)(s:List UInt8)(k:Nat):((Hh s 0 (Ux ps k)).map fun n:Nat=>(n:Int)).length=k:=by rw[List.length_map,Zag,Bb]
theorem Zeo(ps:List Nm)(N:List Int)(gl gn:Option Addr)(cl cn n:Nat)(w:World)(hps:Wi ps)(hn:n=ps.length)(hNl:N.length=n)(hP:Sts partC w (.slice gl ps.length cl) ps)(hN:Sl w (.slice gn n cn) n (N.map (Value.int .i64))) :
 Calls Tryz.prog 87 #[.slice gl ps.length cl,.slice gn n cn] w (fun e w'=>(Nj ps N n=false∧e=.returned (.string ⟨#[]⟩)∧Below w.heap.size w w')∨(Nj ps N n=true∧e=.returned (.string ⟨(putL ps N ps.length).toArray⟩)∧Below w.heap.size w w')):=by
 subst hn;exact value_putG ps N gl gn cl cn w hps hNl hP hN
theorem Td(ps:List Nm)(s:List UInt8)(gl:Option Addr)(cl:Nat)(w:World)(hps:Wi ps)(h0:0<ps.length)(hs:s.length≤100000)(hP:Sts partC w (.slice gl ps.length cl) ps)(hsl:s.length=(Ux ps ps.length).sum) :
 Calls Tryz.prog 58 #[.slice gl ps.length cl,.string ⟨s.toArray⟩] w (Vn (fun w' r=>∃ p c,r=.tuple #[.slice p ps.length c,.int .i64 (Xq ps s)]∧w'.ownsRow w.heap.size 3 1 (.slice p ps.length c) ps.length ((Xy ps s).map nv)) w):=by
 have hpl:=hps.1
 refine zin 54 Tryz.func58 ?_
 have hB:=Below.refl w.heap.size w
 refine zl 25 54 (fun zm zkv V=>∃ (i:Nat) (q:Option Addr) (d:Nat),zkv=[(0,.slice gl ps.length cl),(1,.string ⟨s.toArray⟩),(4,.slice none 0 0),(5,.int .i64 0),(6,.slice q i d),(7,.int .i64 (↑(Ux ps i).sum:Int)),(12,.slice gl ps.length cl),(13,.int .i64 (↑ps.length:Int)),(14,.int .i64 (↑i:Int))]∧zm=ps.length-((↑i:Int)).toNat∧Below w.heap.size w V∧V.ownsRow w.heap.size 3 1 (.slice q i d) i ((Ux ps i).map nv)∧i≤ps.length∧(Ux ps i).sum≤i*8) ⟨0,_,_,rfl,rfl,hB,World.ownsRow_nil _ _ _ _,Nat.zero_le _,Nat.zero_le _⟩ ?_
 rintro _ _ W1 ⟨i,q,d,rfl,rfl,hB_1,ho,hi,hm2⟩ J1 hJ1 r1
 have hwd:i<ps.length→(ps.getD i Yl).1≤8:=fun q=>by have:=(hps.2 i q).1;omega
 refine xid 6 ((↑i:Int)<(↑ps.length:Int)) (fun hc2=>?_) (fun hc2=>?_)
 ·refine xx 6 _ ps.length i 3 (Sts.cell hP Uz Yl (k:=i) (i:=0) (by omega) rfl).1 ?_
  refine xlv 0 (Sts.rp (k:=i) (hP.below hB_1) Uz Yl (by omega) (by decide)) ?_
  refine xa 0 [.int .i64 0,.int .i64 0,.int .i64 0] 176 fun b3 W3 n3=>?_
  have g3:=n3.ge hB_1
  refine xsv 0 n3.blk [.int .i64 (↑(ps.getD i Yl).1:Int),.int .i64 ((ps.getD i Yl).2.1),.int .i64 ((ps.getD i Yl).2.2)] fun W4 u4 k4=>?_
  refine xb 6 0 k4 ?_
  refine xbs 0 1 [.int .i64 (↑(ps.getD i Yl).1:Int)] 3 fun b5 W5 n5=>?_
  have hB'1:=u4.below (bln hB_1 n3.below) g3
  have g5:=n5.ge hB'1
  have ho'1:=u4.own2 (Zb ho n3.below) n3.blk (by decide)
  have r5_ho:=Zu ho'1 n5
  have ho'2:=Zb ho'1 n5.below
  have hB'2:=bln hB'1 n5.below
  refine xbi 0 fun _ _ _ _ zJ zQ zo zx zy zK=>Zp (m:=1) (news:=[.int .i64 (↑(ps.getD i Yl).1:Int)]) (.int .i64 0) 1 8 (i+1) (((Ux ps (i+1)).map nv)) zo Tryz.underlying30 (by kernel_rfl) rfl (by decide) zx ho'2 zy (n5.blk.sl 1 1 (by decide) (by decide)) rfl (by simp[Value.oneCell']) (by unfold maxLen;omega) (by omega) hB'2.size (by rfl) (by rw[Hc,List.map_append];rfl) fun px6 cx6 W6 o6 hg6 hb6=>?_
  refine zK _ _ ?_
  have k4'1:=(k4.below n5.below).grown hg6 ho'2 (by decide)
  refine xb 6 0 k4'1 ?_
  refine xwm 0 ((↑(Ux ps i).sum:Int)+(↑(ps.getD i Yl).1:Int)) (↑((Ux ps i).sum+((ps.getD i Yl).1)):Int) ?_
  refine xwm 5 ((↑i:Int)+1) (↑(i+1):Int) ?_
  refine xv1 2 7 (show(.int .i64 (↑((Ux ps i).sum+((ps.getD i Yl).1)):Int):Value)=.int .i64 (↑(Ux ps (i+1)).sum:Int) from by rw[Hc];simp) ?_
  have hB'3:=hB'2.trans hb6
  exact ze 0 (hJ1 _ _ _ ⟨i+1,_,_,rfl,rfl,hB'3,o6,by omega,by rw[Hc,List.sum_append,List.sum_cons,List.sum_nil];have:=hwd (by omega);omega⟩ (by omega))
 refine xk 14 (show(((↑s.length:Int) != (↑(Ux ps i).sum:Int)):Bool)=false from by rw[show i=ps.length by omega,hsl];simp) ?_
 refine xcf 5 fun _ _ _ zJ zQ zo zx zK=>Jq s zo zx Tryz.underlying9 Tryz.underlying22 Tryz.underlying5 (by omega) ?_
 intro bz cz W7 hb7 hbz
 refine zK _ _ ?_
 have ho'3:=Zb ho hb7
 refine xc 1 (args:=#[.slice (some ⟨bz,0,none⟩) s.length cz,.slice q i d]) (Unpack_P (some ⟨bz,0,none⟩) s.length cz i s q d (Ux ps i) _ rfl (Bb ps i) (fun j hj=>by rw[Bb] at hj;rw[wids_get ps hj];have:=(hps.2 j (by omega)).1;omega) (by rw[show i=ps.length by omega];omega) (by omega) (by omega) hbz (Zf ho'3)) ?_
 rintro e W8 hq8
 rcases hq8 with ⟨hq,rfl,hb8⟩|⟨hq,p5,c5,rfl,hb8,h5⟩
 ·have hie:i=ps.length:=by omega
  have hno:Hm ps s=false:=by rw[←Bool.not_eq_true];intro q;exact hq (by rw[hie];exact readOk_lt hps q)
  refine xmk 25 fun _ _ _ _ zJ zQ zo zx zy zK=>Gb ps.length (.int .i64 0) 1 8 ((List.replicate ps.length 0).map nv) zo zx zy Tryz.underlying30 (by kernel_rfl) rfl (by omega) (by omega) (Oj _) fun b9 W9 n9=>?_
  have hB'4:=bln (bln hB_1 hb7) hb8
  have g9:=n9.ge hB'4
  have ho'4:=Zb ho'3 hb8
  have r9_ho:=Zu ho'4 n9
  refine zK _ _ ?_
  have hB'5:=bln hB'4 n9.below
  have o9:=Zw (size:=1) (n:=ps.length) n9.blk g9 (by simp) (by unfold maxLen;omega)
  refine xe 6 (.tuple #[.slice (some ⟨b9,0,none⟩) ps.length ps.length,.int .i64 2]) ?_
  have he:Xq ps s=2:=by unfold Xq;rw[if_pos hsl,if_neg (by rw[hno];decide)]
  exact⟨_,rfl,hB'5,_,_,by rw[he],by rw[Xy,if_neg (by rw[he];decide)];exact o9⟩
 have hs8:=(bln hB_1 hb7).size
 have hie:i=ps.length:=by omega
 have h5'1:=Zd h5 hs8
 have hN5:Sl (W8) (.slice p5 i c5) i (((Hh s 0 (Ux ps i)).map fun n:Nat=>(n:Int)).map (Value.int .i64)):=by have q:=Zf h5'1;rw[map_nv] at q;exact q
 have hB'6:=bln (bln hB_1 hb7) hb8
 refine xc 15 (args:=#[.slice gl ps.length cl,.slice p5 i c5]) (Zeo ps ((Hh s 0 (Ux ps i)).map fun n:Nat=>(n:Int)) gl p5 cl c5 i _ hps hie (rawsI_len ps s i) (hP.below hB'6) hN5) ?_
 rintro e W10 hq10
 rcases hq10 with ⟨hin,rfl,hb10⟩|⟨hin,rfl,hb10⟩
 ·have hno:Hm ps s=false:=by unfold Hm Lb;rw[←hie];exact hin
  refine xmk 9 fun _ _ _ _ zJ zQ zo zx zy zK=>Gb ps.length (.int .i64 0) 1 8 ((List.replicate ps.length 0).map nv) zo zx zy Tryz.underlying30 (by kernel_rfl) rfl (by omega) (by omega) (Oj _) fun b11 W11 n11=>?_
  have hB'7:=bln hB'6 hb10
  have g11:=n11.ge hB'7
  have ho'5:=Zb (Zb ho'3 hb8) hb10
  have r11_ho:=Zu ho'5 n11
  have h5'2:=Zb h5'1 hb10
  have r11_h5:=Zu h5'2 n11
  refine zK _ _ ?_
  have hB'8:=bln hB'7 n11.below
  have o11:=Zw (size:=1) (n:=ps.length) n11.blk g11 (by simp) (by unfold maxLen;omega)
  refine xe 6 (.tuple #[.slice (some ⟨b11,0,none⟩) ps.length ps.length,.int .i64 2]) ?_
  have he:Xq ps s=2:=by unfold Xq;rw[if_pos hsl,if_neg (by rw[hno];decide)]
  exact⟨_,rfl,hB'8,_,_,by rw[he],by rw[Xy,if_neg (by rw[he];decide)];exact o11⟩
 have hyes:Hm ps s=true:=by unfold Hm Lb;rw[←hie];exact hin
 refine xk 4 (show(((⟨(putL ps ((Hh s 0 (Ux ps i)).map fun n:Nat=>(n:Int)) ps.length).toArray⟩:ByteArray).toList==(⟨#[]⟩:ByteArray).toList):Bool)=false from putL_ne hps h0) ?_
 have hB'9:=bln hB'6 hb10
 have h5'3:=Zb h5'1 hb10
 refine xe 10 (.tuple #[.slice p5 i c5,.int .i64 0]) ?_
 have he:Xq ps s=0:=by unfold Xq;rw[if_pos hsl,if_pos hyes]
 subst hie
 exact⟨_,rfl,hB'9,_,_,by rw[he],by rw[Xy,if_pos he];exact h5'3⟩
theorem Fl(ps:List Nm)(s:List UInt8)(gl:Option Addr)(cl:Nat)(w:World)(hps:Wi ps)(h0:0<ps.length)(hs:s.length≤100000)(hP:Sts partC w (.slice gl ps.length cl) ps) :
 Calls Tryz.prog 58 #[.slice gl ps.length cl,.string ⟨s.toArray⟩] w (Vn (fun w' r=>∃ p c,r=.tuple #[.slice p ps.length c,.int .i64 (Xq ps s)]∧w'.ownsRow w.heap.size 3 1 (.slice p ps.length c) ps.length ((Xy ps s).map nv)) w):=by
 by_cases h:s.length=(Ux ps ps.length).sum
 ·exact Td ps s gl cl w hps h0 hs hP h
 ·exact Ri ps s gl cl w hps h0 hs hP h
def Gz:List Nm:=[(4,3,2147483647)]
theorem cntP_ok:Wi Gz:=by
 refine⟨by decide,fun i hi=>?_⟩
 have hi':i<1:=hi
 obtain rfl:i=0:=by omega
 simp[Gz,List.getD]
def Ji(F:List Int):List Int:=((List.range F.length).filter fun k=>F.getD k 0==3).map fun k:Nat=>(k:Int)
theorem Rc(F:List Int)(n:Int):Ji (F++[n])=Ji F++(if n=3 then [(F.length:Int)] else []):=by
 unfold Ji
 rw[List.length_append,List.length_singleton,List.range_succ,List.filter_append,List.map_append]
 congr 1
 ·congr 1
  apply List.filter_congr
  intro k hk
  have hk':=List.mem_range.1 hk
  simp[List.getD,List.getElem?_append_left hk']
 ·by_cases h:n=3
  ·simp[List.getD,h]
  ·simp[List.getD,h]
theorem Ip{F:List Int}{k:Int}:k∈Ji F↔0≤k∧F.getD k.toNat 0=3:=by
 unfold Ji
 simp only[List.mem_map,List.mem_filter,List.mem_range,beq_iff_eq]
 constructor
 ·rintro⟨j,⟨_,h⟩,rfl⟩;exact⟨by omega,by simpa using h⟩
 ·rintro⟨h0,h⟩
  refine⟨k.toNat,⟨?_,h⟩,by omega⟩
  apply Nat.lt_of_not_le
  intro q
  rw[show F.getD k.toNat 0=0 from by simp[List.getD,q]] at h
  omega
theorem Zb8(F:List Int):(Ji F).Nodup:=by
 unfold Ji
 refine List.Pairwise.map _ (R:=fun a b=>a≠b) (fun a b h=>by omega) ?_
 exact List.Pairwise.filter _ (List.nodup_range)
def Qh(E:List Ent)(i:Nat):Int:=(E.getD i Xp).1
def Kq(E:List Ent)(i:Nat):Int:=if i=0 then -1 else Qh E (i-1)
def jVal(E:List Ent)(i:Nat):Int:=((Xy Gz (E.getD i Xp).2.1).getD 0 0:Nat)
def Zdd(F:List Int)(E:List Ent)(i:Nat):Int :=
 if Qh E i≤Kq E i then 8 else if F.getD (Qh E i).toNat 0≠3 then 13 else Xq Gz (E.getD i Xp).2.1
def jOk (F:List Int)(E:List Ent)(i:Nat):Prop:=∀ j,j<i→Zdd F E j=0
theorem Zax{F:List Int}{E:List Ent}{i:Nat}(h:jOk F E i)(h2:Zdd F E i=0):jOk F E (i+1):=fun j hj=>by
 by_cases e:j=i
 ·subst e;exact h2
 ·exact h j (by omega)
theorem Zd6{F:List Int}{E:List Ent}{i:Nat}(h:Zdd F E i=0):Kq E i<Qh E i∧F.getD (Qh E i).toNat 0=3∧Xq Gz (E.getD i Xp).2.1=0:=by
 unfold Zdd at h
 by_cases h1:Qh E i≤Kq E i
 ·rw[if_pos h1] at h;omega
 ·rw[if_neg h1] at h
  by_cases h2:F.getD (Qh E i).toNat 0=3
  ·rw[if_neg (fun q=>q h2)] at h;exact⟨by omega,h2,h⟩
  ·rw[if_pos h2] at h;omega
theorem Na{F:List Int}{E:List Ent}{i:Nat}(h:jOk F E i) : -1≤Kq E i∧∀ j,j<i→0≤Qh E j∧Qh E j≤Kq E i∧F.getD (Qh E j).toNat 0=3:=by
 induction i with
 | zero=>exact⟨by unfold Kq;rw[if_pos rfl];exact Int.le_refl _,fun j hj=>absurd hj (by omega)⟩
 | succ i ih =>
  obtain⟨h1,h2⟩:=ih fun j hj=>h j (by omega)
  have hb:=Zd6 (h i (by omega))
  have e:Kq E (i+1)=Qh E i:=by unfold Kq;rw[if_neg (by omega),Nat.add_sub_cancel]
  rw[e]
  refine⟨by omega,fun j hj=>?_⟩
  by_cases q:j=i
  ·subst q;exact⟨by omega,Int.le_refl _,hb.2.1⟩
  ·have:=h2 j (by omega);exact⟨this.1,by omega,this.2.2⟩
theorem jOk_inj{F:List Int}{E:List Ent}{i:Nat}(h:jOk F E i):∀ a b,a<b→b<i→Qh E a<Qh E b:=fun a b hab hb=>by
 have h1:=(Na (i:=b) fun j hj=>h j (by omega)).2 a hab
 have h2:=Zd6 (h b hb)
 omega
def Gr(F:List Int)(E:List Ent)(i:Nat):List Int:=(Ji F).filter fun k=>(List.range i).all fun j=>Qh E j != k
theorem openL_zero(F:List Int)(E:List Ent):Gr F E 0=Ji F:=by simp[Gr]
theorem Zdp(F:List Int)(E:List Ent)(i:Nat):(Gr F E i).Nodup:=List.Pairwise.filter _ (Zb8 F)
theorem Fc{F:List Int}{E:List Ent}{i:Nat}{k:Int}:k∈Gr F E i↔(0≤k∧F.getD k.toNat 0=3)∧∀ j,j<i→Qh E j≠k:=by
 unfold Gr
 rw[List.mem_filter,Ip]
 simp
theorem Zfi{F:List Int}{E:List Ent}{i:Nat}(h:jOk F E i)(hk:Kq E i<Qh E i):Qh E i∈Gr F E i↔F.getD (Qh E i).toNat 0=3:=by
 have hl:=Na h
 rw[Fc]
 constructor
 ·exact fun q=>q.1.2
 ·exact fun q=>⟨⟨by omega,q⟩,fun j hj e=>by have:=hl.2 j hj;omega⟩
theorem openL_del(F:List Int)(E:List Ent)(i:Nat):(Gr F E i).erase (Qh E i)=Gr F E (i+1):=by
 rw[(Zdp F E i).erase_eq_filter]
 unfold Gr
 rw[List.filter_filter]
 apply List.filter_congr
 intro k _
 have e:([i].all fun j=>Qh E j != k)=(k != Qh E i):=by
  show(Qh E i != k&&true)=_
  rw[Bool.and_true,bne_comm]
 rw[List.range_succ,List.all_append,e]
 exact Bool.and_comm _ _
def Zev(E:List Ent)(i k:Nat):Option Nat:=(List.range i).find? fun j=>Qh E j==(k:Int)
theorem jFind_none{E:List Ent}{i k:Nat}(h:∀ j,j<i→Qh E j≠(k:Int)):Zev E i k=none:=by
 unfold Zev
 rw[List.find?_eq_none]
 intro j hj
 have:=h j (List.mem_range.1 hj)
 simpa using this
theorem Bm{E:List Ent}{i k j:Nat}(hj:j<i)(hk:Qh E j=(k:Int))(hn:∀ m,m<j→Qh E m≠(k:Int)):Zev E i k=some j:=by
 unfold Zev
 rw[List.find?_range_eq_some]
 exact⟨by simpa using hk,List.mem_range.2 hj,fun m hm=>by simpa using hn m hm⟩
def Zgm(F:List Int)(E:List Ent)(i k:Nat):Int:=match Zev E i k with|some j=>jVal E j|none=>F.getD k 0
def Bd(F:List Int)(E:List Ent)(i:Nat):List Int:=(List.range F.length).map (Zgm F E i)
theorem Yk(F:List Int)(E:List Ent)(i:Nat):(Bd F E i).length=F.length:=by simp[Bd]
theorem Ei{F:List Int}{E:List Ent}{i k:Nat}(h:k<F.length):(Bd F E i).getD k 0=Zgm F E i k:=by simp[Bd,List.getD,List.getElem?_range h]
theorem outL_zero(F:List Int)(E:List Ent):Bd F E 0=F:=by
 apply List.ext_getElem (by rw[Yk])
 intro k h1 h2
 simp[Bd,Zgm,Zev,List.getD,h2]
theorem Zae{F:List Int}{E:List Ent}{i:Nat}(h:F.getD (Qh E i).toNat 0=3):(Qh E i).toNat<F.length:=by
 apply Nat.lt_of_not_le
 intro q
 rw[show F.getD (Qh E i).toNat 0=0 from by simp[List.getD,q]] at h
 omega
theorem jOut_next{F:List Int}{E:List Ent}{i k:Nat}(h:jOk F E (i+1)):Zgm F E (i+1) k=if Qh E i=(k:Int) then jVal E i else Zgm F E i k:=by
 have hin:=jOk_inj h
 by_cases e:Qh E i=(k:Int)
 ·rw[if_pos e]
  unfold Zgm
  rw[Bm (by omega) e fun m hm=>by have:=hin m i hm (by omega);omega]
 ·rw[if_neg e]
  unfold Zgm Zev
  rw[List.range_succ,List.find?_append]
  have:List.find? (fun j=>Qh E j==(k:Int)) [i]=none:=by simp[e]
  rw[this]
  simp
theorem outL_set{F:List Int}{E:List Ent}{i:Nat}(h:jOk F E (i+1)):((Bd F E i).map (Value.int .i64)).set (Qh E i).toNat (.int .i64 (jVal E i))=(Bd F E (i+1)).map (Value.int .i64):=by
 have hb:=Zd6 (h i (by omega))
 have hl:=(Na (i:=i) fun j hj=>h j (by omega)).1
 have hk:=Zae hb.2.1
 have r:∀ (m k:Nat),k<F.length→((Bd F E m).map (Value.int .i64))[k]? = some (.int .i64 (Zgm F E m k)):=fun m k hkl=>by
  have g2:=Ei (E:=E) (i:=m) hkl
  rw[show(Bd F E m).getD k 0=(Bd F E m)[k]'(by rw[Yk];exact hkl) from by simp[List.getD,Yk,hkl]] at g2
  rw[List.getElem?_map,List.getElem?_eq_getElem (by rw[Yk];exact hkl),Option.map_some,g2]
 apply List.ext_getElem?
 intro k
 by_cases hkl:k<F.length
 ·rw[r _ _ hkl,jOut_next h]
  by_cases e:(Qh E i).toNat=k
  ·subst e
   rw[List.getElem?_set_self (by simp[Yk];exact hk),if_pos (by omega)]
  ·rw[List.getElem?_set_ne e,r _ _ hkl,if_neg (by omega)]
 ·rw[List.getElem?_eq_none (by simp[Yk];omega),List.getElem?_eq_none (by simp[Yk];omega)]
def Ka(F:List Int)(E:List Ent):Int×List Int :=
 match (List.range E.length).find? (fun i=>Zdd F E i != 0) with
 | some i=>(Zdd F E i,[])
 | none=>if Gr F E E.length=[] then(0,Bd F E E.length) else(13,[])
theorem Kd{F:List Int}{E:List Ent}{i:Nat}(hi:i<E.length)(h:jOk F E i)(hb:Zdd F E i≠0):Ka F E=(Zdd F E i,[]):=by
 unfold Ka
 rw[show(List.range E.length).find? (fun i=>Zdd F E i != 0)=some i from by
  rw[List.find?_range_eq_some]
  exact⟨by simpa using hb,List.mem_range.2 hi,fun m hm=>by simpa using h m hm⟩]
theorem Pk{F:List Int}{E:List Ent}(h:jOk F E E.length):Ka F E=if Gr F E E.length=[] then(0,Bd F E E.length) else(13,[]):=by
 unfold Ka
 rw[show(List.range E.length).find? (fun i=>Zdd F E i != 0)=none from by
  rw[List.find?_eq_none]
  intro i hi
  have:=h i (List.mem_range.1 hi)
  simp[this]]
structure FormOk(L:List (List Int)):Prop where
 len:∀ i,i<L.length→1≤(L.getD i []).length∧(L.getD i []).length≤960∧(i+1<L.length→(L.getD i []).length=960)
 small:∀ i,i<L.length→Hj (L.getD i [])
def Kz(L:List (List Int))(i:Nat):List Int:=(L.take i).flatten
theorem Py{L:List (List Int)}{i:Nat}(h:i<L.length):Kz L (i+1)=Kz L i++L.getD i []:=by
 unfold Kz
 rw[List.take_succ_eq_append_getElem h,List.flatten_append]
 simp[List.getD,h]
theorem Lp{L:List (List Int)}(h:FormOk L):∀ i,i≤L.length→(Kz L i).length≤i*960
 | 0,_=>by simp[Kz]
 | i+1,hi=>by
  rw[Py (by omega),List.length_append]
  have:=Lp h i (by omega)
  have:=(h.len i (by omega)).2.1
  omega
def Za1(F:List Int)(E:List Ent)(n k:Nat):List Int:=(Bd F E n).take k++F.drop k
theorem docL_len{F:List Int}{E:List Ent}{n k:Nat}(h:k≤F.length):(Za1 F E n k).length=F.length:=by unfold Za1;rw[List.length_append,List.length_take,List.length_drop,Yk];omega
theorem docL_zero(F:List Int)(E:List Ent)(n:Nat):Za1 F E n 0=F:=by simp[Za1]
theorem docL_all(F:List Int)(E:List Ent)(n:Nat):Za1 F E n F.length=Bd F E n:=by unfold Za1;rw[List.drop_length,List.append_nil,List.take_of_length_le (by rw[Yk];exact Nat.le_refl _)]
theorem docL_at{F:List Int}{E:List Ent}{n k:Nat}(h:k<F.length):(Za1 F E n k).getD k 0=F.getD k 0:=by
 unfold Za1
 have hl:((Bd F E n).take k).length=k:=by rw[List.length_take,Yk];omega
 simp only[List.getD]
 rw[List.getElem?_append_right (by omega),hl,Nat.sub_self,List.getElem?_drop,Nat.add_zero]
theorem docL_set{F:List Int}{E:List Ent}{n k:Nat}(h:k<F.length):((Za1 F E n k).map (Value.int .i64)).set k (.int .i64 (Zgm F E n k))=(Za1 F E n (k+1)).map (Value.int .i64):=by
 unfold Za1
 have hl:((Bd F E n).take k).length=k:=by rw[List.length_take,Yk];omega
 have h9:k<(Bd F E n).length:=by rw[Yk];exact h
 have g:=Ei (E:=E) (i:=n) h
 rw[show(Bd F E n).getD k 0=(Bd F E n)[k] from by simp[List.getD,h9]] at g
 rw[List.take_succ_eq_append_getElem h9,List.drop_eq_getElem_cons h,g]
 simp only[List.map_append,List.map_cons,List.append_assoc]
 rw[List.set_append_right _ _ (by rw[List.length_map];omega),List.length_map,hl,Nat.sub_self]
 rfl
theorem docL_keep{F:List Int}{E:List Ent}{n k:Nat}(h:k<F.length)(hk:Zgm F E n k=F.getD k 0):Za1 F E n k=Za1 F E n (k+1):=by
 unfold Za1
 have h9:k<(Bd F E n).length:=by rw[Yk];exact h
 have g:=Ei (E:=E) (i:=n) h
 rw[show(Bd F E n).getD k 0=(Bd F E n)[k] from by simp[List.getD,h9]] at g
 rw[List.take_succ_eq_append_getElem h9,List.drop_eq_getElem_cons h,g,hk]
 simp[List.getD,h]
theorem Zfk{F:List Int}{E:List Ent}{n k:Nat}(h:jOk F E n)(hk:F.getD k 0≠3):Zgm F E n k=F.getD k 0:=by
 unfold Zgm
 rw[jFind_none]
 intro j hj e
 have:=(Na h).2 j hj
 rw[e] at this
 exact hk (by simpa using this.2.2)
theorem open_ne{F:List Int}{E:List Ent}{n k:Nat}(hk:F.getD k 0=3)(hn:∀ j,j<n→Qh E j≠(k:Int)):Gr F E n≠[]:=fun e=>by
 have:(k:Int)∈Gr F E n:=Fc.2 ⟨⟨by omega,by simpa using hk⟩,hn⟩
 rw[e] at this;cases this
theorem Zgb{F:List Int}{E:List Ent}{n:Nat}(h:∀ k,k<F.length→F.getD k 0=3→∃ j,j<n∧Qh E j=(k:Int)):Gr F E n=[]:=by
 rw[List.eq_nil_iff_forall_not_mem]
 intro k hk
 obtain⟨⟨h0,h3⟩,hn⟩:=Fc.1 hk
 have hl:k.toNat<F.length:=by
  apply Nat.lt_of_not_le
  intro q
  rw[show F.getD k.toNat 0=0 from by simp[List.getD,q]] at h3
  omega
 obtain⟨j,hj,e⟩:=h k.toNat hl h3
 exact hn j hj (by omega)
theorem Ll{l l':List UInt8}(h:l.length=l'.length)(h2:∀ j,j<l.length→l.getD j 0=l'.getD j 0):l=l':=by
 apply List.ext_getElem h
 intro j h3 h4
 have:=h2 j h3
 simpa [List.getD,h3,h4] using this
theorem Km{l:List UInt8}{k:Nat}{x:List UInt8}(h:k+x.length≤l.length)(j:Nat):(Kf l k x).getD j 0=if k≤j∧j<k+x.length then x.getD (j-k) 0 else l.getD j 0:=by
 unfold Kf
 simp only[List.getD]
 rw[List.append_assoc,List.getElem?_append,List.getElem?_append]
 have e:(l.take k).length=k:=by simp;omega
 rw[e]
 by_cases h1:j<k
 ·rw[if_pos h1,if_neg (by omega),List.getElem?_take,if_pos h1]
 ·rw[if_neg h1]
  by_cases h2:j-k<x.length
  ·rw[if_pos h2,if_pos (by omega)]
  ·rw[if_neg h2,if_neg (by omega),List.getElem?_drop,show k+x.length+(j-k-x.length)=j by omega]
theorem Oe{l l':List UInt8}:∀ (w k:Nat),(∀ j,k≤j→j<k+w→l.getD j 0=l'.getD j 0)→Zh l k w=Zh l' k w
 | 0,k,h=>rfl
 | w+1,k,h=>by rw[Zh,Zh,h k (by omega) (by omega),Oe w (k+1) fun j h1 h2=>h j (by omega) (by omega)]
theorem Wb{l:List UInt8}:∀ (w k m:Nat),(∀ i,i<w→l.getD (k+i) 0=UInt8.ofNat (m/256 ^ i))→Zh l k w=m%256 ^ w
 | 0,k,m,h=>by simp[Zh,Nat.mod_one]
 | w+1,k,m,h=>by
  have h0:=h 0 (by omega)
  simp only[Nat.add_zero,Nat.pow_zero,Nat.div_one] at h0
  have h1:=Wb (l:=l) w (k+1) (m/256) fun i hi=>by
   have:=h (i+1) (by omega)
   rw[Nat.pow_succ,Nat.mul_comm,←Nat.div_div_eq_div_mul] at this
   rw[show k+1+i=k+(i+1) by omega];exact this
  rw[Zh,h0,h1,Nat.pow_succ,Nat.mul_comm (256 ^ w) 256,Nat.mod_mul]
  congr 1
theorem Zak{l:List UInt8}{k w:Nat}{n:Int}(h:k+w≤l.length)(h0:0≤n)(hb:n.toNat<256 ^ w):(Zh (Kf l k (leB n w)) k w:Int)=n:=by
 rw[Wb w k n.toNat,Nat.mod_eq_of_lt hb]
 ·omega
 ·intro i hi
  rw[Km (by rw[Zo];exact h),if_pos (by rw[Zo];omega),show k+i-k=i by omega]
  simp[leB,Xa,List.getD,List.getElem?_range hi]
theorem Qe{l x:List UInt8}{k j w:Nat}(h:k+x.length≤l.length)(hd:j+w≤k∨k+x.length≤j):Zh (Kf l k x) j w=Zh l j w :=
 Oe w j fun i h1 h2=>by rw[Km h,if_neg (by omega)]
theorem rawN_zero{l:List UInt8}{k w:Nat}(h:∀ j,k≤j→j<k+w→l.getD j 0=0):Zh l k w=0:=by
 have:=Wb (l:=l) w k 0 fun i hi=>by rw[h (k+i) (by omega) (by omega)];simp
 simpa using this
theorem sumB_put{l x:List UInt8}{kind:Int}(h:252≤l.length):Ci (Kf l 252 x) kind=Ci l kind:=by
 unfold Ci Kf
 rw[List.append_assoc,List.take_append_of_le_length (by simp;omega),List.take_take];rfl
theorem Rt(n j:Nat):(List.replicate n (0:UInt8)).getD j 0=0:=by
 simp[List.getD,List.getElem?_replicate];split<;>rfl
def Zbg(li:List UInt8):List UInt8:=li++List.replicate (244-li.length) 0
theorem Zcy{kind no:Int}{li:List UInt8}(h1:1≤kind)(h2:kind≤4)(h3:0≤no)(h4:no<14400)(hl:li.length≤244):Ye kind no (Yp kind no li)=0:=by
 have l1:=Uo hl
 have l2:=Up (no:=no) hl
 have l3:=Hd (kind:=kind) (no:=no) hl
 have l4:=Kx (kind:=kind) (no:=no) hl
 have a0:Gc kind no (Yp kind no li) 0=false:=by simp only[Gc];rw[show Jh kind no=true from decide_eq_true (by omega)];rfl
 have a1:Gc kind no (Yp kind no li) 1=false:=by simp only[Gc,l4];rfl
 have a2:Gc kind no (Yp kind no li) 2=false:=by
  have hs:Ci (Yp kind no li) kind=Ci (Nh kind no li) kind:=by unfold Yp;exact sumB_put (by omega)
  have hr:(Zh (Yp kind no li) 252 4:Int)=(Ci (Nh kind no li) kind:Int):=by
   unfold Yp
   exact Zak (by omega) (by omega) (by have:=sumB_lt (Nh kind no li) kind;simpa using this)
  simp only[Gc,hr,hs];simp
 have a3:Gc kind no (Yp kind no li) 3=false:=by
  have hr:(Zh (Yp kind no li) 0 4:Int)=no:=by
   unfold Yp
   rw[Qe (by rw[Zo];omega) (.inl (by omega))]
   unfold Nh
   rw[Qe (by rw[Zo];omega) (.inl (by omega))]
   unfold Zdx
   exact Zak (by omega) (by omega) (by omega)
  simp only[Gc,hr];simp
 have a4:Gc kind no (Yp kind no li) 4=false:=by
  have hr:(Zh (Yp kind no li) 4 2:Int)=kind:=by
   unfold Yp
   rw[Qe (by rw[Zo];omega) (.inl (by omega))]
   unfold Nh
   exact Zak (by omega) (by omega) (by omega)
  simp only[Gc,hr];simp
 have a5:Gc kind no (Yp kind no li) 5=false:=by
  have hr:Zh (Yp kind no li) 6 2=0:=by
   unfold Yp
   rw[Qe (by rw[Zo];omega) (.inl (by omega))]
   unfold Nh
   rw[Qe (by rw[Zo];omega) (.inr (by rw[Zo];omega))]
   unfold Zdx
   rw[Qe (by rw[Zo];omega) (.inr (by rw[Zo];omega))]
   unfold Zbe
   rw[Qe (by rw[List.length_replicate];omega) (.inl (by omega))]
   exact rawN_zero fun j _ _=>Rt 256 j
  simp only[Gc,hr];rfl
 simp[Ye,a0,a1,a2,a3,a4,a5]
theorem in_seal{kind no:Int}{li:List UInt8}(hl:li.length≤244):((Yp kind no li).drop 8).take 244=Zbg li:=by
 have l1:=Uo hl
 have l2:=Up (no:=no) hl
 have l3:=Hd (kind:=kind) (no:=no) hl
 have l4:=Kx (kind:=kind) (no:=no) hl
 apply Ll
 ·simp[Zbg,l4];omega
 ·intro j hj
  have hj2:j<244:=by simp[l4] at hj;omega
  have e:(((Yp kind no li).drop 8).take 244).getD j 0=(Yp kind no li).getD (8+j) 0:=by
   simp only[List.getD];rw[List.getElem?_take,if_pos hj2,List.getElem?_drop]
  rw[e]
  unfold Yp
  rw[Km (by rw[Zo];omega),if_neg (by rw[Zo];omega)]
  unfold Nh
  rw[Km (by rw[Zo];omega),if_neg (by rw[Zo];omega)]
  unfold Zdx
  rw[Km (by rw[Zo];omega),if_neg (by rw[Zo];omega)]
  unfold Zbe
  rw[Km (by rw[List.length_replicate];omega),Rt]
  unfold Zbg
  simp only[List.getD]
  rw[List.getElem?_append]
  by_cases h:j<li.length
  ·rw[if_pos ⟨by omega,by omega⟩,if_pos h,show 8+j-8=j by omega]
  ·rw[if_neg (by omega),if_neg h]
   have:=Rt (244-li.length) (j-li.length)
   simp only[List.getD] at this
   exact this.symm
theorem Zf1{l x:List UInt8}{k:Nat}(hx:x.length=256)(hk:k<l.length/256):Vy (Kf l (k*256) x) k=x:=by
 have hkl:k*256+256≤l.length:=by omega
 have hp:=Qf (l:=l) (k:=k*256) (x:=x) (by omega)
 apply Ll
 ·rw[Vw (by rw[hp];exact hk),hx]
 ·intro j hj
  rw[Vw (by rw[hp];exact hk)] at hj
  have e:(Vy (Kf l (k*256) x) k).getD j 0=(Kf l (k*256) x).getD (k*256+j) 0:=by
   simp only[Vy,List.getD];rw[List.getElem?_take,if_pos hj,List.getElem?_drop]
  rw[e,Km (by omega),if_pos (by omega),show k*256+j-k*256=j by omega]
theorem Uf{l x:List UInt8}{k i:Nat}(hx:x.length=256)(hk:k<l.length/256)(hne:i≠k)(hi:i<l.length/256):Vy (Kf l (k*256) x) i=Vy l i:=by
 have hkl:k*256+256≤l.length:=by omega
 have hp:=Qf (l:=l) (k:=k*256) (x:=x) (by omega)
 apply Ll
 ·rw[Vw (by rw[hp];exact hi),Vw hi]
 ·intro j hj
  rw[Vw (by rw[hp];exact hi)] at hj
  have e:∀ l:List UInt8,(Vy l i).getD j 0=l.getD (i*256+j) 0:=fun l=>by
   simp only[Vy,List.getD];rw[List.getElem?_take,if_pos hj,List.getElem?_drop]
  rw[e,e,Km (by omega),if_neg (by omega)]
theorem Ag{kind no:Int}(h:Jh kind no=true):1≤kind∧kind≤4∧0≤no∧no<14400:=of_decide_eq_true h
theorem step1_xor(a b:Nat):Ur (a ^^^ b)=Ur a ^^^ Ur b:=by
 have e:∀ r,Ur r=(r/2) ^^^ (if r%2=1 then 2197175160 else 0):=fun r=>by unfold Ur;split<;>simp
 rw[e,e,e,Nat.xor_div_two]
 have hp:=Nat.xor_mod_two_eq_one (a:=a) (b:=b)
 by_cases h1:a%2=1<;>by_cases h2:b%2=1
 ·rw[if_neg (by rw[hp];simp[h1,h2]),if_pos h1,if_pos h2,Nat.xor_zero]
  rw[show a/2 ^^^ 2197175160 ^^^ (b/2 ^^^ 2197175160)=a/2 ^^^ b/2 ^^^ (2197175160 ^^^ 2197175160) by ac_rfl];simp
 ·rw[if_pos (by rw[hp];simp[h1,h2]),if_pos h1,if_neg h2,Nat.xor_zero];ac_rfl
 ·rw[if_pos (by rw[hp];simp[h1,h2]),if_neg h1,if_pos h2,Nat.xor_zero];ac_rfl
 ·rw[if_neg (by rw[hp];simp[h1,h2]),if_neg h1,if_neg h2,Nat.xor_zero,Nat.xor_zero,Nat.xor_zero]
theorem stepN_xor(n a b:Nat):Xx n (a ^^^ b)=Xx n a ^^^ Xx n b:=by
 induction n with
 | zero=>rfl
 | succ n ih=>rw[Xx,ih,step1_xor];rfl
theorem Nd(q:Nat):Ur (2*q)=q:=by unfold Ur;rw[if_neg (by omega)];omega
theorem stepN_16(q:Nat):Xx 4 (16*q)=q:=by
 show Ur (Ur (Ur (Ur (16*q))))=q
 rw[show 16*q=2*(2*(2*(2*q))) by omega,Nd,Nd,Nd,Nd]
theorem split16(r:Nat):r=(16*(r/16)) ^^^ (r%16):=by
 apply Nat.eq_of_testBit_eq
 intro i
 rw[Nat.testBit_xor,show 16*(r/16)=2 ^ 4*(r/2 ^ 4) from rfl,Nat.testBit_two_pow_mul,Nat.testBit_div_two_pow,show r%16=r%2 ^ 4 from rfl,Nat.testBit_mod_two_pow]
 by_cases h:4≤i
 ·rw[show i-4+4=i by omega,show decide (i≥4)=true from decide_eq_true h,show decide (i<4)=false from decide_eq_false (by omega)];simp
 ·rw[show decide (i≥4)=false from decide_eq_false h,show decide (i<4)=true from decide_eq_true (by omega)];simp
theorem stepN_4(r:Nat):Xx 4 r=(r/16) ^^^ Mm (r%16):=by
 conv=>lhs;rw[split16 r]
 rw[stepN_xor,stepN_16];rfl
theorem stepN_add(m n r:Nat):Xx (m+n) r=Xx m (Xx n r):=by
 induction m with
 | zero=>simp[Xx]
 | succ m ih=>rw[Nat.succ_add,Xx,ih];rfl
theorem crcStep_8(r:Nat)(x:UInt8):Zah r x=Xx 8 (r ^^^ x.toNat):=by
 show _=Xx (4+4) (r ^^^ x.toNat)
 rw[stepN_add,stepN_4,stepN_4];rfl
theorem step1_odd{r:Nat}(h:r%2=1):Ur r=(r/2) ^^^ 2197175160:=if_pos h
theorem step1_ev{r:Nat}(h:¬ r%2=1):Ur r=r/2:=if_neg h
theorem ref_Step(r:Nat)(w:World)(hr:r<4294967296) :
 Calls Tryz.prog 215 #[.int .i64 (↑r:Int)] w (Ret (.int .i64 (Xx 8 r:Int)) w):=by
 refine zin 18 Tryz.func215 ?_
 have hB:=Below.refl w.heap.size w
 refine zl 12 18 (fun zm zkv V=>∃ (j:Nat),zkv=[(0,.int .i64 (↑(Xx j r):Int)),(2,.int .i64 0),(3,.int .i64 (↑j:Int))]∧zm=8-((↑j:Int)).toNat∧Below w.heap.size w V∧j≤8) ⟨0,rfl,rfl,hB,by decide⟩ ?_
 rintro _ _ W1 ⟨j,rfl,rfl,hB_1,hj⟩ J1 hJ1 r1
 refine xid 7 ((↑j:Int)<(8:Int)) (fun hc2=>?_) (fun hc2=>?_)
 ·refine xq 7 (congrArg (Value.int .i64) (show(Int.tmod (↑(Xx j r):Int) 2:Int)=(↑((Xx j r)%2):Int) from Uu (Xx j r) 2)) ?_
  refine xq 7 (congrArg (Value.int .i64) (show(IntKind.i64.wrap (Int.tdiv (↑(Xx j r):Int) 2):Int)=(↑((Xx j r)/2):Int) from Gw (Xx j r) 2 (by have:=Eg (j:=j) hr;omega) (by decide))) ?_
  refine xie 8 (↑((Xx j r)%2):Int) (1:Int) (fun hc3=>?_) (fun hc3=>?_)
  ·refine xq 2 (congrArg (Value.int .i64) (show(IntKind.i64.wrap (↑(BitVec.ofInt 64 (↑((Xx j r)/2):Int) ^^^ BitVec.ofInt 64 (2197175160:Int)).toNat:Int):Int)=(↑(((Xx j r)/2) ^^^ 2197175160):Int) from Fj (a:=(Xx j r)/2) (b:=2197175160) (by have:=Eg (j:=j) hr;omega) (by decide))) ?_
   refine xwm 6 ((↑j:Int)+1) (↑(j+1):Int) ?_
   refine xv1 2 0 (show(.int .i64 (↑(((Xx j r)/2) ^^^ 2197175160):Int):Value)=.int .i64 (↑(Xx (j+1) r):Int) from by rw[show Xx (j+1) r=Ur (Xx j r) from rfl,step1_odd (by omega)]) ?_
   exact ze 0 (hJ1 _ _ _ ⟨j+1,rfl,rfl,hB_1,by omega⟩ (by omega))
  refine xwm 5 ((↑j:Int)+1) (↑(j+1):Int) ?_
  refine xv1 2 0 (show(.int .i64 (↑((Xx j r)/2):Int):Value)=.int .i64 (↑(Xx (j+1) r):Int) from by rw[show Xx (j+1) r=Ur (Xx j r) from rfl,step1_ev (by omega)]) ?_
  exact ze 0 (hJ1 _ _ _ ⟨j+1,rfl,rfl,hB_1,by omega⟩ (by omega))
 refine xe 12 (.int .i64 (↑(Xx j r):Int)) ?_
 obtain rfl:j=8:=by omega
 exact⟨rfl,hB_1⟩
theorem ref_More(a:Option Addr)(c:Nat)(l:List UInt8)(w:World)(hl:l.length≤100000000)(h:Bys w (.slice a l.length c) l) :
 Calls Tryz.prog 199 #[.int .i64 0,.slice a l.length c] w (Ret (.int .i64 (Gu l:Int)) w):=by
 refine zin 31 Tryz.func199 ?_
 have hB:=Below.refl w.heap.size w
 refine zl 33 31 (fun zm zkv V=>∃ (i:Nat),zkv=[(1,.slice a l.length c),(4,.int .i64 0),(5,.int .i64 (↑(Xf 4294967295 (l.take i)):Int)),(6,.int .i64 (↑i:Int))]∧zm=l.length-((↑i:Int)).toNat∧Below w.heap.size w V∧i≤l.length) ⟨0,rfl,rfl,hB,Nat.zero_le _⟩ ?_
 rintro _ _ W1 ⟨i,rfl,rfl,hB_1,hi⟩ J1 hJ1 r1
 refine xid 9 ((↑i:Int)<(↑l.length:Int)) (fun hc2=>?_) (fun hc2=>?_)
 ·refine xx 8 _ l.length i 1 (Bys.elem h (k:=i) (by omega)).1 ?_
  refine xl 0 ((Bys.elem (h.below hB_1) (k:=i) (by omega)).2) ?_
  refine xq 0 (congrArg (Value.int .i64) (show(IntKind.i64.wrap (↑(l.getD i 0).toNat:Int):Int)=(↑(l.getD i 0).toNat:Int) from Jr (by have:=(l.getD i 0).toNat_lt;omega))) ?_
  refine xq 0 (congrArg (Value.int .i64) (show(IntKind.i64.wrap (↑(BitVec.ofInt 64 (↑(Xf 4294967295 (l.take i)):Int) ^^^ BitVec.ofInt 64 (↑(l.getD i 0).toNat:Int)).toNat:Int):Int)=(↑((Xf 4294967295 (l.take i)) ^^^ (l.getD i 0).toNat):Int) from Fj (Wg (by decide) _) (u8_lt _))) ?_
  refine xr 0 (args:=#[.int .i64 (↑((Xf 4294967295 (l.take i)) ^^^ (l.getD i 0).toNat):Int)]) (ref_Step ((Xf 4294967295 (l.take i)) ^^^ (l.getD i 0).toNat) _ (Nat.xor_lt_two_pow (n:=32) (Wg (by decide) _) (u8_lt _))) fun W3 hb3=>?_
  refine xwm 6 ((↑i:Int)+1) (↑(i+1):Int) ?_
  refine xv1 2 5 (show(.int .i64 (↑(Xx 8 ((Xf 4294967295 (l.take i)) ^^^ (l.getD i 0).toNat)):Int):Value)=.int .i64 (↑(Xf 4294967295 (l.take (i+1))):Int) from by rw[St (by omega),crcStep_8]) ?_
  have hB'1:=bln hB_1 hb3
  exact ze 0 (hJ1 _ _ _ ⟨i+1,rfl,rfl,hB'1,by omega⟩ (by omega))
 refine xq 8 (congrArg (Value.int .i64) (show(IntKind.i64.wrap (↑(BitVec.ofInt 64 (↑(Xf 4294967295 (l.take i)):Int) ^^^ BitVec.ofInt 64 (4294967295:Int)).toNat:Int):Int)=(↑((Xf 4294967295 (l.take i)) ^^^ 4294967295):Int) from Fj (b:=4294967295) (Wg (by decide) _) (by decide))) ?_
 refine xe 4 (.int .i64 (↑((Xf 4294967295 (l.take i)) ^^^ 4294967295):Int)) ?_
 obtain rfl:i=l.length:=by omega
 rw[List.take_length]
 exact⟨rfl,hB_1⟩
theorem ref_Sum(a:Option Addr)(c:Nat)(l:List UInt8)(w:World)(hl:l.length≤100000000)(h:Bys w (.slice a l.length c) l) :
 Calls Tryz.prog 172 #[.slice a l.length c] w (Ret (.int .i64 (Gu l:Int)) w):=by
 refine zin 5 Tryz.func172 ?_
 refine xr 8 (args:=#[.int .i64 0,.slice a l.length c]) (ref_More a c l _ hl (h.below (Below.refl w.heap.size _))) fun W1 hb1=>?_
 exact xe 4 (.int .i64 (↑(Gu l):Int)) ⟨rfl,hb1⟩
theorem ref_SumN(a:Option Addr)(n c:Nat)(l:List UInt8)(w:World)(hn:l.length=n)(hl:n≤100000000)(h:Bys w (.slice a n c) l):Calls Tryz.prog 172 #[.slice a n c] w (Ret (.int .i64 (Gu l:Int)) w):=by
 subst hn;exact ref_Sum a c l w hl h
theorem leB_snoc(n:Int)(w:Nat):leB n (w+1)=leB n w++[Xa n w]:=by simp[leB,List.range_succ]
theorem u8_byteAt(m i:Nat):IntKind.u8.wrap (((m/256 ^ i)%256:Nat):Int)=((Xa (m:Int) i).toNat:Int):=by
 rw[Zba (Int.natCast_nonneg _)]
 unfold Xa
 simp only[Int.toNat_natCast,Nat.pow_zero,Nat.div_one]
 congr 2
 apply UInt8.toNat_inj.1
 simp[UInt8.toNat_ofNat']
theorem ref_Bytes(m w:Nat)(W:World)(hm:m<9223372036854775808)(hw:w≤8) :
 Calls Tryz.prog 152 #[.int .i64 (↑m:Int),.int .i64 (↑w:Int)] W (Vn (fun W' r=>∃ p c,r=.slice p w c∧W'.ownsRow W.heap.size 5 1 (.slice p w c) w ((leB (↑m:Int) w).map bv)) W):=by
 refine zin 21 Tryz.func152 ?_
 refine xv1 17 0 (show(.int .i64 (↑m:Int):Value)=.int .i64 ((m/256 ^ 0:Nat):Int) from by rw[Nat.pow_zero,Nat.div_one]) ?_
 have hB:=Below.refl W.heap.size W
 refine zl 0 21 (fun zm zkv V=>∃ (i:Nat) (p:Option Addr) (c:Nat),zkv=[(0,.int .i64 (↑(m/256 ^ i):Int)),(1,.int .i64 (↑w:Int)),(4,.slice none 0 0),(5,.slice p i c),(6,.int .i64 (↑i:Int))]∧zm=w-((↑i:Int)).toNat∧Below W.heap.size W V∧V.ownsRow W.heap.size 5 1 (.slice p i c) i ((leB (↑m:Int) i).map bv)∧i≤w) ⟨0,_,_,rfl,rfl,hB,World.ownsRow_nil _ _ _ _,Nat.zero_le _⟩ ?_
 rintro _ _ W1 ⟨i,p,c,rfl,rfl,hB_1,ho,hi⟩ J1 hJ1 r1
 refine xid 8 ((↑i:Int)<(↑w:Int)) (fun hc2=>?_) (fun hc2=>?_)
 ·refine xq 8 (congrArg (Value.int .i64) (show(Int.tmod (↑(m/256 ^ i):Int) 256:Int)=(↑((m/256 ^ i)%256):Int) from Uu (m/256 ^ i) 256)) ?_
  refine xq 0 (congrArg (Value.int .u8) (show(IntKind.u8.wrap (↑((m/256 ^ i)%256):Int):Int)=(↑(Xa (↑m:Int) i).toNat:Int) from u8_byteAt m i)) ?_
  refine xbs 0 1 [.int .u8 (↑(Xa (↑m:Int) i).toNat:Int)] 5 fun b3 W3 n3=>?_
  have g3:=n3.ge hB_1
  have r3_ho:=Zu ho n3
  have ho'1:=Zb ho n3.below
  have hB'1:=bln hB_1 n3.below
  refine xbi 0 fun _ _ _ _ zJ zQ zo zx zy zK=>Zp (m:=1) (news:=[.int .u8 (↑(Xa (↑m:Int) i).toNat:Int)]) (.int .u8 0) 1 1 (i+1) ((leB (↑m:Int) (i+1)).map bv) zo Tryz.underlying22 (by kernel_rfl) rfl (by decide) zx ho'1 zy (n3.blk.sl 1 1 (by decide) (by decide)) rfl (by simp[Value.oneCell']) (by unfold maxLen;omega) (by omega) hB'1.size (by rfl) (by rw[leB_snoc,List.map_append];rfl) fun px4 cx4 W4 o4 hg4 hb4=>?_
  refine zK _ _ ?_
  refine xq 5 (congrArg (Value.int .i64) (show(IntKind.i64.wrap (Int.tdiv (↑(m/256 ^ i):Int) 256):Int)=(↑((m/256 ^ i)/256):Int) from Gw (m/256 ^ i) 256 (Nat.lt_of_le_of_lt (Nat.div_le_self _ _) hm) (by decide))) ?_
  refine xwm 6 ((↑i:Int)+1) (↑(i+1):Int) ?_
  refine xv1 2 0 (show(.int .i64 (↑((m/256 ^ i)/256):Int):Value)=.int .i64 (↑(m/256 ^ (i+1)):Int) from by rw[Nat.pow_succ,←Nat.div_div_eq_div_mul]) ?_
  have hB'2:=hB'1.trans hb4
  exact ze 0 (hJ1 _ _ _ ⟨i+1,_,_,rfl,rfl,hB'2,o4,by omega⟩ (by omega))
 refine xe 12 (.slice p i c) ?_
 obtain rfl:i=w:=by omega
 exact⟨_,rfl,hB_1,_,_,rfl,ho⟩
theorem Ca(n:Int)(w:Nat)(wi:Int)(W:World)(h0:0≤n)(hn:n<9223372036854775808)(hwi:wi=(w:Int))(hw:w≤8):Calls Tryz.prog 152 #[.int .i64 n,.int .i64 wi] W (Vn (fun W' r=>∃ p c,r=.slice p w c∧W'.ownsRow W.heap.size 5 1 (.slice p w c) w ((leB n w).map bv)) W):=by
 subst hwi
 obtain⟨m,rfl⟩:∃ m:Nat,n=m:=⟨n.toNat,by omega⟩
 exact ref_Bytes m w W (by omega) hw
theorem ref_Salt1(w:World) :
 Calls Tryz.prog 173 #[.int .i64 1] w (Ret (.int .i64 (Ng 1:Int)) w):=by
 refine zin 15 Tryz.func173 ?_
 refine xbs 7 5 [.int .i64 0,.int .i64 160774,.int .i64 121107,.int .i64 240779,.int .i64 160478] 3 fun b1 W1 n1=>?_
 refine xb 22 1 n1.blk ?_
 exact xe 4 (.int .i64 160774) ⟨rfl,n1.below⟩
theorem ref_Salt2(w:World) :
 Calls Tryz.prog 173 #[.int .i64 2] w (Ret (.int .i64 (Ng 2:Int)) w):=by
 refine zin 15 Tryz.func173 ?_
 refine xbs 7 5 [.int .i64 0,.int .i64 160774,.int .i64 121107,.int .i64 240779,.int .i64 160478] 3 fun b1 W1 n1=>?_
 refine xb 22 2 n1.blk ?_
 exact xe 4 (.int .i64 121107) ⟨rfl,n1.below⟩
theorem ref_Salt3(w:World) :
 Calls Tryz.prog 173 #[.int .i64 3] w (Ret (.int .i64 (Ng 3:Int)) w):=by
 refine zin 15 Tryz.func173 ?_
 refine xbs 7 5 [.int .i64 0,.int .i64 160774,.int .i64 121107,.int .i64 240779,.int .i64 160478] 3 fun b1 W1 n1=>?_
 refine xb 22 3 n1.blk ?_
 exact xe 4 (.int .i64 240779) ⟨rfl,n1.below⟩
theorem ref_Salt4(w:World) :
 Calls Tryz.prog 173 #[.int .i64 4] w (Ret (.int .i64 (Ng 4:Int)) w):=by
 refine zin 15 Tryz.func173 ?_
 refine xbs 7 5 [.int .i64 0,.int .i64 160774,.int .i64 121107,.int .i64 240779,.int .i64 160478] 3 fun b1 W1 n1=>?_
 refine xb 22 4 n1.blk ?_
 exact xe 4 (.int .i64 160478) ⟨rfl,n1.below⟩
theorem ref_Salt(kind:Int)(h1:1≤kind)(h2:kind≤4)(w:World):Calls Tryz.prog 173 #[.int .i64 kind] w (Ret (.int .i64 (Ng kind:Int)) w):=by
 obtain rfl|rfl|rfl|rfl:kind=1∨kind=2∨kind=3∨kind=4:=by omega
 ·exact ref_Salt1 w
 ·exact ref_Salt2 w
 ·exact ref_Salt3 w
 ·exact ref_Salt4 w
theorem Zcr(kind no:Int)(w:World) :
 Calls Tryz.prog 171 #[.int .i64 kind,.int .i64 no] w (Ret (.bool (Jh kind no)) w):=by
 refine zin 19 Tryz.func171 ?_
 refine xg 10 [6,7] (decide (kind≥(1:Int))) (fun hc1=>?_) (fun hc1=>?_)
 ·have hc1:=of_decide_eq_true hc1
  refine xg 4 [9,10,11] (decide (kind≤(4:Int))) (fun hc2=>?_) (fun hc2=>?_)
  ·have hc2:=of_decide_eq_true hc2
   refine xg 4 [13,14,15] (decide (no≥(0:Int))) (fun hc3=>?_) (fun hc3=>?_)
   ·have hc3:=of_decide_eq_true hc3
    exact xe 7 (.bool (decide (no<(14400:Int)))) ⟨by rw[show Jh kind no=decide (no<14400) from decide_eq_decide.2 ⟨fun h=>h.2.2.2,fun h=>⟨by omega,by omega,by omega,h⟩⟩],(Below.refl w.heap.size _)⟩
   have hc3:=of_decide_eq_false hc3
   exact xe 7 (.bool false) ⟨by rw[show Jh kind no=false from decide_eq_false (by omega)],(Below.refl w.heap.size _)⟩
  have hc2:=of_decide_eq_false hc2
  exact xe 11 (.bool false) ⟨by rw[show Jh kind no=false from decide_eq_false (by omega)],(Below.refl w.heap.size _)⟩
 have hc1:=of_decide_eq_false hc1
 exact xe 15 (.bool false) ⟨by rw[show Jh kind no=false from decide_eq_false (by omega)],(Below.refl w.heap.size _)⟩
theorem rawN_hi(l:List UInt8):∀ (j k r:Nat),Zh l (k+j) r≤Zh l k (j+r)
 | 0,k,r=>by simp
 | j+1,k,r=>by
  have ih:=rawN_hi l j (k+1) r
  rw[show j+1+r=(j+r)+1 by omega,Zh,show k+(j+1)=k+1+j by omega]
  omega
theorem raw8(l:List UInt8)(k:Nat):Zh l k 8<9223372036854775808↔(l.getD (k+7) 0).toNat<128:=by
 have h:∀ i,(l.getD i 0).toNat<256:=fun i=>(l.getD i 0).toNat_lt
 have h0:=h k
 have h1:=h (k+1)
 have h2:=h (k+2)
 have h3:=h (k+3)
 have h4:=h (k+4)
 have h5:=h (k+5)
 have h6:=h (k+6)
 have h7:=h (k+7)
 simp only[Zh,Nat.add_assoc,Nat.reduceAdd]
 omega
theorem Zbi{l:List UInt8}{k w j r:Nat}(h:Zh l k w<9223372036854775808)(hj:0<j)(e:j+r=w):(l.getD (k+(j-1)) 0).toNat+256*Zh l (k+j) r<9223372036854775808∧Zh l (k+(j-1)) (r+1)=Zh l (k+j) r*256+(l.getD (k+(j-1)) 0).toNat:=by
 have h1:=rawN_hi l (j-1) k (r+1)
 rw[show j-1+(r+1)=w by omega,Zh,show k+(j-1)+1=k+j by omega] at h1
 refine⟨by omega,?_⟩
 rw[Zh,show k+(j-1)+1=k+j by omega];omega
theorem ref_width1(w:World) :
 Calls Tryz.prog 194 #[.int .i64 1] w (Ret (.bool true) w):=by
 refine zin 17 Tryz.func194 ?_
 exact xe 25 (.bool true) ⟨rfl,(Below.refl w.heap.size _)⟩
theorem ref_width2(w:World) :
 Calls Tryz.prog 194 #[.int .i64 2] w (Ret (.bool true) w):=by
 refine zin 17 Tryz.func194 ?_
 exact xe 25 (.bool true) ⟨rfl,(Below.refl w.heap.size _)⟩
theorem ref_width4(w:World) :
 Calls Tryz.prog 194 #[.int .i64 4] w (Ret (.bool true) w):=by
 refine zin 17 Tryz.func194 ?_
 exact xe 25 (.bool true) ⟨rfl,(Below.refl w.heap.size _)⟩
theorem ref_width8(w:World) :
 Calls Tryz.prog 194 #[.int .i64 8] w (Ret (.bool true) w):=by
 refine zin 17 Tryz.func194 ?_
 exact xe 25 (.bool true) ⟨rfl,(Below.refl w.heap.size _)⟩
theorem ref_width(k:Nat)(hw:k=1∨k=2∨k=4∨k=8)(w:World):Calls Tryz.prog 194 #[.int .i64 (↑k:Int)] w (Ret (.bool true) w):=by
 rcases hw with rfl|rfl|rfl|rfl
 ·exact ref_width1 w
 ·exact ref_width2 w
 ·exact ref_width4 w
 ·exact ref_width8 w
theorem Zf8(a:Option Addr)(m c k w:Nat)(W:World)(hw:w=1∨w=2∨w=4∨w=8)(hk:k+w≤m)(hm:m≤100000000) :
 Calls Tryz.prog 151 #[.slice a m c,.int .i64 (↑k:Int),.int .i64 (↑w:Int)] W (Ret (.int .i64 0) W):=by
 refine zin 26 Tryz.func151 ?_
 refine xr 9 (args:=#[.int .i64 (↑w:Int)]) (ref_width w hw _) fun W1 hb1=>?_
 refine xgk 12 [11,12] (show(decide ((↑k:Int)<(0:Int)):Bool)=false from decide_eq_false (by omega)) ?_
 refine xgk 6 [16,17,18] (show(decide ((↑k:Int)>(↑m:Int)):Bool)=false from decide_eq_false (by omega)) ?_
 refine xwm 3 ((↑m:Int)-(↑k:Int)) (↑(m-k):Int) ?_
 refine xk 5 (show(decide ((↑(m-k):Int)<(↑w:Int)):Bool)=false from decide_eq_false (by omega)) ?_
 exact xe 8 (.int .i64 0) ⟨rfl,hb1⟩
theorem Sr(a:Option Addr)(c k w:Nat)(l:List UInt8)(W:World)(hw:w=1∨w=2∨w=4∨w=8)(hk:k+w≤l.length)(hl:l.length≤100000000)(h:Bys W (.slice a l.length c) l)(hq:¬ Zh l k w<9223372036854775808) :
 Calls Tryz.prog 101 #[.slice a l.length c,.int .i64 (↑k:Int),.int .i64 (↑w:Int)] W (Ret (.tuple #[.int .i64 0,.int .i64 2]) W):=by
 have hw8:w=8:=by
  rcases hw with h1|h1|h1|h1
  ·have:=Qj l k w (by omega);omega
  ·have:=Qj l k w (by omega);omega
  ·have:=Qj l k w (by omega);omega
  ·exact h1
 have hb7:=(not_congr (raw8 l k)).1 (by rw[←hw8];exact hq)
 refine zin 45 Tryz.func101 ?_
 refine xr 11 (args:=#[.slice a l.length c,.int .i64 (↑k:Int),.int .i64 (↑w:Int)]) (Zf8 a l.length c k w _ hw hk hl) fun W1 hb1=>?_
 refine xgk 19 [19,20] (show(((↑w:Int)==(8:Int)):Bool)=true from by rw[hw8];rfl) ?_
 refine xwm 2 ((↑k:Int)+7) (↑(k+7):Int) ?_
 refine xx 0 _ l.length (k+7) 1 (Bys.elem h (k:=(k+7)) (by omega)).1 ?_
 refine xl 0 ((Bys.elem (h.below hb1) (k:=(k+7)) (by omega)).2) ?_
 refine xk 4 (show(decide ((↑(l.getD (k+7) 0).toNat:Int)≥(128:Int)):Bool)=true from decide_eq_true (by omega)) ?_
 exact xe 8 (.tuple #[.int .i64 0,.int .i64 2]) ⟨rfl,hb1⟩
theorem Bh(a:Option Addr)(c k w:Nat)(l:List UInt8)(W:World)(hw:w=1∨w=2∨w=4∨w=8)(hk:k+w≤l.length)(hl:l.length≤100000000)(h:Bys W (.slice a l.length c) l)(hq:Zh l k w<9223372036854775808) :
 Calls Tryz.prog 101 #[.slice a l.length c,.int .i64 (↑k:Int),.int .i64 (↑w:Int)] W (Ret (.tuple #[.int .i64 (Zh l k w:Int),.int .i64 0]) W):=by
 refine zin 45 Tryz.func101 ?_
 refine xr 11 (args:=#[.slice a l.length c,.int .i64 (↑k:Int),.int .i64 (↑w:Int)]) (Zf8 a l.length c k w _ hw hk hl) fun W1 hb1=>?_
 refine xg 19 [19,20] ((↑w:Int)==(8:Int)) (fun hc2=>?_) (fun hc2=>?_)
 ·have hc2:=eq_of_beq hc2
  refine xwm 2 ((↑k:Int)+7) (↑(k+7):Int) ?_
  refine xx 0 _ l.length (k+7) 1 (Bys.elem h (k:=(k+7)) (by omega)).1 ?_
  refine xl 0 ((Bys.elem (h.below hb1) (k:=(k+7)) (by omega)).2) ?_
  refine xk 4 (show(decide ((↑(l.getD (k+7) 0).toNat:Int)≥(128:Int)):Bool)=false from decide_eq_false (by have:=(raw8 l k).1 (by rw[←show w=8 by omega];exact hq);omega)) ?_
  refine xwm 11 ((↑w:Int)-1) (↑(w-1):Int) ?_
  refine xv1 4 10 (show(.int .i64 (↑(w-1):Int):Value)=.int .i64 ((↑w:Int)-1) from congrArg (Value.int .i64) (by omega)) ?_
  refine zl 0 45 (fun zm zkv V=>∃ (j r:Nat),zkv=[(0,.slice a l.length c),(1,.int .i64 (↑k:Int)),(6,.int .i64 0),(7,.int .i64 0),(9,.int .i64 (↑(Zh l (k+j) r):Int)),(10,.int .i64 ((↑j:Int)-1))]∧zm=(((↑j:Int)-1)+1).toNat∧Below W.heap.size W V∧j+r=w) ⟨w,0,rfl,rfl,hb1,by omega⟩ ?_
  rintro _ _ W3 ⟨j,r,rfl,rfl,hB_3,hjr⟩ J3 hJ3 r3
  have hrl:0<j→_:=fun hj=>Zbi hq hj hjr
  refine xid 7 ((↑j:Int)-1≥(0:Int)) (fun hc4=>?_) (fun hc4=>?_)
  ·refine xwm 6 ((↑(Zh l (k+j) r):Int)*256) (↑((Zh l (k+j) r)*256):Int) ?_
   refine xq 3 (congrArg (Value.int .i64) (show IntKind.i64.wrap ((↑k:Int)+((↑j:Int)-1))=(↑(k+(j-1)):Int) from(show IntKind.i64.wrap ((↑k:Int)+((↑j:Int)-1))=((↑k:Int)+((↑j:Int)-1)) from by first|exact IntWalk.i64_in _ (by omega)|(simp only[IntKind.wrap];omega)).trans (by omega))) ?_
   refine xx 0 _ l.length (k+(j-1)) 1 (Bys.elem h (k:=(k+(j-1))) (by omega)).1 ?_
   refine xl 0 ((Bys.elem (h.below hB_3) (k:=(k+(j-1))) (by omega)).2) ?_
   refine xq 0 (congrArg (Value.int .i64) (show(IntKind.i64.wrap (↑(l.getD (k+(j-1)) 0).toNat:Int):Int)=(↑(l.getD (k+(j-1)) 0).toNat:Int) from Jr (by have:=(l.getD (k+(j-1)) 0).toNat_lt;omega))) ?_
   refine xw 0 ((↑((Zh l (k+j) r)*256):Int)+(↑(l.getD (k+(j-1)) 0).toNat:Int)) ?_
   refine xq 6 (congrArg (Value.int .i64) (show IntKind.i64.wrap ((↑j:Int)-1-1)=((↑(j-1:Nat):Int)-1) from(show IntKind.i64.wrap ((↑j:Int)-1-1)=((↑j:Int)-1-1) from by first|exact IntWalk.i64_in _ (by omega)|(simp only[IntKind.wrap];omega)).trans (by omega))) ?_
   refine xv1 2 9 (show(.int .i64 ((↑((Zh l (k+j) r)*256):Int)+(↑(l.getD (k+(j-1)) 0).toNat:Int)):Value)=.int .i64 (↑(Zh l (k+(j-1)) (r+1)):Int) from by rw[(hrl (by omega)).2];rfl) ?_
   exact ze 0 (hJ3 _ _ _ ⟨j-1,r+1,rfl,rfl,hB_3,by omega⟩ (by omega))
  refine xe 13 (.tuple #[.int .i64 (↑(Zh l (k+j) r):Int),.int .i64 0]) ?_
  rw[show Zh l (k+j) r=Zh l k w from by rw[show j=0 by omega,show r=w by omega];rfl];exact⟨rfl,hB_3⟩
 have hc2:=Yq hc2
 refine xwm 21 ((↑w:Int)-1) (↑(w-1):Int) ?_
 refine xv1 4 10 (show(.int .i64 (↑(w-1):Int):Value)=.int .i64 ((↑w:Int)-1) from congrArg (Value.int .i64) (by omega)) ?_
 refine zl 0 45 (fun zm zkv V=>∃ (j r:Nat),zkv=[(0,.slice a l.length c),(1,.int .i64 (↑k:Int)),(6,.int .i64 0),(7,.int .i64 0),(9,.int .i64 (↑(Zh l (k+j) r):Int)),(10,.int .i64 ((↑j:Int)-1))]∧zm=(((↑j:Int)-1)+1).toNat∧Below W.heap.size W V∧j+r=w) ⟨w,0,rfl,rfl,hb1,by omega⟩ ?_
 rintro _ _ W5 ⟨j,r,rfl,rfl,hB_5,hjr⟩ J5 hJ5 r5
 have hrl:0<j→_:=fun hj=>Zbi hq hj hjr
 refine xid 7 ((↑j:Int)-1≥(0:Int)) (fun hc6=>?_) (fun hc6=>?_)
 ·refine xwm 6 ((↑(Zh l (k+j) r):Int)*256) (↑((Zh l (k+j) r)*256):Int) ?_
  refine xq 3 (congrArg (Value.int .i64) (show IntKind.i64.wrap ((↑k:Int)+((↑j:Int)-1))=(↑(k+(j-1)):Int) from(show IntKind.i64.wrap ((↑k:Int)+((↑j:Int)-1))=((↑k:Int)+((↑j:Int)-1)) from by first|exact IntWalk.i64_in _ (by omega)|(simp only[IntKind.wrap];omega)).trans (by omega))) ?_
  refine xx 0 _ l.length (k+(j-1)) 1 (Bys.elem h (k:=(k+(j-1))) (by omega)).1 ?_
  refine xl 0 ((Bys.elem (h.below hB_5) (k:=(k+(j-1))) (by omega)).2) ?_
  refine xq 0 (congrArg (Value.int .i64) (show(IntKind.i64.wrap (↑(l.getD (k+(j-1)) 0).toNat:Int):Int)=(↑(l.getD (k+(j-1)) 0).toNat:Int) from Jr (by have:=(l.getD (k+(j-1)) 0).toNat_lt;omega))) ?_
  refine xw 0 ((↑((Zh l (k+j) r)*256):Int)+(↑(l.getD (k+(j-1)) 0).toNat:Int)) ?_
  refine xq 6 (congrArg (Value.int .i64) (show IntKind.i64.wrap ((↑j:Int)-1-1)=((↑(j-1:Nat):Int)-1) from(show IntKind.i64.wrap ((↑j:Int)-1-1)=((↑j:Int)-1-1) from by first|exact IntWalk.i64_in _ (by omega)|(simp only[IntKind.wrap];omega)).trans (by omega))) ?_
  refine xv1 2 9 (show(.int .i64 ((↑((Zh l (k+j) r)*256):Int)+(↑(l.getD (k+(j-1)) 0).toNat:Int)):Value)=.int .i64 (↑(Zh l (k+(j-1)) (r+1)):Int) from by rw[(hrl (by omega)).2];rfl) ?_
  exact ze 0 (hJ5 _ _ _ ⟨j-1,r+1,rfl,rfl,hB_5,by omega⟩ (by omega))
 refine xe 13 (.tuple #[.int .i64 (↑(Zh l (k+j) r):Int),.int .i64 0]) ?_
 rw[show Zh l (k+j) r=Zh l k w from by rw[show j=0 by omega,show r=w by omega];rfl];exact⟨rfl,hB_5⟩
theorem ref_Get(a:Option Addr)(c k w:Nat)(l:List UInt8)(W:World)(hw:w=1∨w=2∨w=4∨w=8)(hk:k+w≤l.length)(hl:l.length≤100000000)(h:Bys W (.slice a l.length c) l) :
 Calls Tryz.prog 101 #[.slice a l.length c,.int .i64 (↑k:Int),.int .i64 (↑w:Int)] W (Ret (.tuple #[.int .i64 (getV l k w),.int .i64 (Zdg l k w)]) W):=by
 by_cases hq:Zh l k w<9223372036854775808
 ·rw[Cn hq,Ou hq];exact Bh a c k w l W hw hk hl h hq
 ·rw[getV,Zdg,if_neg hq,if_neg hq];exact Sr a c k w l W hw hk hl h hq
theorem Lx(a:Option Addr)(n c k w:Nat)(ki wi:Int)(l:List UInt8)(W:World)(hn:l.length=n)(hki:ki=(k:Int))(hwi:wi=(w:Int))(hw:w=1∨w=2∨w=4)(hk:k+w≤n)(hl:n≤100000000)(h:Bys W (.slice a n c) l) :
 Calls Tryz.prog 101 #[.slice a n c,.int .i64 ki,.int .i64 wi] W (Ret (.tuple #[.int .i64 (Zh l k w:Int),.int .i64 0]) W):=by
 subst hn hki hwi;exact Bh a c k w l W (by omega) hk hl h (by have:=Qj l k w (by omega);omega)
theorem Lz(a:Option Addr)(c:Nat)(l:List UInt8)(aw:Option Addr)(cw:Nat)(ws:List Nat)(W:World)(hk:∀ i,i<ws.length→ws.getD i 0=1∨ws.getD i 0=2∨ws.getD i 0=4∨ws.getD i 0=8)(hs:ws.sum≤l.length)(hl:l.length≤100000000)(hw:ws.length≤1000)(h:Bys W (.slice a l.length c) l)(hws:Sl W (.slice aw ws.length cw) ws.length (ws.map nv))(hq:∀ i,i<ws.length→(Hh l 0 ws).getD i 0<9223372036854775808) :
 Calls Tryz.prog 64 #[.slice a l.length c,.slice aw ws.length cw] W (Vn (fun w' r=>∃ p c,r=.tuple #[.slice p ws.length c,.int .i64 0]∧w'.ownsRow W.heap.size 3 1 (.slice p ws.length c) ws.length ((Hh l 0 ws).map nv)) W):=by
 refine zin 41 Tryz.func64 ?_
 have hB:=Below.refl W.heap.size W
 refine zl 23 41 (fun zm zkv V=>∃ (i:Nat) (p:Option Addr) (c2:Nat),zkv=[(0,.slice a l.length c),(1,.slice aw ws.length cw),(6,.slice p i c2),(7,.int .i64 (↑(ws.take i).sum:Int)),(8,.int .i64 (↑i:Int))]∧zm=ws.length-((↑i:Int)).toNat∧Below W.heap.size W V∧V.ownsRow W.heap.size 3 1 (.slice p i c2) i ((Hh l 0 (ws.take i)).map nv)∧i≤ws.length) ⟨0,_,_,rfl,rfl,hB,World.ownsRow_nil _ _ _ _,Nat.zero_le _⟩ ?_
 rintro _ _ W1 ⟨i,p,c2,rfl,rfl,hB_1,ho,hi⟩ J1 hJ1 r1
 have hts:i<ws.length→(ws.take i).sum+ws.getD i 0≤ws.sum:=Wp
 have hui:i<ws.length→(Hh l 0 ws).getD i 0=Zh l (ws.take i).sum (ws.getD i 0):=fun h=>by rw[Lm l ws 0 i h,Nat.zero_add]
 refine xid 9 ((↑i:Int)<(↑ws.length:Int)) (fun hc2=>?_) (fun hc2=>?_)
 ·refine xx 10 _ ws.length i 1 (Zt hws rfl (k:=i) (by omega)).1 ?_
  refine xl 0 ((Zt (hws.below hB_1) rfl (k:=i) (by omega)).2) ?_
  refine xr 0 (args:=#[.slice a l.length c,.int .i64 (↑(ws.take i).sum:Int),.int .i64 (↑(ws.getD i 0):Int)]) (ref_Get a c (ws.take i).sum (ws.getD i 0) l _ (hk i (by omega)) (by omega) hl (h.below hB_1)) fun W3 hb3=>?_
  refine xk 14 (show(((Zdg l (ws.take i).sum (ws.getD i 0)) != (0:Int)):Bool)=false from by rw[Ou (by rw[←hui (by omega)];exact hq i (by omega))];rfl) ?_
  refine xbs 6 1 [.int .i64 (getV l (ws.take i).sum (ws.getD i 0))] 3 fun b4 W4 n4=>?_
  have hB'1:=bln hB_1 hb3
  have g4:=n4.ge hB'1
  have ho'1:=Zb ho hb3
  have r4_ho:=Zu ho'1 n4
  have ho'2:=Zb ho'1 n4.below
  have hB'2:=bln hB'1 n4.below
  refine xbi 0 fun _ _ _ _ zJ zQ zo zx zy zK=>Zp (m:=1) (news:=[.int .i64 (getV l (ws.take i).sum (ws.getD i 0))]) (.int .i64 0) 1 8 (i+1) ((Hh l 0 (ws.take (i+1))).map nv) zo Tryz.underlying30 (by kernel_rfl) rfl (by decide) zx ho'2 zy (n4.blk.sl 1 1 (by decide) (by decide)) rfl (by simp[Value.oneCell']) (by unfold maxLen;omega) (by omega) hB'2.size (by rfl) (by rw[Jz (by omega),Pn,Nat.zero_add,List.map_append];simp only[List.map_cons,List.map_nil,nv];rw[Cn (by rw[←hui (by omega)];exact hq i (by omega))]) fun px5 cx5 W5 o5 hg5 hb5=>?_
  refine zK _ _ ?_
  refine xx 7 _ ws.length i 1 (Zt hws rfl (k:=i) (by omega)).1 ?_
  have hB'3:=hB'2.trans hb5
  refine xl 0 ((Zt (hws.below hB'3) rfl (k:=i) (by omega)).2) ?_
  refine xwm 0 ((↑(ws.take i).sum:Int)+(↑(ws.getD i 0):Int)) (↑((ws.take i).sum+(ws.getD i 0)):Int) ?_
  refine xwm 6 ((↑i:Int)+1) (↑(i+1):Int) ?_
  refine xv1 2 7 (show(.int .i64 (↑((ws.take i).sum+(ws.getD i 0)):Int):Value)=.int .i64 (↑(ws.take (i+1)).sum:Int) from by rw[Jz (by omega),List.sum_append];simp) ?_
  exact ze 0 (hJ1 _ _ _ ⟨i+1,_,_,rfl,rfl,hB'3,o5,by omega⟩ (by omega))
 refine xe 13 (.tuple #[.slice p i c2,.int .i64 0]) ?_
 obtain rfl:i=ws.length:=by omega
 rw[List.take_length] at ho
 exact⟨_,rfl,hB_1,_,_,rfl,ho⟩
theorem Sw(a:Option Addr)(c:Nat)(l:List UInt8)(aw:Option Addr)(cw:Nat)(ws:List Nat)(W:World)(hk:∀ i,i<ws.length→ws.getD i 0=1∨ws.getD i 0=2∨ws.getD i 0=4∨ws.getD i 0=8)(hs:ws.sum≤l.length)(hl:l.length≤100000000)(hw:ws.length≤1000)(h:Bys W (.slice a l.length c) l)(hws:Sl W (.slice aw ws.length cw) ws.length (ws.map nv))(hq:¬ ∀ i,i<ws.length→(Hh l 0 ws).getD i 0<9223372036854775808) :
 Calls Tryz.prog 64 #[.slice a l.length c,.slice aw ws.length cw] W (Ret (.tuple #[.slice none 0 0,.int .i64 2]) W):=by
 refine zin 41 Tryz.func64 ?_
 have hB:=Below.refl W.heap.size W
 refine zl 23 41 (fun zm zkv V=>∃ (i:Nat) (p:Option Addr) (c2:Nat),zkv=[(0,.slice a l.length c),(1,.slice aw ws.length cw),(6,.slice p i c2),(7,.int .i64 (↑(ws.take i).sum:Int)),(8,.int .i64 (↑i:Int))]∧zm=ws.length-((↑i:Int)).toNat∧Below W.heap.size W V∧V.ownsRow W.heap.size 3 1 (.slice p i c2) i ((Hh l 0 (ws.take i)).map nv)∧i≤ws.length∧(∀ j,j<i→(Hh l 0 ws).getD j 0<9223372036854775808)) ⟨0,_,_,rfl,rfl,hB,World.ownsRow_nil _ _ _ _,Nat.zero_le _,?_⟩ ?_
 ·exact fun j hj=>absurd hj (by omega)
 rintro _ _ W1 ⟨i,p,c2,rfl,rfl,hB_1,ho,hi,hall⟩ J1 hJ1 r1
 have hts:i<ws.length→(ws.take i).sum+ws.getD i 0≤ws.sum:=Wp
 have hui:i<ws.length→(Hh l 0 ws).getD i 0=Zh l (ws.take i).sum (ws.getD i 0):=fun h=>by rw[Lm l ws 0 i h,Nat.zero_add]
 refine xid 9 ((↑i:Int)<(↑ws.length:Int)) (fun hc2=>?_) (fun hc2=>?_)
 ·refine xx 10 _ ws.length i 1 (Zt hws rfl (k:=i) (by omega)).1 ?_
  refine xl 0 ((Zt (hws.below hB_1) rfl (k:=i) (by omega)).2) ?_
  refine xr 0 (args:=#[.slice a l.length c,.int .i64 (↑(ws.take i).sum:Int),.int .i64 (↑(ws.getD i 0):Int)]) (ref_Get a c (ws.take i).sum (ws.getD i 0) l _ (hk i (by omega)) (by omega) hl (h.below hB_1)) fun W3 hb3=>?_
  refine xin 14 (Zdg l (ws.take i).sum (ws.getD i 0)) (0:Int) (fun hc4=>?_) (fun hc4=>?_)
  ·have hgr:=Zgh hc4
   have hB'1:=bln hB_1 hb3
   refine xe 14 (.tuple #[.slice none 0 0,.int .i64 (Zdg l (ws.take i).sum (ws.getD i 0))]) ?_
   rw[hgr.2];exact⟨rfl,hB'1⟩
  have hgr:=Zcn hc4
  refine xbs 6 1 [.int .i64 (getV l (ws.take i).sum (ws.getD i 0))] 3 fun b5 W5 n5=>?_
  have hB'2:=bln hB_1 hb3
  have g5:=n5.ge hB'2
  have ho'1:=Zb ho hb3
  have r5_ho:=Zu ho'1 n5
  have ho'2:=Zb ho'1 n5.below
  have hB'3:=bln hB'2 n5.below
  refine xbi 0 fun _ _ _ _ zJ zQ zo zx zy zK=>Zp (m:=1) (news:=[.int .i64 (getV l (ws.take i).sum (ws.getD i 0))]) (.int .i64 0) 1 8 (i+1) ((Hh l 0 (ws.take (i+1))).map nv) zo Tryz.underlying30 (by kernel_rfl) rfl (by decide) zx ho'2 zy (n5.blk.sl 1 1 (by decide) (by decide)) rfl (by simp[Value.oneCell']) (by unfold maxLen;omega) (by omega) hB'3.size (by rfl) (by rw[Jz (by omega),Pn,Nat.zero_add,List.map_append];simp only[List.map_cons,List.map_nil,nv];rw[Cn hgr]) fun px6 cx6 W6 o6 hg6 hb6=>?_
  refine zK _ _ ?_
  refine xx 7 _ ws.length i 1 (Zt hws rfl (k:=i) (by omega)).1 ?_
  have hB'4:=hB'3.trans hb6
  refine xl 0 ((Zt (hws.below hB'4) rfl (k:=i) (by omega)).2) ?_
  refine xwm 0 ((↑(ws.take i).sum:Int)+(↑(ws.getD i 0):Int)) (↑((ws.take i).sum+(ws.getD i 0)):Int) ?_
  refine xwm 6 ((↑i:Int)+1) (↑(i+1):Int) ?_
  refine xv1 2 7 (show(.int .i64 (↑((ws.take i).sum+(ws.getD i 0)):Int):Value)=.int .i64 (↑(ws.take (i+1)).sum:Int) from by rw[Jz (by omega),List.sum_append];simp) ?_
  exact ze 0 (hJ1 _ _ _ ⟨i+1,_,_,rfl,rfl,hB'4,o6,by omega,fun j hj=>(Nat.lt_or_ge j i).elim (fun q=>hall j q) (fun q=>by obtain rfl:j=i:=(by omega);rw[hui (by omega)];exact hgr)⟩ (by omega))
 refine xe 13 (.tuple #[.slice p i c2,.int .i64 0]) ?_
 exact absurd (fun j hj=>hall j (by omega)) hq
theorem Ze9(a:Option Addr)(n c:Nat)(l:List UInt8)(aw:Option Addr)(cw m:Nat)(ws:List Nat)(xs:List Nat)(W:World)(hn:l.length=n)(hm:ws.length=m)(hx:Hh l 0 ws=xs)(hk:∀ i,i<ws.length→ws.getD i 0=1∨ws.getD i 0=2∨ws.getD i 0=4∨ws.getD i 0=8)(hs:ws.sum≤n)(hl:n≤100000000)(hw:ws.length≤1000)(h:Bys W (.slice a n c) l)(hws:Sl W (.slice aw m cw) m (ws.map nv))(hq:∀ i,i<ws.length→(Hh l 0 ws).getD i 0<9223372036854775808) :
 Calls Tryz.prog 64 #[.slice a n c,.slice aw m cw] W (Vn (fun w' r=>∃ p c,r=.tuple #[.slice p m c,.int .i64 0]∧w'.ownsRow W.heap.size 3 1 (.slice p m c) m (xs.map nv)) W):=by
 subst hn hm hx;exact Lz a c l aw cw ws W hk hs hl hw h hws hq
theorem ref_Zero(a:Option Addr)(c:Nat)(l:List UInt8)(w:World)(hl:l.length≤100000000)(h:Bys w (.slice a l.length c) l) :
 Calls Tryz.prog 120 #[.slice a l.length c] w (Ret (.bool (Vc l)) w):=by
 refine zin 15 Tryz.func120 ?_
 have hB:=Below.refl w.heap.size w
 refine zl 12 15 (fun zm zkv V=>∃ (i:Nat),zkv=[(0,.slice a l.length c),(3,.int .i64 (↑i:Int))]∧zm=l.length-((↑i:Int)).toNat∧Below w.heap.size w V∧i≤l.length∧(∀ j,j<i→l.getD j 0=0)) ⟨0,rfl,rfl,hB,Nat.zero_le _,?_⟩ ?_
 ·exact fun j hj=>absurd hj (by omega)
 rintro _ _ W1 ⟨i,rfl,rfl,hB_1,hi,hz⟩ J1 hJ1 r1
 refine xid 9 ((↑i:Int)<(↑l.length:Int)) (fun hc2=>?_) (fun hc2=>?_)
 ·refine xx 8 _ l.length i 1 (Bys.elem h (k:=i) (by omega)).1 ?_
  refine xl 0 ((Bys.elem (h.below hB_1) (k:=i) (by omega)).2) ?_
  refine xin 3 (↑(l.getD i 0).toNat:Int) (0:Int) (fun hc3=>?_) (fun hc3=>?_)
  ·refine xe 11 (.bool false) ?_
   rw[Rw (j:=i) (by omega) (by assumption)];exact⟨rfl,hB_1⟩
  refine xwm 5 ((↑i:Int)+1) (↑(i+1):Int) ?_
  exact ze 2 (hJ1 _ _ _ ⟨i+1,rfl,rfl,hB_1,by omega,fun j hj=>(Nat.lt_or_ge j i).elim (hz j) (fun q=>by obtain rfl:j=i:=(by omega);exact Zbt (by assumption))⟩ (by omega))
 refine xe 11 (.bool true) ?_
 rw[Ih (fun j hj=>hz j (by omega))];exact⟨rfl,hB_1⟩
theorem Wz(a:Option Addr)(n c:Nat)(l:List UInt8)(w:World)(hn:l.length=n)(hl:n≤100000000)(h:Bys w (.slice a n c) l):Calls Tryz.prog 120 #[.slice a n c] w (Ret (.bool (Vc l)) w):=by
 subst hn;exact ref_Zero a c l w hl h
theorem ref01_Same(a b:Option Addr)(ca cb:Nat)(l:List Int)(w:World)(ha:Ints w (.slice a l.length ca) l)(hb:Ints w (.slice b l.length cb) l) :
 Calls Tryz.prog 13 #[.slice a l.length ca,.slice b l.length cb] w (Ret (.bool true) w):=by
 have hLa:=Sl.len ha
 refine zin 26 Tryz.func13 ?_
 refine xk 15 (show(((↑l.length:Int) != (↑l.length:Int)):Bool)=false from by simp) ?_
 have hB:=Below.refl w.heap.size w
 refine zl 9 26 (fun zm zkv V=>∃ (i:Nat),zkv=[(0,.slice a l.length ca),(1,.slice b l.length cb),(5,.int .i64 (↑i:Int))]∧zm=l.length-((↑i:Int)).toNat∧Below w.heap.size w V∧i≤l.length) ⟨0,rfl,rfl,hB,Nat.zero_le _⟩ ?_
 rintro _ _ W1 ⟨i,rfl,rfl,hB_1,hi⟩ J1 hJ1 r1
 refine xid 9 ((↑i:Int)<(↑l.length:Int)) (fun hc2=>?_) (fun hc2=>?_)
 ·refine xd 5 .z ?_
  refine xx (.e [0,1] 2) _ l.length i 1 (Ints.elem ha (k:=i) (by omega)).1 ?_
  have hB'1:=bln hB_1 (Za W1)
  refine xl (.e [] 3) ((Ints.elem (ha.below hB'1) (k:=i) (by omega)).2) ?_
  refine xx (.e [4,5] 6) _ l.length i 1 (Ints.elem hb (k:=i) (by omega)).1 ?_
  refine xl (.e [] 7) ((Ints.elem (hb.below hB'1) (k:=i) (by omega)).2) ?_
  refine xk (.r [8] 2) (show(((l.getD i 0) != (l.getD i 0)):Bool)=false from by simp) ?_
  refine xwm 5 ((↑i:Int)+1) (↑(i+1):Int) ?_
  exact ze 2 (hJ1 _ _ _ ⟨i+1,rfl,rfl,hB'1,by omega⟩ (by omega))
 exact xe 11 (.bool true) ⟨rfl,hB_1⟩
end Go.Proofs.YthlakkdgcgkcdaaGreatDoor
namespace Go.Proofs.YthlakkdgcgkcdaaGreatDoor
set_option maxHeartbeats 8000000
set_option maxRecDepth 100000
open Go.RowKit Go.Extern.Stop Go.Stop Go.Extern
set_option linter.unusedVariables false
def FltV(w:World)(v:Value)(l:List Int)(c:Int):Prop:=∃ s,v=.agg #[s,.int .i64 c]∧Ints w s l
theorem FltV.below{w w':World}{v:Value}{l:List Int}{c:Int}(h:FltV w v l c)(hb:Below w.heap.size w w'):FltV w' v l c:=by
 obtain⟨s,rfl,hs⟩:=h
 exact⟨s,rfl,hs.below hb⟩
theorem Zg3{w:World}{B:Nat}{s:Value}{c:Int}{t:TypeId}(h:Blk w B [s,.int .i64 c] t)(hs:∃ a n m,s=.slice a n m){tmps:Array Value}(e:tmps.getD 2 undef=.pointer (some ⟨B,0,none⟩)) :
 (results Tryz.f19 tmps).run Tryz.prog w=.ok (.agg #[s,.int .i64 c]) w:=by
 obtain⟨a,n,m,rfl⟩:=hs
 have c0:=h.cell (i:=0) rfl
 have c1:=h.cell (i:=1) rfl
 have e':tmps[2]?.getD undef=.pointer (some ⟨B,0,none⟩):=by simpa using e
 simp[results,Tryz.results19,go_sem,c0,c1,e']
theorem Aj(t:Option Int)(l:List (Option Int))(v:Value)(w:World)(hlen:l.length≤1000000)(hg:ErrT w)(hv:Ja w l t v) :
 Calls Tryz.prog 19 #[v] w (Vn (fun w' r=>FltV w' r (Vu l) (Dl l t)) w):=by
 have hB:=blx w (.cells #[.slice none 0 0,.int .i64 0] 43)
 have k0:=Blk.new w [.slice none 0 0,.int .i64 0] 43
 rcases hv.nil_or with ⟨hz,rfl⟩|⟨hz,ty,x,rfl⟩
 ·obtain⟨rfl,rfl⟩:=Oc hz
  go_enter Tryz.func19,Tryz.ntmps19
  go_wp2_with fail
  exact bodyPost_ret (Zg3 k0 ⟨_,_,_,rfl⟩ rfl) rfl ⟨_,rfl,hB,_,rfl,.inl ⟨_,_,rfl,rfl,rfl⟩⟩
 ·go_enter Tryz.func19,Tryz.ntmps19
  have hv1:=hv.below hB
  go_wp2_with fail
  refine(Zch t l _ _ hlen hv1).mono ?_
  rintro e w1 ⟨r,rfl,hb1,h1⟩
  have hB1:=bln hB hb1
  go_wp2_with fail
  refine(fault_Code t l _ w1 (hg.below hB1) (hv.below hB1)).mono ?_
  rintro e w2 ⟨rfl,hb2⟩
  have k2:=(k0.below hb1).below hb2
  obtain⟨a,m,rfl⟩:=(Zf h1).slice
  have d0:=k2.cell (i:=0) rfl
  have d1:=k2.cell (i:=1) rfl
  have f0:=k2.frozen 0
  have f1:=k2.frozen 1
  have hB2:=bln hB1 hb2
  have hB3:Below w.heap.size w ((w2.setCell ⟨w.heap.size,0,none⟩ (.slice a (Vu l).length m)).setCell ⟨w.heap.size,1,none⟩ (.int .i64 (Dl l t))):=(hB2.setCell (Nat.le_refl _) _).setCell (Nat.le_refl _) _
  have h3:=ownsRow_setCell_below (ownsRow_setCell_below (Zb h1 hb2) (a:=⟨w.heap.size,0,none⟩) (by simp) (.slice a (Vu l).length m)) (a:=⟨w.heap.size,1,none⟩) (by simp) (.int .i64 (Dl l t))
  go_wp2_with fail
  exact bodyPost_ret (Zg3 ((k2.set 0 _).set 1 _) ⟨_,_,_,rfl⟩ rfl) rfl ⟨_,rfl,hB3,_,rfl,Zf h3⟩
theorem Og(l:List Int)(c:Int)(v1 v2:Value)(w:World)(h1:FltV w v1 l c)(h2:FltV w v2 l c) :
 Calls Tryz.prog 18 #[v1,v2] w (Ret (.bool true) w):=by
 obtain⟨s1,rfl,k1⟩:=h1
 obtain⟨s2,rfl,k2⟩:=h2
 obtain⟨a1,p1,rfl⟩:=k1.slice
 obtain⟨a2,p2,rfl⟩:=k2.slice
 have hmax:=k1.len
 have hB:Below w.heap.size w ((w.alloc (.cells #[.slice a1 l.length p1,.int .i64 c] 43)).alloc (.cells #[.slice a2 l.length p2,.int .i64 c] 43)):=bln (blx _ _) (blx _ _)
 have b1:Blk ((w.alloc (.cells #[.slice a1 l.length p1,.int .i64 c] 43)).alloc (.cells #[.slice a2 l.length p2,.int .i64 c] 43)) w.heap.size [.slice a1 l.length p1,.int .i64 c] 43:=(Blk.new _ _ _).alloc _
 have b2:=Blk.new (w.alloc (.cells #[.slice a1 l.length p1,.int .i64 c] 43)) [.slice a2 l.length p2,.int .i64 c] 43
 simp only[World.size_alloc] at b2
 go_enter Tryz.func18,Tryz.ntmps18
 go_wp2_with fail
 obtain⟨W,hW⟩:∃ W,(w.alloc (.cells #[.slice a1 l.length p1,.int .i64 c] 43)).alloc (.cells #[.slice a2 l.length p2,.int .i64 c] 43)=W:=⟨_,rfl⟩
 change Blk ((w.alloc (.cells #[.slice a1 l.length p1,.int .i64 c] 43)).alloc (.cells #[.slice a2 l.length p2,.int .i64 c] 43)) _ _ _ at b2
 rw[hW] at hB b1 b2 ⊢
 have k1:=k1.below hB
 have k2:=k2.below hB
 clear hW
 go_loopw [5] (fun i wr=>∃ k:Nat,k≤l.length∧i=.int .i64 k∧Below W.heap.size W wr) (fun i _=>l.length-(intOf i).toNat)
 case atStart=>exact⟨0,by omega,rfl,Below.refl _ _⟩
 case round =>
  obtain⟨k,hk,rfl,hbr⟩:=hrel
  have q1:=b1.below hbr
  have q2:=b2.below hbr
  have c1:=q1.cell (i:=0) rfl
  have c2:=q2.cell (i:=0) rfl
  by_cases hlt:k<l.length
  ·rcases Sl.at (k1.below hbr) with h0|⟨g1,o1,rfl,hc1⟩
   ·rw[List.map_eq_nil_iff] at h0;subst h0;exact absurd hlt (by simp)
   rcases Sl.at (k2.below hbr) with h0|⟨g2,o2,rfl,hc2⟩
   ·rw[List.map_eq_nil_iff] at h0;subst h0;exact absurd hlt (by simp)
   have e1:∀ z:Ext wr,z.val.cell? ⟨w.heap.size,0,none⟩=some (.slice (some ⟨g1,o1,none⟩) l.length p1):=fun z=>z.get c1
   have e2:∀ z:Ext wr,z.val.cell? ⟨w.heap.size+1,0,none⟩=some (.slice (some ⟨g2,o2,none⟩) l.length p2):=fun z=>z.get c2
   have e3:∀ z:Ext wr,z.val.cell? ⟨g1,o1+k,none⟩=some (.int .i64 l[k]):=fun z=>z.get (hc1 k _ (by simp[hlt]))
   have e4:∀ z:Ext wr,z.val.cell? ⟨g2,o2+k,none⟩=some (.int .i64 l[k]):=fun z=>z.get (hc2 k _ (by simp[hlt]))
   have i1:(0:Int)≤(k:Int):=by omega
   have i2:(k:Int)<(l.length:Int):=by omega
   clear hc1 hc2
   go_wp2_with fail
   refine Qr (by kernel_rfl) (by kernel_rfl) ?_
   repeat (go_big_quiet_step (fail))
   refine wpQuiet_nil ?_
   intro wx
   go_wp2_with fail
   exact⟨⟨k+1,by omega,by go_num,bln hbr wx.below⟩,by simp[intOf];omega⟩
  ·go_wp2_with fail
   go_ret
   exact⟨rfl,bln hB hbr⟩
end Go.Proofs.YthlakkdgcgkcdaaGreatDoor
namespace Go.Proofs.YthlakkdgcgkcdaaGreatDoor
set_option maxHeartbeats 8000000
set_option maxRecDepth 100000
open Go.RowKit Go.Extern.Stop Go.Stop Go.Extern
set_option linter.unusedVariables false
attribute [local irreducible] wpList wpAnyH Code.wp Oper.wp Go
def Pa(l:List UInt8)(k:Nat):List (List UInt8):=(List.range k).map (Vy l)
theorem Zc2(l:List UInt8)(k:Nat):(Pa l k).length=k:=by simp[Pa]
theorem Ts(l:List UInt8)(k:Nat):Pa l (k+1)=Pa l k++[Vy l k]:=by simp[Pa,List.range_succ]
theorem blksL_get(l:List UInt8){k i:Nat}(h:i<k):(Pa l k).getD i []=Vy l i:=by simp[Pa,List.getD,List.getElem?_range h]
theorem blkB_take{l:List UInt8}{i m:Nat}(h:i<m):Vy (l.take (m*256)) i=Vy l i:=by
 unfold Vy
 rw[List.drop_take,List.take_take,Nat.min_eq_left (by omega)]
theorem Od{l:List UInt8}{k:Nat}:Pa (l.take (k*256)) k=Pa l k:=List.map_congr_left fun i hi=>blkB_take (List.mem_range.1 hi)
structure RefI(B bm:Nat)(p:Option Addr)(k c:Nat)(l:List UInt8)(w:World):Prop where
 blk:Blk w bm [.slice p k c] 59
 row:w.ownsRow B 9 1 (.slice p k c) k ((Pa l k).map sv)
 hk:k≤14400
 hl:l.length=k*256
theorem RefI.below{B bm:Nat}{p:Option Addr}{k c:Nat}{l:List UInt8}{w W:World}(h:RefI B bm p k c l w)(hb:Below w.heap.size w W):RefI B bm p k c l W:=⟨h.blk.below hb,Zb h.row hb,h.hk,h.hl⟩
theorem RefI.only{B bm:Nat}{p:Option Addr}{k c:Nat}{l:List UInt8}{w W:World}{T:List TypeId}(h:RefI B bm p k c l w)(hO:Ze T w W)(hT:T.contains 59=false∧T.contains 9=false):RefI B bm p k c l W:=⟨h.blk.only hO hT.1,Zl h.row hO hT.2,h.hk,h.hl⟩
theorem RefI.mono{B B' bm:Nat}{p:Option Addr}{k c:Nat}{l:List UInt8}{w:World}(h:RefI B bm p k c l w)(hB:B'≤B):RefI B' bm p k c l w:=⟨h.blk,Zd h.row hB,h.hk,h.hl⟩
theorem RefI.base{B bm:Nat}{p:Option Addr}{k c:Nat}{l:List UInt8}{w:World}(h:RefI B bm p k c l w)(hn:0<k):∃ g,p=some ⟨g,0,none⟩:=by
 rcases h.row.2 with ⟨_,h0⟩|⟨g,cap,cur,hv,_,_,hc,_⟩
 ·omega
 ·simp only[Value.slice.injEq] at hv
  obtain⟨rfl,_,rfl⟩:=hv
  exact⟨g,rfl⟩
theorem ref_Of(a:Option Addr)(c:Nat)(l:List UInt8)(w:World)(h:Bys w (.slice a l.length c) l)(hl:l.length≤100000000) :
 Calls Tryz.prog 8 #[.slice a l.length c] w (Vn (fun w' r=>∃ bm p c2,r=.pointer (some ⟨bm,0,none⟩)∧w.heap.size≤bm∧RefI w.heap.size bm p (min (l.length/256) 14400) c2 (l.take (min (l.length/256) 14400*256)) w') w):=by
 refine zin 32 Tryz.func8 ?_
 refine xa 8 [.slice none 0 0] 59 fun b1 W1 n1=>?_
 refine zl 5 32 (fun zm zkv V=>∃ (k:Nat) (p:Option Addr) (cp:Nat) (a2:Option Addr) (c2:Nat) (l2:List UInt8),zkv=[(0,.slice a2 l2.length c2),(2,.pointer none),(3,.pointer (some ⟨b1,0,none⟩))]∧zm=l2.length∧Below w.heap.size w V∧Blk V b1 ([.slice p k cp]) 59∧V.ownsRow w.heap.size 9 1 (.slice p k cp) k ((Pa l k).map sv)∧Bys w (.slice a2 l2.length c2) l2∧l2=l.drop (k*256)∧k*256≤l.length∧k≤14400) ⟨0,none,0,a,c,l,rfl,rfl,n1.below,n1.blk,World.ownsRow_nil _ _ _ _,h,by simp,by omega,by decide⟩ ?_
 rintro _ _ W2 ⟨k,p,cp,a2,c2,l2,rfl,rfl,hB_2,k2_b1,ho,hen,hl2,hk1,hk2⟩ J2 hJ2 r2
 have hcap:=hen.cap rfl
 have hl2n:l2.length=l.length-k*256:=by rw[hl2];simp
 refine xg 7 [8,9] (decide ((↑l2.length:Int)≥(256:Int))) (fun hc3=>?_) (fun hc3=>?_)
 ·have hc3:=of_decide_eq_true hc3
  refine xb 3 0 k2_b1 ?_
  refine xid 5 ((↑k:Int)<(14400:Int)) (fun hc4=>?_) (fun hc4=>?_)
  ·refine xd 4 (.t w.heap.size [9,59]) ?_
   refine xsH (.e [0,1,2,3,5] 6) (fun _ _ _ _ zo zx zy V=>Yz (k:=256) (b:=a2) (n:=l2.length) (c:=c2) (i:=256) (ki:=.i64) zo zx zy rfl (by omega) Tryz.underlying22 (by kernel_rfl) V) ?_
   have hB'1:=bln hB_2 (Za W2)
   refine xcvt (.e [] 7) (.t w.heap.size [9,59]) (fun _ _ _ zo zx V hV=>Qi zo zx ((Bys.take hen rfl 256 (by omega)).below (Ky hB'1 hV (Nat.le_refl _))) (by simp;omega) Tryz.underlying22 Tryz.underlying5 Tryz.underlying9) ?_
   refine xm2 0 4 8 ?_ ?_
   ·have k2_b1'1:=k2_b1.below (Za W2)
    refine xb 0 0 k2_b1'1 ?_
    refine xbs (.o [] 8) 1 [.string ⟨(l2.take 256).toArray⟩] 9 fun b5 W5 n5=>?_
    have g5:=n5.ge hB'1
    have ho'1:=Zb ho (Za W2)
    have r5_ho:=Zu ho'1 n5
    have ho'2:=Zb ho'1 n5.below
    have hB'2:=bln hB'1 n5.below
    refine ybi (.o [] 9) (.t w.heap.size [9,59]) fun _ _ _ _ zJ zQ zo zx zy zK=>Zp (m:=1) (news:=[.string ⟨(l2.take 256).toArray⟩]) (.string ⟨#[]⟩) 1 16 (k+1) ((Pa l (k+1)).map sv) zo Tryz.underlying57 (by kernel_rfl) rfl (by decide) zx ho'2 zy (n5.blk.sl 1 1 (by decide) (by decide)) rfl (by simp[Value.oneCell']) (by unfold maxLen;omega) (by omega) hB'2.size (by rfl) (by rw[Ts,List.map_append,show Vy l k=l2.take 256 from by rw[hl2];rfl];rfl) fun px6 cx6 W6 o6 hg6 hb6=>?_
    refine zK _ _ (Zr hb6 hg6 ho'2 (by decide)) ?_
    have k2_b1'2:=(k2_b1'1.below n5.below).grown hg6 ho'2 (by decide)
    have g1:=n1.ge (Below.refl w.heap.size _)
    refine ys (.o [10,11] 12) k2_b1'2 [.slice px6 (k+1) cx6] (.t w.heap.size [9,59]) fun W7 u7 k7=>⟨(Zi u7 k2_b1'2 g1 (by decide)),?_⟩
    refine xsL 4 (fun _ _ _ _ zo zx zy V=>Yg (k:=256) (b:=a2) (n:=l2.length) (c:=c2) (i:=256) (ki:=.i64) 1 zo zx zy rfl (by omega) Tryz.underlying22 (by kernel_rfl) V) ?_
    refine xv1 3 0 (show(.slice (Qm a2 256 c2 1) (l2.length-256) (c2-256):Value)=.slice (Qm a2 256 c2 1) ((l2.drop 256).length) (c2-256) from by rw[List.length_drop]) ?_
    have hB'3:=u7.below (hB'2.trans hb6) g1
    have o6'1:=u7.own2 o6 k2_b1'2 (by decide)
    refine ze 0 (hJ2 _ _ _ ⟨k+1,_,_,_,_,(l2.drop 256),rfl,rfl,hB'3,k7,o6'1,(by have:=Bys.cut hen rfl 256 l2.length (by omega) (Nat.le_refl _);rw[List.take_of_length_le (by simp)] at this;rwa [show(l2.drop 256).length=l2.length-256 by simp]),by rw[hl2,List.drop_drop,Nat.add_mul,Nat.one_mul],by omega,by omega⟩ ?_)
    show((l2.drop 256).length)<l2.length
    rw[List.length_drop];omega
   refine xbs 0 1 [.string ⟨(l2.take 256).toArray⟩] 9 fun b8 W8 n8=>?_
   have g8:=n8.ge hB'1
   have ho'3:=Zb ho (Za W2)
   have r8_ho:=Zu ho'3 n8
   have k2_b1'3:=(k2_b1.below (Za W2)).below n8.below
   refine xb (.o [] 4) 0 k2_b1'3 ?_
   have ho'4:=Zb ho'3 n8.below
   have hB'4:=bln hB'1 n8.below
   refine ybi (.o [] 9) (.t w.heap.size [9,59]) fun _ _ _ _ zJ zQ zo zx zy zK=>Zp (m:=1) (news:=[.string ⟨(l2.take 256).toArray⟩]) (.string ⟨#[]⟩) 1 16 (k+1) ((Pa l (k+1)).map sv) zo Tryz.underlying57 (by kernel_rfl) rfl (by decide) zx ho'4 zy (n8.blk.sl 1 1 (by decide) (by decide)) rfl (by simp[Value.oneCell']) (by unfold maxLen;omega) (by omega) hB'4.size (by rfl) (by rw[Ts,List.map_append,show Vy l k=l2.take 256 from by rw[hl2];rfl];rfl) fun px9 cx9 W9 o9 hg9 hb9=>?_
   refine zK _ _ (Zr hb9 hg9 ho'4 (by decide)) ?_
   have k2_b1'4:=k2_b1'3.grown hg9 ho'4 (by decide)
   have g1:=n1.ge (Below.refl w.heap.size _)
   refine ys (.o [10,11] 12) k2_b1'4 [.slice px9 (k+1) cx9] (.t w.heap.size [9,59]) fun W10 u10 k10=>⟨(Zi u10 k2_b1'4 g1 (by decide)),?_⟩
   refine xsL 4 (fun _ _ _ _ zo zx zy V=>Yg (k:=256) (b:=a2) (n:=l2.length) (c:=c2) (i:=256) (ki:=.i64) 1 zo zx zy rfl (by omega) Tryz.underlying22 (by kernel_rfl) V) ?_
   refine xv1 3 0 (show(.slice (Qm a2 256 c2 1) (l2.length-256) (c2-256):Value)=.slice (Qm a2 256 c2 1) ((l2.drop 256).length) (c2-256) from by rw[List.length_drop]) ?_
   have hB'5:=u10.below (hB'4.trans hb9) g1
   have o9'1:=u10.own2 o9 k2_b1'4 (by decide)
   refine ze 0 (hJ2 _ _ _ ⟨k+1,_,_,_,_,(l2.drop 256),rfl,rfl,hB'5,k10,o9'1,(by have:=Bys.cut hen rfl 256 l2.length (by omega) (Nat.le_refl _);rw[List.take_of_length_le (by simp)] at this;rwa [show(l2.drop 256).length=l2.length-256 by simp]),by rw[hl2,List.drop_drop,Nat.add_mul,Nat.one_mul],by omega,by omega⟩ ?_)
   show((l2.drop 256).length)<l2.length
   rw[List.length_drop];omega
  have g1:=n1.ge (Below.refl w.heap.size _)
  refine xe 12 (.pointer (some ⟨b1,0,none⟩)) ?_
  obtain rfl:k=min (l.length/256) 14400:=by omega
  exact⟨_,rfl,hB_2,_,_,_,rfl,g1,k2_b1,by rw[Od];exact ho,by omega,by simp;omega⟩
 have hc3:=of_decide_eq_false hc3
 have g1:=n1.ge (Below.refl w.heap.size _)
 refine xe 22 (.pointer (some ⟨b1,0,none⟩)) ?_
 obtain rfl:k=min (l.length/256) 14400:=by omega
 exact⟨_,rfl,hB_2,_,_,_,rfl,g1,k2_b1,by rw[Od];exact ho,by omega,by simp;omega⟩
def Gn(no er:Int):List Int:=if er=0 then [] else [no]
theorem Pj{no er:Int}(h:er≠0):Gn no er=[no]:=if_neg h
theorem ref05_At_z(no:Int)(w:World) :
 Calls Tryz.prog 63 #[.int .i64 no,.agg #[.slice none 0 0,.int .i64 0]] w (Ret (.agg #[.slice none 0 0,.int .i64 0]) w):=by
 refine zin 17 Tryz.func63 ?_
 refine xa 2 [.slice none 0 0,.int .i64 0] 43 fun b1 W1 n1=>?_
 refine xa 0 [.slice none 0 0,.int .i64 0] 43 fun b2 W2 n2=>?_
 have d2_b1:=n2.ne n1.blk
 have k1'1:=n1.blk.below n2.below
 refine xb 6 1 k1'1 ?_
 refine xsv 7 n2.blk [.slice none 0 0,.int .i64 0] fun W3 u3 k3=>?_
 have g2:=n2.ge n1.below
 have hB:=u3.below (bln n1.below n2.below) g2
 exact xec 4 k3 (.agg #[.slice none 0 0,.int .i64 0]) ⟨rfl,hB⟩
theorem ref05_At_n(no er:Int)(w:World)(he:er≠0) :
 Calls Tryz.prog 63 #[.int .i64 no,.agg #[.slice none 0 0,.int .i64 er]] w (Vn (fun w' r=>∃ a c,r=.agg #[.slice a 1 c,.int .i64 er]∧w'.ownsRow w.heap.size 3 1 (.slice a 1 c) 1 [.int .i64 no]) w):=by
 refine zin 17 Tryz.func63 ?_
 refine xa 2 [.slice none 0 0,.int .i64 er] 43 fun b1 W1 n1=>?_
 refine xa 0 [.slice none 0 0,.int .i64 0] 43 fun b2 W2 n2=>?_
 have d2_b1:=n2.ne n1.blk
 have k1'1:=n1.blk.below n2.below
 refine xb 6 1 k1'1 ?_
 refine xk 3 (show((er==(0:Int)):Bool)=false from beq_false_of_ne he) ?_
 refine xd 3 (.t w.heap.size [3,43]) ?_
 refine xm3 (.b [0,2,5]) 1 3 6 ?_ ?_ ?_
 ·refine xbs 0 1 [.int .i64 no] 3 fun b3 W3 n3=>?_
  refine xm2 0 3 6 ?_ ?_
  ·have k1'2:=(k1'1.below (Za W2)).below n3.below
   refine xb 0 0 k1'2 ?_
   refine xm2 0 4 6 ?_ ?_
   ·have g3:=n3.ge (bln (bln n1.below n2.below) (Za W2))
    have o4:=Zw (size:=1) (n:=1) n3.blk g3 rfl (by decide)
    have hB:=bln (bln (bln n1.below n2.below) (Za W2)) n3.below
    refine ybi 0 (.t w.heap.size [3,43]) fun _ _ _ _ zJ zQ zo zx zy zK=>Zp (m:=0) (news:=[]) (.int .i64 0) 1 8 (1) ([.int .i64 no]) zo Tryz.underlying30 (by kernel_rfl) rfl (by decide) zx o4 zy (.inl ⟨none,0,rfl,rfl,rfl⟩) rfl (by simp) (by unfold maxLen;omega) (by omega) hB.size (by rfl) (by rfl) fun px5 cx5 W5 o5 hg5 hb5=>?_
    refine zK _ _ (Zr hb5 hg5 o4 (by decide)) ?_
    have k1'3:=k1'2.grown hg5 o4 (by decide)
    refine xb (.o [] 6) 1 k1'3 ?_
    have k2:=((n2.blk.below (Za W2)).below n3.below).grown hg5 o4 (by decide)
    have g2:=n2.ge n1.below
    refine ysv (.o [7] 8) k2 [.slice px5 1 cx5,.int .i64 er] (.t w.heap.size [3,43]) fun W6 u6 k6=>⟨(Zi u6 k2 g2 (by decide)),?_⟩
    have hB'1:=u6.below (hB.trans hb5) g2
    have o5'1:=u6.own2 o5 k2 (by decide)
    exact xec 3 k6 (.agg #[.slice px5 1 cx5,.int .i64 er]) ⟨_,rfl,hB'1,_,_,rfl,o5'1⟩
   refine xb 0 1 k1'2 ?_
   have g3:=n3.ge (bln (bln n1.below n2.below) (Za W2))
   have o7:=Zw (size:=1) (n:=1) n3.blk g3 rfl (by decide)
   have hB:=bln (bln (bln n1.below n2.below) (Za W2)) n3.below
   refine ybi (.o [] 4) (.t w.heap.size [3,43]) fun _ _ _ _ zJ zQ zo zx zy zK=>Zp (m:=0) (news:=[]) (.int .i64 0) 1 8 (1) ([.int .i64 no]) zo Tryz.underlying30 (by kernel_rfl) rfl (by decide) zx o7 zy (.inl ⟨none,0,rfl,rfl,rfl⟩) rfl (by simp) (by unfold maxLen;omega) (by omega) hB.size (by rfl) (by rfl) fun px8 cx8 W8 o8 hg8 hb8=>?_
   refine zK _ _ (Zr hb8 hg8 o7 (by decide)) ?_
   have k2:=((n2.blk.below (Za W2)).below n3.below).grown hg8 o7 (by decide)
   have g2:=n2.ge n1.below
   refine ysv (.o [7] 8) k2 [.slice px8 1 cx8,.int .i64 er] (.t w.heap.size [3,43]) fun W9 u9 k9=>⟨(Zi u9 k2 g2 (by decide)),?_⟩
   have hB'2:=u9.below (hB.trans hb8) g2
   have o8'1:=u9.own2 o8 k2 (by decide)
   exact xec 3 k9 (.agg #[.slice px8 1 cx8,.int .i64 er]) ⟨_,rfl,hB'2,_,_,rfl,o8'1⟩
  have k1'4:=(k1'1.below (Za W2)).below n3.below
  refine xb 0 1 k1'4 ?_
  refine xb (.o [] 3) 0 k1'4 ?_
  have g3:=n3.ge (bln (bln n1.below n2.below) (Za W2))
  have o10:=Zw (size:=1) (n:=1) n3.blk g3 rfl (by decide)
  have hB:=bln (bln (bln n1.below n2.below) (Za W2)) n3.below
  refine ybi (.o [] 4) (.t w.heap.size [3,43]) fun _ _ _ _ zJ zQ zo zx zy zK=>Zp (m:=0) (news:=[]) (.int .i64 0) 1 8 (1) ([.int .i64 no]) zo Tryz.underlying30 (by kernel_rfl) rfl (by decide) zx o10 zy (.inl ⟨none,0,rfl,rfl,rfl⟩) rfl (by simp) (by unfold maxLen;omega) (by omega) hB.size (by rfl) (by rfl) fun px11 cx11 W11 o11 hg11 hb11=>?_
  refine zK _ _ (Zr hb11 hg11 o10 (by decide)) ?_
  have k2:=((n2.blk.below (Za W2)).below n3.below).grown hg11 o10 (by decide)
  have g2:=n2.ge n1.below
  refine ysv (.o [7] 8) k2 [.slice px11 1 cx11,.int .i64 er] (.t w.heap.size [3,43]) fun W12 u12 k12=>⟨(Zi u12 k2 g2 (by decide)),?_⟩
  have hB'3:=u12.below (hB.trans hb11) g2
  have o11'1:=u12.own2 o11 k2 (by decide)
  exact xec 3 k12 (.agg #[.slice px11 1 cx11,.int .i64 er]) ⟨_,rfl,hB'3,_,_,rfl,o11'1⟩
 ·have k1'5:=k1'1.below (Za W2)
  refine xb 0 0 k1'5 ?_
  refine xm2 0 1 6 ?_ ?_
  ·refine xbs 0 1 [.int .i64 no] 3 fun b13 W13 n13=>?_
   refine xm2 0 4 6 ?_ ?_
   ·have g13:=n13.ge (bln (bln n1.below n2.below) (Za W2))
    have o14:=Zw (size:=1) (n:=1) n13.blk g13 rfl (by decide)
    have hB:=bln (bln (bln n1.below n2.below) (Za W2)) n13.below
    refine ybi 0 (.t w.heap.size [3,43]) fun _ _ _ _ zJ zQ zo zx zy zK=>Zp (m:=0) (news:=[]) (.int .i64 0) 1 8 (1) ([.int .i64 no]) zo Tryz.underlying30 (by kernel_rfl) rfl (by decide) zx o14 zy (.inl ⟨none,0,rfl,rfl,rfl⟩) rfl (by simp) (by unfold maxLen;omega) (by omega) hB.size (by rfl) (by rfl) fun px15 cx15 W15 o15 hg15 hb15=>?_
    refine zK _ _ (Zr hb15 hg15 o14 (by decide)) ?_
    have k1'6:=(k1'5.below n13.below).grown hg15 o14 (by decide)
    refine xb (.o [] 6) 1 k1'6 ?_
    have k2:=((n2.blk.below (Za W2)).below n13.below).grown hg15 o14 (by decide)
    have g2:=n2.ge n1.below
    refine ysv (.o [7] 8) k2 [.slice px15 1 cx15,.int .i64 er] (.t w.heap.size [3,43]) fun W16 u16 k16=>⟨(Zi u16 k2 g2 (by decide)),?_⟩
    have hB'4:=u16.below (hB.trans hb15) g2
    have o15'1:=u16.own2 o15 k2 (by decide)
    exact xec 3 k16 (.agg #[.slice px15 1 cx15,.int .i64 er]) ⟨_,rfl,hB'4,_,_,rfl,o15'1⟩
   have k1'7:=k1'5.below n13.below
   refine xb 0 1 k1'7 ?_
   have g13:=n13.ge (bln (bln n1.below n2.below) (Za W2))
   have o17:=Zw (size:=1) (n:=1) n13.blk g13 rfl (by decide)
   have hB:=bln (bln (bln n1.below n2.below) (Za W2)) n13.below
   refine ybi (.o [] 4) (.t w.heap.size [3,43]) fun _ _ _ _ zJ zQ zo zx zy zK=>Zp (m:=0) (news:=[]) (.int .i64 0) 1 8 (1) ([.int .i64 no]) zo Tryz.underlying30 (by kernel_rfl) rfl (by decide) zx o17 zy (.inl ⟨none,0,rfl,rfl,rfl⟩) rfl (by simp) (by unfold maxLen;omega) (by omega) hB.size (by rfl) (by rfl) fun px18 cx18 W18 o18 hg18 hb18=>?_
   refine zK _ _ (Zr hb18 hg18 o17 (by decide)) ?_
   have k2:=((n2.blk.below (Za W2)).below n13.below).grown hg18 o17 (by decide)
   have g2:=n2.ge n1.below
   refine ysv (.o [7] 8) k2 [.slice px18 1 cx18,.int .i64 er] (.t w.heap.size [3,43]) fun W19 u19 k19=>⟨(Zi u19 k2 g2 (by decide)),?_⟩
   have hB'5:=u19.below (hB.trans hb18) g2
   have o18'1:=u19.own2 o18 k2 (by decide)
   exact xec 3 k19 (.agg #[.slice px18 1 cx18,.int .i64 er]) ⟨_,rfl,hB'5,_,_,rfl,o18'1⟩
  refine xb 0 1 k1'5 ?_
  refine xbs (.o [] 1) 1 [.int .i64 no] 3 fun b20 W20 n20=>?_
  have g20:=n20.ge (bln (bln n1.below n2.below) (Za W2))
  have o21:=Zw (size:=1) (n:=1) n20.blk g20 rfl (by decide)
  have hB:=bln (bln (bln n1.below n2.below) (Za W2)) n20.below
  refine ybi (.o [] 4) (.t w.heap.size [3,43]) fun _ _ _ _ zJ zQ zo zx zy zK=>Zp (m:=0) (news:=[]) (.int .i64 0) 1 8 (1) ([.int .i64 no]) zo Tryz.underlying30 (by kernel_rfl) rfl (by decide) zx o21 zy (.inl ⟨none,0,rfl,rfl,rfl⟩) rfl (by simp) (by unfold maxLen;omega) (by omega) hB.size (by rfl) (by rfl) fun px22 cx22 W22 o22 hg22 hb22=>?_
  refine zK _ _ (Zr hb22 hg22 o21 (by decide)) ?_
  have k2:=((n2.blk.below (Za W2)).below n20.below).grown hg22 o21 (by decide)
  have g2:=n2.ge n1.below
  refine ysv (.o [7] 8) k2 [.slice px22 1 cx22,.int .i64 er] (.t w.heap.size [3,43]) fun W23 u23 k23=>⟨(Zi u23 k2 g2 (by decide)),?_⟩
  have hB'6:=u23.below (hB.trans hb22) g2
  have o22'1:=u23.own2 o22 k2 (by decide)
  exact xec 3 k23 (.agg #[.slice px22 1 cx22,.int .i64 er]) ⟨_,rfl,hB'6,_,_,rfl,o22'1⟩
 have k1'8:=k1'1.below (Za W2)
 refine xb 0 1 k1'8 ?_
 refine xm2 0 1 3 ?_ ?_
 ·refine xbs 0 1 [.int .i64 no] 3 fun b24 W24 n24=>?_
  have k1'9:=k1'8.below n24.below
  refine xb (.o [] 3) 0 k1'9 ?_
  have g24:=n24.ge (bln (bln n1.below n2.below) (Za W2))
  have o25:=Zw (size:=1) (n:=1) n24.blk g24 rfl (by decide)
  have hB:=bln (bln (bln n1.below n2.below) (Za W2)) n24.below
  refine ybi (.o [] 4) (.t w.heap.size [3,43]) fun _ _ _ _ zJ zQ zo zx zy zK=>Zp (m:=0) (news:=[]) (.int .i64 0) 1 8 (1) ([.int .i64 no]) zo Tryz.underlying30 (by kernel_rfl) rfl (by decide) zx o25 zy (.inl ⟨none,0,rfl,rfl,rfl⟩) rfl (by simp) (by unfold maxLen;omega) (by omega) hB.size (by rfl) (by rfl) fun px26 cx26 W26 o26 hg26 hb26=>?_
  refine zK _ _ (Zr hb26 hg26 o25 (by decide)) ?_
  have k2:=((n2.blk.below (Za W2)).below n24.below).grown hg26 o25 (by decide)
  have g2:=n2.ge n1.below
  refine ysv (.o [7] 8) k2 [.slice px26 1 cx26,.int .i64 er] (.t w.heap.size [3,43]) fun W27 u27 k27=>⟨(Zi u27 k2 g2 (by decide)),?_⟩
  have hB'7:=u27.below (hB.trans hb26) g2
  have o26'1:=u27.own2 o26 k2 (by decide)
  exact xec 3 k27 (.agg #[.slice px26 1 cx26,.int .i64 er]) ⟨_,rfl,hB'7,_,_,rfl,o26'1⟩
 refine xb 0 0 k1'8 ?_
 refine xbs (.o [] 1) 1 [.int .i64 no] 3 fun b28 W28 n28=>?_
 have g28:=n28.ge (bln (bln n1.below n2.below) (Za W2))
 have o29:=Zw (size:=1) (n:=1) n28.blk g28 rfl (by decide)
 have hB:=bln (bln (bln n1.below n2.below) (Za W2)) n28.below
 refine ybi (.o [] 4) (.t w.heap.size [3,43]) fun _ _ _ _ zJ zQ zo zx zy zK=>Zp (m:=0) (news:=[]) (.int .i64 0) 1 8 (1) ([.int .i64 no]) zo Tryz.underlying30 (by kernel_rfl) rfl (by decide) zx o29 zy (.inl ⟨none,0,rfl,rfl,rfl⟩) rfl (by simp) (by unfold maxLen;omega) (by omega) hB.size (by rfl) (by rfl) fun px30 cx30 W30 o30 hg30 hb30=>?_
 refine zK _ _ (Zr hb30 hg30 o29 (by decide)) ?_
 have k2:=((n2.blk.below (Za W2)).below n28.below).grown hg30 o29 (by decide)
 have g2:=n2.ge n1.below
 refine ysv (.o [7] 8) k2 [.slice px30 1 cx30,.int .i64 er] (.t w.heap.size [3,43]) fun W31 u31 k31=>⟨(Zi u31 k2 g2 (by decide)),?_⟩
 have hB'8:=u31.below (hB.trans hb30) g2
 have o30'1:=u31.own2 o30 k2 (by decide)
 exact xec 3 k31 (.agg #[.slice px30 1 cx30,.int .i64 er]) ⟨_,rfl,hB'8,_,_,rfl,o30'1⟩
def FltO(no er:Int)(w:World)(e:Ending)(w':World):Prop:=∃ a c,e=.returned (.agg #[.slice a (Gn no er).length c,.int .i64 er])∧Below w.heap.size w w'∧w'.ownsRow w.heap.size 3 1 (.slice a (Gn no er).length c) (Gn no er).length ((Gn no er).map (Value.int .i64))
theorem ref05_AtP(no er:Int)(w:World):Calls Tryz.prog 63 #[.int .i64 no,.agg #[.slice none 0 0,.int .i64 er]] w (FltO no er w):=by
 by_cases he:er=0
 ·subst he
  refine(ref05_At_z no w).mono ?_
  rintro e W ⟨rfl,hb⟩
  exact⟨none,0,rfl,hb,World.ownsRow_nil _ _ _ _⟩
 ·refine(ref05_At_n no er w he).mono ?_
  rintro e W ⟨_,rfl,hb,a,c,rfl,ho⟩
  rw[FltO,Pj he]
  exact⟨a,c,rfl,hb,ho⟩
theorem Gv(no er:Int)(w:World) :
 Calls Tryz.prog 36 #[.int .i64 no,.int .i64 er] w (FltO no er w):=by
 refine zin 9 Tryz.func36 ?_
 refine xa 2 [.slice none 0 0,.int .i64 0] 43 fun b1 W1 n1=>?_
 refine xc 7 (args:=#[.int .i64 no,.agg #[.slice none 0 0,.int .i64 er]]) (ref05_AtP no er _) ?_
 rintro _ W2 ⟨a5,c5,rfl,hb2,hs5⟩
 have k1:=n1.blk.below hb2
 refine xsv 0 k1 [.slice a5 ((Gn no er).length) c5,.int .i64 er] fun W3 u3 k3=>?_
 have g1:=n1.ge (Below.refl w.heap.size _)
 have hB:=u3.below (bln n1.below hb2) g1
 have hs5'1:=u3.own2 (Zd hs5 n1.below.size) k1 (by decide)
 exact xec 3 k3 (.agg #[.slice a5 ((Gn no er).length) c5,.int .i64 er]) ⟨_,_,rfl,hB,hs5'1⟩
theorem raw1(l:List UInt8)(k:Nat):Zh l k 1=(l.getD k 0).toNat:=by simp[Zh]
theorem raw2(l:List UInt8)(k:Nat):Zh l k 2=(l.getD k 0).toNat+256*(l.getD (k+1) 0).toNat:=by simp[Zh]
theorem BysM.elem{w:World}{a:Option Addr}{n c:Nat}{l:List UInt8}(h:Bys w (.slice a n c) l)(hl:l.length=n){k:Nat}(hk:k<n):a.isSome=true∧w.cell? (Xh a (k*1))=some (.int .u8 (↑(l.getD k 0).toNat:Int)):=by
 subst hl;exact Bys.elem h hk
theorem slN_of{w:World}{v:Value}{n:Nat}{l:List UInt8}(h:Bys w v l)(hl:l.length=n):Sl w v n (l.map bv):=by subst hl;exact h
theorem Zaj{l:List UInt8}{k m n:Nat}(h:l.length=n)(hk:k≤m)(hm:m≤n):((l.drop k).take (m-k)).length=m-k:=by simp;omega
theorem ask_sum{kind no:Int}{l:List UInt8}(hl:l.length=256):(!(((l.drop 252).take 4)==leB ((Ci l kind:Nat):Int) 4))=Gc kind no l 2:=by
 have h1:=leB_raw (l:=l) (k:=252) (w:=4) (by omega)
 have hs:Ci l kind<256 ^ 4:=by
  have:=Nat.xor_lt_two_pow (n:=32) (Uv (l.take 252)) (Lu kind)
  unfold Ci;exact this
 have hr:=Co l 4 252
 show _=((Zh l 252 4:Int) != (Ci l kind:Int))
 rw[←h1]
 by_cases e:Zh l 252 4=Ci l kind
 ·rw[e];simp
 ·have e2:leB (Zh l 252 4:Int) 4≠leB (Ci l kind:Int) 4:=fun h=>e (leB_inj hr hs h)
  rw[beq_false_of_ne e2,bne_iff_ne.2 (by omega)];rfl
theorem Zfa(kind no:Int)(a:Option Addr)(c:Nat)(l:List UInt8)(w:World)(hl:l.length≠256)(h:Bys w (.slice a l.length c) l) :
 Calls Tryz.prog 119 #[.slice a l.length c,.int .i64 kind,.int .i64 no] w (OpenP kind no l w):=by
 refine zin 61 Tryz.func119 ?_
 refine xr 11 (args:=#[.int .i64 kind,.int .i64 no]) (Zcr kind no _) fun W1 hb1=>?_
 refine xi 3 (!(Jh kind no)) (fun hc2=>?_) (fun hc2=>?_)
 ·have hk1:Gc kind no l 0=true:=hc2
  refine xe 8 (.tuple #[.slice none 0 0,.int .i64 1]) ?_
  have he:Ye kind no l=1:=by simp[Ye,hk1]
  exact .inl ⟨by rw[he];decide,by rw[he],hb1⟩
 have hk1:Gc kind no l 0=false:=hc2
 have hkb:Jh kind no=true:=by simpa using hc2
 refine xk 10 (show(((↑l.length:Int) != (256:Int)):Bool)=true from bne_iff_ne.2 (by omega)) ?_
 refine xe 8 (.tuple #[.slice none 0 0,.int .i64 7]) ?_
 have hk2:Gc kind no l 1=true:=bne_iff_ne.2 (by omega)
 have he:Ye kind no l=7:=by simp[Ye,hk1,hk2]
 exact .inl ⟨by rw[he];decide,by rw[he],hb1⟩
theorem Zcb(kind no:Int)(a:Option Addr)(c:Nat)(l:List UInt8)(w:World)(hl256:l.length=256)(h:Bys w (.slice a 256 c) l) :
 Calls Tryz.prog 119 #[.slice a 256 c,.int .i64 kind,.int .i64 no] w (OpenP kind no l w):=by
 have hcap:=h.cap hl256
 have hk2:Gc kind no l 1=false:=bne_eq_false_iff_eq.2 (by rw[hl256];rfl)
 refine zin 61 Tryz.func119 ?_
 refine xr 11 (args:=#[.int .i64 kind,.int .i64 no]) (Zcr kind no _) fun W1 hb1=>?_
 refine xi 3 (!(Jh kind no)) (fun hc2=>?_) (fun hc2=>?_)
 ·have hk1:Gc kind no l 0=true:=hc2
  refine xe 8 (.tuple #[.slice none 0 0,.int .i64 1]) ?_
  have he:Ye kind no l=1:=by simp[Ye,hk1]
  exact .inl ⟨by rw[he];decide,by rw[he],hb1⟩
 have hk1:Gc kind no l 0=false:=hc2
 have hkb:Jh kind no=true:=by simpa using hc2
 refine xd 15 .z ?_
 refine xsL (.e [0] 1) (fun _ _ _ _ zo zx zy V=>Yg (k:=252) (b:=a) (n:=256) (c:=c) (i:=252) (ki:=.i64) 1 zo zx zy rfl (by omega) Tryz.underlying22 (by kernel_rfl) V) ?_
 have hB:=bln hb1 (Za W1)
 refine xcv (.e [] 2) (fun _ _ _ zo zx V hV=>Qi zo zx ((Bys.cut h hl256 252 256 (by decide) (Nat.le_refl _)).below (bln hB hV)) (Zaj (m:=256) hl256 (by decide) (by decide)) Tryz.underlying22 Tryz.underlying5 Tryz.underlying9) ?_
 refine xsH (.e [3] 4) (fun _ _ _ _ zo zx zy V=>Yz (k:=252) (b:=a) (n:=256) (c:=c) (i:=252) (ki:=.i64) zo zx zy rfl (by omega) Tryz.underlying22 (by kernel_rfl) V) ?_
 refine xr (.o [6] 5) (args:=#[.slice a 252 c]) (ref_SumN a 252 c (l.take 252) _ (by simp;omega) (by decide) ((Bys.take h hl256 252 (by omega)).below hB)) fun W3 hb3=>?_
 refine xr (.o [] 7) (args:=#[.int .i64 kind]) (ref_Salt kind (Ag hkb).1 (Ag hkb).2.1 _) fun W4 hb4=>?_
 refine xq (.e [] 8) (congrArg (Value.int .i64) (show(IntKind.i64.wrap (↑(BitVec.ofInt 64 (↑(Gu (l.take 252)):Int) ^^^ BitVec.ofInt 64 (↑(Ng kind):Int)).toNat:Int):Int)=(↑(Ci l kind):Int) from Fj (Uv (l.take 252)) (Lu kind))) ?_
 refine yc (.o [] 9) (args:=#[.int .i64 (↑(Ci l kind):Int),.int .i64 4]) .z (Ca (↑(Ci l kind):Int) 4 4 _ (Int.natCast_nonneg _) (by have:=Nat.xor_lt_two_pow (n:=32) (Uv (l.take 252)) (Lu kind);unfold Ci;omega) rfl (by decide)) ?_
 rintro _ W5 ⟨_,rfl,hb5,p4,c4,rfl,h4⟩
 have hs5:=(bln (bln hB hb3) hb4).size
 refine⟨hb5,?_⟩
 have h4'1:=Zd h4 hs5
 refine xcv (.e [] 10) (fun _ _ _ zo zx V hV=>Qi zo zx (Qk (Zf (Zb h4'1 hV)) (Zo _ _)) (Zo _ _) Tryz.underlying22 Tryz.underlying5 Tryz.underlying9) ?_
 refine xi (.r [11] 2) (!((⟨((l.drop 252).take 4).toArray⟩:ByteArray).toList==(⟨(leB (↑(Ci l kind):Int) 4).toArray⟩:ByteArray).toList)) (fun hc6=>?_) (fun hc6=>?_)
 ·have hk3:Gc kind no l 2=true:=by rw[←ask_sum hl256,←Ce];exact hc6
  have hB'1:=bln (bln (bln hB hb3) hb4) hb5
  refine xe 8 (.tuple #[.slice none 0 0,.int .i64 4]) ?_
  have he:Ye kind no l=4:=by simp[Ye,hk1,hk2,hk3]
  exact .inl ⟨by rw[he];decide,by rw[he],hB'1⟩
 have hk3:Gc kind no l 2=false:=by rw[←ask_sum hl256,←Ce];exact hc6
 have hB'2:=bln (bln (bln hB hb3) hb4) hb5
 refine xr 5 (args:=#[.slice a 256 c,.int .i64 0,.int .i64 4]) (Lx a 256 c 0 4 0 4 l _ hl256 rfl rfl (by decide) (by decide) (by decide) (h.below hB'2)) fun W7 hb7=>?_
 refine xin 15 (↑(Zh l 0 4):Int) no (fun hc8=>?_) (fun hc8=>?_)
 ·have hk4:Gc kind no l 3=true:=bne_iff_ne.2 hc8
  have hB'3:=bln hB'2 hb7
  refine xe 8 (.tuple #[.slice none 0 0,.int .i64 5]) ?_
  have he:Ye kind no l=5:=by simp[Ye,hk1,hk2,hk3,hk4]
  exact .inl ⟨by rw[he];decide,by rw[he],hB'3⟩
 have hk4:Gc kind no l 3=false:=bne_eq_false_iff_eq.2 hc8
 have hB'4:=bln hB'2 hb7
 refine xr 5 (args:=#[.slice a 256 c,.int .i64 4,.int .i64 2]) (Lx a 256 c 4 2 4 2 l _ hl256 rfl rfl (by decide) (by decide) (by decide) (h.below hB'4)) fun W9 hb9=>?_
 refine xin 15 (↑(Zh l 4 2):Int) kind (fun hc10=>?_) (fun hc10=>?_)
 ·have hk5:Gc kind no l 4=true:=bne_iff_ne.2 hc10
  have hB'5:=bln hB'4 hb9
  refine xe 8 (.tuple #[.slice none 0 0,.int .i64 6]) ?_
  have he:Ye kind no l=6:=by simp[Ye,hk1,hk2,hk3,hk4,hk5]
  exact .inl ⟨by rw[he];decide,by rw[he],hB'5⟩
 have hk5:Gc kind no l 4=false:=bne_eq_false_iff_eq.2 hc10
 refine xx 6 _ 256 6 1 (BysM.elem h hl256 (k:=6) (by omega)).1 ?_
 have hB'6:=bln hB'4 hb9
 refine xl 0 ((BysM.elem (h.below hB'6) hl256 (k:=6) (by omega)).2) ?_
 refine xg 2 [50,51] ((↑(l.getD 6 0).toNat:Int) != (0:Int)) (fun hc11=>?_) (fun hc11=>?_)
 ·have hc11:=Qx hc11
  refine xe 16 (.tuple #[.slice none 0 0,.int .i64 7]) ?_
  have hk6:Gc kind no l 5=true:=bne_iff_ne.2 (by have h26:Zh l 6 2=(l.getD 6 0).toNat+256*(l.getD 7 0).toNat:=raw2 l 6;omega)
  have he:Ye kind no l=7:=by simp[Ye,hk1,hk2,hk3,hk4,hk5,hk6]
  exact .inl ⟨by rw[he];decide,by rw[he],hB'6⟩
 have hc11:=Xk hc11
 refine xx 1 _ 256 7 1 (BysM.elem h hl256 (k:=7) (by omega)).1 ?_
 refine xl 0 ((BysM.elem (h.below hB'6) hl256 (k:=7) (by omega)).2) ?_
 refine xin 4 (↑(l.getD 7 0).toNat:Int) (0:Int) (fun hc12=>?_) (fun hc12=>?_)
 ·refine xe 8 (.tuple #[.slice none 0 0,.int .i64 7]) ?_
  have hk6:Gc kind no l 5=true:=bne_iff_ne.2 (by have h26:Zh l 6 2=(l.getD 6 0).toNat+256*(l.getD 7 0).toNat:=raw2 l 6;omega)
  have he:Ye kind no l=7:=by simp[Ye,hk1,hk2,hk3,hk4,hk5,hk6]
  exact .inl ⟨by rw[he];decide,by rw[he],hB'6⟩
 refine xb0 4 5 fun b13 W13 n13=>?_
 have g13:=n13.ge hB'6
 have h4'2:=Zb (Zb h4'1 hb7) hb9
 have r13_h4:=Zu h4'2 n13
 refine xsB 1 (fun _ _ _ _ _ zo zx zy zz V=>Qb (k:=8) (h:=252) (b:=a) (n:=256) (c:=c) (i:=8) (ki:=.i64) (j:=252) (kj:=.i64) 1 zo zx zy rfl zz rfl (by omega) (by omega) Tryz.underlying22 (by kernel_rfl) V) ?_
 have o13:=Zw (size:=1) (n:=0) n13.blk g13 rfl (by decide)
 have hB'7:=bln hB'6 n13.below
 refine xbi 0 fun _ _ _ _ zJ zQ zo zx zy zK=>Zp (m:=(252-8)) (news:=(((l.drop 8).take (252-8)).map bv)) (.int .u8 0) 1 1 (244) ((((l.drop 8).take 244).map bv)) zo Tryz.underlying22 (by kernel_rfl) rfl (by decide) zx o13 zy (slN_of ((Bys.cut h hl256 8 252 (by decide) (by decide)).below hB'7) (by simp;omega)) (by simp;omega) (Vd _) (by unfold maxLen;omega) (by omega) hB'7.size (by rfl) (by rfl) fun px14 cx14 W14 o14 hg14 hb14=>?_
 refine zK _ _ ?_
 have hB'8:=hB'7.trans hb14
 refine xe 5 (.tuple #[.slice px14 244 cx14,.int .i64 0]) ?_
 have hk6:Gc kind no l 5=false:=by have h26:Zh l 6 2=(l.getD 6 0).toNat+256*(l.getD 7 0).toNat:=raw2 l 6;exact bne_eq_false_iff_eq.2 (by omega)
 exact .inr ⟨by simp[Ye,hk1,hk2,hk3,hk4,hk5,hk6],_,_,rfl,hB'8,o14⟩
theorem ref_Open(kind no:Int)(a:Option Addr)(n c:Nat)(l:List UInt8)(w:World)(hn:l.length=n)(h:Bys w (.slice a n c) l):Calls Tryz.prog 119 #[.slice a n c,.int .i64 kind,.int .i64 no] w (OpenP kind no l w):=by
 by_cases hl:l.length=256
 ·obtain rfl:n=256:=by omega
  exact Zcb kind no a c l w hl h
 ·subst hn;exact Zfa kind no a c l w hl h
theorem Sf(B bm:Nat)(p:Option Addr)(k c:Nat)(l:List UInt8)(w:World)(hI:RefI B bm p k c l w)(no:Int)(ho:¬ (0≤no∧no<(k:Int))) :
 Calls Tryz.prog 118 #[.pointer (some ⟨bm,0,none⟩),.int .i64 no] w (Ret (.tuple #[.slice none 0 0,.int .i64 3]) w):=by
 have hk:=hI.blk
 have hkl:=hI.hk
 have hll:=hI.hl
 refine zin 25 Tryz.func118 ?_
 refine xg 12 [7,8] (decide (no<(0:Int))) (fun hc1=>?_) (fun hc1=>?_)
 ·have hc1:=of_decide_eq_true hc1
  exact xe 19 (.tuple #[.slice none 0 0,.int .i64 3]) ⟨rfl,(Below.refl w.heap.size _)⟩
 have hc1:=of_decide_eq_false hc1
 refine xb 4 0 hk ?_
 refine xk 5 (show(decide (no≥(↑k:Int)):Bool)=true from decide_eq_true (by omega)) ?_
 exact xe 8 (.tuple #[.slice none 0 0,.int .i64 3]) ⟨rfl,(Below.refl w.heap.size _)⟩
theorem Th(B bm:Nat)(p:Option Addr)(k c:Nat)(l:List UInt8)(w:World)(hI:RefI B bm p k c l w)(j:Nat)(hj:j<k) :
 Calls Tryz.prog 118 #[.pointer (some ⟨bm,0,none⟩),.int .i64 (↑j:Int)] w (Vn (fun w' r=>∃ b c2,r=.tuple #[.slice (some ⟨b,0,none⟩) 256 c2,.int .i64 0]∧Bys w' (.slice (some ⟨b,0,none⟩) 256 c2) (Vy l j)) w):=by
 have hk:=hI.blk
 have hkl:=hI.hk
 have hll:=hI.hl
 have hr:=Zf hI.row
 have hgj:(Pa l k).getD j []=Vy l j:=blksL_get l hj
 have hgl:((Pa l k).getD j []).length=256:=by rw[hgj];exact Vw (by omega)
 refine zin 25 Tryz.func118 ?_
 refine xgk 12 [7,8] (show(decide ((↑j:Int)<(0:Int)):Bool)=false from decide_eq_false (by omega)) ?_
 refine xb 4 0 hk ?_
 refine xk 5 (show(decide ((↑j:Int)≥(↑k:Int)):Bool)=false from decide_eq_false (by omega)) ?_
 refine xb 7 0 hk ?_
 refine xx 1 _ k j 1 (Strs.elem hr (Zc2 l k) (k:=j) (by omega)).1 ?_
 refine xl 0 ((Strs.elem hr (Zc2 l k) (k:=j) (by omega)).2) ?_
 refine xcf 0 fun _ _ _ zJ zQ zo zx zK=>Jq ((Pa l k).getD j []) zo zx Tryz.underlying9 Tryz.underlying22 Tryz.underlying5 (by omega) ?_
 intro bz cz W2 hb2 hbz
 refine zK _ _ ?_
 refine xe 5 (.tuple #[.slice (some ⟨bz,0,none⟩) (((Pa l k).getD j []).length) cz,.int .i64 0]) ?_
 rw[hgl]
 rw[hgl,hgj] at hbz
 exact⟨_,rfl,hb2,_,_,rfl,hbz⟩
def RReadP(k:Nat)(l:List UInt8)(no:Int)(w:World)(e:Ending)(w':World):Prop :=
 (¬ (0≤no∧no<(k:Int))∧e=.returned (.tuple #[.slice none 0 0,.int .i64 3])∧Below w.heap.size w w') ∨
 (∃ j:Nat,no=(j:Int)∧j<k∧∃ b c,e=.returned (.tuple #[.slice (some ⟨b,0,none⟩) 256 c,.int .i64 0])∧Below w.heap.size w w'∧Bys w' (.slice (some ⟨b,0,none⟩) 256 c) (Vy l j))
theorem Zep(B bm:Nat)(p:Option Addr)(k c:Nat)(l:List UInt8)(w:World)(hI:RefI B bm p k c l w)(no:Int) :
 Calls Tryz.prog 118 #[.pointer (some ⟨bm,0,none⟩),.int .i64 no] w (RReadP k l no w):=by
 by_cases h:0≤no∧no<(k:Int)
 ·obtain⟨j,rfl⟩:∃ j:Nat,no=j:=⟨no.toNat,by omega⟩
  refine(Th B bm p k c l w hI j (by omega)).mono ?_
  rintro e W ⟨_,rfl,hb,b,c2,rfl,ho⟩
  exact .inr ⟨j,rfl,by omega,_,_,rfl,hb,ho⟩
 ·refine(Sf B bm p k c l w hI no h).mono ?_
  rintro e W ⟨rfl,hb⟩
  exact .inl ⟨h,rfl,hb⟩
def RInP(l:List UInt8)(kind no:Int)(w:World)(e:Ending)(w':World):Prop :=
 (inE l kind no≠0∧e=.returned (.tuple #[.slice none 0 0,.int .i64 (inE l kind no)])∧Below w.heap.size w w') ∨
 (inE l kind no=0∧(inB l no).length=244∧∃ p c,e=.returned (.tuple #[.slice p 244 c,.int .i64 0])∧Below w.heap.size w w'∧w'.ownsRow w.heap.size 5 1 (.slice p 244 c) 244 ((inB l no).map bv))
theorem Zaf(B bm:Nat)(p:Option Addr)(k c:Nat)(l:List UInt8)(w:World)(hI:RefI B bm p k c l w)(no:Int)(kind:Int) :
 Calls Tryz.prog 73 #[.pointer (some ⟨bm,0,none⟩),.int .i64 no,.int .i64 kind] w (RInP l kind no w):=by
 have hll:=hI.hl
 refine zin 25 Tryz.func73 ?_
 refine xc 10 (args:=#[.pointer (some ⟨bm,0,none⟩),.int .i64 no]) (Zep B bm p k c l _ (hI.below (Below.refl w.heap.size _)) no) ?_
 rintro e W1 hq1
 rcases hq1 with ⟨ho,rfl,hb1⟩|⟨j,hnj,hj,b3,c3,rfl,hb1,hbz⟩
 ·refine xe 24 (.tuple #[.slice none 0 0,.int .i64 3]) ?_
  have he:inE l kind no=3:=Sb (n:=k*256) hI.hl (by omega)
  exact .inl ⟨by rw[he];decide,by rw[he],hb1⟩
 have hin:inE l kind no=Ye kind no (Vy l j):=Of (n:=k*256) hI.hl hnj (by omega)
 have hib:inB l no=((Vy l j).drop 8).take 244:=Iz hnj
 refine xc 22 (args:=#[.slice (some ⟨b3,0,none⟩) 256 c3,.int .i64 kind,.int .i64 no]) (ref_Open kind no _ 256 c3 (Vy l j) _ (Vw (by omega)) hbz) ?_
 rintro e W2 hq2
 rcases hq2 with ⟨hs,rfl,hb2⟩|⟨hs,p2,c2,rfl,hb2,h2⟩
 ·have hB:=bln hb1 hb2
  exact xe 7 (.tuple #[.slice none 0 0,.int .i64 (Ye kind no (Vy l j))]) (.inl ⟨by rw[hin];exact hs,by rw[hin],hB⟩)
 have hB:=bln hb1 hb2
 have h2'1:=Zd h2 hb1.size
 exact xe 7 (.tuple #[.slice p2 244 c2,.int .i64 0]) (.inr ⟨by rw[hin,hs],by rw[hib];simp[Vw (show j<l.length/256 by omega)],_,_,rfl,hB,by rw[hib];exact h2'1⟩)
def Qq(K:List Int)(n:Nat)(i:Nat):List UInt8:=(List.range i).flatMap fun j=>if j<n then leB (K.getD j 0) 8 else List.replicate 8 0
theorem Kp(K:List Int)(n i:Nat):Qq K n (i+1)=Qq K n i++(if i<n then leB (K.getD i 0) 8 else List.replicate 8 0):=by
 unfold Qq;rw[List.range_succ,List.flatMap_append];simp
theorem Hv(K:List Int)(n i:Nat):(Qq K n i).length=i*8:=by
 induction i with
 | zero=>rfl
 | succ i ih=>rw[Kp,List.length_append,ih];split<;>simp[Zo]<;>omega
def Vz(Vs:List (List UInt8))(i:Nat):List UInt8:=(List.range i).flatMap fun j=>Vs.getD j []
theorem Wk(Vs:List (List UInt8))(i:Nat):Vz Vs (i+1)=Vz Vs i++Vs.getD i []:=by
 unfold Vz;rw[List.range_succ,List.flatMap_append];simp
theorem Pp{Vs:List (List UInt8)}{v:Nat}:∀ {i:Nat},(∀ j,j<i→(Vs.getD j []).length=v)→(Vz Vs i).length=i*v
 | 0,_=>by simp[Vz]
 | i+1,h=>by rw[Wk,List.length_append,Pp fun j hj=>h j (by omega),h i (by omega),Nat.add_mul,Nat.one_mul]
theorem Za0{P z Q x:List UInt8}{k:Nat}(hk:P.length=k)(hz:z.length=x.length):Kf (P++z++Q) k x=P++x++Q:=by
 unfold Kf
 subst hk
 rw[List.append_assoc P z Q,List.take_left' rfl,←hz]
 have e:P++(z++Q)=(P++z)++Q:=(List.append_assoc _ _ _).symm
 rw[e,List.drop_left' (by simp)]
theorem Gm(K:List Int)(i:Nat):∀ d,Qq K i (i+d)=Qq K i i++List.replicate (d*8) 0
 | 0=>by simp
 | d+1=>by
  rw[←Nat.add_assoc,Kp,Gm K i d,if_neg (by omega),List.append_assoc,List.replicate_append_replicate,Nat.add_mul,Nat.one_mul]
theorem Br(K:List Int)(n:Nat):∀ i,i≤n→Qq K n i=Qq K i i
 | 0,_=>rfl
 | i+1,h=>by
  rw[Kp,Kp,if_pos (by omega),if_pos (by omega),Br K n i (by omega),Br K (i+1) i (by omega)]
theorem Ok(a b:Nat):List.replicate (a+b) (0:UInt8)=List.replicate a 0++List.replicate b 0:=List.replicate_append_replicate.symm
theorem Tu{m v:Nat}{H:List UInt8}{K:List Int}{Vs:List (List UInt8)}(hH:H.length=12)(hf:12+m*8+m*v≤244):∀ {i:Nat},i≤m→(∀ j,j<i→(Vs.getD j []).length=v) →
  Gq m v H K Vs i=H++Qq K i m++Vz Vs i++List.replicate (232-m*8-i*v) 0
 | 0,_,_=>by
  have e1:=Gm K 0 m
  rw[Nat.zero_add] at e1
  rw[Gq,e1]
  have h1:(232-m*8-0*v)=232-m*8:=by omega
  rw[h1,show(244:Nat)=12+(m*8+(232-m*8)) by omega,Ok,Ok]
  have:=Za0 (P:=[]) (z:=List.replicate 12 (0:UInt8)) (Q:=List.replicate (m*8) 0++List.replicate (232-m*8) 0) (x:=H) (k:=0) rfl (by simp[hH])
  rw[List.nil_append,List.nil_append] at this
  rw[this]
  simp[Qq,Vz]
 | i+1,hi,hV=>by
  have ih:=Tu (K:=K) hH hf (i:=i) (by omega) (fun j hj=>hV j (by omega))
  have hvi:=hV i (by omega)
  have h2:(i+1)*v≤m*v:=Nat.mul_le_mul_right v hi
  rw[Nat.add_mul,Nat.one_mul] at h2
  obtain⟨d,hd⟩:∃ d,m=i+(d+1):=⟨m-i-1,by omega⟩
  have ek:Qq K i m=Qq K i i++List.replicate 8 0++List.replicate (d*8) 0:=by
   rw[hd,Gm,show(d+1)*8=8+d*8 by omega,Ok,List.append_assoc]
  have ek2:Qq K (i+1) m=Qq K i i++leB (K.getD i 0) 8++List.replicate (d*8) 0:=by
   rw[show m=(i+1)+d by omega,Gm,Kp,if_pos (by omega),Br K (i+1) i (by omega)]
  have er:List.replicate (232-m*8-i*v) (0:UInt8)=List.replicate v 0++List.replicate (232-m*8-(i*v+v)) 0:=by
   rw[←Ok];congr 1;omega
  have hvp:(Vz Vs i).length=i*v:=Pp fun j hj=>hV j (by omega)
  rw[Gq,ih,ek,er]
  have s1:=Za0 (P:=H++Qq K i i) (z:=List.replicate 8 (0:UInt8)) (Q:=List.replicate (d*8) 0++(Vz Vs i++(List.replicate v 0++List.replicate (232-m*8-(i*v+v)) 0))) (x:=leB (K.getD i 0) 8) (k:=12+i*8) (by rw[List.length_append,hH,Hv]) (by simp[Zo])
  have a1:H++(Qq K i i++List.replicate 8 0++List.replicate (d*8) 0)++Vz Vs i++(List.replicate v 0++List.replicate (232-m*8-(i*v+v)) 0)=H++Qq K i i++List.replicate 8 0++(List.replicate (d*8) 0++(Vz Vs i++(List.replicate v 0++List.replicate (232-m*8-(i*v+v)) 0))):=by simp only[List.append_assoc]
  rw[a1,s1]
  have s2:=Za0 (P:=H++Qq K (i+1) m++Vz Vs i) (z:=List.replicate v (0:UInt8)) (Q:=List.replicate (232-m*8-(i*v+v)) 0) (x:=Vs.getD i []) (k:=12+m*8+i*v) (by rw[List.length_append,List.length_append,hH,Hv,hvp]) (by rw[List.length_replicate,hvi])
  have a2:H++Qq K i i++leB (K.getD i 0) 8++(List.replicate (d*8) 0++(Vz Vs i++(List.replicate v 0++List.replicate (232-m*8-(i*v+v)) 0)))=H++Qq K (i+1) m++Vz Vs i++List.replicate v 0++List.replicate (232-m*8-(i*v+v)) 0:=by rw[ek2];simp only[List.append_assoc]
  rw[a2,s2,Wk,Nat.add_mul,Nat.one_mul]
  simp only[List.append_assoc]
theorem Cu(w:World) :
 Calls Tryz.prog 212 #[.int .i64 1,.bool true] w (Ret (.int .i64 4) w):=by
 refine zin 19 Tryz.func212 ?_
 refine xbs 7 6 [.int .i64 0,.int .i64 4,.int .i64 8,.int .i64 24,.int .i64 16,.int .i64 4] 3 fun b1 W1 n1=>?_
 refine xb 32 1 n1.blk ?_
 exact xe 4 (.int .i64 4) ⟨rfl,n1.below⟩
theorem ref07_Max1(w:World) :
 Calls Tryz.prog 213 #[.int .i64 1,.bool true] w (Ret (.int .i64 18) w):=by
 refine zin 16 Tryz.func213 ?_
 refine xr 10 (args:=#[.int .i64 1,.bool true]) (Cu _) fun W1 hb1=>?_
 exact xe 18 (.int .i64 18) ⟨rfl,hb1⟩
theorem Db(w:World) :
 Calls Tryz.prog 212 #[.int .i64 2,.bool true] w (Ret (.int .i64 8) w):=by
 refine zin 19 Tryz.func212 ?_
 refine xbs 7 6 [.int .i64 0,.int .i64 4,.int .i64 8,.int .i64 24,.int .i64 16,.int .i64 4] 3 fun b1 W1 n1=>?_
 refine xb 32 2 n1.blk ?_
 exact xe 4 (.int .i64 8) ⟨rfl,n1.below⟩
theorem Zhj(w:World) :
 Calls Tryz.prog 213 #[.int .i64 2,.bool true] w (Ret (.int .i64 12) w):=by
 refine zin 16 Tryz.func213 ?_
 refine xr 10 (args:=#[.int .i64 2,.bool true]) (Db _) fun W1 hb1=>?_
 exact xe 25 (.int .i64 12) ⟨rfl,hb1⟩
theorem Cw(w:World) :
 Calls Tryz.prog 212 #[.int .i64 3,.bool true] w (Ret (.int .i64 24) w):=by
 refine zin 19 Tryz.func212 ?_
 refine xbs 7 6 [.int .i64 0,.int .i64 4,.int .i64 8,.int .i64 24,.int .i64 16,.int .i64 4] 3 fun b1 W1 n1=>?_
 refine xb 32 3 n1.blk ?_
 exact xe 4 (.int .i64 24) ⟨rfl,n1.below⟩
theorem ref07_Max3(w:World) :
 Calls Tryz.prog 213 #[.int .i64 3,.bool true] w (Ret (.int .i64 6) w):=by
 refine zin 16 Tryz.func213 ?_
 refine xr 10 (args:=#[.int .i64 3,.bool true]) (Cw _) fun W1 hb1=>?_
 exact xe 39 (.int .i64 6) ⟨rfl,hb1⟩
theorem Dv(w:World) :
 Calls Tryz.prog 212 #[.int .i64 4,.bool true] w (Ret (.int .i64 16) w):=by
 refine zin 19 Tryz.func212 ?_
 refine xbs 7 6 [.int .i64 0,.int .i64 4,.int .i64 8,.int .i64 24,.int .i64 16,.int .i64 4] 3 fun b1 W1 n1=>?_
 refine xb 32 4 n1.blk ?_
 exact xe 4 (.int .i64 16) ⟨rfl,n1.below⟩
theorem ref07_Max4(w:World) :
 Calls Tryz.prog 213 #[.int .i64 4,.bool true] w (Ret (.int .i64 9) w):=by
 refine zin 16 Tryz.func213 ?_
 refine xr 10 (args:=#[.int .i64 4,.bool true]) (Dv _) fun W1 hb1=>?_
 exact xe 32 (.int .i64 9) ⟨rfl,hb1⟩
theorem Dp(w:World) :
 Calls Tryz.prog 212 #[.int .i64 5,.bool true] w (Ret (.int .i64 4) w):=by
 refine zin 19 Tryz.func212 ?_
 refine xbs 7 6 [.int .i64 0,.int .i64 4,.int .i64 8,.int .i64 24,.int .i64 16,.int .i64 4] 3 fun b1 W1 n1=>?_
 refine xb 32 5 n1.blk ?_
 exact xe 4 (.int .i64 4) ⟨rfl,n1.below⟩
theorem ref07_Max5(w:World) :
 Calls Tryz.prog 213 #[.int .i64 5,.bool true] w (Ret (.int .i64 18) w):=by
 refine zin 16 Tryz.func213 ?_
 refine xr 10 (args:=#[.int .i64 5,.bool true]) (Dp _) fun W1 hb1=>?_
 exact xe 18 (.int .i64 18) ⟨rfl,hb1⟩
theorem Lr(t:Int)(w:World)(h1:1≤t)(h2:t≤5) :
 Calls Tryz.prog 212 #[.int .i64 t,.bool false] w (Ret (.int .i64 4) w):=by
 refine zin 19 Tryz.func212 ?_
 refine xbs 7 6 [.int .i64 0,.int .i64 4,.int .i64 8,.int .i64 24,.int .i64 16,.int .i64 4] 3 fun b1 W1 n1=>?_
 refine xgk 9 [8,9] (show(decide (t<(1:Int)):Bool)=false from decide_eq_false (by omega)) ?_
 refine xk 5 (show(decide (t>(5:Int)):Bool)=false from decide_eq_false (by omega)) ?_
 exact xe 17 (.int .i64 4) ⟨rfl,n1.below⟩
theorem Ze3(t:Int)(w:World)(h1:1≤t)(h2:t≤5) :
 Calls Tryz.prog 213 #[.int .i64 t,.bool false] w (Ret (.int .i64 18) w):=by
 refine zin 16 Tryz.func213 ?_
 refine xr 10 (args:=#[.int .i64 t,.bool false]) (Lr t _ h1 h2) fun W1 hb1=>?_
 exact xe 18 (.int .i64 18) ⟨rfl,hb1⟩
theorem Mw(t:Int)(leaf:Bool)(w:World)(h:¬ (1≤t∧t≤5)) :
 Calls Tryz.prog 212 #[.int .i64 t,.bool leaf] w (Ret (.int .i64 0) w):=by
 refine zin 19 Tryz.func212 ?_
 refine xbs 7 6 [.int .i64 0,.int .i64 4,.int .i64 8,.int .i64 24,.int .i64 16,.int .i64 4] 3 fun b1 W1 n1=>?_
 refine xg 9 [8,9] (decide (t<(1:Int))) (fun hc2=>?_) (fun hc2=>?_)
 ·have hc2:=of_decide_eq_true hc2
  exact xe 13 (.int .i64 0) ⟨rfl,n1.below⟩
 have hc2:=of_decide_eq_false hc2
 refine xk 5 (show(decide (t>(5:Int)):Bool)=true from decide_eq_true (by omega)) ?_
 exact xe 7 (.int .i64 0) ⟨rfl,n1.below⟩
theorem Zd4(t:Int)(leaf:Bool)(w:World)(h:¬ (1≤t∧t≤5)) :
 Calls Tryz.prog 213 #[.int .i64 t,.bool leaf] w (Ret (.int .i64 0) w):=by
 refine zin 16 Tryz.func213 ?_
 refine xr 10 (args:=#[.int .i64 t,.bool leaf]) (Mw t leaf _ h) fun W1 hb1=>?_
 exact xe 40 (.int .i64 0) ⟨rfl,hb1⟩
theorem Zdq(t:Int)(leaf:Bool)(v:Nat)(hv:Uk t leaf=v)(h1:1≤t)(h2:t≤5)(w:World):Calls Tryz.prog 212 #[.int .i64 t,.bool leaf] w (Ret (.int .i64 (v:Int)) w):=by
 subst hv
 cases leaf
 ·exact Lr t w h1 h2
 obtain rfl|rfl|rfl|rfl|rfl:t=1∨t=2∨t=3∨t=4∨t=5:=by omega
 ·exact Cu w
 ·exact Db w
 ·exact Cw w
 ·exact Dv w
 ·exact Dp w
theorem ref07_Max(t:Int)(leaf:Bool)(m:Nat)(hm:Ki t leaf=m)(h1:1≤t)(h2:t≤5)(w:World):Calls Tryz.prog 213 #[.int .i64 t,.bool leaf] w (Ret (.int .i64 (m:Int)) w):=by
 subst hm
 cases leaf
 ·exact Ze3 t w h1 h2
 obtain rfl|rfl|rfl|rfl|rfl:t=1∨t=2∨t=3∨t=4∨t=5:=by omega
 ·exact ref07_Max1 w
 ·exact Zhj w
 ·exact ref07_Max3 w
 ·exact ref07_Max4 w
 ·exact ref07_Max5 w
theorem De(t:Int)(leaf:Bool)(w:World):Calls Tryz.prog 212 #[.int .i64 t,.bool leaf] w (Ret (.int .i64 (widG t leaf:Int)) w):=by
 unfold widG
 by_cases h:1≤t∧t≤5
 ·rw[if_pos h];exact Zdq t leaf _ rfl h.1 h.2 w
 ·rw[if_neg h];exact Mw t leaf w h
theorem Ch(t:Int)(leaf:Bool)(w:World):Calls Tryz.prog 213 #[.int .i64 t,.bool leaf] w (Ret (.int .i64 (maxG t leaf:Int)) w):=by
 unfold maxG
 by_cases h:1≤t∧t≤5
 ·rw[if_pos h];exact ref07_Max t leaf _ rfl h.1 h.2 w
 ·rw[if_neg h];exact Zd4 t leaf w h
theorem Cp{l:List UInt8}(h:Kg l=true):Zn l≤Xj l∧12+Xj l*8+Xj l*Xi l≤244∧Xj l≤18∧Xi l≤24∧Zn l*Xi l≤Xj l*Xi l :=
 ⟨Gj h,fitG (Xr l) (Xl l),Zer (Xr l) (Xl l),Ze2 (Xr l) (Xl l),Nat.mul_le_mul_right _ (Gj h)⟩
theorem ref07_form(a:Option Addr)(c:Nat)(l:List UInt8)(w:World)(hl:l.length=244)(h:Bys w (.slice a 244 c) l) :
 Calls Tryz.prog 211 #[.slice a 244 c] w (Ret (.bool (Kg l&&Lh l)) w):=by
 have hcap:=Bys.cap h hl
 have hr0:=raw1 l 0
 have hr2:=Co l 2 2
 have hmg:=Zer (Xr l) (Xl l)
 have hwg:=Ze2 (Xr l) (Xl l)
 change Xj l≤18 at hmg
 change Xi l≤24 at hwg
 refine zin 101 Tryz.func211 ?_
 refine xx 13 _ 244 0 1 (BysM.elem h hl (k:=0) (by omega)).1 ?_
 refine xl 0 ((BysM.elem h hl (k:=0) (by omega)).2) ?_
 refine xid 4 ((↑(l.getD 0 0).toNat:Int)>(1:Int)) (fun hc1=>?_) (fun hc1=>?_)
 ·refine xe 7 (.bool false) ?_
  rw[show Kg l=false from decide_eq_false (by omega)];exact⟨rfl,(Below.refl w.heap.size _)⟩
 refine xbs 5 6 [.int .i64 1,.int .i64 1,.int .i64 2,.int .i64 2,.int .i64 2,.int .i64 4] 3 fun b2 W2 n2=>?_
 refine xc 0 (args:=#[.slice a 244 c,.slice (some ⟨b2,0,none⟩) 6 6]) (Ze9 a 244 c l (some ⟨b2,0,none⟩) 6 6 [1,1,2,2,2,4] (Yf l) _ hl rfl rfl (by decide) (by decide) (by decide) (by decide) (h.below n2.below) (n2.blk.sl 6 6 (by decide) (by decide)) (Zgx l)) ?_
 rintro _ W3 ⟨_,rfl,hb3,p5,c5,rfl,h5⟩
 have h5'1:=Zd h5 n2.below.size
 refine xx 10 _ 6 0 1 (Zt (l:=Yf l) (Zf h5'1) rfl (k:=0) (by decide)).1 ?_
 refine xl 0 ((Zt (l:=Yf l) (Zf h5'1) rfl (k:=0) (by decide)).2) ?_
 refine xx 7 _ 6 1 1 (Zt (l:=Yf l) (Zf h5'1) rfl (k:=1) (by decide)).1 ?_
 refine xl 0 ((Zt (l:=Yf l) (Zf h5'1) rfl (k:=1) (by decide)).2) ?_
 refine xr 1 (args:=#[.int .i64 (↑(Zh l 1 1):Int),.bool ((↑(Zh l 0 1):Int)==(1:Int))]) (De (Xr l) (Xl l) _) fun W4 hb4=>?_
 have h5'2:=Zb h5'1 hb4
 refine xx 6 _ 6 1 1 (Zt (l:=Yf l) (Zf h5'2) rfl (k:=1) (by decide)).1 ?_
 refine xl 0 ((Zt (l:=Yf l) (Zf h5'2) rfl (k:=1) (by decide)).2) ?_
 refine xr 1 (args:=#[.int .i64 (↑(Zh l 1 1):Int),.bool ((↑(Zh l 0 1):Int)==(1:Int))]) (Ch (Xr l) (Xl l) _) fun W5 hb5=>?_
 refine xg 9 [38,39] ((↑(Xi l):Int)==(0:Int)) (fun hc6=>?_) (fun hc6=>?_)
 ·have hc6:=eq_of_beq hc6
  have hB'1:=bln (bln (bln n2.below hb3) hb4) hb5
  refine xe 46 (.bool false) ?_
  rw[show Kg l=false from decide_eq_false (by omega)];exact⟨rfl,hB'1⟩
 have hc6:=Yq hc6
 have h5'3:=Zb h5'2 hb5
 refine xx 1 _ 6 3 1 (Zt (l:=Yf l) (Zf h5'3) rfl (k:=3) (by decide)).1 ?_
 refine xl 0 ((Zt (l:=Yf l) (Zf h5'3) rfl (k:=3) (by decide)).2) ?_
 refine xg 4 [44,45,46] ((↑(Zh l 4 2):Int) != (↑(Xi l):Int)) (fun hc7=>?_) (fun hc7=>?_)
 ·have hc7:=Qx hc7
  have hB'2:=bln (bln (bln n2.below hb3) hb4) hb5
  refine xe 39 (.bool false) ?_
  rw[show Kg l=false from decide_eq_false (by omega)];exact⟨rfl,hB'2⟩
 have hc7:=Xk hc7
 refine xx 1 _ 6 4 1 (Zt (l:=Yf l) (Zf h5'3) rfl (k:=4) (by decide)).1 ?_
 refine xl 0 ((Zt (l:=Yf l) (Zf h5'3) rfl (k:=4) (by decide)).2) ?_
 refine xg 4 [51,52,53] ((↑(Zh l 6 2):Int) != (↑(Xj l):Int)) (fun hc8=>?_) (fun hc8=>?_)
 ·have hc8:=Qx hc8
  have hB'3:=bln (bln (bln n2.below hb3) hb4) hb5
  refine xe 32 (.bool false) ?_
  rw[show Kg l=false from decide_eq_false (by omega)];exact⟨rfl,hB'3⟩
 have hc8:=Xk hc8
 refine xx 1 _ 6 5 1 (Zt (l:=Yf l) (Zf h5'3) rfl (k:=5) (by decide)).1 ?_
 refine xl 0 ((Zt (l:=Yf l) (Zf h5'3) rfl (k:=5) (by decide)).2) ?_
 refine xg 3 [57,58,59] ((↑(Zh l 8 4):Int) != (0:Int)) (fun hc9=>?_) (fun hc9=>?_)
 ·have hc9:=Qx hc9
  have hB'4:=bln (bln (bln n2.below hb3) hb4) hb5
  refine xe 26 (.bool false) ?_
  rw[show Kg l=false from decide_eq_false (by omega)];exact⟨rfl,hB'4⟩
 have hc9:=Xk hc9
 refine xx 1 _ 6 2 1 (Zt (l:=Yf l) (Zf h5'3) rfl (k:=2) (by decide)).1 ?_
 refine xl 0 ((Zt (l:=Yf l) (Zf h5'3) rfl (k:=2) (by decide)).2) ?_
 refine xg 4 [64,65,66] (decide ((↑(Zh l 2 2):Int)>(↑(Xj l):Int))) (fun hc10=>?_) (fun hc10=>?_)
 ·have hc10:=of_decide_eq_true hc10
  have hB'5:=bln (bln (bln n2.below hb3) hb4) hb5
  refine xe 19 (.bool false) ?_
  rw[show Kg l=false from decide_eq_false (by omega)];exact⟨rfl,hB'5⟩
 have hc10:=of_decide_eq_false hc10
 refine xg 3 [68,69] (!((↑(Zh l 0 1):Int)==(1:Int))) (fun hc11=>?_) (fun hc11=>?_)
 ·have hlf:Zh l 0 1≠1:=by have q:¬ ((Zh l 0 1:Int)=1):=(by simpa using hc11);omega
  refine xx 1 _ 6 2 1 (Zt (l:=Yf l) (Zf h5'3) rfl (k:=2) (by decide)).1 ?_
  refine xl 0 ((Zt (l:=Yf l) (Zf h5'3) rfl (k:=2) (by decide)).2) ?_
  refine xie 5 (↑(Zh l 2 2):Int) (0:Int) (fun hc12=>?_) (fun hc12=>?_)
  ·have hB'6:=bln (bln (bln n2.below hb3) hb4) hb5
   refine xe 7 (.bool false) ?_
   rw[show Kg l=false from decide_eq_false (by omega)];exact⟨rfl,hB'6⟩
  refine xx 6 _ 6 2 1 (Zt (l:=Yf l) (Zf h5'3) rfl (k:=2) (by decide)).1 ?_
  refine xl 0 ((Zt (l:=Yf l) (Zf h5'3) rfl (k:=2) (by decide)).2) ?_
  refine xwm 0 (8*(↑(Zh l 2 2):Int)) (↑(8*(Zh l 2 2)):Int) ?_
  refine xwm 0 (12+(↑(8*(Zh l 2 2)):Int)) (↑(12+(8*(Zh l 2 2))):Int) ?_
  refine xwm 1 (8*(↑(Xj l):Int)) (↑(8*(Xj l)):Int) ?_
  refine xwm 0 (12+(↑(8*(Xj l)):Int)) (↑(12+(8*(Xj l))):Int) ?_
  refine xsB 0 (fun _ _ _ _ _ zo zx zy zz V=>Qb (k:=(12+(8*(Zh l 2 2)))) (h:=(12+(8*(Xj l)))) (b:=a) (n:=244) (c:=c) (i:=(↑(12+(8*(Zh l 2 2))):Int)) (ki:=.i64) (j:=(↑(12+(8*(Xj l))):Int)) (kj:=.i64) 1 zo zx zy rfl zz rfl (by omega) (by omega) Tryz.underlying22 (by kernel_rfl) V) ?_
  have hr0:=raw1 l 0
  have hs:Kg l=true:=decide_eq_true ⟨by omega,by omega,by omega,by omega,by omega,by omega,by omega⟩
  obtain⟨hcm,hfit,hmle,hwle,hcw⟩:=Cp hs
  unfold Zn at hcm hcw
  have hwc:=Nat.mul_comm (Zh l 2 2) (Xi l)
  have hz1:Lh l=(Vc ((l.drop (12+8*Zh l 2 2)).take ((12+8*Xj l)-(12+8*Zh l 2 2)))&&Vc ((l.drop (12+8*Xj l+Xi l*Zh l 2 2)).take (244-(12+8*Xj l+Xi l*Zh l 2 2)))):=by unfold Lh Fn Zbp Fk Zn;rw[show 12+Zh l 2 2*8=12+8*Zh l 2 2 by omega,show 12+Xj l*8=12+8*Xj l by omega,Nat.mul_comm (Zh l 2 2) (Xi l)]
  have hB'7:=bln (bln (bln n2.below hb3) hb4) hb5
  refine xr 0 (args:=#[.slice (Qm a (12+(8*(Zh l 2 2))) c 1) ((12+(8*(Xj l)))-(12+(8*(Zh l 2 2)))) (c-(12+(8*(Zh l 2 2))))]) (Wz (Qm a (12+(8*(Zh l 2 2))) c 1) ((12+(8*(Xj l)))-(12+(8*(Zh l 2 2)))) (c-(12+(8*(Zh l 2 2)))) _ _ (by simp;omega) (by omega) ((Bys.cut h hl (12+8*Zh l 2 2) (12+8*Xj l) (by omega) (by omega)).below hB'7)) fun W13 hb13=>?_
  refine xg 1 [86,87] (Vc ((l.drop (12+8*Zh l 2 2)).take ((12+8*Xj l)-(12+8*Zh l 2 2)))) (fun hc14=>?_) (fun hc14=>?_)
  ·refine xwm 2 (8*(↑(Xj l):Int)) (↑(8*(Xj l)):Int) ?_
   refine xwm 0 (12+(↑(8*(Xj l)):Int)) (↑(12+(8*(Xj l))):Int) ?_
   have h5'4:=Zb h5'3 hb13
   refine xx 2 _ 6 2 1 (Zt (l:=Yf l) (Zf h5'4) rfl (k:=2) (by decide)).1 ?_
   refine xl 0 ((Zt (l:=Yf l) (Zf h5'4) rfl (k:=2) (by decide)).2) ?_
   refine xwm 0 ((↑(Xi l):Int)*(↑(Zh l 2 2):Int)) (↑((Xi l)*(Zh l 2 2)):Int) ?_
   refine xwm 0 ((↑(12+(8*(Xj l))):Int)+(↑((Xi l)*(Zh l 2 2)):Int)) (↑((12+(8*(Xj l)))+((Xi l)*(Zh l 2 2))):Int) ?_
   refine xsL 0 (fun _ _ _ _ zo zx zy V=>Yg (k:=((12+(8*(Xj l)))+((Xi l)*(Zh l 2 2)))) (b:=a) (n:=244) (c:=c) (i:=(↑((12+(8*(Xj l)))+((Xi l)*(Zh l 2 2))):Int)) (ki:=.i64) 1 zo zx zy rfl (by omega) Tryz.underlying22 (by kernel_rfl) V) ?_
   have hB'8:=bln hB'7 hb13
   refine xr 0 (args:=#[.slice (Qm a ((12+(8*(Xj l)))+((Xi l)*(Zh l 2 2))) c 1) (244-((12+(8*(Xj l)))+((Xi l)*(Zh l 2 2)))) (c-((12+(8*(Xj l)))+((Xi l)*(Zh l 2 2))))]) (Wz (Qm a ((12+(8*(Xj l)))+((Xi l)*(Zh l 2 2))) c 1) (244-((12+(8*(Xj l)))+((Xi l)*(Zh l 2 2)))) (c-((12+(8*(Xj l)))+((Xi l)*(Zh l 2 2)))) _ _ (by simp;omega) (by omega) ((Bys.cut h hl (12+8*Xj l+Xi l*Zh l 2 2) 244 (by omega) (by omega)).below hB'8)) fun W15 hb15=>?_
   have hB'9:=bln hB'8 hb15
   refine xe 5 (.bool (Vc ((l.drop (12+8*Xj l+Xi l*Zh l 2 2)).take (244-(12+8*Xj l+Xi l*Zh l 2 2))))) ?_
   rw[hs,hz1,hc14];exact⟨rfl,hB'9⟩
  have hB'10:=bln hB'7 hb13
  refine xe 17 (.bool false) ?_
  rw[hs,hz1,hc14];exact⟨rfl,hB'10⟩
 have hlf:Zh l 0 1=1:=by have q:((Zh l 0 1:Int)=1):=(by simpa using hc11);omega
 refine xx 15 _ 6 2 1 (Zt (l:=Yf l) (Zf h5'3) rfl (k:=2) (by decide)).1 ?_
 refine xl 0 ((Zt (l:=Yf l) (Zf h5'3) rfl (k:=2) (by decide)).2) ?_
 refine xwm 0 (8*(↑(Zh l 2 2):Int)) (↑(8*(Zh l 2 2)):Int) ?_
 refine xwm 0 (12+(↑(8*(Zh l 2 2)):Int)) (↑(12+(8*(Zh l 2 2))):Int) ?_
 refine xwm 1 (8*(↑(Xj l):Int)) (↑(8*(Xj l)):Int) ?_
 refine xwm 0 (12+(↑(8*(Xj l)):Int)) (↑(12+(8*(Xj l))):Int) ?_
 refine xsB 0 (fun _ _ _ _ _ zo zx zy zz V=>Qb (k:=(12+(8*(Zh l 2 2)))) (h:=(12+(8*(Xj l)))) (b:=a) (n:=244) (c:=c) (i:=(↑(12+(8*(Zh l 2 2))):Int)) (ki:=.i64) (j:=(↑(12+(8*(Xj l))):Int)) (kj:=.i64) 1 zo zx zy rfl zz rfl (by omega) (by omega) Tryz.underlying22 (by kernel_rfl) V) ?_
 have hr0:=raw1 l 0
 have hs:Kg l=true:=decide_eq_true ⟨by omega,by omega,by omega,by omega,by omega,by omega,by omega⟩
 obtain⟨hcm,hfit,hmle,hwle,hcw⟩:=Cp hs
 unfold Zn at hcm hcw
 have hwc:=Nat.mul_comm (Zh l 2 2) (Xi l)
 have hz1:Lh l=(Vc ((l.drop (12+8*Zh l 2 2)).take ((12+8*Xj l)-(12+8*Zh l 2 2)))&&Vc ((l.drop (12+8*Xj l+Xi l*Zh l 2 2)).take (244-(12+8*Xj l+Xi l*Zh l 2 2)))):=by unfold Lh Fn Zbp Fk Zn;rw[show 12+Zh l 2 2*8=12+8*Zh l 2 2 by omega,show 12+Xj l*8=12+8*Xj l by omega,Nat.mul_comm (Zh l 2 2) (Xi l)]
 have hB'11:=bln (bln (bln n2.below hb3) hb4) hb5
 refine xr 0 (args:=#[.slice (Qm a (12+(8*(Zh l 2 2))) c 1) ((12+(8*(Xj l)))-(12+(8*(Zh l 2 2)))) (c-(12+(8*(Zh l 2 2))))]) (Wz (Qm a (12+(8*(Zh l 2 2))) c 1) ((12+(8*(Xj l)))-(12+(8*(Zh l 2 2)))) (c-(12+(8*(Zh l 2 2)))) _ _ (by simp;omega) (by omega) ((Bys.cut h hl (12+8*Zh l 2 2) (12+8*Xj l) (by omega) (by omega)).below hB'11)) fun W16 hb16=>?_
 refine xg 1 [86,87] (Vc ((l.drop (12+8*Zh l 2 2)).take ((12+8*Xj l)-(12+8*Zh l 2 2)))) (fun hc17=>?_) (fun hc17=>?_)
 ·refine xwm 2 (8*(↑(Xj l):Int)) (↑(8*(Xj l)):Int) ?_
  refine xwm 0 (12+(↑(8*(Xj l)):Int)) (↑(12+(8*(Xj l))):Int) ?_
  have h5'5:=Zb h5'3 hb16
  refine xx 2 _ 6 2 1 (Zt (l:=Yf l) (Zf h5'5) rfl (k:=2) (by decide)).1 ?_
  refine xl 0 ((Zt (l:=Yf l) (Zf h5'5) rfl (k:=2) (by decide)).2) ?_
  refine xwm 0 ((↑(Xi l):Int)*(↑(Zh l 2 2):Int)) (↑((Xi l)*(Zh l 2 2)):Int) ?_
  refine xwm 0 ((↑(12+(8*(Xj l))):Int)+(↑((Xi l)*(Zh l 2 2)):Int)) (↑((12+(8*(Xj l)))+((Xi l)*(Zh l 2 2))):Int) ?_
  refine xsL 0 (fun _ _ _ _ zo zx zy V=>Yg (k:=((12+(8*(Xj l)))+((Xi l)*(Zh l 2 2)))) (b:=a) (n:=244) (c:=c) (i:=(↑((12+(8*(Xj l)))+((Xi l)*(Zh l 2 2))):Int)) (ki:=.i64) 1 zo zx zy rfl (by omega) Tryz.underlying22 (by kernel_rfl) V) ?_
  have hB'12:=bln hB'11 hb16
  refine xr 0 (args:=#[.slice (Qm a ((12+(8*(Xj l)))+((Xi l)*(Zh l 2 2))) c 1) (244-((12+(8*(Xj l)))+((Xi l)*(Zh l 2 2)))) (c-((12+(8*(Xj l)))+((Xi l)*(Zh l 2 2))))]) (Wz (Qm a ((12+(8*(Xj l)))+((Xi l)*(Zh l 2 2))) c 1) (244-((12+(8*(Xj l)))+((Xi l)*(Zh l 2 2)))) (c-((12+(8*(Xj l)))+((Xi l)*(Zh l 2 2)))) _ _ (by simp;omega) (by omega) ((Bys.cut h hl (12+8*Xj l+Xi l*Zh l 2 2) 244 (by omega) (by omega)).below hB'12)) fun W18 hb18=>?_
  have hB'13:=bln hB'12 hb18
  refine xe 5 (.bool (Vc ((l.drop (12+8*Xj l+Xi l*Zh l 2 2)).take (244-(12+8*Xj l+Xi l*Zh l 2 2))))) ?_
  rw[hs,hz1,hc17];exact⟨rfl,hB'13⟩
 have hB'14:=bln hB'11 hb16
 refine xe 17 (.bool false) ?_
 rw[hs,hz1,hc17];exact⟨rfl,hB'14⟩
def RGetP(l:List UInt8)(k w:Nat)(W:World)(e:Ending)(w':World):Prop :=
 (Zh l k w<9223372036854775808∧e=.returned (.tuple #[.int .i64 (Zh l k w:Int),.int .i64 0])∧Below W.heap.size W w')∨(¬ Zh l k w<9223372036854775808∧e=.returned (.tuple #[.int .i64 0,.int .i64 2])∧Below W.heap.size W w')
theorem ref_GetP(a:Option Addr)(n c k w:Nat)(l:List UInt8)(W:World)(hn:l.length=n)(hw:w=1∨w=2∨w=4∨w=8)(hk:k+w≤n)(hl:n≤100000000)(h:Bys W (.slice a n c) l)(ki wi:Int)(hki:ki=(k:Int))(hwi:wi=(w:Int)) :
 Calls Tryz.prog 101 #[.slice a n c,.int .i64 ki,.int .i64 wi] W (RGetP l k w W):=by
 subst hn hwi hki
 by_cases hq:Zh l k w<9223372036854775808
 ·refine(Bh a c k w l W hw hk hl h hq).mono ?_
  rintro e V ⟨rfl,hb⟩;exact .inl ⟨hq,rfl,hb⟩
 ·refine(Sr a c k w l W hw hk hl h hq).mono ?_
  rintro e V ⟨rfl,hb⟩;exact .inr ⟨hq,rfl,hb⟩
theorem Zgk{l:List UInt8}{i:Nat}(h:281474976710655<Zh l (12+i*8) 8):Nt l i=2:=by unfold Nt Dz;rw[if_pos h]
theorem keyE_low{l:List UInt8}{i:Nat}(h:¬ 281474976710655<Zh l (12+i*8) 8)(h0:0<i)(h1:(Zh l (12+i*8) 8:Int)≤(Yx l i).getD (i-1) 0):Nt l i=8:=by
 rw[Mz l (by omega)] at h1
 change ¬ 281474976710655<Dz l i at h
 change (Dz l i:Int)≤_ at h1
 unfold Nt
 rw[if_neg h,if_pos ⟨h0,by omega⟩]
theorem keyE_ok{l:List UInt8}{i:Nat}(h:¬ 281474976710655<Zh l (12+i*8) 8)(h0:¬ 0<i):Nt l i=0:=by
 change ¬ 281474976710655<Dz l i at h
 unfold Nt;rw[if_neg h,if_neg fun q=>h0 q.1]
theorem Zfz{l:List UInt8}{i:Nat}(h:¬ 281474976710655<Zh l (12+i*8) 8)(h0:0<i)(h1:¬ (Zh l (12+i*8) 8:Int)≤(Yx l i).getD (i-1) 0):Nt l i=0:=by
 rw[Mz l (by omega)] at h1
 change ¬ 281474976710655<Dz l i at h
 change ¬ (Dz l i:Int)≤_ at h1
 unfold Nt
 rw[if_neg h,if_neg fun q=>h1 (by have:=q.2;omega)]
theorem Zf6{a:Option Addr}{c i:Nat}{l:List UInt8}{w:World}(h:Bys w (.slice a 244 c) l)(hl:l.length=244)(hb:12+8*Xj l+Xi l*i+Xi l≤244) :
 Bys w (.slice (Qm a (12+8*Xj l+Xi l*i) c 1) (12+8*Xj l+Xi l*i+Xi l-(12+8*Xj l+Xi l*i)) (c-(12+8*Xj l+Xi l*i))) (Dx l i):=by
 have:=Bys.cut h hl (12+8*Xj l+Xi l*i) (12+8*Xj l+Xi l*i+Xi l) (by omega) hb
 unfold Dx
 rw[show 12+Xj l*8+i*Xi l=12+8*Xj l+Xi l*i by rw[Nat.mul_comm i];omega]
 rw[show(l.drop (12+8*Xj l+Xi l*i)).take (Xi l)=(l.drop (12+8*Xj l+Xi l*i)).take (12+8*Xj l+Xi l*i+Xi l-(12+8*Xj l+Xi l*i)) by rw[Nat.add_sub_cancel_left]]
 exact this
theorem Fx{i:Nat}{l:List UInt8}(hl:l.length=244)(hb:12+8*Xj l+Xi l*i+Xi l≤244):(Dx l i).length=12+8*Xj l+Xi l*i+Xi l-(12+8*Xj l+Xi l*i):=by
 unfold Dx;simp only[List.length_take,List.length_drop];rw[Nat.mul_comm i];omega
theorem rawC{l:List UInt8}(h:Zn l≤18):(l.getD 2 0).toNat=Zn l:=by
 have e:Zh l 2 2=(l.getD 2 0).toNat+256*(l.getD 3 0).toNat:=raw2 l 2
 unfold Zn at h ⊢
 omega
def RNodeP(l:List UInt8)(w:World)(e:Ending)(w':World):Prop :=
 (Yv l≠0∧e=.returned (.tuple #[.agg #[.int .i64 0,.bool false,.slice none 0 0,.slice none 0 0],.int .i64 (Yv l)])∧Below w.heap.size w w') ∨
 (Yv l=0∧∃ kp kc vp vc,e=.returned (.tuple #[.agg #[.int .i64 (Xr l),.bool (Xl l),.slice kp (Zn l) kc,.slice vp (Zn l) vc],.int .i64 0])∧Below w.heap.size w w' ∧
  w'.ownsRow w.heap.size 3 1 (.slice kp (Zn l) kc) (Zn l) ((Yx l (Zn l)).map (Value.int .i64))∧w'.ownsRow w.heap.size 9 1 (.slice vp (Zn l) vc) (Zn l) ((Kw l (Zn l)).map sv))
theorem ref07_Read(a:Option Addr)(c:Nat)(l:List UInt8)(w:World)(hl:l.length=244)(h:Bys w (.slice a 244 c) l) :
 Calls Tryz.prog 192 #[.slice a 244 c] w (RNodeP l w):=by
 have hcap:=Bys.cap h hl
 refine zin 94 Tryz.func192 ?_
 refine xa 2 [.int .i64 0,.bool false,.slice none 0 0,.slice none 0 0] 188 fun b1 W1 n1=>?_
 refine xr 7 (args:=#[.slice a 244 c]) (ref07_form a c l _ hl (h.below n1.below)) fun W2 hb2=>?_
 refine xi 3 (!(Kg l&&Lh l)) (fun hc3=>?_) (fun hc3=>?_)
 ·have he:Yv l=7:=by unfold Yv;by_cases q:Kg l=true<;>simp_all
  have k1:=n1.blk.below hb2
  refine xsv 3 k1 [.int .i64 0,.bool false,.slice none 0 0,.slice none 0 0] fun W4 u4 k4=>?_
  have g1:=n1.ge (Below.refl w.heap.size _)
  have hB'1:=u4.below (bln n1.below hb2) g1
  exact xec 5 k4 (.tuple #[.agg #[.int .i64 0,.bool false,.slice none 0 0,.slice none 0 0],.int .i64 7]) (.inl ⟨by rw[he];decide,by rw[he],hB'1⟩)
 have hsz:Kg l=true∧Lh l=true:=by simpa using hc3
 have hs:=hsz.1
 have hnz:=hsz.2
 obtain⟨hcm,hfit,hmle,hwle,hcw⟩:=Cp hs
 refine xd 3 (.t w.heap.size [188]) ?_
 refine xx (.e [0] 1) _ 244 1 1 (BysM.elem h hl (k:=1) (by omega)).1 ?_
 have hB'2:=bln (bln n1.below hb2) (Za W2)
 refine xlt (.e [] 2) (.t w.heap.size [188]) (fun V hV=>(BysM.elem (h.below (Ky hB'2 hV (Nat.le_refl _))) hl (k:=1) (by omega)).2) ?_
 refine xq (.e [] 3) (congrArg (Value.int .i64) (show(IntKind.i64.wrap (↑(l.getD 1 0).toNat:Int):Int)=(Xr l) from by unfold Xr;rw[raw1];exact Jr (by have:=(l.getD 1 0).toNat_lt;omega))) ?_
 refine xx (.e [4] 5) _ 244 0 1 (BysM.elem h hl (k:=0) (by omega)).1 ?_
 refine xlt (.e [] 6) (.t w.heap.size [188]) (fun V hV=>(BysM.elem (h.below (Ky hB'2 hV (Nat.le_refl _))) hl (k:=0) (by omega)).2) ?_
 refine xa (.o [7,8] 9) [.int .i64 0,.bool false,.slice none 0 0,.slice none 0 0] 188 fun b5 W5 n5=>?_
 have k1:=(n1.blk.below hb2).below (Za W2)
 have d5_b1:=n5.ne k1
 have g5:=n5.ge hB'2
 refine ysv (.o [] 10) n5.blk [.int .i64 (Xr l),.bool ((↑(l.getD 0 0).toNat:Int)==(1:Int)),.slice none 0 0,.slice none 0 0] (.t w.heap.size [188]) fun W6 u6 k6=>⟨(Zi u6 n5.blk g5 (by decide)),?_⟩
 refine xb 5 0 k6 ?_
 refine xb 1 1 k6 ?_
 refine xr 0 (args:=#[.int .i64 (Xr l),.bool ((↑(l.getD 0 0).toNat:Int)==(1:Int))]) (De (Xr l) (Xl l) _) fun W7 hb7=>?_
 have hB'3:=bln (u6.below (bln hB'2 n5.below) g5) hb7
 have k1'1:=(u6.blk (k1.below n5.below) (Ne.symm (Ne.symm d5_b1))).below hb7
 have k6'1:=k6.below hb7
 refine zl 10 94 (fun zm zkv V=>∃ (i:Nat) (kp:Option Addr) (kc:Nat) (vp:Option Addr) (vc:Nat),zkv=[(0,.slice a 244 c),(2,.pointer (some ⟨b1,0,none⟩)),(4,.pointer (some ⟨b5,0,none⟩)),(5,.int .i64 (↑(Xi l):Int)),(6,.int .i64 (↑i:Int))]∧zm=Zn l-((↑i:Int)).toNat∧Below w.heap.size w V∧Blk V b1 ([.int .i64 0,.bool false,.slice none 0 0,.slice none 0 0]) 188∧Blk V b5 ([.int .i64 (Xr l),.bool ((↑(l.getD 0 0).toNat:Int)==(1:Int)),.slice kp i kc,.slice vp i vc]) 188∧V.ownsRow w.heap.size 3 1 (.slice kp i kc) i ((Yx l i).map (Value.int .i64))∧V.ownsRow w.heap.size 9 1 (.slice vp i vc) i ((Kw l i).map sv)∧i≤Zn l∧Yd l i=0) ⟨0,none,0,none,0,rfl,rfl,hB'3,k1'1,k6'1,World.ownsRow_nil _ _ _ _,World.ownsRow_nil _ _ _ _,Nat.zero_le _,rfl⟩ ?_
 rintro _ _ W8 ⟨i,kp,kc,vp,vc,rfl,rfl,hB_8,k8_b1,k8_b5,hK,hV,hi,hz⟩ J8 hJ8 r8
 have hiw:(i+1)*Xi l=i*Xi l+Xi l:=Nat.succ_mul i (Xi l)
 have hiw2:i<Zn l→(i+1)*Xi l≤Xj l*Xi l:=fun hh=>Nat.mul_le_mul_right _ (by omega)
 have hiw3:=Nat.mul_comm i (Xi l)
 refine xx 5 _ 244 2 1 (BysM.elem h hl (k:=2) (by omega)).1 ?_
 refine xl 0 ((BysM.elem (h.below hB_8) hl (k:=2) (by omega)).2) ?_
 refine xq 0 (congrArg (Value.int .i64) (show(IntKind.i64.wrap (↑(l.getD 2 0).toNat:Int):Int)=(↑(Zn l):Int) from by rw[rawC (by omega)];exact Jr (by omega))) ?_
 refine xid 3 ((↑i:Int)<(↑(Zn l):Int)) (fun hc9=>?_) (fun hc9=>?_)
 ·refine xwm 8 (8*(↑i:Int)) (↑(8*i):Int) ?_
  refine xwm 0 (12+(↑(8*i):Int)) (↑(12+(8*i)):Int) ?_
  refine xc 0 (args:=#[.slice a 244 c,.int .i64 (↑(12+(8*i)):Int),.int .i64 8]) (ref_GetP a 244 c (12+i*8) 8 l _ hl (by decide) (by omega) (by decide) (h.below hB_8) _ 8 (by omega) rfl) ?_
  rintro e W10 hq10
  rcases hq10 with ⟨hgk,rfl,hb10⟩|⟨hgk,rfl,hb10⟩
  ·refine xid 18 ((↑(Zh l (12+i*8) 8):Int)>(281474976710655:Int)) (fun hc11=>?_) (fun hc11=>?_)
   ·have k8_b1'1:=k8_b1.below hb10
    refine xsv 3 k8_b1'1 [.int .i64 0,.bool false,.slice none 0 0,.slice none 0 0] fun W12 u12 k12=>?_
    have g1:=n1.ge (Below.refl w.heap.size _)
    have hB'4:=u12.below (bln hB_8 hb10) g1
    refine xec 10 k12 (.tuple #[.agg #[.int .i64 0,.bool false,.slice none 0 0,.slice none 0 0],.int .i64 2]) ?_
    have hke:Nt l i=2:=Zgk (by omega)
    have he:Yv l=2:=by unfold Yv;rw[if_pos hs,if_pos hnz,Uq hz (by rw[hke];decide) (by omega),hke]
    exact .inl ⟨by rw[he];decide,by rw[he],hB'4⟩
   refine xg 8 [52,53] (decide ((↑i:Int)>(0:Int))) (fun hc13=>?_) (fun hc13=>?_)
   ·have hc13:=of_decide_eq_true hc13
    have k8_b5'1:=k8_b5.below hb10
    refine xb 2 2 k8_b5'1 ?_
    refine xwm 1 ((↑i:Int)-1) (↑(i-1):Int) ?_
    have hK'1:=Zb hK hb10
    refine xx 0 _ i (i-1) 1 (IntsN.elem (Zf hK'1) (Yr l i) (k:=(i-1)) (by omega)).1 ?_
    refine xl 0 ((IntsN.elem (Zf hK'1) (Yr l i) (k:=(i-1)) (by omega)).2) ?_
    refine xid 4 ((↑(Zh l (12+i*8) 8):Int)≤((Yx l i).getD (i-1) 0)) (fun hc14=>?_) (fun hc14=>?_)
    ·have k8_b1'2:=k8_b1.below hb10
     refine xsv 3 k8_b1'2 [.int .i64 0,.bool false,.slice none 0 0,.slice none 0 0] fun W15 u15 k15=>?_
     have g1:=n1.ge (Below.refl w.heap.size _)
     have hB'5:=u15.below (bln hB_8 hb10) g1
     refine xec 10 k15 (.tuple #[.agg #[.int .i64 0,.bool false,.slice none 0 0,.slice none 0 0],.int .i64 8]) ?_
     have hke:Nt l i=8:=keyE_low (by omega) (by omega) (by omega)
     have he:Yv l=8:=by unfold Yv;rw[if_pos hs,if_pos hnz,Uq hz (by rw[hke];decide) (by omega),hke]
     exact .inl ⟨by rw[he];decide,by rw[he],hB'5⟩
    refine xb 5 0 k8_b5'1 ?_
    refine xb 1 1 k8_b5'1 ?_
    refine xr 0 (args:=#[.int .i64 (Xr l),.bool ((↑(l.getD 0 0).toNat:Int)==(1:Int))]) (Ch (Xr l) (Xl l) _) fun W16 hb16=>?_
    refine xwm 0 (8*(↑(Xj l):Int)) (↑(8*(Xj l)):Int) ?_
    refine xwm 0 (12+(↑(8*(Xj l)):Int)) (↑(12+(8*(Xj l))):Int) ?_
    refine xwm 2 ((↑(Xi l):Int)*(↑i:Int)) (↑((Xi l)*i):Int) ?_
    refine xwm 0 ((↑(12+(8*(Xj l))):Int)+(↑((Xi l)*i):Int)) (↑((12+(8*(Xj l)))+((Xi l)*i)):Int) ?_
    have k8_b5'2:=k8_b5'1.below hb16
    refine xb 6 2 k8_b5'2 ?_
    refine xbs 1 1 [.int .i64 (↑(Zh l (12+i*8) 8):Int)] 3 fun b17 W17 n17=>?_
    have hB'6:=bln (bln hB_8 hb10) hb16
    have g17:=n17.ge hB'6
    have hK'2:=Zb hK'1 hb16
    have r17_hK:=Zu hK'2 n17
    have hK'3:=Zb hK'2 n17.below
    have hB'7:=bln hB'6 n17.below
    refine xbi 0 fun _ _ _ _ zJ zQ zo zx zy zK=>Zp (m:=1) (news:=[.int .i64 (↑(Zh l (12+i*8) 8):Int)]) (.int .i64 0) 1 8 (i+1) ((Yx l (i+1)).map (Value.int .i64)) zo Tryz.underlying30 (by kernel_rfl) rfl (by decide) zx hK'3 zy (n17.blk.sl 1 1 (by decide) (by decide)) rfl (by simp[Value.oneCell']) (by unfold maxLen;omega) (by omega) hB'7.size (by rfl) (by rw[Cb,List.map_append];rfl) fun px18 cx18 W18 o18 hg18 hb18=>?_
    refine zK _ _ ?_
    have k8_b5'3:=(k8_b5'2.below n17.below).grown hg18 hK'3 (by decide)
    refine xs 1 k8_b5'3 [.int .i64 (Xr l),.bool ((↑(l.getD 0 0).toNat:Int)==(1:Int)),.slice px18 (i+1) cx18,.slice vp i vc] fun W19 u19 k19=>?_
    refine xd 2 (.t w.heap.size [9,188]) ?_
    refine xwm (.e [0,2,3,4,5] 6) ((↑((12+(8*(Xj l)))+((Xi l)*i)):Int)+(↑(Xi l):Int)) (↑(((12+(8*(Xj l)))+((Xi l)*i))+(Xi l)):Int) ?_
    refine xsB (.e [] 7) (fun _ _ _ _ _ zo zx zy zz V=>Qb (k:=((12+(8*(Xj l)))+((Xi l)*i))) (h:=(((12+(8*(Xj l)))+((Xi l)*i))+(Xi l))) (b:=a) (n:=244) (c:=c) (i:=(↑((12+(8*(Xj l)))+((Xi l)*i)):Int)) (ki:=.i64) (j:=(↑(((12+(8*(Xj l)))+((Xi l)*i))+(Xi l)):Int)) (kj:=.i64) 1 zo zx zy rfl zz rfl (by omega) (by omega) Tryz.underlying22 (by kernel_rfl) V) ?_
    have hV'1:=Zb (u19.own2 (Zg (Zb (Zb (Zb hV hb10) hb16) n17.below) hg18 hK'3 (by decide)) k8_b5'3 (by decide)) (Za W19)
    have hB'8:=bln (u19.below (hB'7.trans hb18) g5) (Za W19)
    refine xcvt (.e [] 8) (.t w.heap.size [9,188]) (fun _ _ _ zo zx V hV'1=>Qi zo zx ((Zf6 (i:=i) h hl (by omega)).below (Ky hB'8 hV'1 (Nat.le_refl _))) (Fx (i:=i) hl (by omega)) Tryz.underlying22 Tryz.underlying5 Tryz.underlying9) ?_
    refine xm2 0 1 9 ?_ ?_
    ·have k19'1:=k19.below (Za W19)
     refine xb 0 3 k19'1 ?_
     refine xbs (.o [] 9) 1 [.string ⟨(Dx l i).toArray⟩] 9 fun b20 W20 n20=>?_
     have g20:=n20.ge hB'8
     have r20_hV:=Zu hV'1 n20
     have hV'2:=Zb hV'1 n20.below
     have hB'9:=bln hB'8 n20.below
     refine ybi (.o [] 10) (.t w.heap.size [9,188]) fun _ _ _ _ zJ zQ zo zx zy zK=>Zp (m:=1) (news:=[.string ⟨(Dx l i).toArray⟩]) (.string ⟨#[]⟩) 1 16 (i+1) ((Kw l (i+1)).map sv) zo Tryz.underlying57 (by kernel_rfl) rfl (by decide) zx hV'2 zy (n20.blk.sl 1 1 (by decide) (by decide)) rfl (by simp[Value.oneCell']) (by unfold maxLen;omega) (by omega) hB'9.size (by rfl) (by rw[Hs,List.map_append];rfl) fun px21 cx21 W21 o21 hg21 hb21=>?_
     refine zK _ _ (Zr hb21 hg21 hV'2 (by decide)) ?_
     have k19'2:=(k19'1.below n20.below).grown hg21 hV'2 (by decide)
     refine ys (.o [11] 12) k19'2 [.int .i64 (Xr l),.bool ((↑(l.getD 0 0).toNat:Int)==(1:Int)),.slice px18 (i+1) cx18,.slice px21 (i+1) cx21] (.t w.heap.size [9,188]) fun W22 u22 k22=>⟨(Zi u22 k19'2 g5 (by decide)),?_⟩
     refine xwm 5 ((↑i:Int)+1) (↑(i+1):Int) ?_
     have hB'10:=u22.below (hB'9.trans hb21) g5
     have k8_b1'3:=u22.blk ((((u19.blk ((((k8_b1.below hb10).below hb16).below n17.below).grown hg18 hK'3 (by decide)) (Ne.symm (Ne.symm d5_b1))).below (Za W19)).below n20.below).grown hg21 hV'2 (by decide)) (Ne.symm (Ne.symm d5_b1))
     have o18'1:=u22.own2 (Zg (Zb (Zb (u19.own2 o18 k8_b5'3 (by decide)) (Za W19)) n20.below) hg21 hV'2 (by decide)) k19'2 (by decide)
     have o21'1:=u22.own2 o21 k19'2 (by decide)
     exact ze 2 (hJ8 _ _ _ ⟨i+1,_,_,_,_,rfl,rfl,hB'10,k8_b1'3,k22,o18'1,o21'1,by omega,Vh hz (Zfz (by omega) (by omega) (by omega))⟩ (by omega))
    refine xbs 0 1 [.string ⟨(Dx l i).toArray⟩] 9 fun b23 W23 n23=>?_
    have g23:=n23.ge hB'8
    have r23_hV:=Zu hV'1 n23
    have k19'3:=(k19.below (Za W19)).below n23.below
    refine xb (.o [] 1) 3 k19'3 ?_
    have hV'3:=Zb hV'1 n23.below
    have hB'11:=bln hB'8 n23.below
    refine ybi (.o [] 10) (.t w.heap.size [9,188]) fun _ _ _ _ zJ zQ zo zx zy zK=>Zp (m:=1) (news:=[.string ⟨(Dx l i).toArray⟩]) (.string ⟨#[]⟩) 1 16 (i+1) ((Kw l (i+1)).map sv) zo Tryz.underlying57 (by kernel_rfl) rfl (by decide) zx hV'3 zy (n23.blk.sl 1 1 (by decide) (by decide)) rfl (by simp[Value.oneCell']) (by unfold maxLen;omega) (by omega) hB'11.size (by rfl) (by rw[Hs,List.map_append];rfl) fun px24 cx24 W24 o24 hg24 hb24=>?_
    refine zK _ _ (Zr hb24 hg24 hV'3 (by decide)) ?_
    have k19'4:=k19'3.grown hg24 hV'3 (by decide)
    refine ys (.o [11] 12) k19'4 [.int .i64 (Xr l),.bool ((↑(l.getD 0 0).toNat:Int)==(1:Int)),.slice px18 (i+1) cx18,.slice px24 (i+1) cx24] (.t w.heap.size [9,188]) fun W25 u25 k25=>⟨(Zi u25 k19'4 g5 (by decide)),?_⟩
    refine xwm 5 ((↑i:Int)+1) (↑(i+1):Int) ?_
    have hB'12:=u25.below (hB'11.trans hb24) g5
    have k8_b1'4:=u25.blk ((((u19.blk ((((k8_b1.below hb10).below hb16).below n17.below).grown hg18 hK'3 (by decide)) (Ne.symm (Ne.symm d5_b1))).below (Za W19)).below n23.below).grown hg24 hV'3 (by decide)) (Ne.symm (Ne.symm d5_b1))
    have o18'2:=u25.own2 (Zg (Zb (Zb (u19.own2 o18 k8_b5'3 (by decide)) (Za W19)) n23.below) hg24 hV'3 (by decide)) k19'4 (by decide)
    have o24'1:=u25.own2 o24 k19'4 (by decide)
    exact ze 2 (hJ8 _ _ _ ⟨i+1,_,_,_,_,rfl,rfl,hB'12,k8_b1'4,k25,o18'2,o24'1,by omega,Vh hz (Zfz (by omega) (by omega) (by omega))⟩ (by omega))
   have hc13:=of_decide_eq_false hc13
   have k8_b5'4:=k8_b5.below hb10
   refine xb 17 0 k8_b5'4 ?_
   refine xb 1 1 k8_b5'4 ?_
   refine xr 0 (args:=#[.int .i64 (Xr l),.bool ((↑(l.getD 0 0).toNat:Int)==(1:Int))]) (Ch (Xr l) (Xl l) _) fun W26 hb26=>?_
   refine xwm 0 (8*(↑(Xj l):Int)) (↑(8*(Xj l)):Int) ?_
   refine xwm 0 (12+(↑(8*(Xj l)):Int)) (↑(12+(8*(Xj l))):Int) ?_
   refine xwm 2 ((↑(Xi l):Int)*(↑i:Int)) (↑((Xi l)*i):Int) ?_
   refine xwm 0 ((↑(12+(8*(Xj l))):Int)+(↑((Xi l)*i):Int)) (↑((12+(8*(Xj l)))+((Xi l)*i)):Int) ?_
   have k8_b5'5:=k8_b5'4.below hb26
   refine xb 6 2 k8_b5'5 ?_
   refine xbs 1 1 [.int .i64 (↑(Zh l (12+i*8) 8):Int)] 3 fun b27 W27 n27=>?_
   have hB'13:=bln (bln hB_8 hb10) hb26
   have g27:=n27.ge hB'13
   have hK'4:=Zb (Zb hK hb10) hb26
   have r27_hK:=Zu hK'4 n27
   have hK'5:=Zb hK'4 n27.below
   have hB'14:=bln hB'13 n27.below
   refine xbi 0 fun _ _ _ _ zJ zQ zo zx zy zK=>Zp (m:=1) (news:=[.int .i64 (↑(Zh l (12+i*8) 8):Int)]) (.int .i64 0) 1 8 (i+1) ((Yx l (i+1)).map (Value.int .i64)) zo Tryz.underlying30 (by kernel_rfl) rfl (by decide) zx hK'5 zy (n27.blk.sl 1 1 (by decide) (by decide)) rfl (by simp[Value.oneCell']) (by unfold maxLen;omega) (by omega) hB'14.size (by rfl) (by rw[Cb,List.map_append];rfl) fun px28 cx28 W28 o28 hg28 hb28=>?_
   refine zK _ _ ?_
   have k8_b5'6:=(k8_b5'5.below n27.below).grown hg28 hK'5 (by decide)
   refine xs 1 k8_b5'6 [.int .i64 (Xr l),.bool ((↑(l.getD 0 0).toNat:Int)==(1:Int)),.slice px28 (i+1) cx28,.slice vp i vc] fun W29 u29 k29=>?_
   refine xd 2 (.t w.heap.size [9,188]) ?_
   refine xwm (.e [0,2,3,4,5] 6) ((↑((12+(8*(Xj l)))+((Xi l)*i)):Int)+(↑(Xi l):Int)) (↑(((12+(8*(Xj l)))+((Xi l)*i))+(Xi l)):Int) ?_
   refine xsB (.e [] 7) (fun _ _ _ _ _ zo zx zy zz V=>Qb (k:=((12+(8*(Xj l)))+((Xi l)*i))) (h:=(((12+(8*(Xj l)))+((Xi l)*i))+(Xi l))) (b:=a) (n:=244) (c:=c) (i:=(↑((12+(8*(Xj l)))+((Xi l)*i)):Int)) (ki:=.i64) (j:=(↑(((12+(8*(Xj l)))+((Xi l)*i))+(Xi l)):Int)) (kj:=.i64) 1 zo zx zy rfl zz rfl (by omega) (by omega) Tryz.underlying22 (by kernel_rfl) V) ?_
   have hV'4:=Zb (u29.own2 (Zg (Zb (Zb (Zb hV hb10) hb26) n27.below) hg28 hK'5 (by decide)) k8_b5'6 (by decide)) (Za W29)
   have hB'15:=bln (u29.below (hB'14.trans hb28) g5) (Za W29)
   refine xcvt (.e [] 8) (.t w.heap.size [9,188]) (fun _ _ _ zo zx V hV'4=>Qi zo zx ((Zf6 (i:=i) h hl (by omega)).below (Ky hB'15 hV'4 (Nat.le_refl _))) (Fx (i:=i) hl (by omega)) Tryz.underlying22 Tryz.underlying5 Tryz.underlying9) ?_
   refine xm2 0 1 9 ?_ ?_
   ·have k29'1:=k29.below (Za W29)
    refine xb 0 3 k29'1 ?_
    refine xbs (.o [] 9) 1 [.string ⟨(Dx l i).toArray⟩] 9 fun b30 W30 n30=>?_
    have g30:=n30.ge hB'15
    have r30_hV:=Zu hV'4 n30
    have hV'5:=Zb hV'4 n30.below
    have hB'16:=bln hB'15 n30.below
    refine ybi (.o [] 10) (.t w.heap.size [9,188]) fun _ _ _ _ zJ zQ zo zx zy zK=>Zp (m:=1) (news:=[.string ⟨(Dx l i).toArray⟩]) (.string ⟨#[]⟩) 1 16 (i+1) ((Kw l (i+1)).map sv) zo Tryz.underlying57 (by kernel_rfl) rfl (by decide) zx hV'5 zy (n30.blk.sl 1 1 (by decide) (by decide)) rfl (by simp[Value.oneCell']) (by unfold maxLen;omega) (by omega) hB'16.size (by rfl) (by rw[Hs,List.map_append];rfl) fun px31 cx31 W31 o31 hg31 hb31=>?_
    refine zK _ _ (Zr hb31 hg31 hV'5 (by decide)) ?_
    have k29'2:=(k29'1.below n30.below).grown hg31 hV'5 (by decide)
    refine ys (.o [11] 12) k29'2 [.int .i64 (Xr l),.bool ((↑(l.getD 0 0).toNat:Int)==(1:Int)),.slice px28 (i+1) cx28,.slice px31 (i+1) cx31] (.t w.heap.size [9,188]) fun W32 u32 k32=>⟨(Zi u32 k29'2 g5 (by decide)),?_⟩
    refine xwm 5 ((↑i:Int)+1) (↑(i+1):Int) ?_
    have hB'17:=u32.below (hB'16.trans hb31) g5
    have k8_b1'5:=u32.blk ((((u29.blk ((((k8_b1.below hb10).below hb26).below n27.below).grown hg28 hK'5 (by decide)) (Ne.symm (Ne.symm d5_b1))).below (Za W29)).below n30.below).grown hg31 hV'5 (by decide)) (Ne.symm (Ne.symm d5_b1))
    have o28'1:=u32.own2 (Zg (Zb (Zb (u29.own2 o28 k8_b5'6 (by decide)) (Za W29)) n30.below) hg31 hV'5 (by decide)) k29'2 (by decide)
    have o31'1:=u32.own2 o31 k29'2 (by decide)
    exact ze 2 (hJ8 _ _ _ ⟨i+1,_,_,_,_,rfl,rfl,hB'17,k8_b1'5,k32,o28'1,o31'1,by omega,Vh hz (keyE_ok (by omega) (by omega))⟩ (by omega))
   refine xbs 0 1 [.string ⟨(Dx l i).toArray⟩] 9 fun b33 W33 n33=>?_
   have g33:=n33.ge hB'15
   have r33_hV:=Zu hV'4 n33
   have k29'3:=(k29.below (Za W29)).below n33.below
   refine xb (.o [] 1) 3 k29'3 ?_
   have hV'6:=Zb hV'4 n33.below
   have hB'18:=bln hB'15 n33.below
   refine ybi (.o [] 10) (.t w.heap.size [9,188]) fun _ _ _ _ zJ zQ zo zx zy zK=>Zp (m:=1) (news:=[.string ⟨(Dx l i).toArray⟩]) (.string ⟨#[]⟩) 1 16 (i+1) ((Kw l (i+1)).map sv) zo Tryz.underlying57 (by kernel_rfl) rfl (by decide) zx hV'6 zy (n33.blk.sl 1 1 (by decide) (by decide)) rfl (by simp[Value.oneCell']) (by unfold maxLen;omega) (by omega) hB'18.size (by rfl) (by rw[Hs,List.map_append];rfl) fun px34 cx34 W34 o34 hg34 hb34=>?_
   refine zK _ _ (Zr hb34 hg34 hV'6 (by decide)) ?_
   have k29'4:=k29'3.grown hg34 hV'6 (by decide)
   refine ys (.o [11] 12) k29'4 [.int .i64 (Xr l),.bool ((↑(l.getD 0 0).toNat:Int)==(1:Int)),.slice px28 (i+1) cx28,.slice px34 (i+1) cx34] (.t w.heap.size [9,188]) fun W35 u35 k35=>⟨(Zi u35 k29'4 g5 (by decide)),?_⟩
   refine xwm 5 ((↑i:Int)+1) (↑(i+1):Int) ?_
   have hB'19:=u35.below (hB'18.trans hb34) g5
   have k8_b1'6:=u35.blk ((((u29.blk ((((k8_b1.below hb10).below hb26).below n27.below).grown hg28 hK'5 (by decide)) (Ne.symm (Ne.symm d5_b1))).below (Za W29)).below n33.below).grown hg34 hV'6 (by decide)) (Ne.symm (Ne.symm d5_b1))
   have o28'2:=u35.own2 (Zg (Zb (Zb (u29.own2 o28 k8_b5'6 (by decide)) (Za W29)) n33.below) hg34 hV'6 (by decide)) k29'4 (by decide)
   have o34'1:=u35.own2 o34 k29'4 (by decide)
   exact ze 2 (hJ8 _ _ _ ⟨i+1,_,_,_,_,rfl,rfl,hB'19,k8_b1'6,k35,o28'2,o34'1,by omega,Vh hz (keyE_ok (by omega) (by omega))⟩ (by omega))
  have k8_b1'7:=k8_b1.below hb10
  refine xsv 22 k8_b1'7 [.int .i64 0,.bool false,.slice none 0 0,.slice none 0 0] fun W36 u36 k36=>?_
  have g1:=n1.ge (Below.refl w.heap.size _)
  have hB'20:=u36.below (bln hB_8 hb10) g1
  refine xec 10 k36 (.tuple #[.agg #[.int .i64 0,.bool false,.slice none 0 0,.slice none 0 0],.int .i64 2]) ?_
  have hke:Nt l i=2:=Zgk (by omega)
  have he:Yv l=2:=by unfold Yv;rw[if_pos hs,if_pos hnz,Uq hz (by rw[hke];decide) (by omega),hke]
  exact .inl ⟨by rw[he];decide,by rw[he],hB'20⟩
 refine xlv 7 k8_b5.rp ?_
 refine xsv 0 k8_b1 [.int .i64 (Xr l),.bool ((↑(l.getD 0 0).toNat:Int)==(1:Int)),.slice kp i kc,.slice vp i vc] fun W37 u37 k37=>?_
 have g1:=n1.ge (Below.refl w.heap.size _)
 have hB'21:=u37.below hB_8 g1
 have hK'6:=u37.own2 hK k8_b1 (by decide)
 have hV'7:=u37.own2 hV k8_b1 (by decide)
 refine xec 4 k37 (.tuple #[.agg #[.int .i64 (Xr l),.bool ((↑(l.getD 0 0).toNat:Int)==(1:Int)),.slice kp i kc,.slice vp i vc],.int .i64 0]) ?_
 obtain rfl:i=Zn l:=by omega
 exact .inr ⟨by unfold Yv;rw[if_pos hs,if_pos hnz,hz],_,_,_,_,rfl,hB'21,hK'6,hV'7⟩
def Va(l:List Int)(x:Int):Bool:=l.any fun y=>decide (x=y)
theorem Zbm{l:List Int}{x:Int}{i:Nat}(hi:i<l.length)(h:x=l.getD i 0):Va l x=true:=by
 unfold Va
 rw[List.any_eq_true]
 exact⟨l[i],List.getElem_mem _,by rw[decide_eq_true_iff,h];simp[hi]⟩
theorem Ij{l:List Int}{x:Int}(h:∀ j,j<l.length→x≠l.getD j 0):Va l x=false:=by
 unfold Va
 rw[List.any_eq_false]
 intro y hy
 obtain⟨j,hj,rfl⟩:=List.getElem_of_mem hy
 have:=h j hj
 simpa [hj] using this
theorem indexI(a:Option Addr)(c:Nat)(l:List Int)(x:Int)(w:World)(h:Ints w (.slice a l.length c) l)(hln:l.length≤1000000) :
 Calls Tryz.prog 204 #[.slice a l.length c,.int .i64 x] w (fun e w'=>(Va l x=false∧e=.returned (.int .i64 (-1))∧Below w.heap.size w w')∨(Va l x=true∧∃ i:Nat,e=.returned (.int .i64 (i:Int))∧Below w.heap.size w w')):=by
 refine zin 19 Tryz.func204 ?_
 have hB:=Below.refl w.heap.size w
 refine zl 14 19 (fun zm zkv V=>∃ (i:Nat),zkv=[(0,.slice a l.length c),(1,.int .i64 x),(7,.int .i64 (↑l.length:Int)),(8,.int .i64 (↑i:Int))]∧zm=l.length-((↑i:Int)).toNat∧Below w.heap.size w V∧i≤l.length∧(∀ j,j<i→x≠l.getD j 0)) ⟨0,rfl,rfl,hB,Nat.zero_le _,?_⟩ ?_
 ·exact fun j hj=>absurd hj (by omega)
 rintro _ _ W1 ⟨i,rfl,rfl,hB_1,hi,hz⟩ J1 hJ1 r1
 refine xid 6 ((↑i:Int)<(↑l.length:Int)) (fun hc2=>?_) (fun hc2=>?_)
 ·refine xx 15 _ l.length i 1 (Ints.elem h (k:=i) (by omega)).1 ?_
  refine xl 0 ((Ints.elem (h.below hB_1) (k:=i) (by omega)).2) ?_
  refine xie 3 x (l.getD i 0) (fun hc3=>?_) (fun hc3=>?_)
  ·exact xe 12 (.int .i64 (↑i:Int)) (.inr ⟨Zbm (i:=i) (by omega) (by omega),_,rfl,hB_1⟩)
  refine xwm 4 ((↑i:Int)+1) (↑(i+1):Int) ?_
  exact ze 2 (hJ1 _ _ _ ⟨i+1,rfl,rfl,hB_1,by omega,fun j hj=>(Nat.lt_or_ge j i).elim (hz j) (fun q=>by obtain rfl:j=i:=(by omega);omega)⟩ (by omega))
 exact xe 11 (.int .i64 (-1)) (.inl ⟨Ij (fun j hj=>hz j (by omega)),rfl,hB_1⟩)
theorem containsI(a:Option Addr)(c:Nat)(l:List Int)(x:Int)(w:World)(h:Ints w (.slice a l.length c) l)(hln:l.length≤1000000) :
 Calls Tryz.prog 187 #[.slice a l.length c,.int .i64 x] w (Ret (.bool (Va l x)) w):=by
 refine zin 9 Tryz.func187 ?_
 refine xc 9 (args:=#[.slice a l.length c,.int .i64 x]) (indexI a c l x _ (h.below (Below.refl w.heap.size _)) hln) ?_
 rintro e W1 hq1
 rcases hq1 with ⟨hz,rfl,hb1⟩|⟨hz,i0,rfl,hb1⟩
 ·refine xe 5 (.bool false) ?_
  rw[hz];exact⟨rfl,hb1⟩
 refine xe 5 (.bool (decide ((↑i0:Int)≥(0:Int)))) ?_
 rw[hz,show decide ((↑i0:Int)≥(0:Int))=true from decide_eq_true (by omega)];exact⟨rfl,hb1⟩
end Go.Proofs.YthlakkdgcgkcdaaGreatDoor
namespace Go.Proofs.YthlakkdgcgkcdaaGreatDoor
set_option maxHeartbeats 8000000
set_option maxRecDepth 100000
open Go.RowKit
set_option linter.unusedVariables false
attribute [local go_sem] Oper.semAt_some
def Ve(hi:Int)(l:List Int):List (Int×Int):=(List.range l.length).map (Xb hi l)
def Lq(lo hi:Int)(l:List Int)(i:Int):(Int×Int)×Int :=
 if Ys lo hi l=0 then if 0≤i∧i<l.length then(Xb hi l i.toNat,0) else((0,0),3) else((0,0),Ys lo hi l)
theorem child_bad{lo hi i:Int}{l:List Int}(h:Ys lo hi l≠0):Lq lo hi l i=((0,0),Ys lo hi l):=by simp[Lq,h]
theorem child_out{lo hi i:Int}{l:List Int}(h:Ys lo hi l=0)(hi':¬ (0≤i∧i<l.length)):Lq lo hi l i=((0,0),3):=by simp only[Lq,h,if_true];rw[if_neg hi']
theorem En{lo hi:Int}{l:List Int}{i:Nat}(h:Ys lo hi l=0)(hi':i<l.length):Lq lo hi l i=(Xb hi l i,0):=by
 simp only[Lq,h,if_true];rw[if_pos ⟨by omega,by omega⟩];simp
def Gi(hi:Int)(l:List Int)(cs:List Value)(x:Fin l.length):List Value :=
 (cs.set (qOf x*2) (.int .i64 (Xb hi l (qOf x)).1)).set (qOf x*2+1) (.int .i64 (Xb hi l (qOf x)).2)
def outC(hi:Int)(l:List Int)(pre:List (Fin l.length)):List Value:=pre.foldl (Gi hi l) (Hn [.int .i64 0,.int .i64 0] l.length)
theorem outC_snoc(hi:Int)(l:List Int)(pre:List (Fin l.length))(x:Fin l.length):outC hi l (pre++[x])=Gi hi l (outC hi l pre) x:=by simp[outC]
theorem Ns(hi:Int)(l:List Int):∀ (pre:List (Fin l.length)) (cs:List Value),(pre.foldl (Gi hi l) cs).length=cs.length
 | [],_=>rfl
 | x::pre,cs=>by rw[List.foldl_cons,Ns hi l pre];simp[Gi]
theorem Fg(hi:Int)(l:List Int)(pre:List (Fin l.length)):(outC hi l pre).length=l.length*2:=by
 rw[outC,Ns,Cz];rfl
theorem Rv(hi:Int)(l:List Int)(q:Nat)(hq:q<l.length):∀ (pre:List (Fin l.length)) (cs:List Value),cs.length=l.length*2 →
  ((∃ x∈pre,qOf x=q)∨(cs[q*2]? = some (.int .i64 (Xb hi l q).1)∧cs[q*2+1]? = some (.int .i64 (Xb hi l q).2))) →
  (pre.foldl (Gi hi l) cs)[q*2]? = some (.int .i64 (Xb hi l q).1)∧(pre.foldl (Gi hi l) cs)[q*2+1]? = some (.int .i64 (Xb hi l q).2)
 | [],cs,hl,h=>by
  rcases h with ⟨x,hx,_⟩|h
  ·cases hx
  ·exact h
 | x::pre,cs,hl,h=>by
  rw[List.foldl_cons]
  refine Rv hi l q hq pre _ (by simp[Gi,hl]) ?_
  by_cases hx:qOf x=q
  ·subst hx
   refine .inr ⟨?_,?_⟩
   ·simp only[Gi];rw[List.getElem?_set_ne (by omega),List.getElem?_set_self (by omega)]
   ·simp only[Gi];rw[List.getElem?_set_self (by simp;omega)]
  ·rcases h with ⟨y,hy,hyq⟩|h
   ·rcases List.mem_cons.1 hy with rfl|hy
    ·exact absurd hyq hx
    ·exact .inl ⟨y,hy,hyq⟩
   ·refine .inr ⟨?_,?_⟩
    ·simp only[Gi];rw[List.getElem?_set_ne (by omega),List.getElem?_set_ne (by omega)];exact h.1
    ·simp only[Gi];rw[List.getElem?_set_ne (by omega),List.getElem?_set_ne (by omega)];exact h.2
theorem outC_all(hi:Int)(l:List Int):outC hi l (List.finRange l.length)=Po (Ve hi l):=by
 have hs:(Ve hi l).length=l.length:=by simp[Ve]
 have hg:∀ q,q<l.length→(Ve hi l)[q]? = some (Xb hi l q):=fun q hq=>by simp[Ve,hq]
 apply List.ext_getElem?
 intro j
 by_cases hj:j<l.length*2
 ·have hq:j/2<l.length:=by omega
  have h:=Rv hi l (j/2) hq (List.finRange l.length) (Hn [.int .i64 0,.int .i64 0] l.length) (by rw[Cz];rfl)
   (.inl ⟨⟨l.length-1-j/2,by omega⟩,by simp,by simp only[qOf];omega⟩)
  by_cases h2:j%2=0
  ·have e:j=j/2*2:=by omega
   rw[e,Cl,hg _ hq];exact h.1
  ·have e:j=j/2*2+1:=by omega
   rw[e,Zcf,hg _ hq];exact h.2
 ·rw[List.getElem?_eq_none (by rw[Fg];omega),List.getElem?_eq_none (by rw[Da,hs];omega)]
def Zbw(lo hi:Int)(l:List Int):List (Int×Int):=if Ys lo hi l=0 then Ve hi l else []
theorem Tryz.info173:(Tryz.prog.info? 173).map (fun i=>(i.zero,i.size,i.bytes))=some (some (.agg #[.int .i64 0,.int .i64 0]),2,16):=by kernel_rfl
theorem Zd3(lo hi:Int)(v:Value)(l:List Int)(w:World)(hlen:l.length≤1000000)(hl:Ints w v l) :
 Calls Tryz.prog 142 #[spanV lo hi,v] w (Vn (fun w' r=>Pairs w' r (Zbw lo hi l)∧(Ys lo hi l=0→∃ g,r=.slice (some ⟨g,0,none⟩) l.length l.length∧w.heap.size≤g∧Blk w' g (Po (Ve hi l)) 173)) w):=by
 obtain⟨i0,hi0,hz0,hz1,hz2⟩:=info_parts Tryz.info173
 have hmk:=fun w=>Ai (P:=Tryz.prog) (t:=244) (e:=173) (i:=i0) [.int .i64 0,.int .i64 0] Tryz.underlying244 hi0 hz0 rfl hz1 hz2 l.length (by omega) (by omega) w
 clear hi0 hz0 hz1 hz2
 unfold spanV
 refine Ug Tryz.func142 rfl ?_
 simp only[Tryz.ntmps142,List.size_toArray,List.length_cons,List.length_nil,Nat.reduceAdd,Nat.reduceSub,Array.replicate_succ,Array.replicate_zero,List.push_toArray,List.append_toArray,List.nil_append,List.cons_append]
 go_wp2_with fail
 refine(Fz lo hi v l _ (hl.below (blx _ _))).mono ?_
 rintro e w' ⟨rfl,hb⟩
 have k0:=Blk.below (Blk.new w [.int .i64 lo,.int .i64 hi] 173) hb
 have hB:Below w.heap.size w w':=bln (blx _ _) hb
 have hl':=hl.below hB
 have HB:l.length≠0→∀ {b off n cap:Nat},v=.slice (some ⟨b,off,none⟩) n cap→b<w.heap.size:=fun h _ _ _ _ e=>hl.blk h e
 clear hb hl
 obtain⟨a,c,rfl⟩:=hl'.slice
 have z0:=k0.lt
 have c00:=k0.cell (i:=0) rfl
 have c01:=k0.cell (i:=1) rfl
 by_cases hf:Ys lo hi l=0
 case neg =>
  have hf2:(Ys lo hi l != 0)=true:=by simpa using hf
  have HF:=Lib.hid hf;clear hf
  go_wp2_with fail
  refine⟨_,results_tmp rfl _ _ _,?_⟩
  have e:Zbw lo hi l=[]:=by simp[Zbw,HF.out]
  rw[e]
  exact⟨_,rfl,hB,.inl ⟨_,_,rfl,rfl,rfl⟩,fun q=>absurd q HF.out⟩
 have hf2:(Ys lo hi l != 0)=false:=by simpa using hf
 have HF:=Lib.hid hf;clear hf
 go_wp2_with fail
 refine(span_each lo hi a l.length c _).mono ?_
 rintro e W1 ⟨rfl,hW1⟩
 have hz:w'.heap.size+4=W1.heap.size:=by rw[hW1];simp
 have hb1:Below w'.heap.size w' W1:=by rw[hW1];exact bln (bln (bln (blx _ _) (blx _ _)) (blx _ _)) (blx _ _)
 have s1:W1.cell? ⟨w'.heap.size+1+1,1,none⟩=some (.int .i64 hi):=by rw[hW1];simp[go_sem]
 have s2:W1.cell? ⟨w'.heap.size+1+1+1,0,none⟩=some (.slice a l.length c):=by rw[hW1];simp[go_sem]
 have m1:Blk W1 w'.heap.size (Hn [.int .i64 0,.int .i64 0] l.length) 173:=by rw[hW1];exact(((Blk.new w' _ _).alloc _).alloc _).alloc _
 have m2:Blk W1 (w'.heap.size+1) [.slice (some ⟨w'.heap.size,0,none⟩) l.length l.length] 244:=by
  rw[hW1];have:=((Blk.new (w'.alloc (.cells (Hn [.int .i64 0,.int .i64 0] l.length).toArray 173)) [.slice (some ⟨w'.heap.size,0,none⟩) l.length l.length] 244).alloc (.cells #[.int .i64 lo,.int .i64 hi] 173)).alloc (.cells #[.slice a l.length c] 30)
  simpa using this
 have hB1:=bln hB hb1
 have hl1:=hl'.below hb1
 have hst:=each_stops (w'.heap.size+1+1) (w'.heap.size+1+1+1) (fun b=>b<W1.heap.size∧b≠w'.heap.size) hi (.slice a l.length c) l W1 (fun b h=>h.1) (by omega) (by omega) (by omega) hl1 ?hvp s1 s2
 case hvp=>exact fun h b off n' cap e=>by have:=HB h e;have:=hB1.size;exact⟨by omega,by omega⟩
 clear hW1 s1 s2 hmk
 go_wp2_with fail
 refine Ov (g:=.tmp 17) (gf:=210) (lb:=#[.pointer (some ⟨w'.heap.size+1+1,0,none⟩),.pointer (some ⟨w'.heap.size+1+1+1,0,none⟩)]) rfl (enters_of Tryz.func210 (by kernel_rfl) rfl) _ (fun b h=>h.1) hst (fun _=>rfl)
  (fun pre W=>(Blk W w'.heap.size (outC hi l pre) 173∧Blk W (w'.heap.size+1) [.slice (some ⟨w'.heap.size,0,none⟩) l.length l.length] 244)∧(Below w.heap.size w W∧W1.heap.size≤W.heap.size))
  (fun _ _ _=>False) ?own (fun _ _ _ _ _ h _ _=>h) ⟨⟨m1,m2⟩,hB1,Nat.le_refl _⟩
  (fun x a' W=>∃ Bx,W1.heap.size≤Bx∧Blk W Bx [.int .i64 (Xb hi l (qOf x)).1,.int .i64 (Xb hi l (qOf x)).2] 173 ∧
   a'={ tmps:=#[.agg #[.int .i64 lo,.int .i64 hi],.slice a l.length c,.pointer (some ⟨w.heap.size,0,none⟩),undef,.slice none 0 0,.pointer (some ⟨w'.heap.size+1,0,none⟩),.int .i64 (qOf x:Int),.pointer (some ⟨Bx,0,none⟩),.agg #[.int .i64 lo,.int .i64 hi],.slice a l.length c,.int .i64 (Ys lo hi l),.bool false,.slice a l.length c,.int .i64 l.length,.slice (some ⟨w'.heap.size,0,none⟩) l.length l.length,.agg #[.int .i64 lo,.int .i64 hi],.slice a l.length c,.func (.func 210) #[] #[.pointer (some ⟨w'.heap.size+1+1,0,none⟩),.pointer (some ⟨w'.heap.size+1+1+1,0,none⟩)],.int .i64 (qOf x:Int),spanV (Xb hi l (qOf x)).1 (Xb hi l (qOf x)).2,undef,undef,undef,undef,undef],defers:=[] }) ?ownax ?assign ?body ?done ?stop
 case own=>exact OwnFrom.and (Own.from (fun s A B row hs hg hr=>⟨hs.1.turn hg hr,hs.2.turn hg hr⟩) _) (OwnFrom.and (ownFrom_below (Nat.le_refl _) hB1.size) Zbx)
 case ownax=>exact fun x a'=>Own.from (fun s A B row hs hg hr=>by obtain⟨Bx,h1,h2,h3⟩:=hs;exact⟨Bx,h1,h2.turn hg hr,h3⟩) _
 case assign =>
  rintro lr pre x W K ⟨⟨h1,h2⟩,hbW,hsz⟩ hK
  unfold encE
  gi_wp2
  exact hK _ _ ((KeepsOthers.alloc _ _).from _) (Keeps.of_below (blx W _) (fun b hb=>by have:=hb.1;omega)) ⟨⟨h1.alloc _,h2.alloc _⟩,bln hbW (blx _ _),by simp;omega⟩ ⟨W.heap.size,hsz,Blk.new W _ _,rfl⟩
 case body =>
  rintro lr pre x a' W hlr ⟨⟨h1,h2⟩,hbW,hsz⟩ ⟨Bx,hBx,hx,rfl⟩ hlt
  have cx0:=hx.cell (i:=0) rfl
  have cx1:=hx.cell (i:=1) rfl
  have ci:=h2.cell (i:=0) rfl
  have hq:qOf x<l.length:=by have:=x.2;simp only[qOf];omega
  have hol:=Fg hi l pre
  obtain⟨u0,hu0⟩:∃ u0,(outC hi l pre)[qOf x*2]? = some u0:=⟨_,List.getElem?_eq_getElem (by omega)⟩
  obtain⟨u1,hu1⟩:∃ u1,(outC hi l pre)[qOf x*2+1]? = some u1:=⟨_,List.getElem?_eq_getElem (by omega)⟩
  have cu0:=h1.cell hu0
  have cu1:=h1.cell hu1
  have fu0:=h1.frozen (qOf x*2)
  have fu1:=h1.frozen (qOf x*2+1)
  clear hu0 hu1 hol
  gi_wp2
  refine⟨((KeepsOthers.setCell _ _ _).trans (KeepsOthers.setCell _ _ _)).from _,((Keeps.refl _ W).setCell (by simp) _).setCell (by simp) _,⟨by rw[outC_snoc];exact(h1.set _ _).set _ _,(h2.other (by simp) _).other (by simp) _⟩,(hbW.setCell (Nat.le_of_lt z0) _).setCell (Nat.le_of_lt z0) _,by simpa [World.setCell] using hsz⟩
 case done =>
  rintro D xs W hD rfl ⟨⟨h1,h2⟩,hbW,hsz⟩ hK
  have ci:=h2.cell (i:=0) rfl
  have hlt:D<W.heap.size:=(Array.getElem?_eq_some_iff.1 hK).1
  rw[outC_all] at h1
  have hs:(Ve hi l).length=l.length:=by simp[Ve]
  have hR:Pairs (W.putObj D (.deferred none)) (.slice (some ⟨w'.heap.size,0,none⟩) l.length l.length) (Ve hi l):=by
   have h1':=h1.put hK rfl (.deferred none)
   exact .inr ⟨_,0,l.length,by rw[hs],by omega,by unfold maxLen;omega,fun j x hj=>by rw[Nat.zero_add];exact h1'.cell hj⟩
  have HR:=Lib.hid hR
  have HR2:=Lib.hid (h1.put hK rfl (.deferred none))
  clear hR h1 hs
  go_wp2_with fail
  refine⟨by simp,.inl ⟨_,_,rfl,run_takeDeferred hK,_,results_tmp rfl _ _ _,?_⟩⟩
  have e:Zbw lo hi l=Ve hi l:=by simp[Zbw,HF.out]
  rw[e]
  exact⟨_,rfl,below_put hbW (by have:=hB1.size;omega) hlt _,HR.out,fun _=>⟨_,rfl,hB.size,HR2.out⟩⟩
 case stop=>exact fun _ _ _ _ _ _ h _=>h.elim
end Go.Proofs.YthlakkdgcgkcdaaGreatDoor
namespace Go.Proofs.YthlakkdgcgkcdaaGreatDoor
set_option maxHeartbeats 8000000
set_option maxRecDepth 100000
open Go.RowKit Go.Extern.Stop Go.Stop Go.Extern
set_option linter.unusedVariables false
attribute [local irreducible] wpList wpAnyH Code.wp Oper.wp Go
def Zx(l:List UInt8)(way:List Int)(no tree lo hi deep:Int):Int :=
 if Va way no=true then 11 else if 16≤way.length then 10 else if Xc l no tree≠0 then Xc l no tree else if Ys lo hi (Yx (inB l no) (Zn (inB l no)))≠0 then 9 else
  if Xl (inB l no)=true∧deep≠0∧deep≠((way.length+1:Nat):Int) then 10 else 0
def LookP(B bw:Nat)(cs:List Value)(l:List UInt8)(way:List Int)(no tree lo hi deep:Int)(w:World)(e:Ending)(w':World):Prop :=
 Below B w w'∧Ze [170] w w'∧Blk w' bw cs 170 ∧
 ((Zx l way no tree lo hi deep≠0∧∃ a4 b4 k4 n4 c4 v4 m4 d4 ty x,e=.returned (.tuple #[.agg #[.int .i64 a4,.bool b4,.slice k4 n4 c4,.slice v4 m4 d4],.iface ty x])∧Ja w' [some no] (some (Zx l way no tree lo hi deep)) (.iface ty x)) ∨
  (Zx l way no tree lo hi deep=0∧Xc l no tree=0∧∃ kp kc vp vc,e=.returned (.tuple #[.agg #[.int .i64 (Xr (inB l no)),.bool (Xl (inB l no)),.slice kp (Zn (inB l no)) kc,.slice vp (Zn (inB l no)) vc],.nilIface]) ∧
   w'.ownsRow w.heap.size 3 1 (.slice kp (Zn (inB l no)) kc) (Zn (inB l no)) ((Yx (inB l no) (Zn (inB l no))).map (Value.int .i64))∧w'.ownsRow w.heap.size 9 1 (.slice vp (Zn (inB l no)) vc) (Zn (inB l no)) ((Kw (inB l no) (Zn (inB l no))).map sv)))
theorem Ps{w:World}{v:Value}{n:Nat}{l:List Int}(h:Sl w v n (l.map (Value.int .i64)))(hl:l.length=n):Ints w v l:=by subst hl;exact h
theorem Zed(B Bi b bw:Nat)(p:Option Addr)(n c:Nat)(l:List UInt8)(c0 c1 c4 c7 c9:Value)(pw:Option Addr)(cw:Nat)(way:List Int)(no tree lo hi deep looked:Int)(w:World)(hBb:B≤bw)(hBw:B≤w.heap.size)(kW:Blk w bw [c0,c1,.int .i64 deep,.int .i64 looked,c4,.pointer (some ⟨b,0,none⟩),.int .i64 tree,c7,.slice pw way.length cw,c9] 170)(hway:w.ownsRow B 3 1 (.slice pw way.length cw) way.length (way.map (Value.int .i64)))(hI:ImgR Bi b p n c l w)(hwl:way.length≤1000000)(hl0:0≤looked)(hl1:looked<9223372036854775807) :
 Calls Tryz.prog 140 #[.pointer (some ⟨bw,0,none⟩),.int .i64 no,.agg #[.int .i64 lo,.int .i64 hi]] w (LookP B bw [c0,c1,.int .i64 deep,.int .i64 (looked+1),c4,.pointer (some ⟨b,0,none⟩),.int .i64 tree,c7,.slice pw way.length cw,c9] l way no tree lo hi deep w):=by
 refine zin 97 Tryz.func140 ?_
 refine xa 2 [.int .i64 lo,.int .i64 hi] 173 fun b1 W1 n1=>?_
 refine xa 0 [.int .i64 0,.bool false,.slice none 0 0,.slice none 0 0] 188 fun b2 W2 n2=>?_
 have kW'1:=(kW.below n1.below).below n2.below
 refine xb 9 3 kW'1 ?_
 refine xw 0 (looked+1) ?_
 refine xs 3 kW'1 [c0,c1,.int .i64 deep,.int .i64 (looked+1),c4,.pointer (some ⟨b,0,none⟩),.int .i64 tree,c7,.slice pw way.length cw,c9] fun W3 u3 k3=>?_
 refine xb 8 8 k3 ?_
 have hway'1:=u3.own2 (Zb (Zb hway n1.below) n2.below) kW'1 (by decide)
 refine xr 1 (args:=#[.slice pw way.length cw,.int .i64 no]) (containsI pw cw way no _ (Zf hway'1) hwl) fun W4 hb4=>?_
 refine xi 2 (Va way no) (fun hc5=>?_) (fun hc5=>?_)
 ·refine xc 5 (args:=#[.int .i64 no,.iface 51 (.int .i64 11)]) (Qv no (some 11) [] _ _ rfl) ?_
  rintro _ W6 ⟨r6,rfl,hb6,hv6⟩
  rw[Vr] at hv6
  obtain⟨t6,x6,rfl⟩:=hv6.iface
  have k2:=((u3.blkT n2.blk kW'1 (by decide)).below hb4).below hb6
  refine xsv 0 k2 [.int .i64 0,.bool false,.slice none 0 0,.slice none 0 0] fun W7 u7 k7=>?_
  have g2:=n2.ge0 (blB (Below.refl B w) hBw n1.below)
  have hB:=u7.below (blB (blB (u3.below (blB (blB (Below.refl B w) hBw n1.below) hBw n2.below) hBb) hBw hb4) hBw hb6) (Nat.le_trans hBw g2)
  have hO:=(Ze.upd_new (((((show Ze [170] w _ from(Ze.of_below n1.below)).trans (Ze.of_below n2.below)).trans (Ze.of_upd u3 kW'1 (by decide))).trans (Ze.of_below hb4)).trans (Ze.of_below hb6)) u7 g2)
  have k3'1:=u7.blkT ((k3.below hb4).below hb6) k2 (by decide)
  have hv6'1:=hv6.upd u7 k2 (by decide)
  exact xec 5 k7 (.tuple #[.agg #[.int .i64 0,.bool false,.slice none 0 0,.slice none 0 0],.iface t6 (x6)]) ⟨hB,hO,k3'1,.inl ⟨by(unfold Zx;(repeat' split)<;>first|rfl|assumption|decide|omega|exact absurd (Eq.trans (Eq.symm ‹Va _ _=true›) ‹Va _ _=false›) (by decide)|(rename_i q;exact absurd ⟨by assumption,by assumption,by assumption⟩ q)|(rename_i q;obtain⟨q1,q2,q3⟩:=q;exact absurd (Eq.trans (Eq.symm q1) ‹Xl _=false›) (by decide))|(rename_i q;obtain⟨q1,q2,q3⟩:=q;omega)),_,_,_,_,_,_,_,_,_,_,rfl,by(unfold Zx;(repeat' split)<;>first|exact hv6'1|(exfalso;omega)|contradiction|exact absurd (Eq.trans (Eq.symm ‹Va _ _=true›) ‹Va _ _=false›) (by decide)|(rename_i q;exact absurd ⟨by assumption,by assumption,by assumption⟩ q)|(rename_i q;obtain⟨q1,q2,q3⟩:=q;exact absurd (Eq.trans (Eq.symm q1) ‹Xl _=false›) (by decide))|(rename_i q;obtain⟨q1,q2,q3⟩:=q;omega))⟩⟩
 have k3'2:=k3.below hb4
 refine xb 8 8 k3'2 ?_
 refine xid 4 ((↑way.length:Int)≥(16:Int)) (fun hc8=>?_) (fun hc8=>?_)
 ·refine xc 5 (args:=#[.int .i64 no,.iface 51 (.int .i64 10)]) (Qv no (some 10) [] _ _ rfl) ?_
  rintro _ W9 ⟨r9,rfl,hb9,hv9⟩
  rw[Vr] at hv9
  obtain⟨t9,x9,rfl⟩:=hv9.iface
  have k2:=((u3.blkT n2.blk kW'1 (by decide)).below hb4).below hb9
  refine xsv 0 k2 [.int .i64 0,.bool false,.slice none 0 0,.slice none 0 0] fun W10 u10 k10=>?_
  have g2:=n2.ge0 (blB (Below.refl B w) hBw n1.below)
  have hB:=u10.below (blB (blB (u3.below (blB (blB (Below.refl B w) hBw n1.below) hBw n2.below) hBb) hBw hb4) hBw hb9) (Nat.le_trans hBw g2)
  have hO:=(Ze.upd_new (((((show Ze [170] w _ from(Ze.of_below n1.below)).trans (Ze.of_below n2.below)).trans (Ze.of_upd u3 kW'1 (by decide))).trans (Ze.of_below hb4)).trans (Ze.of_below hb9)) u10 g2)
  have k3'3:=u10.blkT (k3'2.below hb9) k2 (by decide)
  have hv9'1:=hv9.upd u10 k2 (by decide)
  exact xec 5 k10 (.tuple #[.agg #[.int .i64 0,.bool false,.slice none 0 0,.slice none 0 0],.iface t9 (x9)]) ⟨hB,hO,k3'3,.inl ⟨by(unfold Zx;(repeat' split)<;>first|rfl|assumption|decide|omega|exact absurd (Eq.trans (Eq.symm ‹Va _ _=true›) ‹Va _ _=false›) (by decide)|(rename_i q;exact absurd ⟨by assumption,by assumption,by assumption⟩ q)|(rename_i q;obtain⟨q1,q2,q3⟩:=q;exact absurd (Eq.trans (Eq.symm q1) ‹Xl _=false›) (by decide))|(rename_i q;obtain⟨q1,q2,q3⟩:=q;omega)),_,_,_,_,_,_,_,_,_,_,rfl,by(unfold Zx;(repeat' split)<;>first|exact hv9'1|(exfalso;omega)|contradiction|exact absurd (Eq.trans (Eq.symm ‹Va _ _=true›) ‹Va _ _=false›) (by decide)|(rename_i q;exact absurd ⟨by assumption,by assumption,by assumption⟩ q)|(rename_i q;obtain⟨q1,q2,q3⟩:=q;exact absurd (Eq.trans (Eq.symm q1) ‹Xl _=false›) (by decide))|(rename_i q;obtain⟨q1,q2,q3⟩:=q;omega))⟩⟩
 refine xd 3 (.t B [188]) ?_
 have k3'4:=k3'2.below (Za W4)
 refine xbt (.e [0,1,2] 3) 5 B [188] k3'4 ?_
 refine xbt (.e [4,5,6,7] 8) 6 B [188] k3'4 ?_
 refine xm2 0 9 13 ?_ ?_
 ·have hI'1:=((((hI.below n1.below).below n2.below).only (Ze.of_upd (T:=[170]) u3 kW'1 (by decide)) (by decide)).below hb4).below (Za W4)
  refine yc 0 (args:=#[.pointer (some ⟨b,0,none⟩),.int .i64 no,.int .i64 tree]) (.t B [188]) (Im Bi b p n c l no tree _ hI'1) ?_
  rintro e W11 hq11
  rcases hq11 with ⟨he,bf,rfl,hb11,hv⟩|⟨he,kp,kc,vp,vc,rfl,hb11,hk,hv_⟩
  ·refine⟨(SF.of_below _ hb11),?_⟩
   refine xa (.o [10,11,12] 13) [.int .i64 0,.bool false,.slice none 0 0,.slice none 0 0] 188 fun b12 W12 n12=>?_
   have k2:=(((u3.blkT n2.blk kW'1 (by decide)).below hb4).below (Za W4)).below hb11
   have d12_b2:=n12.ne k2
   have hB:=blB (blB (blB (u3.below (blB (blB (Below.refl B w) hBw n1.below) hBw n2.below) hBb) hBw hb4) hBw (Za W4)) hBw hb11
   have g12:=n12.ge0 hB
   refine ysv (.o [] 14) n12.blk [.int .i64 0,.bool false,.slice none 0 0,.slice none 0 0] (.t B [188]) fun W13 u13 k13=>⟨(Zi u13 n12.blk (Nat.le_trans hBw g12) (by decide)),?_⟩
   refine xlv (.r [15] 14) k13.rp ?_
   have k2'1:=u13.blk (k2.below n12.below) (Ne.symm (Ne.symm d12_b2))
   refine xsv 1 k2'1 [.int .i64 0,.bool false,.slice none 0 0,.slice none 0 0] fun W14 u14 k14=>?_
   have g2:=n2.ge0 (blB (Below.refl B w) hBw n1.below)
   have hB'1:=u14.below (u13.below (blB hB hBw n12.below) (Nat.le_trans hBw g12)) (Nat.le_trans hBw g2)
   have hO:=(Ze.upd_new (Ze.upd_new (((((((show Ze [170] w _ from(Ze.of_below n1.below)).trans (Ze.of_below n2.below)).trans (Ze.of_upd u3 kW'1 (by decide))).trans (Ze.of_below hb4)).trans (Ze.of_below (Za W4))).trans (Ze.of_below hb11)).trans (Ze.of_below n12.below)) u13 g12) u14 g2)
   have k3'5:=u14.blkT (u13.blkT ((k3'4.below hb11).below n12.below) n12.blk (by decide)) k2'1 (by decide)
   have hv'1:=((hv.below n12.below).upd u13 n12.blk (by decide)).upd u14 k2'1 (by decide)
   exact xec 6 k14 (.tuple #[.agg #[.int .i64 0,.bool false,.slice none 0 0,.slice none 0 0],.iface 123 (.pointer (some ⟨bf,0,none⟩))]) ⟨hB'1,hO,k3'5,.inl ⟨by(unfold Zx;(repeat' split)<;>first|rfl|assumption|decide|omega|exact absurd (Eq.trans (Eq.symm ‹Va _ _=true›) ‹Va _ _=false›) (by decide)|(rename_i q;exact absurd ⟨by assumption,by assumption,by assumption⟩ q)|(rename_i q;obtain⟨q1,q2,q3⟩:=q;exact absurd (Eq.trans (Eq.symm q1) ‹Xl _=false›) (by decide))|(rename_i q;obtain⟨q1,q2,q3⟩:=q;omega)),_,_,_,_,_,_,_,_,_,_,rfl,by(unfold Zx;(repeat' split)<;>first|exact hv'1|(exfalso;omega)|contradiction|exact absurd (Eq.trans (Eq.symm ‹Va _ _=true›) ‹Va _ _=false›) (by decide)|(rename_i q;exact absurd ⟨by assumption,by assumption,by assumption⟩ q)|(rename_i q;obtain⟨q1,q2,q3⟩:=q;exact absurd (Eq.trans (Eq.symm q1) ‹Xl _=false›) (by decide))|(rename_i q;obtain⟨q1,q2,q3⟩:=q;omega))⟩⟩
  have hs11:=(blB (blB (u3.below (blB (blB (Below.refl B w) hBw n1.below) hBw n2.below) hBb) hBw hb4) hBw (Za W4)).size
  refine⟨(SF.of_below _ hb11),?_⟩
  refine xa (.o [10,11,12] 13) [.int .i64 0,.bool false,.slice none 0 0,.slice none 0 0] 188 fun b15 W15 n15=>?_
  have k2:=(((u3.blkT n2.blk kW'1 (by decide)).below hb4).below (Za W4)).below hb11
  have d15_b2:=n15.ne k2
  have hB:=blB (blB (blB (u3.below (blB (blB (Below.refl B w) hBw n1.below) hBw n2.below) hBb) hBw hb4) hBw (Za W4)) hBw hb11
  have g15:=n15.ge0 hB
  refine ysv (.o [] 14) n15.blk [.int .i64 (Xr (inB l no)),.bool (Xl (inB l no)),.slice kp (Zn (inB l no)) kc,.slice vp (Zn (inB l no)) vc] (.t B [188]) fun W16 u16 k16=>⟨(Zi u16 n15.blk (Nat.le_trans hBw g15) (by decide)),?_⟩
  have k1:=u16.blkT (((((u3.blkT (n1.blk.below n2.below) kW'1 (by decide)).below hb4).below (Za W4)).below hb11).below n15.below) n15.blk (by decide)
  refine xlv (.r [15] 14) k1.rp ?_
  refine xb 1 2 k16 ?_
  have hk'1:=u16.own2 (Zb (Zd hk hs11) n15.below) n15.blk (by decide)
  refine xr 0 (args:=#[.agg #[.int .i64 lo,.int .i64 hi],.slice kp (Zn (inB l no)) kc]) (Fz lo hi _ (Yx (inB l no) (Zn (inB l no))) _ (Ps (Zf hk'1) (Yr _ _))) fun W17 hb17=>?_
  refine xin 4 (Ys lo hi (Yx (inB l no) (Zn (inB l no)))) (0:Int) (fun hc18=>?_) (fun hc18=>?_)
  ·refine xd 1 (.t B [188]) ?_
   refine xm2 (.b [1,2]) 0 3 ?_ ?_
   ·have k16'1:=(k16.below hb17).below (Za W17)
    refine xlv 0 k16'1.rp ?_
    refine yc (.o [] 3) (args:=#[.int .i64 no,.iface 51 (.int .i64 9)]) (.t B [188]) (Qv no (some 9) [] _ _ rfl) ?_
    rintro _ W19 ⟨r19,rfl,hb19,hv19⟩
    refine⟨(SF.of_below _ hb19),?_⟩
    rw[Vr] at hv19
    obtain⟨t19,x19,rfl⟩:=hv19.iface
    have k2'2:=(((u16.blk (k2.below n15.below) (Ne.symm (Ne.symm d15_b2))).below hb17).below (Za W17)).below hb19
    have g2:=n2.ge0 (blB (Below.refl B w) hBw n1.below)
    refine ysv (.o [] 4) k2'2 [.int .i64 (Xr (inB l no)),.bool (Xl (inB l no)),.slice kp (Zn (inB l no)) kc,.slice vp (Zn (inB l no)) vc] (.t B [188]) fun W20 u20 k20=>⟨(Zi u20 k2'2 (Nat.le_trans hBw g2) (by decide)),?_⟩
    have hB'2:=u20.below (blB (blB (blB (u16.below (blB hB hBw n15.below) (Nat.le_trans hBw g15)) hBw hb17) hBw (Za W17)) hBw hb19) (Nat.le_trans hBw g2)
    have hO:=(Ze.upd_new ((((Ze.upd_new (((((((show Ze [170] w _ from(Ze.of_below n1.below)).trans (Ze.of_below n2.below)).trans (Ze.of_upd u3 kW'1 (by decide))).trans (Ze.of_below hb4)).trans (Ze.of_below (Za W4))).trans (Ze.of_below hb11)).trans (Ze.of_below n15.below)) u16 g15).trans (Ze.of_below hb17)).trans (Ze.of_below (Za W17))).trans (Ze.of_below hb19)) u20 g2)
    have k3'6:=u20.blkT ((((u16.blkT ((k3'4.below hb11).below n15.below) n15.blk (by decide)).below hb17).below (Za W17)).below hb19) k2'2 (by decide)
    have hv19'1:=hv19.upd u20 k2'2 (by decide)
    exact xec (.r [5] 5) k20 (.tuple #[.agg #[.int .i64 (Xr (inB l no)),.bool (Xl (inB l no)),.slice kp (Zn (inB l no)) kc,.slice vp (Zn (inB l no)) vc],.iface t19 (x19)]) ⟨hB'2,hO,k3'6,.inl ⟨by(unfold Zx;(repeat' split)<;>first|rfl|assumption|decide|omega|exact absurd (Eq.trans (Eq.symm ‹Va _ _=true›) ‹Va _ _=false›) (by decide)|(rename_i q;exact absurd ⟨by assumption,by assumption,by assumption⟩ q)|(rename_i q;obtain⟨q1,q2,q3⟩:=q;exact absurd (Eq.trans (Eq.symm q1) ‹Xl _=false›) (by decide))|(rename_i q;obtain⟨q1,q2,q3⟩:=q;omega)),_,_,_,_,_,_,_,_,_,_,rfl,by(unfold Zx;(repeat' split)<;>first|exact hv19'1|(exfalso;omega)|contradiction|exact absurd (Eq.trans (Eq.symm ‹Va _ _=true›) ‹Va _ _=false›) (by decide)|(rename_i q;exact absurd ⟨by assumption,by assumption,by assumption⟩ q)|(rename_i q;obtain⟨q1,q2,q3⟩:=q;exact absurd (Eq.trans (Eq.symm q1) ‹Xl _=false›) (by decide))|(rename_i q;obtain⟨q1,q2,q3⟩:=q;omega))⟩⟩
   refine yc 0 (args:=#[.int .i64 no,.iface 51 (.int .i64 9)]) (.t B [188]) (Qv no (some 9) [] _ _ rfl) ?_
   rintro _ W21 ⟨r21,rfl,hb21,hv21⟩
   refine⟨(SF.of_below _ hb21),?_⟩
   rw[Vr] at hv21
   obtain⟨t21,x21,rfl⟩:=hv21.iface
   have k16'2:=((k16.below hb17).below (Za W17)).below hb21
   refine xlv (.o [] 0) k16'2.rp ?_
   have k2'3:=(((u16.blk (k2.below n15.below) (Ne.symm (Ne.symm d15_b2))).below hb17).below (Za W17)).below hb21
   have g2:=n2.ge0 (blB (Below.refl B w) hBw n1.below)
   refine ysv (.o [] 4) k2'3 [.int .i64 (Xr (inB l no)),.bool (Xl (inB l no)),.slice kp (Zn (inB l no)) kc,.slice vp (Zn (inB l no)) vc] (.t B [188]) fun W22 u22 k22=>⟨(Zi u22 k2'3 (Nat.le_trans hBw g2) (by decide)),?_⟩
   have hB'3:=u22.below (blB (blB (blB (u16.below (blB hB hBw n15.below) (Nat.le_trans hBw g15)) hBw hb17) hBw (Za W17)) hBw hb21) (Nat.le_trans hBw g2)
   have hO:=(Ze.upd_new ((((Ze.upd_new (((((((show Ze [170] w _ from(Ze.of_below n1.below)).trans (Ze.of_below n2.below)).trans (Ze.of_upd u3 kW'1 (by decide))).trans (Ze.of_below hb4)).trans (Ze.of_below (Za W4))).trans (Ze.of_below hb11)).trans (Ze.of_below n15.below)) u16 g15).trans (Ze.of_below hb17)).trans (Ze.of_below (Za W17))).trans (Ze.of_below hb21)) u22 g2)
   have k3'7:=u22.blkT ((((u16.blkT ((k3'4.below hb11).below n15.below) n15.blk (by decide)).below hb17).below (Za W17)).below hb21) k2'3 (by decide)
   have hv21'1:=hv21.upd u22 k2'3 (by decide)
   exact xec (.r [5] 5) k22 (.tuple #[.agg #[.int .i64 (Xr (inB l no)),.bool (Xl (inB l no)),.slice kp (Zn (inB l no)) kc,.slice vp (Zn (inB l no)) vc],.iface t21 (x21)]) ⟨hB'3,hO,k3'7,.inl ⟨by(unfold Zx;(repeat' split)<;>first|rfl|assumption|decide|omega|exact absurd (Eq.trans (Eq.symm ‹Va _ _=true›) ‹Va _ _=false›) (by decide)|(rename_i q;exact absurd ⟨by assumption,by assumption,by assumption⟩ q)|(rename_i q;obtain⟨q1,q2,q3⟩:=q;exact absurd (Eq.trans (Eq.symm q1) ‹Xl _=false›) (by decide))|(rename_i q;obtain⟨q1,q2,q3⟩:=q;omega)),_,_,_,_,_,_,_,_,_,_,rfl,by(unfold Zx;(repeat' split)<;>first|exact hv21'1|(exfalso;omega)|contradiction|exact absurd (Eq.trans (Eq.symm ‹Va _ _=true›) ‹Va _ _=false›) (by decide)|(rename_i q;exact absurd ⟨by assumption,by assumption,by assumption⟩ q)|(rename_i q;obtain⟨q1,q2,q3⟩:=q;exact absurd (Eq.trans (Eq.symm q1) ‹Xl _=false›) (by decide))|(rename_i q;obtain⟨q1,q2,q3⟩:=q;omega))⟩⟩
  refine xd 1 .z ?_
  have k16'3:=(k16.below hb17).below (Za W17)
  refine xb (.e [0] 1) 1 k16'3 ?_
  refine xg (.b [2]) [69,70] (Xl (inB l no)) (fun hc23=>?_) (fun hc23=>?_)
  ·have k3'8:=((u16.blkT ((k3'4.below hb11).below n15.below) n15.blk (by decide)).below hb17).below (Za W17)
   refine xb (.e [3,4,5,6] 7) 2 k3'8 ?_
   refine xg (.b [8,9,10]) [76,77,78] (deep != (0:Int)) (fun hc24=>?_) (fun hc24=>?_)
   ·have hc24:=Qx hc24
    refine xb (.e [11,12,13,14] 15) 2 k3'8 ?_
    refine xb (.e [16,17,18] 19) 8 k3'8 ?_
    refine xwm (.e [20] 21) ((↑way.length:Int)+1) (↑(way.length+1):Int) ?_
    refine xin (.r [22,23,24] 2) deep (↑(way.length+1):Int) (fun hc25=>?_) (fun hc25=>?_)
    ·refine xd 1 (.t B [188]) ?_
     refine xm2 (.b [1,2]) 0 3 ?_ ?_
     ·have k16'4:=k16'3.below (Za W17.drew)
      refine xlv 0 k16'4.rp ?_
      refine yc (.o [] 3) (args:=#[.int .i64 no,.iface 51 (.int .i64 10)]) (.t B [188]) (Qv no (some 10) [] _ _ rfl) ?_
      rintro _ W26 ⟨r26,rfl,hb26,hv26⟩
      refine⟨(SF.of_below _ hb26),?_⟩
      rw[Vr] at hv26
      obtain⟨t26,x26,rfl⟩:=hv26.iface
      have k2'4:=((((u16.blk (k2.below n15.below) (Ne.symm (Ne.symm d15_b2))).below hb17).below (Za W17)).below (Za W17.drew)).below hb26
      have g2:=n2.ge0 (blB (Below.refl B w) hBw n1.below)
      refine ysv (.o [] 4) k2'4 [.int .i64 (Xr (inB l no)),.bool (Xl (inB l no)),.slice kp (Zn (inB l no)) kc,.slice vp (Zn (inB l no)) vc] (.t B [188]) fun W27 u27 k27=>⟨(Zi u27 k2'4 (Nat.le_trans hBw g2) (by decide)),?_⟩
      have hB'4:=u27.below (blB (blB (blB (blB (u16.below (blB hB hBw n15.below) (Nat.le_trans hBw g15)) hBw hb17) hBw (Za W17)) hBw (Za W17.drew)) hBw hb26) (Nat.le_trans hBw g2)
      have hO:=(Ze.upd_new (((((Ze.upd_new (((((((show Ze [170] w _ from(Ze.of_below n1.below)).trans (Ze.of_below n2.below)).trans (Ze.of_upd u3 kW'1 (by decide))).trans (Ze.of_below hb4)).trans (Ze.of_below (Za W4))).trans (Ze.of_below hb11)).trans (Ze.of_below n15.below)) u16 g15).trans (Ze.of_below hb17)).trans (Ze.of_below (Za W17))).trans (Ze.of_below (Za W17.drew))).trans (Ze.of_below hb26)) u27 g2)
      have k3'9:=u27.blkT ((k3'8.below (Za W17.drew)).below hb26) k2'4 (by decide)
      have hv26'1:=hv26.upd u27 k2'4 (by decide)
      exact xec (.r [5] 5) k27 (.tuple #[.agg #[.int .i64 (Xr (inB l no)),.bool (Xl (inB l no)),.slice kp (Zn (inB l no)) kc,.slice vp (Zn (inB l no)) vc],.iface t26 (x26)]) ⟨hB'4,hO,k3'9,.inl ⟨by(unfold Zx;(repeat' split)<;>first|rfl|assumption|decide|omega|exact absurd (Eq.trans (Eq.symm ‹Va _ _=true›) ‹Va _ _=false›) (by decide)|(rename_i q;exact absurd ⟨by assumption,by assumption,by assumption⟩ q)|(rename_i q;obtain⟨q1,q2,q3⟩:=q;exact absurd (Eq.trans (Eq.symm q1) ‹Xl _=false›) (by decide))|(rename_i q;obtain⟨q1,q2,q3⟩:=q;omega)),_,_,_,_,_,_,_,_,_,_,rfl,by(unfold Zx;(repeat' split)<;>first|exact hv26'1|(exfalso;omega)|contradiction|exact absurd (Eq.trans (Eq.symm ‹Va _ _=true›) ‹Va _ _=false›) (by decide)|(rename_i q;exact absurd ⟨by assumption,by assumption,by assumption⟩ q)|(rename_i q;obtain⟨q1,q2,q3⟩:=q;exact absurd (Eq.trans (Eq.symm q1) ‹Xl _=false›) (by decide))|(rename_i q;obtain⟨q1,q2,q3⟩:=q;omega))⟩⟩
     refine yc 0 (args:=#[.int .i64 no,.iface 51 (.int .i64 10)]) (.t B [188]) (Qv no (some 10) [] _ _ rfl) ?_
     rintro _ W28 ⟨r28,rfl,hb28,hv28⟩
     refine⟨(SF.of_below _ hb28),?_⟩
     rw[Vr] at hv28
     obtain⟨t28,x28,rfl⟩:=hv28.iface
     have k16'5:=(k16'3.below (Za W17.drew)).below hb28
     refine xlv (.o [] 0) k16'5.rp ?_
     have k2'5:=((((u16.blk (k2.below n15.below) (Ne.symm (Ne.symm d15_b2))).below hb17).below (Za W17)).below (Za W17.drew)).below hb28
     have g2:=n2.ge0 (blB (Below.refl B w) hBw n1.below)
     refine ysv (.o [] 4) k2'5 [.int .i64 (Xr (inB l no)),.bool (Xl (inB l no)),.slice kp (Zn (inB l no)) kc,.slice vp (Zn (inB l no)) vc] (.t B [188]) fun W29 u29 k29=>⟨(Zi u29 k2'5 (Nat.le_trans hBw g2) (by decide)),?_⟩
     have hB'5:=u29.below (blB (blB (blB (blB (u16.below (blB hB hBw n15.below) (Nat.le_trans hBw g15)) hBw hb17) hBw (Za W17)) hBw (Za W17.drew)) hBw hb28) (Nat.le_trans hBw g2)
     have hO:=(Ze.upd_new (((((Ze.upd_new (((((((show Ze [170] w _ from(Ze.of_below n1.below)).trans (Ze.of_below n2.below)).trans (Ze.of_upd u3 kW'1 (by decide))).trans (Ze.of_below hb4)).trans (Ze.of_below (Za W4))).trans (Ze.of_below hb11)).trans (Ze.of_below n15.below)) u16 g15).trans (Ze.of_below hb17)).trans (Ze.of_below (Za W17))).trans (Ze.of_below (Za W17.drew))).trans (Ze.of_below hb28)) u29 g2)
     have k3'10:=u29.blkT ((k3'8.below (Za W17.drew)).below hb28) k2'5 (by decide)
     have hv28'1:=hv28.upd u29 k2'5 (by decide)
     exact xec (.r [5] 5) k29 (.tuple #[.agg #[.int .i64 (Xr (inB l no)),.bool (Xl (inB l no)),.slice kp (Zn (inB l no)) kc,.slice vp (Zn (inB l no)) vc],.iface t28 (x28)]) ⟨hB'5,hO,k3'10,.inl ⟨by(unfold Zx;(repeat' split)<;>first|rfl|assumption|decide|omega|exact absurd (Eq.trans (Eq.symm ‹Va _ _=true›) ‹Va _ _=false›) (by decide)|(rename_i q;exact absurd ⟨by assumption,by assumption,by assumption⟩ q)|(rename_i q;obtain⟨q1,q2,q3⟩:=q;exact absurd (Eq.trans (Eq.symm q1) ‹Xl _=false›) (by decide))|(rename_i q;obtain⟨q1,q2,q3⟩:=q;omega)),_,_,_,_,_,_,_,_,_,_,rfl,by(unfold Zx;(repeat' split)<;>first|exact hv28'1|(exfalso;omega)|contradiction|exact absurd (Eq.trans (Eq.symm ‹Va _ _=true›) ‹Va _ _=false›) (by decide)|(rename_i q;exact absurd ⟨by assumption,by assumption,by assumption⟩ q)|(rename_i q;obtain⟨q1,q2,q3⟩:=q;exact absurd (Eq.trans (Eq.symm q1) ‹Xl _=false›) (by decide))|(rename_i q;obtain⟨q1,q2,q3⟩:=q;omega))⟩⟩
    refine xlv 5 k16'3.rp ?_
    have k2'6:=((u16.blk (k2.below n15.below) (Ne.symm (Ne.symm d15_b2))).below hb17).below (Za W17)
    refine xsv 0 k2'6 [.int .i64 (Xr (inB l no)),.bool (Xl (inB l no)),.slice kp (Zn (inB l no)) kc,.slice vp (Zn (inB l no)) vc] fun W30 u30 k30=>?_
    have g2:=n2.ge0 (blB (Below.refl B w) hBw n1.below)
    have hB'6:=u30.below (blB (blB (u16.below (blB hB hBw n15.below) (Nat.le_trans hBw g15)) hBw hb17) hBw (Za W17)) (Nat.le_trans hBw g2)
    have hO:=(Ze.upd_new (((Ze.upd_new (((((((show Ze [170] w _ from(Ze.of_below n1.below)).trans (Ze.of_below n2.below)).trans (Ze.of_upd u3 kW'1 (by decide))).trans (Ze.of_below hb4)).trans (Ze.of_below (Za W4))).trans (Ze.of_below hb11)).trans (Ze.of_below n15.below)) u16 g15).trans (Ze.of_below hb17)).trans (Ze.of_below (Za W17))) u30 g2)
    have k3'11:=u30.blkT k3'8 k2'6 (by decide)
    have hk'2:=u30.own2 (Zb (Zb hk'1 hb17) (Za W17)) k2'6 (by decide)
    have hv_'1:=u30.own2 (Zb (Zb (u16.own2 (Zb (Zd hv_ hs11) n15.below) n15.blk (by decide)) hb17) (Za W17)) k2'6 (by decide)
    exact xec 4 k30 (.tuple #[.agg #[.int .i64 (Xr (inB l no)),.bool (Xl (inB l no)),.slice kp (Zn (inB l no)) kc,.slice vp (Zn (inB l no)) vc],.nilIface]) ⟨hB'6,hO,k3'11,.inr ⟨by(unfold Zx;(repeat' split)<;>first|rfl|assumption|decide|omega|exact absurd (Eq.trans (Eq.symm ‹Va _ _=true›) ‹Va _ _=false›) (by decide)|(rename_i q;exact absurd ⟨by assumption,by assumption,by assumption⟩ q)|(rename_i q;obtain⟨q1,q2,q3⟩:=q;exact absurd (Eq.trans (Eq.symm q1) ‹Xl _=false›) (by decide))|(rename_i q;obtain⟨q1,q2,q3⟩:=q;omega)),by assumption,_,_,_,_,rfl,hk'2,hv_'1⟩⟩
   have hc24:=Xk hc24
   refine xlv (.r [11,12,13,14,15,16,17,18,19,20,21,22,23,24] 8) k16'3.rp ?_
   have k2'7:=((u16.blk (k2.below n15.below) (Ne.symm (Ne.symm d15_b2))).below hb17).below (Za W17)
   refine xsv 0 k2'7 [.int .i64 (Xr (inB l no)),.bool (Xl (inB l no)),.slice kp (Zn (inB l no)) kc,.slice vp (Zn (inB l no)) vc] fun W31 u31 k31=>?_
   have g2:=n2.ge0 (blB (Below.refl B w) hBw n1.below)
   have hB'7:=u31.below (blB (blB (u16.below (blB hB hBw n15.below) (Nat.le_trans hBw g15)) hBw hb17) hBw (Za W17)) (Nat.le_trans hBw g2)
   have hO:=(Ze.upd_new (((Ze.upd_new (((((((show Ze [170] w _ from(Ze.of_below n1.below)).trans (Ze.of_below n2.below)).trans (Ze.of_upd u3 kW'1 (by decide))).trans (Ze.of_below hb4)).trans (Ze.of_below (Za W4))).trans (Ze.of_below hb11)).trans (Ze.of_below n15.below)) u16 g15).trans (Ze.of_below hb17)).trans (Ze.of_below (Za W17))) u31 g2)
   have k3'12:=u31.blkT k3'8 k2'7 (by decide)
   have hk'3:=u31.own2 (Zb (Zb hk'1 hb17) (Za W17)) k2'7 (by decide)
   have hv_'2:=u31.own2 (Zb (Zb (u16.own2 (Zb (Zd hv_ hs11) n15.below) n15.blk (by decide)) hb17) (Za W17)) k2'7 (by decide)
   exact xec 4 k31 (.tuple #[.agg #[.int .i64 (Xr (inB l no)),.bool (Xl (inB l no)),.slice kp (Zn (inB l no)) kc,.slice vp (Zn (inB l no)) vc],.nilIface]) ⟨hB'7,hO,k3'12,.inr ⟨by(unfold Zx;(repeat' split)<;>first|rfl|assumption|decide|omega|exact absurd (Eq.trans (Eq.symm ‹Va _ _=true›) ‹Va _ _=false›) (by decide)|(rename_i q;exact absurd ⟨by assumption,by assumption,by assumption⟩ q)|(rename_i q;obtain⟨q1,q2,q3⟩:=q;exact absurd (Eq.trans (Eq.symm q1) ‹Xl _=false›) (by decide))|(rename_i q;obtain⟨q1,q2,q3⟩:=q;omega)),by assumption,_,_,_,_,rfl,hk'3,hv_'2⟩⟩
  refine xlv (.r [3,4,5,6,7,8,9,10,11,12,13,14,15,16,17,18,19,20,21,22,23,24] 8) k16'3.rp ?_
  have k2'8:=((u16.blk (k2.below n15.below) (Ne.symm (Ne.symm d15_b2))).below hb17).below (Za W17)
  refine xsv 0 k2'8 [.int .i64 (Xr (inB l no)),.bool (Xl (inB l no)),.slice kp (Zn (inB l no)) kc,.slice vp (Zn (inB l no)) vc] fun W32 u32 k32=>?_
  have g2:=n2.ge0 (blB (Below.refl B w) hBw n1.below)
  have hB'8:=u32.below (blB (blB (u16.below (blB hB hBw n15.below) (Nat.le_trans hBw g15)) hBw hb17) hBw (Za W17)) (Nat.le_trans hBw g2)
  have hO:=(Ze.upd_new (((Ze.upd_new (((((((show Ze [170] w _ from(Ze.of_below n1.below)).trans (Ze.of_below n2.below)).trans (Ze.of_upd u3 kW'1 (by decide))).trans (Ze.of_below hb4)).trans (Ze.of_below (Za W4))).trans (Ze.of_below hb11)).trans (Ze.of_below n15.below)) u16 g15).trans (Ze.of_below hb17)).trans (Ze.of_below (Za W17))) u32 g2)
  have k3'13:=u32.blkT (((u16.blkT ((k3'4.below hb11).below n15.below) n15.blk (by decide)).below hb17).below (Za W17)) k2'8 (by decide)
  have hk'4:=u32.own2 (Zb (Zb hk'1 hb17) (Za W17)) k2'8 (by decide)
  have hv_'3:=u32.own2 (Zb (Zb (u16.own2 (Zb (Zd hv_ hs11) n15.below) n15.blk (by decide)) hb17) (Za W17)) k2'8 (by decide)
  exact xec 4 k32 (.tuple #[.agg #[.int .i64 (Xr (inB l no)),.bool (Xl (inB l no)),.slice kp (Zn (inB l no)) kc,.slice vp (Zn (inB l no)) vc],.nilIface]) ⟨hB'8,hO,k3'13,.inr ⟨by(unfold Zx;(repeat' split)<;>first|rfl|assumption|decide|omega|exact absurd (Eq.trans (Eq.symm ‹Va _ _=true›) ‹Va _ _=false›) (by decide)|(rename_i q;exact absurd ⟨by assumption,by assumption,by assumption⟩ q)|(rename_i q;obtain⟨q1,q2,q3⟩:=q;exact absurd (Eq.trans (Eq.symm q1) ‹Xl _=false›) (by decide))|(rename_i q;obtain⟨q1,q2,q3⟩:=q;omega)),by assumption,_,_,_,_,rfl,hk'4,hv_'3⟩⟩
 refine xa 0 [.int .i64 0,.bool false,.slice none 0 0,.slice none 0 0] 188 fun b33 W33 n33=>?_
 have k2:=((u3.blkT n2.blk kW'1 (by decide)).below hb4).below (Za W4)
 have d33_b2:=n33.ne k2
 have hB:=blB (blB (u3.below (blB (blB (Below.refl B w) hBw n1.below) hBw n2.below) hBb) hBw hb4) hBw (Za W4)
 have g33:=n33.ge0 hB
 have hI'2:=(((((hI.below n1.below).below n2.below).only (Ze.of_upd (T:=[170]) u3 kW'1 (by decide)) (by decide)).below hb4).below (Za W4)).below n33.below
 refine yc (.o [] 9) (args:=#[.pointer (some ⟨b,0,none⟩),.int .i64 no,.int .i64 tree]) (.t B [188]) (Im Bi b p n c l no tree _ hI'2) ?_
 rintro e W34 hq34
 rcases hq34 with ⟨he,bf,rfl,hb34,hv⟩|⟨he,kp,kc,vp,vc,rfl,hb34,hk,hv_⟩
 ·refine⟨(SF.of_below _ hb34),?_⟩
  have k33:=n33.blk.below hb34
  refine ysv (.o [10,11,12] 14) k33 [.int .i64 0,.bool false,.slice none 0 0,.slice none 0 0] (.t B [188]) fun W35 u35 k35=>⟨(Zi u35 k33 (Nat.le_trans hBw g33) (by decide)),?_⟩
  refine xlv (.r [15] 14) k35.rp ?_
  have k2'9:=u35.blk ((k2.below n33.below).below hb34) (Ne.symm (Ne.symm d33_b2))
  refine xsv 1 k2'9 [.int .i64 0,.bool false,.slice none 0 0,.slice none 0 0] fun W36 u36 k36=>?_
  have g2:=n2.ge0 (blB (Below.refl B w) hBw n1.below)
  have hB'9:=u36.below (u35.below (blB (blB hB hBw n33.below) hBw hb34) (Nat.le_trans hBw g33)) (Nat.le_trans hBw g2)
  have hO:=(Ze.upd_new (Ze.upd_new (((((((show Ze [170] w _ from(Ze.of_below n1.below)).trans (Ze.of_below n2.below)).trans (Ze.of_upd u3 kW'1 (by decide))).trans (Ze.of_below hb4)).trans (Ze.of_below (Za W4))).trans (Ze.of_below n33.below)).trans (Ze.of_below hb34)) u35 g33) u36 g2)
  have k3'14:=u36.blkT (u35.blkT ((k3'4.below n33.below).below hb34) k33 (by decide)) k2'9 (by decide)
  have hv'2:=(hv.upd u35 k33 (by decide)).upd u36 k2'9 (by decide)
  exact xec 6 k36 (.tuple #[.agg #[.int .i64 0,.bool false,.slice none 0 0,.slice none 0 0],.iface 123 (.pointer (some ⟨bf,0,none⟩))]) ⟨hB'9,hO,k3'14,.inl ⟨by(unfold Zx;(repeat' split)<;>first|rfl|assumption|decide|omega|exact absurd (Eq.trans (Eq.symm ‹Va _ _=true›) ‹Va _ _=false›) (by decide)|(rename_i q;exact absurd ⟨by assumption,by assumption,by assumption⟩ q)|(rename_i q;obtain⟨q1,q2,q3⟩:=q;exact absurd (Eq.trans (Eq.symm q1) ‹Xl _=false›) (by decide))|(rename_i q;obtain⟨q1,q2,q3⟩:=q;omega)),_,_,_,_,_,_,_,_,_,_,rfl,by(unfold Zx;(repeat' split)<;>first|exact hv'2|(exfalso;omega)|contradiction|exact absurd (Eq.trans (Eq.symm ‹Va _ _=true›) ‹Va _ _=false›) (by decide)|(rename_i q;exact absurd ⟨by assumption,by assumption,by assumption⟩ q)|(rename_i q;obtain⟨q1,q2,q3⟩:=q;exact absurd (Eq.trans (Eq.symm q1) ‹Xl _=false›) (by decide))|(rename_i q;obtain⟨q1,q2,q3⟩:=q;omega))⟩⟩
 have hs34:=(blB hB hBw n33.below).size
 refine⟨(SF.of_below _ hb34),?_⟩
 have k33:=n33.blk.below hb34
 refine ysv (.o [10,11,12] 14) k33 [.int .i64 (Xr (inB l no)),.bool (Xl (inB l no)),.slice kp (Zn (inB l no)) kc,.slice vp (Zn (inB l no)) vc] (.t B [188]) fun W37 u37 k37=>⟨(Zi u37 k33 (Nat.le_trans hBw g33) (by decide)),?_⟩
 have k1:=u37.blkT (((((u3.blkT (n1.blk.below n2.below) kW'1 (by decide)).below hb4).below (Za W4)).below n33.below).below hb34) k33 (by decide)
 refine xlv (.r [15] 14) k1.rp ?_
 refine xb 1 2 k37 ?_
 have hk'5:=u37.own2 (Zd hk hs34) k33 (by decide)
 refine xr 0 (args:=#[.agg #[.int .i64 lo,.int .i64 hi],.slice kp (Zn (inB l no)) kc]) (Fz lo hi _ (Yx (inB l no) (Zn (inB l no))) _ (Ps (Zf hk'5) (Yr _ _))) fun W38 hb38=>?_
 refine xin 4 (Ys lo hi (Yx (inB l no) (Zn (inB l no)))) (0:Int) (fun hc39=>?_) (fun hc39=>?_)
 ·refine xd 1 (.t B [188]) ?_
  refine xm2 (.b [1,2]) 0 3 ?_ ?_
  ·have k37'1:=(k37.below hb38).below (Za W38)
   refine xlv 0 k37'1.rp ?_
   refine yc (.o [] 3) (args:=#[.int .i64 no,.iface 51 (.int .i64 9)]) (.t B [188]) (Qv no (some 9) [] _ _ rfl) ?_
   rintro _ W40 ⟨r40,rfl,hb40,hv40⟩
   refine⟨(SF.of_below _ hb40),?_⟩
   rw[Vr] at hv40
   obtain⟨t40,x40,rfl⟩:=hv40.iface
   have k2'10:=(((u37.blk ((k2.below n33.below).below hb34) (Ne.symm (Ne.symm d33_b2))).below hb38).below (Za W38)).below hb40
   have g2:=n2.ge0 (blB (Below.refl B w) hBw n1.below)
   refine ysv (.o [] 4) k2'10 [.int .i64 (Xr (inB l no)),.bool (Xl (inB l no)),.slice kp (Zn (inB l no)) kc,.slice vp (Zn (inB l no)) vc] (.t B [188]) fun W41 u41 k41=>⟨(Zi u41 k2'10 (Nat.le_trans hBw g2) (by decide)),?_⟩
   have hB'10:=u41.below (blB (blB (blB (u37.below (blB (blB hB hBw n33.below) hBw hb34) (Nat.le_trans hBw g33)) hBw hb38) hBw (Za W38)) hBw hb40) (Nat.le_trans hBw g2)
   have hO:=(Ze.upd_new ((((Ze.upd_new (((((((show Ze [170] w _ from(Ze.of_below n1.below)).trans (Ze.of_below n2.below)).trans (Ze.of_upd u3 kW'1 (by decide))).trans (Ze.of_below hb4)).trans (Ze.of_below (Za W4))).trans (Ze.of_below n33.below)).trans (Ze.of_below hb34)) u37 g33).trans (Ze.of_below hb38)).trans (Ze.of_below (Za W38))).trans (Ze.of_below hb40)) u41 g2)
   have k3'15:=u41.blkT ((((u37.blkT ((k3'4.below n33.below).below hb34) k33 (by decide)).below hb38).below (Za W38)).below hb40) k2'10 (by decide)
   have hv40'1:=hv40.upd u41 k2'10 (by decide)
   exact xec (.r [5] 5) k41 (.tuple #[.agg #[.int .i64 (Xr (inB l no)),.bool (Xl (inB l no)),.slice kp (Zn (inB l no)) kc,.slice vp (Zn (inB l no)) vc],.iface t40 (x40)]) ⟨hB'10,hO,k3'15,.inl ⟨by(unfold Zx;(repeat' split)<;>first|rfl|assumption|decide|omega|exact absurd (Eq.trans (Eq.symm ‹Va _ _=true›) ‹Va _ _=false›) (by decide)|(rename_i q;exact absurd ⟨by assumption,by assumption,by assumption⟩ q)|(rename_i q;obtain⟨q1,q2,q3⟩:=q;exact absurd (Eq.trans (Eq.symm q1) ‹Xl _=false›) (by decide))|(rename_i q;obtain⟨q1,q2,q3⟩:=q;omega)),_,_,_,_,_,_,_,_,_,_,rfl,by(unfold Zx;(repeat' split)<;>first|exact hv40'1|(exfalso;omega)|contradiction|exact absurd (Eq.trans (Eq.symm ‹Va _ _=true›) ‹Va _ _=false›) (by decide)|(rename_i q;exact absurd ⟨by assumption,by assumption,by assumption⟩ q)|(rename_i q;obtain⟨q1,q2,q3⟩:=q;exact absurd (Eq.trans (Eq.symm q1) ‹Xl _=false›) (by decide))|(rename_i q;obtain⟨q1,q2,q3⟩:=q;omega))⟩⟩
  refine yc 0 (args:=#[.int .i64 no,.iface 51 (.int .i64 9)]) (.t B [188]) (Qv no (some 9) [] _ _ rfl) ?_
  rintro _ W42 ⟨r42,rfl,hb42,hv42⟩
  refine⟨(SF.of_below _ hb42),?_⟩
  rw[Vr] at hv42
  obtain⟨t42,x42,rfl⟩:=hv42.iface
  have k37'2:=((k37.below hb38).below (Za W38)).below hb42
  refine xlv (.o [] 0) k37'2.rp ?_
  have k2'11:=(((u37.blk ((k2.below n33.below).below hb34) (Ne.symm (Ne.symm d33_b2))).below hb38).below (Za W38)).below hb42
  have g2:=n2.ge0 (blB (Below.refl B w) hBw n1.below)
  refine ysv (.o [] 4) k2'11 [.int .i64 (Xr (inB l no)),.bool (Xl (inB l no)),.slice kp (Zn (inB l no)) kc,.slice vp (Zn (inB l no)) vc] (.t B [188]) fun W43 u43 k43=>⟨(Zi u43 k2'11 (Nat.le_trans hBw g2) (by decide)),?_⟩
  have hB'11:=u43.below (blB (blB (blB (u37.below (blB (blB hB hBw n33.below) hBw hb34) (Nat.le_trans hBw g33)) hBw hb38) hBw (Za W38)) hBw hb42) (Nat.le_trans hBw g2)
  have hO:=(Ze.upd_new ((((Ze.upd_new (((((((show Ze [170] w _ from(Ze.of_below n1.below)).trans (Ze.of_below n2.below)).trans (Ze.of_upd u3 kW'1 (by decide))).trans (Ze.of_below hb4)).trans (Ze.of_below (Za W4))).trans (Ze.of_below n33.below)).trans (Ze.of_below hb34)) u37 g33).trans (Ze.of_below hb38)).trans (Ze.of_below (Za W38))).trans (Ze.of_below hb42)) u43 g2)
  have k3'16:=u43.blkT ((((u37.blkT ((k3'4.below n33.below).below hb34) k33 (by decide)).below hb38).below (Za W38)).below hb42) k2'11 (by decide)
  have hv42'1:=hv42.upd u43 k2'11 (by decide)
  exact xec (.r [5] 5) k43 (.tuple #[.agg #[.int .i64 (Xr (inB l no)),.bool (Xl (inB l no)),.slice kp (Zn (inB l no)) kc,.slice vp (Zn (inB l no)) vc],.iface t42 (x42)]) ⟨hB'11,hO,k3'16,.inl ⟨by(unfold Zx;(repeat' split)<;>first|rfl|assumption|decide|omega|exact absurd (Eq.trans (Eq.symm ‹Va _ _=true›) ‹Va _ _=false›) (by decide)|(rename_i q;exact absurd ⟨by assumption,by assumption,by assumption⟩ q)|(rename_i q;obtain⟨q1,q2,q3⟩:=q;exact absurd (Eq.trans (Eq.symm q1) ‹Xl _=false›) (by decide))|(rename_i q;obtain⟨q1,q2,q3⟩:=q;omega)),_,_,_,_,_,_,_,_,_,_,rfl,by(unfold Zx;(repeat' split)<;>first|exact hv42'1|(exfalso;omega)|contradiction|exact absurd (Eq.trans (Eq.symm ‹Va _ _=true›) ‹Va _ _=false›) (by decide)|(rename_i q;exact absurd ⟨by assumption,by assumption,by assumption⟩ q)|(rename_i q;obtain⟨q1,q2,q3⟩:=q;exact absurd (Eq.trans (Eq.symm q1) ‹Xl _=false›) (by decide))|(rename_i q;obtain⟨q1,q2,q3⟩:=q;omega))⟩⟩
 refine xd 1 .z ?_
 have k37'3:=(k37.below hb38).below (Za W38)
 refine xb (.e [0] 1) 1 k37'3 ?_
 refine xg (.b [2]) [69,70] (Xl (inB l no)) (fun hc44=>?_) (fun hc44=>?_)
 ·have k3'17:=((u37.blkT ((k3'4.below n33.below).below hb34) k33 (by decide)).below hb38).below (Za W38)
  refine xb (.e [3,4,5,6] 7) 2 k3'17 ?_
  refine xg (.b [8,9,10]) [76,77,78] (deep != (0:Int)) (fun hc45=>?_) (fun hc45=>?_)
  ·have hc45:=Qx hc45
   refine xb (.e [11,12,13,14] 15) 2 k3'17 ?_
   refine xb (.e [16,17,18] 19) 8 k3'17 ?_
   refine xwm (.e [20] 21) ((↑way.length:Int)+1) (↑(way.length+1):Int) ?_
   refine xin (.r [22,23,24] 2) deep (↑(way.length+1):Int) (fun hc46=>?_) (fun hc46=>?_)
   ·refine xd 1 (.t B [188]) ?_
    refine xm2 (.b [1,2]) 0 3 ?_ ?_
    ·have k37'4:=k37'3.below (Za W38.drew)
     refine xlv 0 k37'4.rp ?_
     refine yc (.o [] 3) (args:=#[.int .i64 no,.iface 51 (.int .i64 10)]) (.t B [188]) (Qv no (some 10) [] _ _ rfl) ?_
     rintro _ W47 ⟨r47,rfl,hb47,hv47⟩
     refine⟨(SF.of_below _ hb47),?_⟩
     rw[Vr] at hv47
     obtain⟨t47,x47,rfl⟩:=hv47.iface
     have k2'12:=((((u37.blk ((k2.below n33.below).below hb34) (Ne.symm (Ne.symm d33_b2))).below hb38).below (Za W38)).below (Za W38.drew)).below hb47
     have g2:=n2.ge0 (blB (Below.refl B w) hBw n1.below)
     refine ysv (.o [] 4) k2'12 [.int .i64 (Xr (inB l no)),.bool (Xl (inB l no)),.slice kp (Zn (inB l no)) kc,.slice vp (Zn (inB l no)) vc] (.t B [188]) fun W48 u48 k48=>⟨(Zi u48 k2'12 (Nat.le_trans hBw g2) (by decide)),?_⟩
     have hB'12:=u48.below (blB (blB (blB (blB (u37.below (blB (blB hB hBw n33.below) hBw hb34) (Nat.le_trans hBw g33)) hBw hb38) hBw (Za W38)) hBw (Za W38.drew)) hBw hb47) (Nat.le_trans hBw g2)
     have hO:=(Ze.upd_new (((((Ze.upd_new (((((((show Ze [170] w _ from(Ze.of_below n1.below)).trans (Ze.of_below n2.below)).trans (Ze.of_upd u3 kW'1 (by decide))).trans (Ze.of_below hb4)).trans (Ze.of_below (Za W4))).trans (Ze.of_below n33.below)).trans (Ze.of_below hb34)) u37 g33).trans (Ze.of_below hb38)).trans (Ze.of_below (Za W38))).trans (Ze.of_below (Za W38.drew))).trans (Ze.of_below hb47)) u48 g2)
     have k3'18:=u48.blkT ((k3'17.below (Za W38.drew)).below hb47) k2'12 (by decide)
     have hv47'1:=hv47.upd u48 k2'12 (by decide)
     exact xec (.r [5] 5) k48 (.tuple #[.agg #[.int .i64 (Xr (inB l no)),.bool (Xl (inB l no)),.slice kp (Zn (inB l no)) kc,.slice vp (Zn (inB l no)) vc],.iface t47 (x47)]) ⟨hB'12,hO,k3'18,.inl ⟨by(unfold Zx;(repeat' split)<;>first|rfl|assumption|decide|omega|exact absurd (Eq.trans (Eq.symm ‹Va _ _=true›) ‹Va _ _=false›) (by decide)|(rename_i q;exact absurd ⟨by assumption,by assumption,by assumption⟩ q)|(rename_i q;obtain⟨q1,q2,q3⟩:=q;exact absurd (Eq.trans (Eq.symm q1) ‹Xl _=false›) (by decide))|(rename_i q;obtain⟨q1,q2,q3⟩:=q;omega)),_,_,_,_,_,_,_,_,_,_,rfl,by(unfold Zx;(repeat' split)<;>first|exact hv47'1|(exfalso;omega)|contradiction|exact absurd (Eq.trans (Eq.symm ‹Va _ _=true›) ‹Va _ _=false›) (by decide)|(rename_i q;exact absurd ⟨by assumption,by assumption,by assumption⟩ q)|(rename_i q;obtain⟨q1,q2,q3⟩:=q;exact absurd (Eq.trans (Eq.symm q1) ‹Xl _=false›) (by decide))|(rename_i q;obtain⟨q1,q2,q3⟩:=q;omega))⟩⟩
    refine yc 0 (args:=#[.int .i64 no,.iface 51 (.int .i64 10)]) (.t B [188]) (Qv no (some 10) [] _ _ rfl) ?_
    rintro _ W49 ⟨r49,rfl,hb49,hv49⟩
    refine⟨(SF.of_below _ hb49),?_⟩
    rw[Vr] at hv49
    obtain⟨t49,x49,rfl⟩:=hv49.iface
    have k37'5:=(k37'3.below (Za W38.drew)).below hb49
    refine xlv (.o [] 0) k37'5.rp ?_
    have k2'13:=((((u37.blk ((k2.below n33.below).below hb34) (Ne.symm (Ne.symm d33_b2))).below hb38).below (Za W38)).below (Za W38.drew)).below hb49
    have g2:=n2.ge0 (blB (Below.refl B w) hBw n1.below)
    refine ysv (.o [] 4) k2'13 [.int .i64 (Xr (inB l no)),.bool (Xl (inB l no)),.slice kp (Zn (inB l no)) kc,.slice vp (Zn (inB l no)) vc] (.t B [188]) fun W50 u50 k50=>⟨(Zi u50 k2'13 (Nat.le_trans hBw g2) (by decide)),?_⟩
    have hB'13:=u50.below (blB (blB (blB (blB (u37.below (blB (blB hB hBw n33.below) hBw hb34) (Nat.le_trans hBw g33)) hBw hb38) hBw (Za W38)) hBw (Za W38.drew)) hBw hb49) (Nat.le_trans hBw g2)
    have hO:=(Ze.upd_new (((((Ze.upd_new (((((((show Ze [170] w _ from(Ze.of_below n1.below)).trans (Ze.of_below n2.below)).trans (Ze.of_upd u3 kW'1 (by decide))).trans (Ze.of_below hb4)).trans (Ze.of_below (Za W4))).trans (Ze.of_below n33.below)).trans (Ze.of_below hb34)) u37 g33).trans (Ze.of_below hb38)).trans (Ze.of_below (Za W38))).trans (Ze.of_below (Za W38.drew))).trans (Ze.of_below hb49)) u50 g2)
    have k3'19:=u50.blkT ((k3'17.below (Za W38.drew)).below hb49) k2'13 (by decide)
    have hv49'1:=hv49.upd u50 k2'13 (by decide)
    exact xec (.r [5] 5) k50 (.tuple #[.agg #[.int .i64 (Xr (inB l no)),.bool (Xl (inB l no)),.slice kp (Zn (inB l no)) kc,.slice vp (Zn (inB l no)) vc],.iface t49 (x49)]) ⟨hB'13,hO,k3'19,.inl ⟨by(unfold Zx;(repeat' split)<;>first|rfl|assumption|decide|omega|exact absurd (Eq.trans (Eq.symm ‹Va _ _=true›) ‹Va _ _=false›) (by decide)|(rename_i q;exact absurd ⟨by assumption,by assumption,by assumption⟩ q)|(rename_i q;obtain⟨q1,q2,q3⟩:=q;exact absurd (Eq.trans (Eq.symm q1) ‹Xl _=false›) (by decide))|(rename_i q;obtain⟨q1,q2,q3⟩:=q;omega)),_,_,_,_,_,_,_,_,_,_,rfl,by(unfold Zx;(repeat' split)<;>first|exact hv49'1|(exfalso;omega)|contradiction|exact absurd (Eq.trans (Eq.symm ‹Va _ _=true›) ‹Va _ _=false›) (by decide)|(rename_i q;exact absurd ⟨by assumption,by assumption,by assumption⟩ q)|(rename_i q;obtain⟨q1,q2,q3⟩:=q;exact absurd (Eq.trans (Eq.symm q1) ‹Xl _=false›) (by decide))|(rename_i q;obtain⟨q1,q2,q3⟩:=q;omega))⟩⟩
   refine xlv 5 k37'3.rp ?_
   have k2'14:=((u37.blk ((k2.below n33.below).below hb34) (Ne.symm (Ne.symm d33_b2))).below hb38).below (Za W38)
   refine xsv 0 k2'14 [.int .i64 (Xr (inB l no)),.bool (Xl (inB l no)),.slice kp (Zn (inB l no)) kc,.slice vp (Zn (inB l no)) vc] fun W51 u51 k51=>?_
   have g2:=n2.ge0 (blB (Below.refl B w) hBw n1.below)
   have hB'14:=u51.below (blB (blB (u37.below (blB (blB hB hBw n33.below) hBw hb34) (Nat.le_trans hBw g33)) hBw hb38) hBw (Za W38)) (Nat.le_trans hBw g2)
   have hO:=(Ze.upd_new (((Ze.upd_new (((((((show Ze [170] w _ from(Ze.of_below n1.below)).trans (Ze.of_below n2.below)).trans (Ze.of_upd u3 kW'1 (by decide))).trans (Ze.of_below hb4)).trans (Ze.of_below (Za W4))).trans (Ze.of_below n33.below)).trans (Ze.of_below hb34)) u37 g33).trans (Ze.of_below hb38)).trans (Ze.of_below (Za W38))) u51 g2)
   have k3'20:=u51.blkT k3'17 k2'14 (by decide)
   have hk'6:=u51.own2 (Zb (Zb hk'5 hb38) (Za W38)) k2'14 (by decide)
   have hv_'4:=u51.own2 (Zb (Zb (u37.own2 (Zd hv_ hs34) k33 (by decide)) hb38) (Za W38)) k2'14 (by decide)
   exact xec 4 k51 (.tuple #[.agg #[.int .i64 (Xr (inB l no)),.bool (Xl (inB l no)),.slice kp (Zn (inB l no)) kc,.slice vp (Zn (inB l no)) vc],.nilIface]) ⟨hB'14,hO,k3'20,.inr ⟨by(unfold Zx;(repeat' split)<;>first|rfl|assumption|decide|omega|exact absurd (Eq.trans (Eq.symm ‹Va _ _=true›) ‹Va _ _=false›) (by decide)|(rename_i q;exact absurd ⟨by assumption,by assumption,by assumption⟩ q)|(rename_i q;obtain⟨q1,q2,q3⟩:=q;exact absurd (Eq.trans (Eq.symm q1) ‹Xl _=false›) (by decide))|(rename_i q;obtain⟨q1,q2,q3⟩:=q;omega)),by assumption,_,_,_,_,rfl,hk'6,hv_'4⟩⟩
  have hc45:=Xk hc45
  refine xlv (.r [11,12,13,14,15,16,17,18,19,20,21,22,23,24] 8) k37'3.rp ?_
  have k2'15:=((u37.blk ((k2.below n33.below).below hb34) (Ne.symm (Ne.symm d33_b2))).below hb38).below (Za W38)
  refine xsv 0 k2'15 [.int .i64 (Xr (inB l no)),.bool (Xl (inB l no)),.slice kp (Zn (inB l no)) kc,.slice vp (Zn (inB l no)) vc] fun W52 u52 k52=>?_
  have g2:=n2.ge0 (blB (Below.refl B w) hBw n1.below)
  have hB'15:=u52.below (blB (blB (u37.below (blB (blB hB hBw n33.below) hBw hb34) (Nat.le_trans hBw g33)) hBw hb38) hBw (Za W38)) (Nat.le_trans hBw g2)
  have hO:=(Ze.upd_new (((Ze.upd_new (((((((show Ze [170] w _ from(Ze.of_below n1.below)).trans (Ze.of_below n2.below)).trans (Ze.of_upd u3 kW'1 (by decide))).trans (Ze.of_below hb4)).trans (Ze.of_below (Za W4))).trans (Ze.of_below n33.below)).trans (Ze.of_below hb34)) u37 g33).trans (Ze.of_below hb38)).trans (Ze.of_below (Za W38))) u52 g2)
  have k3'21:=u52.blkT k3'17 k2'15 (by decide)
  have hk'7:=u52.own2 (Zb (Zb hk'5 hb38) (Za W38)) k2'15 (by decide)
  have hv_'5:=u52.own2 (Zb (Zb (u37.own2 (Zd hv_ hs34) k33 (by decide)) hb38) (Za W38)) k2'15 (by decide)
  exact xec 4 k52 (.tuple #[.agg #[.int .i64 (Xr (inB l no)),.bool (Xl (inB l no)),.slice kp (Zn (inB l no)) kc,.slice vp (Zn (inB l no)) vc],.nilIface]) ⟨hB'15,hO,k3'21,.inr ⟨by(unfold Zx;(repeat' split)<;>first|rfl|assumption|decide|omega|exact absurd (Eq.trans (Eq.symm ‹Va _ _=true›) ‹Va _ _=false›) (by decide)|(rename_i q;exact absurd ⟨by assumption,by assumption,by assumption⟩ q)|(rename_i q;obtain⟨q1,q2,q3⟩:=q;exact absurd (Eq.trans (Eq.symm q1) ‹Xl _=false›) (by decide))|(rename_i q;obtain⟨q1,q2,q3⟩:=q;omega)),by assumption,_,_,_,_,rfl,hk'7,hv_'5⟩⟩
 refine xlv (.r [3,4,5,6,7,8,9,10,11,12,13,14,15,16,17,18,19,20,21,22,23,24] 8) k37'3.rp ?_
 have k2'16:=((u37.blk ((k2.below n33.below).below hb34) (Ne.symm (Ne.symm d33_b2))).below hb38).below (Za W38)
 refine xsv 0 k2'16 [.int .i64 (Xr (inB l no)),.bool (Xl (inB l no)),.slice kp (Zn (inB l no)) kc,.slice vp (Zn (inB l no)) vc] fun W53 u53 k53=>?_
 have g2:=n2.ge0 (blB (Below.refl B w) hBw n1.below)
 have hB'16:=u53.below (blB (blB (u37.below (blB (blB hB hBw n33.below) hBw hb34) (Nat.le_trans hBw g33)) hBw hb38) hBw (Za W38)) (Nat.le_trans hBw g2)
 have hO:=(Ze.upd_new (((Ze.upd_new (((((((show Ze [170] w _ from(Ze.of_below n1.below)).trans (Ze.of_below n2.below)).trans (Ze.of_upd u3 kW'1 (by decide))).trans (Ze.of_below hb4)).trans (Ze.of_below (Za W4))).trans (Ze.of_below n33.below)).trans (Ze.of_below hb34)) u37 g33).trans (Ze.of_below hb38)).trans (Ze.of_below (Za W38))) u53 g2)
 have k3'22:=u53.blkT (((u37.blkT ((k3'4.below n33.below).below hb34) k33 (by decide)).below hb38).below (Za W38)) k2'16 (by decide)
 have hk'8:=u53.own2 (Zb (Zb hk'5 hb38) (Za W38)) k2'16 (by decide)
 have hv_'6:=u53.own2 (Zb (Zb (u37.own2 (Zd hv_ hs34) k33 (by decide)) hb38) (Za W38)) k2'16 (by decide)
 exact xec 4 k53 (.tuple #[.agg #[.int .i64 (Xr (inB l no)),.bool (Xl (inB l no)),.slice kp (Zn (inB l no)) kc,.slice vp (Zn (inB l no)) vc],.nilIface]) ⟨hB'16,hO,k3'22,.inr ⟨by(unfold Zx;(repeat' split)<;>first|rfl|assumption|decide|omega|exact absurd (Eq.trans (Eq.symm ‹Va _ _=true›) ‹Va _ _=false›) (by decide)|(rename_i q;exact absurd ⟨by assumption,by assumption,by assumption⟩ q)|(rename_i q;obtain⟨q1,q2,q3⟩:=q;exact absurd (Eq.trans (Eq.symm q1) ‹Xl _=false›) (by decide))|(rename_i q;obtain⟨q1,q2,q3⟩:=q;omega)),by assumption,_,_,_,_,rfl,hk'8,hv_'6⟩⟩
end Go.Proofs.YthlakkdgcgkcdaaGreatDoor
