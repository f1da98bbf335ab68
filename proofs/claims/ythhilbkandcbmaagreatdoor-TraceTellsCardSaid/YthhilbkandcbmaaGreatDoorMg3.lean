/- code.Pack of one field and of the six fields of a node; value.Root. -/
import Derived.Laws.IdiomStrings
import Derived.Test.YthhilbkandcbmaaGreatDoorRows
import Derived.RangeFuncNested
import Derived.RangeFuncBound
import Derived.RangeFuncCalls
import Derived.RangeFuncLeaves
import Derived.Shelf.Abstract
import Derived.Shelf.RegionOpen
import Derived.OwnWalkIn
import Derived.TacticsInMore
import Derived.LoopNIn
import Derived.LoopIn
import Derived.Test.YthhilbkandcbmaaGreatDoorMg2
namespace Go.Proofs.YthhilbkandcbmaaGreatDoor
set_option maxHeartbeats 8000000
set_option maxRecDepth 100000
open Go.RowKit Go.Extern.Stop Go.Stop Go.Extern
set_option linter.unusedVariables false
attribute [local irreducible] wpList wpAnyH Code.wp Oper.wp Go
theorem Cc(g:Nat)(n:Int)(h0:0≤n)(hb:n<4294967296)(w:World)(hk:Blk w g [V0 4,V0 n] 221) :
 C0 118 #[.slice (S1 g) 1 1] w (Qd (fun w' r=>∃ p c,r=.tuple #[.slice p 4 c,V0 0]∧w'.ownsRow w.heap.size 5 1 (.slice p 4 c) 4 ((leB n 4).map bv)) w):=by
 refine zin 32 Tryz.func118 ?_
 refine xu 20 2 ?_
 refine xlv 14 hk.rp ?_
 refine xa 0 [V0 0,V0 0] 221 fun b1 W1 n1=>?_
 have b0:=n1.ne hk
 refine xsv 0 n1.blk [V0 4,V0 n] fun W2 u2 k2=>?_
 have g1:=n1.ge (B4 w)
 refine xb 6 0 k2 ?_
 refine xr 0 (args:=#[V0 4]) (Af _) fun W3 a3=>?_
 have a1:=k2.below a3
 refine xb 10 1 a1 ?_
 refine xb 1 0 a1 ?_
 refine xr 0 (args:=#[V0 n,V0 4]) (Zdj (n) (h0) (hb) _) fun W4 a6=>?_
 have a2:=a1.below a6
 refine xb 9 1 a2 ?_
 refine xb 1 0 a2 ?_
 refine xc 0 (args:=#[V0 n,V0 4]) (Ar (n) (h0) _) ?_
 rintro _ W5 ⟨_,rfl,b5,a4⟩
 have b4:=(bln (bln (u2.below n1.below g1) a3) a6).size
 have a0:=Ze a4 b4
 unfold Ph at a0
 rw[Zm] at a0
 obtain⟨b2,a8,rfl⟩:=(Zd a0).slice
 have o6:=World.ownsRow_nil W5 w.heap.size 5 1
 have hB:=bln (bln (bln (u2.below n1.below g1) a3) a6) b5
 refine xbi 0 fun _ _ _ _ zJ zQ zo zx zy zK=>Zo (m:=4) (news:=(leB (n) 4).map bv) (.int .u8 0) 1 1 (4) ((leB (n) 4).map bv) zo Tryz.underlying22 (by kernel_rfl) rfl (by decide) zx o6 zy (Zd a0) (by simp[Zm]) (Yw _) (by unfold maxLen;omega) (by omega) hB.size (by rfl) (by simp) fun a7 a9 W7 o7 b6 b3=>?_
 refine zK _ _ ?_
 have a5:=hB.trans b3
 exact xe 29 (.tuple #[.slice a7 4 a9,V0 0]) ⟨_,rfl,a5,_,_,rfl,o7⟩
theorem Pack_8(g:Nat)(n:Int)(h0:0≤n)(w:World)(hk:Blk w g [V0 8,V0 n] 221) :
 C0 118 #[.slice (S1 g) 1 1] w (Qd (fun w' r=>∃ p c,r=.tuple #[.slice p 8 c,V0 0]∧w'.ownsRow w.heap.size 5 1 (.slice p 8 c) 8 ((leB n 8).map bv)) w):=by
 refine zin 32 Tryz.func118 ?_
 refine xu 20 2 ?_
 refine xlv 14 hk.rp ?_
 refine xa 0 [V0 0,V0 0] 221 fun b1 W1 n1=>?_
 have b0:=n1.ne hk
 refine xsv 0 n1.blk [V0 8,V0 n] fun W2 u2 k2=>?_
 have g1:=n1.ge (B4 w)
 refine xb 6 0 k2 ?_
 refine xr 0 (args:=#[V0 8]) (known_8 _) fun W3 a3=>?_
 have a1:=k2.below a3
 refine xb 10 1 a1 ?_
 refine xb 1 0 a1 ?_
 refine xr 0 (args:=#[V0 n,V0 8]) (fits_8 (n) (h0) _) fun W4 a6=>?_
 have a2:=a1.below a6
 refine xb 9 1 a2 ?_
 refine xb 1 0 a2 ?_
 refine xc 0 (args:=#[V0 n,V0 8]) (bytes_8 (n) (h0) _) ?_
 rintro _ W5 ⟨_,rfl,b5,a4⟩
 have b4:=(bln (bln (u2.below n1.below g1) a3) a6).size
 have a0:=Ze a4 b4
 unfold Ph at a0
 rw[Zm] at a0
 obtain⟨b2,a8,rfl⟩:=(Zd a0).slice
 have o6:=World.ownsRow_nil W5 w.heap.size 5 1
 have hB:=bln (bln (bln (u2.below n1.below g1) a3) a6) b5
 refine xbi 0 fun _ _ _ _ zJ zQ zo zx zy zK=>Zo (m:=8) (news:=(leB (n) 8).map bv) (.int .u8 0) 1 1 (8) ((leB (n) 8).map bv) zo Tryz.underlying22 (by kernel_rfl) rfl (by decide) zx o6 zy (Zd a0) (by simp[Zm]) (Yw _) (by unfold maxLen;omega) (by omega) hB.size (by rfl) (by simp) fun a7 a9 W7 o7 b6 b3=>?_
 refine zK _ _ ?_
 have a5:=hB.trans b3
 exact xe 29 (.tuple #[.slice a7 8 a9,V0 0]) ⟨_,rfl,a5,_,_,rfl,o7⟩
theorem Pack_node(g:Nat)(f t k v m:Int)(hf:0≤f)(hf2:f<256)(ht:0≤t)(ht2:t<256)(hk1:0≤k)(hk2:k<65536)(hv:0≤v)(hv2:v<65536)(hm:0≤m)(hm2:m<65536)(w:World)(hk:Blk w g [V0 1,V0 f,V0 1,V0 t,V0 2,V0 k,V0 2,V0 v,V0 2,V0 m,V0 4,V0 0] 221) :
 C0 118 #[.slice (S1 g) 6 6] w (Qd (fun w' r=>∃ p c,r=.tuple #[.slice p 12 c,V0 0]∧w'.ownsRow w.heap.size 5 1 (.slice p 12 c) 12 ((leB f 1++leB t 1++leB k 2++leB v 2++leB m 2++leB 0 4).map bv)) w):=by
 refine zin 32 Tryz.func118 ?_
 refine xu 20 7 ?_
 refine xlv 14 (hk.rpp 0 2) ?_
 refine xa 0 [V0 0,V0 0] 221 fun b1 W1 n1=>?_
 have l7:=n1.ne hk
 refine xsv 0 n1.blk [V0 1,V0 f] fun W2 u2 k2=>?_
 have g1:=n1.ge (B4 w)
 refine xb 6 0 k2 ?_
 refine xr 0 (args:=#[V0 1]) (Zbe _) fun W3 j7=>?_
 have f2:=k2.below j7
 refine xb 10 1 f2 ?_
 refine xb 1 0 f2 ?_
 refine xr 0 (args:=#[V0 f,V0 1]) (fits_1 (f) (hf) (hf2) _) fun W4 j8=>?_
 have f3:=f2.below j8
 refine xb 9 1 f3 ?_
 refine xb 1 0 f3 ?_
 refine xc 0 (args:=#[V0 f,V0 1]) (bytes_1 (f) (hf) _) ?_
 rintro _ W5 ⟨_,rfl,m5,k6⟩
 have r0:=(bln (bln (u2.below n1.below g1) j7) j8).size
 have a7:=Ze k6 r0
 unfold Ph at a7
 rw[Zm] at a7
 obtain⟨q1,o1,rfl⟩:=(Zd a7).slice
 have o6:=World.ownsRow_nil W5 w.heap.size 5 1
 have hB:=bln (bln (bln (u2.below n1.below g1) j7) j8) m5
 refine xbi 0 fun _ _ _ _ zJ zQ zo zx zy zK=>Zo (m:=1) (news:=(leB (f) 1).map bv) (.int .u8 0) 1 1 (1) ((leB (f) 1).map bv) zo Tryz.underlying22 (by kernel_rfl) rfl (by decide) zx o6 zy (Zd a7) (by simp[Zm]) (Yw _) (by unfold maxLen;omega) (by omega) hB.size (by rfl) (by simp) fun u1 s2 W7 o7 n3 o9=>?_
 refine zK _ _ ?_
 have f6:=((((u2.blk (hk.below n1.below) (Ne.symm (Ne.symm l7))).below j7).below j8).below m5).grown n3 o6 (by decide)
 refine xlv 23 (f6.rpp 2 2) ?_
 refine xa 0 [V0 0,V0 0] 221 fun b8 W8 n8=>?_
 have l0:=n8.ne f6
 have j2:=(f3.below m5).grown n3 o6 (by decide)
 have i4:=n8.ne j2
 have g9:=hB.trans o9
 have g8:=n8.ge g9
 refine xsv 0 n8.blk [V0 1,V0 t] fun W9 u9 k9=>?_
 refine xb 6 0 k9 ?_
 refine xr 0 (args:=#[V0 1]) (Zbe _) fun r2 c2=>?_
 have g2:=k9.below c2
 refine xb 10 1 g2 ?_
 refine xb 1 0 g2 ?_
 refine xr 0 (args:=#[V0 t,V0 1]) (fits_1 (t) (ht) (ht2) _) fun r9 c1=>?_
 have g5:=g2.below c1
 refine xb 9 1 g5 ?_
 refine xb 1 0 g5 ?_
 refine xc 0 (args:=#[V0 t,V0 1]) (bytes_1 (t) (ht) _) ?_
 rintro _ r7 ⟨_,rfl,c9,m6⟩
 have k7:=(bln (bln (u9.below (bln g9 n8.below) g8) c2) c1).size
 have a5:=Ze m6 k7
 unfold Ph at a5
 rw[Zm] at a5
 obtain⟨q5,q9,rfl⟩:=(Zd a5).slice
 have d7:=Zb (Zb (Zb (u9.own2 (Zb o7 n8.below) n8.blk (by decide)) c2) c1) c9
 have i2:=bln (bln (bln (u9.below (bln g9 n8.below) g8) c2) c1) c9
 refine xbi 0 fun _ _ _ _ zJ zQ zo zx zy zK=>Zo (m:=1) (news:=(leB (t) 1).map bv) (.int .u8 0) 1 1 (2) ((leB (f) 1++leB (t) 1).map bv) zo Tryz.underlying22 (by kernel_rfl) rfl (by decide) zx d7 zy (Zd a5) (by simp[Zm]) (Yw _) (by unfold maxLen;omega) (by omega) i2.size (by rfl) (by simp) fun p0 p5 r8 q2 g3 l1=>?_
 refine zK _ _ ?_
 have h1:=((((u9.blk (f6.below n8.below) (Ne.symm (Ne.symm l0))).below c2).below c1).below c9).grown g3 d7 (by decide)
 refine xlv 23 (h1.rpp 4 2) ?_
 refine xa 0 [V0 0,V0 0] 221 fun s6 r5 c6=>?_
 have j5:=c6.ne h1
 have h9:=((((u9.blk (j2.below n8.below) (Ne.symm (Ne.symm i4))).below c2).below c1).below c9).grown g3 d7 (by decide)
 have f4:=c6.ne h9
 have i7:=(g5.below c9).grown g3 d7 (by decide)
 have h2:=c6.ne i7
 have f0:=i2.trans l1
 have n6:=c6.ge f0
 refine xsv 0 c6.blk [V0 2,V0 k] fun u0 h3 n0=>?_
 refine xb 6 0 n0 ?_
 refine xr 0 (args:=#[V0 2]) (Tw _) fun s8 b7=>?_
 have d0:=n0.below b7
 refine xb 10 1 d0 ?_
 refine xb 1 0 d0 ?_
 refine xr 0 (args:=#[V0 k,V0 2]) (Zdm (k) (hk1) (hk2) _) fun t6 b6=>?_
 have d3:=d0.below b6
 refine xb 9 1 d3 ?_
 refine xb 1 0 d3 ?_
 refine xc 0 (args:=#[V0 k,V0 2]) (Ip (k) (hk1) _) ?_
 rintro _ t5 ⟨_,rfl,c4,l4⟩
 have l6:=(bln (bln (h3.below (bln f0 c6.below) n6) b7) b6).size
 have a2:=Ze l4 l6
 unfold Ph at a2
 rw[Zm] at a2
 obtain⟨q8,p6,rfl⟩:=(Zd a2).slice
 have b0:=Zb (Zb (Zb (h3.own2 (Zb q2 c6.below) c6.blk (by decide)) b7) b6) c4
 have i0:=bln (bln (bln (h3.below (bln f0 c6.below) n6) b7) b6) c4
 refine xbi 0 fun _ _ _ _ zJ zQ zo zx zy zK=>Zo (m:=2) (news:=(leB (k) 2).map bv) (.int .u8 0) 1 1 (4) ((leB (f) 1++leB (t) 1++leB (k) 2).map bv) zo Tryz.underlying22 (by kernel_rfl) rfl (by decide) zx b0 zy (Zd a2) (by simp[Zm]) (Yw _) (by unfold maxLen;omega) (by omega) i0.size (by rfl) (by simp) fun o8 o3 t7 p4 d8 l8=>?_
 refine zK _ _ ?_
 have g7:=((((h3.blk (h1.below c6.below) (Ne.symm (Ne.symm j5))).below b7).below b6).below c4).grown d8 b0 (by decide)
 refine xlv 23 (g7.rpp 6 2) ?_
 refine xa 0 [V0 0,V0 0] 221 fun u3 t2 c0=>?_
 have i8:=c0.ne g7
 have h6:=((((h3.blk (h9.below c6.below) (Ne.symm (Ne.symm f4))).below b7).below b6).below c4).grown d8 b0 (by decide)
 have h0:=c0.ne h6
 have i9:=((((h3.blk (i7.below c6.below) (Ne.symm (Ne.symm h2))).below b7).below b6).below c4).grown d8 b0 (by decide)
 have g0:=c0.ne i9
 have e8:=(d3.below c4).grown d8 b0 (by decide)
 have e2:=c0.ne e8
 have g6:=i0.trans l8
 have n9:=c0.ge g6
 refine xsv 0 c0.blk [V0 2,V0 v] fun r1 f9 n2=>?_
 refine xb 6 0 n2 ?_
 refine xr 0 (args:=#[V0 2]) (Tw _) fun t8 b2=>?_
 have d1:=n2.below b2
 refine xb 10 1 d1 ?_
 refine xb 1 0 d1 ?_
 refine xr 0 (args:=#[V0 v,V0 2]) (Zdm (v) (hv) (hv2) _) fun s0 b4=>?_
 have d2:=d1.below b4
 refine xb 9 1 d2 ?_
 refine xb 1 0 d2 ?_
 refine xc 0 (args:=#[V0 v,V0 2]) (Ip (v) (hv) _) ?_
 rintro _ r4 ⟨_,rfl,b9,m3⟩
 have m4:=(bln (bln (f9.below (bln g6 c0.below) n9) b2) b4).size
 have a9:=Ze m3 m4
 unfold Ph at a9
 rw[Zm] at a9
 obtain⟨p8,p9,rfl⟩:=(Zd a9).slice
 have a1:=Zb (Zb (Zb (f9.own2 (Zb p4 c0.below) c0.blk (by decide)) b2) b4) b9
 have h4:=bln (bln (bln (f9.below (bln g6 c0.below) n9) b2) b4) b9
 refine xbi 0 fun _ _ _ _ zJ zQ zo zx zy zK=>Zo (m:=2) (news:=(leB (v) 2).map bv) (.int .u8 0) 1 1 (6) ((leB (f) 1++leB (t) 1++leB (k) 2++leB (v) 2).map bv) zo Tryz.underlying22 (by kernel_rfl) rfl (by decide) zx a1 zy (Zd a9) (by simp[Zm]) (Yw _) (by unfold maxLen;omega) (by omega) h4.size (by rfl) (by simp) fun p1 o5 t4 q0 d4 k5=>?_
 refine zK _ _ ?_
 have e9:=((((f9.blk (g7.below c0.below) (Ne.symm (Ne.symm i8))).below b2).below b4).below b9).grown d4 a1 (by decide)
 refine xlv 23 (e9.rpp 8 2) ?_
 refine xa 0 [V0 0,V0 0] 221 fun s5 u4 b5=>?_
 have h8:=b5.ne e9
 have i1:=((((f9.blk (h6.below c0.below) (Ne.symm (Ne.symm h0))).below b2).below b4).below b9).grown d4 a1 (by decide)
 have f5:=b5.ne i1
 have i3:=((((f9.blk (i9.below c0.below) (Ne.symm (Ne.symm g0))).below b2).below b4).below b9).grown d4 a1 (by decide)
 have f1:=b5.ne i3
 have e5:=((((f9.blk (e8.below c0.below) (Ne.symm (Ne.symm e2))).below b2).below b4).below b9).grown d4 a1 (by decide)
 have d9:=b5.ne e5
 have e7:=(d2.below b9).grown d4 a1 (by decide)
 have d6:=b5.ne e7
 have f7:=h4.trans k5
 have n7:=b5.ge f7
 refine xsv 0 b5.blk [V0 2,V0 m] fun s9 e3 n4=>?_
 refine xb 6 0 n4 ?_
 refine xr 0 (args:=#[V0 2]) (Tw _) fun t3 a4=>?_
 have c7:=n4.below a4
 refine xb 10 1 c7 ?_
 refine xb 1 0 c7 ?_
 refine xr 0 (args:=#[V0 m,V0 2]) (Zdm (m) (hm) (hm2) _) fun t0 a3=>?_
 have c8:=c7.below a3
 refine xb 9 1 c8 ?_
 refine xb 1 0 c8 ?_
 refine xc 0 (args:=#[V0 m,V0 2]) (Ip (m) (hm) _) ?_
 rintro _ t1 ⟨_,rfl,b3,l2⟩
 have k1:=(bln (bln (e3.below (bln f7 b5.below) n7) a4) a3).size
 have a6:=Ze l2 k1
 unfold Ph at a6
 rw[Zm] at a6
 obtain⟨p3,q6,rfl⟩:=(Zd a6).slice
 have a0:=Zb (Zb (Zb (e3.own2 (Zb q0 b5.below) b5.blk (by decide)) a4) a3) b3
 have j3:=bln (bln (bln (e3.below (bln f7 b5.below) n7) a4) a3) b3
 refine xbi 0 fun _ _ _ _ zJ zQ zo zx zy zK=>Zo (m:=2) (news:=(leB (m) 2).map bv) (.int .u8 0) 1 1 (8) ((leB (f) 1++leB (t) 1++leB (k) 2++leB (v) 2++leB (m) 2).map bv) zo Tryz.underlying22 (by kernel_rfl) rfl (by decide) zx a0 zy (Zd a6) (by simp[Zm]) (Yw _) (by unfold maxLen;omega) (by omega) j3.size (by rfl) (by simp) fun p7 q7 s3 q4 c3 m2=>?_
 refine zK _ _ ?_
 have j0:=((((e3.blk (e9.below b5.below) (Ne.symm (Ne.symm h8))).below a4).below a3).below b3).grown c3 a0 (by decide)
 refine xlv 23 (j0.rpp 10 2) ?_
 refine xa 0 [V0 0,V0 0] 221 fun s4 r3 c5=>?_
 have m9:=c5.ne j0
 have l3:=((((e3.blk (i1.below b5.below) (Ne.symm (Ne.symm f5))).below a4).below a3).below b3).grown c3 a0 (by decide)
 have m1:=c5.ne l3
 have k4:=((((e3.blk (i3.below b5.below) (Ne.symm (Ne.symm f1))).below a4).below a3).below b3).grown c3 a0 (by decide)
 have m0:=c5.ne k4
 have h7:=((((e3.blk (e5.below b5.below) (Ne.symm (Ne.symm d9))).below a4).below a3).below b3).grown c3 a0 (by decide)
 have j6:=c5.ne h7
 have j1:=((((e3.blk (e7.below b5.below) (Ne.symm (Ne.symm d6))).below a4).below a3).below b3).grown c3 a0 (by decide)
 have k0:=c5.ne j1
 have j4:=(c8.below b3).grown c3 a0 (by decide)
 have j9:=c5.ne j4
 have f8:=j3.trans m2
 have n5:=c5.ge f8
 refine xsv 0 c5.blk [V0 4,V0 0] fun r6 k8 o0=>?_
 refine xb 6 0 o0 ?_
 refine xr 0 (args:=#[V0 4]) (Af _) fun u5 e0=>?_
 have d5:=o0.below e0
 refine xb 10 1 d5 ?_
 refine xb 1 0 d5 ?_
 refine xr 0 (args:=#[V0 0,V0 4]) (Zdj (0) (by decide) (by decide) _) fun t9 e1=>?_
 have e4:=d5.below e1
 refine xb 9 1 e4 ?_
 refine xb 1 0 e4 ?_
 refine xc 0 (args:=#[V0 0,V0 4]) (Ar (0) (by decide) _) ?_
 rintro _ s7 ⟨_,rfl,i6,l9⟩
 have m8:=(bln (bln (k8.below (bln f8 c5.below) n5) e0) e1).size
 have a8:=Ze l9 m8
 unfold Ph at a8
 rw[Zm] at a8
 obtain⟨p2,o2,rfl⟩:=(Zd a8).slice
 have i5:=Zb (Zb (Zb (k8.own2 (Zb q4 c5.below) c5.blk (by decide)) e0) e1) i6
 have e6:=bln (bln (bln (k8.below (bln f8 c5.below) n5) e0) e1) i6
 refine xbi 0 fun _ _ _ _ zJ zQ zo zx zy zK=>Zo (m:=4) (news:=(leB (0) 4).map bv) (.int .u8 0) 1 1 (12) ((leB (f) 1++leB (t) 1++leB (k) 2++leB (v) 2++leB (m) 2++leB (0) 4).map bv) zo Tryz.underlying22 (by kernel_rfl) rfl (by decide) zx i5 zy (Zd a8) (by simp[Zm]) (Yw _) (by unfold maxLen;omega) (by omega) e6.size (by rfl) (by simp) fun l5 m7 s1 o4 q3 k3=>?_
 refine zK _ _ ?_
 have h5:=e6.trans k3
 exact xe 29 (.tuple #[.slice l5 12 m7,V0 0]) ⟨_,rfl,h5,_,_,rfl,o4⟩
theorem Ka{P:Program}{a:Act}{w:World}{K:Act→World→Prop}{Q:Exit→Act→World→Prop}{o:Oper}{src dst e:TypeId}{x:Operand}(l:Bl)(ho:o.op=.convert src dst x)(hx:a.eval x=.string ⟨l.toArray⟩)
 (hs:P.underlying src=some .string) (hd:P.underlying dst=some (.slice e)) (he:P.underlying e=some (.int .u8)) (hl:l.length≤1000000)
 (k:∀ b c W,B3 w W→Bys W (.slice (S1 b) l.length c) l→K (a.put o.dst (.slice (S1 b) l.length c)) W):o.wp P a w K Q:=by
 have hr:=run_bytes_of_string (P:=P) w src dst e ⟨l.toArray⟩ hs hd he
 have a2:(⟨l.toArray⟩:ByteArray).size=l.length:=by simp[ByteArray.size]
 rw[a2] at hr
 obtain⟨W1,a1⟩:∃ W1,W1=w.drew.alloc (.cells (bytesRow ⟨l.toArray⟩ (grownCap w l.length 0 e)) e ((bytesRow ⟨l.toArray⟩ (grownCap w l.length 0 e)).size,(bytesRow ⟨l.toArray⟩ (grownCap w l.length 0 e)).size+1)):=⟨_,rfl⟩
 rw[←a1] at hr
 have h2:(execOp a.eval o).run P w=.ok (.value (.slice (some ⟨w.heap.size,0,none⟩) l.length (grownCap w l.length 0 e))) W1:=by
  simp only[execOp,ho,hx,Sem.run_bind,hr];rfl
 refine Hv h2 (k _ _ _ (by rw[a1];exact(Za w).trans (show Below w.drew.heap.size w.drew _ from blx w.drew _)) (.inr ⟨w.heap.size,0,_,rfl,grownCap_ge w l.length 0 e,grownCap_le_maxLen w l.length 0 e (by unfold maxLen;omega),fun j y hj=>?_⟩))
 have a0:j<l.length:=by have:=(List.getElem?_eq_some_iff.1 hj).1;simpa using this
 have hb:=bytesRow_at ⟨l.toArray⟩ (grownCap w l.length 0 e) j (by simpa using a0)
 have hy:y=.int .u8 ((l.toArray[j]'(by simpa using a0)).toNat:Int):=by
  rw[List.getElem?_map,List.getElem?_eq_getElem a0] at hj
  simp only[Option.map_some,Option.some.injEq] at hj
  rw[←hj];rfl
 have hh:W1.heap[w.heap.size]? = some (.cells (bytesRow ⟨l.toArray⟩ (grownCap w l.length 0 e)) e ((bytesRow ⟨l.toArray⟩ (grownCap w l.length 0 e)).size,(bytesRow ⟨l.toArray⟩ (grownCap w l.length 0 e)).size+1)):=by rw[a1];exact heap_alloc_new w.drew _
 rw[hy]
 simp[World.cell?,hh,hb]
def Xl(s:Bl):Int:=if s.length=4 then(if 1≤Zh s 0 4∧Zh s 0 4≤14399 then 0 else 2) else 7
def Xi(s:Bl):Nat:=if Xl s=0 then Zh s 0 4 else 0
theorem Zdz(bs:ByteArray)(i:Nat)(r:Bl)(h:i≤bs.size):(ByteArray.toList.loop bs i r).length=r.length+(bs.size-i):=by
 rw[ByteArray.toList.loop]
 split
 ·rename_i h2
  rw[Zdz bs (i+1) _ (by omega)]
  simp;omega
 ·simp;omega
termination_by bs.size-i
theorem Sr(bs:ByteArray):bs.toList.length=bs.size:=by
 unfold ByteArray.toList;rw[Zdz _ _ _ (Nat.zero_le _)];simp
theorem four_ne(n:Int):((⟨(leB n 4).toArray⟩:ByteArray).toList==(⟨#[]⟩:ByteArray).toList)=false:=by
 cases hq:((⟨(leB n 4).toArray⟩:ByteArray).toList==(⟨#[]⟩:ByteArray).toList) with
 | false=>rfl
 | true =>
  have e:=congrArg List.length (eq_of_beq hq)
  rw[Sr,Sr] at e
  simp[ByteArray.size,Zm] at e
theorem Zcv(w:World) :
 C0 67 #[] w (Qd (fun w' r=>∃ b,r=.slice (S1 b) 1 1∧w.heap.size≤b∧Blk w' b [V0 4,V0 1,V0 14399] 234) w):=by
 refine zin 3 Tryz.func67 ?_
 refine xbs 8 1 [V0 4,V0 1,V0 14399] 234 fun b1 W1 n1=>?_
 have g1:=n1.ge (B4 w)
 exact xe 4 (.slice (S1 b1) 1 1) ⟨_,rfl,n1.below,_,rfl,g1,n1.blk⟩
theorem Zgz(gl:Nat)(an:O0)(cn:Nat)(n:Int)(w:World)(hl:Blk w gl [V0 4,V0 1,V0 14399] 234)(hn:Sl w (.slice an 1 cn) 1 [V0 n])(h1:1≤n)(h2:n≤14399) :
 C0 128 #[.slice (S1 gl) 1 1,.slice an 1 cn] w (Ret (.string ⟨(leB n 4).toArray⟩) w):=by
 have b0:=h1
 have b6:=h2
 clear h2
 refine zin 51 Tryz.func128 ?_
 refine xu 19 2 ?_
 refine xlv 15 hl.rp ?_
 refine xa 0 [V0 0,V0 0,V0 0] 234 fun b1 W1 n1=>?_
 have a7:=n1.ne hl
 refine xsv 1 n1.blk [V0 4,V0 1,V0 14399] fun W2 u2 k2=>?_
 have g1:=n1.ge (B4 w)
 refine xd 4 .z ?_
 refine xx (.e [0,1] 2) _ 1 0 1 (Ints.elem (l:=[n]) hn (k:=0) (by simp)).1 ?_
 have hB:=bln (u2.below n1.below g1) (Za W2)
 refine xl (.e [] 3) ((Ints.elem (l:=[n]) (hn.below hB) (k:=0) (by simp)).2) ?_
 have a1:=k2.below (Za W2)
 refine xb (.e [4] 5) 1 a1 ?_
 refine xgk (.b [6,7]) [23,24] (show(decide (n<(1:Int)):Bool)=false from decide_eq_false (by omega)) ?_
 refine xx (.e [8,9] 10) _ 1 0 1 (Ints.elem (l:=[n]) hn (k:=0) (by simp)).1 ?_
 refine xl (.e [] 11) ((Ints.elem (l:=[n]) (hn.below hB) (k:=0) (by simp)).2) ?_
 refine xb (.e [12] 13) 2 a1 ?_
 refine xk (.r [14,15] 2) (show(decide (n>(14399:Int)):Bool)=false from decide_eq_false (by omega)) ?_
 refine xd 3 .z ?_
 have a5:=a1.below (Za W2.drew)
 refine xb (.e [0] 1) 0 a5 ?_
 refine xx (.e [2,3] 4) _ 1 0 1 (Ints.elem (l:=[n]) hn (k:=0) (by simp)).1 ?_
 have a0:=bln hB (Za W2.drew)
 refine xl (.e [] 5) ((Ints.elem (l:=[n]) (hn.below a0) (k:=0) (by simp)).2) ?_
 refine xbs (.o [6] 7) 1 [V0 4,V0 n] 221 fun b4 W4 n4=>?_
 have g4:=n4.ge a0
 refine yc (.o [] 8) (args:=#[.slice (S1 b4) 1 1]) .z (Cc b4 n (by omega) (by omega) _ n4.blk) ?_
 rintro _ W5 ⟨_,rfl,a6,p2,c2,rfl,h2⟩
 have a9:=(bln a0 n4.below).size
 refine⟨a6,?_⟩
 have o6:=World.ownsRow_nil W5 w.heap.size 5 1
 have a3:=Ze h2 a9
 have a2:=bln (bln a0 n4.below) a6
 refine xbi (.r [9,10,11,12,13] 5) fun _ _ _ _ zJ zQ zo zx zy zK=>Zo (m:=4) (news:=(leB n 4).map bv) (.int .u8 0) 1 1 (4) ((leB n 4).map bv) zo Tryz.underlying22 (by kernel_rfl) rfl (by decide) zx o6 zy (Zd a3) (by simp[Zm]) (Yw _) (by unfold maxLen;omega) (by omega) a2.size (by rfl) (by simp) fun b2 b3 W7 o7 b5 a8=>?_
 refine zK _ _ ?_
 refine xcv0 24 (fun _ _ _ zo zx=>Vb zo zx (Yr (Zd o7) (Zm _ _)) (Zm _ _) Tryz.underlying22 Tryz.underlying5 Tryz.underlying9) ?_
 have a4:=a2.trans a8
 exact xe 4 (.string ⟨(leB n 4).toArray⟩) ⟨rfl,a4⟩
theorem Zgg(gl:Nat)(an:O0)(cn:Nat)(n:Int)(w:World)(hl:Blk w gl [V0 4,V0 1,V0 14399] 234)(hn:Sl w (.slice an 1 cn) 1 [V0 n])(h:¬ (1≤n∧n≤14399)) :
 C0 128 #[.slice (S1 gl) 1 1,.slice an 1 cn] w (Ret (.string ⟨#[]⟩) w):=by
 refine zin 51 Tryz.func128 ?_
 refine xu 19 2 ?_
 refine xlv 15 hl.rp ?_
 refine xa 0 [V0 0,V0 0,V0 0] 234 fun b1 W1 n1=>?_
 have a2:=n1.ne hl
 refine xsv 1 n1.blk [V0 4,V0 1,V0 14399] fun W2 u2 k2=>?_
 have g1:=n1.ge (B4 w)
 refine xd 4 .z ?_
 refine xx (.e [0,1] 2) _ 1 0 1 (Ints.elem (l:=[n]) hn (k:=0) (by simp)).1 ?_
 have hB:=bln (u2.below n1.below g1) (Za W2)
 refine xl (.e [] 3) ((Ints.elem (l:=[n]) (hn.below hB) (k:=0) (by simp)).2) ?_
 have a1:=k2.below (Za W2)
 refine xb (.e [4] 5) 1 a1 ?_
 refine xg (.b [6,7]) [23,24] (decide (n<(1:Int))) (fun a0=>?_) (fun a0=>?_)
 ·have a0:=of_decide_eq_true a0
  exact xe (.r [8,9,10,11,12,13,14,15] 15) (.string ⟨#[]⟩) ⟨rfl,hB⟩
 have a0:=of_decide_eq_false a0
 refine xx (.e [8,9] 10) _ 1 0 1 (Ints.elem (l:=[n]) hn (k:=0) (by simp)).1 ?_
 refine xl (.e [] 11) ((Ints.elem (l:=[n]) (hn.below hB) (k:=0) (by simp)).2) ?_
 refine xb (.e [12] 13) 2 a1 ?_
 refine xk (.r [14,15] 2) (show(decide (n>(14399:Int)):Bool)=true from decide_eq_true (by omega)) ?_
 exact xe 12 (.string ⟨#[]⟩) ⟨rfl,hB⟩
theorem Rn(gl:Nat)(s:Bl)(w:World)(hl:Blk w gl [V0 4,V0 1,V0 14399] 234)(hs:s.length≤1000)(h4:s.length≠4) :
 C0 66 #[.slice (S1 gl) 1 1,.string ⟨s.toArray⟩] w (Qd (fun w' r=>∃ p c,r=.tuple #[.slice p 1 c,V0 7]∧w'.ownsRow w.heap.size 3 1 (.slice p 1 c) 1 [V0 0]) w):=by
 refine zin 54 Tryz.func66 ?_
 refine xu 25 2 ?_
 refine xlv 14 hl.rp ?_
 refine xa 0 [V0 0,V0 0,V0 0] 234 fun b1 W1 n1=>?_
 have a4:=n1.ne hl
 refine xsv 0 n1.blk [V0 4,V0 1,V0 14399] fun W2 u2 k2=>?_
 have g1:=n1.ge (B4 w)
 refine xb 6 0 k2 ?_
 refine xbs 0 1 [V0 4] 3 fun b3 W3 n3=>?_
 have o4:=World.ownsRow_nil W3 w.heap.size 3 1
 have hB:=bln (u2.below n1.below g1) n3.below
 refine xbi 0 fun _ _ _ _ zJ zQ zo zx zy zK=>Zo (m:=1) (news:=[V0 4]) (V0 0) 1 8 (1) ([Value.int .i64 4]) zo Tryz.underlying28 (by kernel_rfl) rfl (by decide) zx o4 zy (n3.blk.sl 1 1 (by decide) (by decide)) rfl (by simp[Value.oneCell']) (by unfold maxLen;omega) (by omega) hB.size (by rfl) (by rfl) fun a8 a7 W5 o5 a5 a6=>?_
 refine zK _ _ ?_
 have a2:=(k2.below n3.below).grown a5 o4 (by decide)
 refine xb 6 0 a2 ?_
 refine xk 31 (show(((s.length:Int) != (4:Int)):Bool)=true from bne_iff_ne.2 (by omega)) ?_
 refine xmk 4 fun _ _ _ _ zJ zQ zo zx zy zK=>Kc 1 (V0 0) 1 8 [Value.int .i64 0] zo zx zy Tryz.underlying28 (by kernel_rfl) rfl (by omega) (by omega) (rfl) fun b6 W6 n6=>?_
 have a0:=hB.trans a6
 have g6:=n6.ge a0
 have a3:=Xa o5 n6
 refine zK _ _ ?_
 have a1:=bln a0 n6.below
 have o6:=Zp (size:=1) (n:=1) n6.blk g6 (rfl) (by unfold maxLen;omega)
 exact xe 6 (.tuple #[.slice (S1 b6) 1 1,V0 7]) ⟨_,rfl,a1,_,_,rfl,o6⟩
theorem Az(gl:Nat)(s:Bl)(w:World)(hl:Blk w gl [V0 4,V0 1,V0 14399] 234)(hs:s.length≤1000)(h4:s.length=4)(h1:1≤Zh s 0 4)(h2:Zh s 0 4≤14399) :
 C0 66 #[.slice (S1 gl) 1 1,.string ⟨s.toArray⟩] w (Qd (fun w' r=>∃ p c,r=.tuple #[.slice p 1 c,V0 0]∧w'.ownsRow w.heap.size 3 1 (.slice p 1 c) 1 [V0 (↑(Zh s 0 4):Int)]) w):=by
 refine zin 54 Tryz.func66 ?_
 refine xu 25 2 ?_
 refine xlv 14 hl.rp ?_
 refine xa 0 [V0 0,V0 0,V0 0] 234 fun b1 W1 n1=>?_
 have a1:=n1.ne hl
 refine xsv 0 n1.blk [V0 4,V0 1,V0 14399] fun W2 u2 k2=>?_
 have g1:=n1.ge (B4 w)
 refine xb 6 0 k2 ?_
 refine xbs 0 1 [V0 4] 3 fun b3 W3 n3=>?_
 have o4:=World.ownsRow_nil W3 w.heap.size 3 1
 have hB:=bln (u2.below n1.below g1) n3.below
 refine xbi 0 fun _ _ _ _ zJ zQ zo zx zy zK=>Zo (m:=1) (news:=[V0 4]) (V0 0) 1 8 (1) ([Value.int .i64 4]) zo Tryz.underlying28 (by kernel_rfl) rfl (by decide) zx o4 zy (n3.blk.sl 1 1 (by decide) (by decide)) rfl (by simp[Value.oneCell']) (by unfold maxLen;omega) (by omega) hB.size (by rfl) (by rfl) fun b5 b2 W5 o5 a8 b4=>?_
 refine zK _ _ ?_
 have a4:=(k2.below n3.below).grown a8 o4 (by decide)
 refine xb 6 0 a4 ?_
 refine xk 31 (show(((s.length:Int) != (4:Int)):Bool)=false from by rw[h4];rfl) ?_
 refine xcf 5 fun _ _ _ zJ zQ zo zx zK=>Ka s zo zx Tryz.underlying9 Tryz.underlying22 Tryz.underlying5 (by omega) ?_
 intro bz cz W6 a2 b7
 refine zK _ _ ?_
 have a3:=Zb o5 a2
 refine xc 1 (args:=#[.slice (S1 bz) s.length cz,.slice b5 1 b2]) (Ly (S1 bz) s.length cz s b5 b2 1 [4] [Zh s 0 4] _ rfl rfl rfl (by decide) (by simp;omega) (by omega) (by decide) b7 (Zd a3) (fun i hi=>by obtain rfl:i=0:=(by simpa using hi);have:=Yg s 0 4 (by decide);simp[Jk];omega)) ?_
 rintro _ W7 ⟨_,rfl,a9,p5,c5,rfl,h5⟩
 have b6:=(bln (hB.trans b4) a2).size
 have a5:=((((u2.blk (hl.below n1.below) (Ne.symm (Ne.symm a1))).below n3.below).grown a8 o4 (by decide)).below a2).below a9
 have a0:=Ze h5 b6
 refine xr 15 (args:=#[.slice (S1 gl) 1 1,.slice p5 1 c5]) (Zgz gl p5 c5 (↑(Zh s 0 4):Int) _ a5 (Zd a0) (by omega) (by omega)) fun W8 b0=>?_
 refine xk 4 (show(((⟨(leB (↑(Zh s 0 4):Int) 4).toArray⟩:ByteArray).toList==(⟨#[]⟩:ByteArray).toList):Bool)=false from four_ne _) ?_
 have a7:=bln (bln (bln (hB.trans b4) a2) a9) b0
 have a6:=Zb a0 b0
 exact xe 10 (.tuple #[.slice p5 1 c5,V0 0]) ⟨_,rfl,a7,_,_,rfl,a6⟩
theorem Rl(gl:Nat)(s:Bl)(w:World)(hl:Blk w gl [V0 4,V0 1,V0 14399] 234)(hs:s.length≤1000)(h4:s.length=4)(h1:¬ (1≤(Zh s 0 4:Int)∧(Zh s 0 4:Int)≤14399)) :
 C0 66 #[.slice (S1 gl) 1 1,.string ⟨s.toArray⟩] w (Qd (fun w' r=>∃ p c,r=.tuple #[.slice p 1 c,V0 2]∧w'.ownsRow w.heap.size 3 1 (.slice p 1 c) 1 [V0 0]) w):=by
 refine zin 54 Tryz.func66 ?_
 refine xu 25 2 ?_
 refine xlv 14 hl.rp ?_
 refine xa 0 [V0 0,V0 0,V0 0] 234 fun b1 W1 n1=>?_
 have a1:=n1.ne hl
 refine xsv 0 n1.blk [V0 4,V0 1,V0 14399] fun W2 u2 k2=>?_
 have g1:=n1.ge (B4 w)
 refine xb 6 0 k2 ?_
 refine xbs 0 1 [V0 4] 3 fun b3 W3 n3=>?_
 have o4:=World.ownsRow_nil W3 w.heap.size 3 1
 have hB:=bln (u2.below n1.below g1) n3.below
 refine xbi 0 fun _ _ _ _ zJ zQ zo zx zy zK=>Zo (m:=1) (news:=[V0 4]) (V0 0) 1 8 (1) ([Value.int .i64 4]) zo Tryz.underlying28 (by kernel_rfl) rfl (by decide) zx o4 zy (n3.blk.sl 1 1 (by decide) (by decide)) rfl (by simp[Value.oneCell']) (by unfold maxLen;omega) (by omega) hB.size (by rfl) (by rfl) fun b6 b7 W5 o5 b4 b8=>?_
 refine zK _ _ ?_
 have a8:=(k2.below n3.below).grown b4 o4 (by decide)
 refine xb 6 0 a8 ?_
 refine xk 31 (show(((s.length:Int) != (4:Int)):Bool)=false from by rw[h4];rfl) ?_
 refine xcf 5 fun _ _ _ zJ zQ zo zx zK=>Ka s zo zx Tryz.underlying9 Tryz.underlying22 Tryz.underlying5 (by omega) ?_
 intro bz cz W6 a4 c1
 refine zK _ _ ?_
 have a3:=Zb o5 a4
 refine xc 1 (args:=#[.slice (S1 bz) s.length cz,.slice b6 1 b7]) (Ly (S1 bz) s.length cz s b6 b7 1 [4] [Zh s 0 4] _ rfl rfl rfl (by decide) (by simp;omega) (by omega) (by decide) c1 (Zd a3) (fun i hi=>by obtain rfl:i=0:=(by simpa using hi);have:=Yg s 0 4 (by decide);simp[Jk];omega)) ?_
 rintro _ W7 ⟨_,rfl,b2,p5,c5,rfl,h5⟩
 have c2:=(bln (hB.trans b8) a4).size
 have a5:=((((u2.blk (hl.below n1.below) (Ne.symm (Ne.symm a1))).below n3.below).grown b4 o4 (by decide)).below a4).below b2
 have a2:=Ze h5 c2
 refine xr 15 (args:=#[.slice (S1 gl) 1 1,.slice p5 1 c5]) (Zgg gl p5 c5 (↑(Zh s 0 4):Int) _ a5 (Zd a2) (by omega)) fun W8 b0=>?_
 refine xmk 9 fun _ _ _ _ zJ zQ zo zx zy zK=>Kc 1 (V0 0) 1 8 [Value.int .i64 0] zo zx zy Tryz.underlying28 (by kernel_rfl) rfl (by omega) (by omega) (rfl) fun b9 W9 n9=>?_
 have a0:=bln (bln (bln (hB.trans b8) a4) b2) b0
 have g9:=n9.ge a0
 have a9:=Zb (Zb a3 b2) b0
 have b5:=Xa a9 n9
 have a6:=Zb a2 b0
 have c0:=Xa a6 n9
 refine zK _ _ ?_
 have a7:=bln a0 n9.below
 have o9:=Zp (size:=1) (n:=1) n9.blk g9 (rfl) (by unfold maxLen;omega)
 exact xe 6 (.tuple #[.slice (S1 b9) 1 1,V0 2]) ⟨_,rfl,a7,_,_,rfl,o9⟩
theorem Zca(gl:Nat)(s:Bl)(w:World)(hl:Blk w gl [V0 4,V0 1,V0 14399] 234)(hs:s.length≤1000):C0 66 #[.slice (S1 gl) 1 1,.string ⟨s.toArray⟩] w (Qd (fun w' r=>∃ p c,r=.tuple #[.slice p 1 c,V0 (Xl s)]∧w'.ownsRow w.heap.size 3 1 (.slice p 1 c) 1 [V0 (Xi s:Int)]) w):=by
 by_cases h4:s.length=4
 ·by_cases h1:1≤Zh s 0 4∧Zh s 0 4≤14399
  ·have he:Xl s=0:=by unfold Xl;rw[if_pos h4,if_pos h1]
   rw[he,Xi,if_pos he]
   exact Az gl s w hl hs h4 h1.1 h1.2
  ·have he:Xl s=2:=by unfold Xl;rw[if_pos h4,if_neg h1]
   rw[he,Xi,if_neg (by rw[he];decide)]
   exact Rl gl s w hl hs h4 (by omega)
 ·have he:Xl s=7:=by unfold Xl;rw[if_neg h4]
  rw[he,Xi,if_neg (by rw[he];decide)]
  exact Rn gl s w hl hs h4
theorem Qz(s:Bl)(w:World)(hs:s.length≤1000) :
 C0 32 #[.string ⟨s.toArray⟩] w (Ret (.tuple #[V0 (Xi s:Int),V0 (Xl s)]) w):=by
 refine zin 16 Tryz.func32 ?_
 refine xc 8 (args:=#[]) (Zcv _) ?_
 rintro _ W1 ⟨_,rfl,a1,gl,rfl,gg,kl⟩
 refine xc 1 (args:=#[.slice (S1 gl) 1 1,.string ⟨s.toArray⟩]) (Zca gl s _ kl hs) ?_
 rintro _ W2 ⟨_,rfl,a2,p5,c5,rfl,h5⟩
 have a0:=Ze h5 a1.size
 refine xx 10 _ 1 0 1 (Ints.elem (l:=[(Xi s:Int)]) (Zd a0) (k:=0) (by simp)).1 ?_
 refine xl 0 ((Ints.elem (l:=[(Xi s:Int)]) (Zd a0) (k:=0) (by simp)).2) ?_
 have hB:=bln a1 a2
 exact xe 6 (.tuple #[V0 (↑(Xi s):Int),V0 (Xl s)]) ⟨rfl,hB⟩
theorem Dz(B bm:Nat)(p:O0)(k c:Nat)(l:Bl)(w:World)(hI:RefI B bm p k c l w)(no:Int)(ho:¬ (0≤no∧no<(k:Int))) :
 C0 80 #[P0 bm,V0 no] w (Ret (.tuple #[S0,V0 3]) w):=by
 have hk:=hI.blk
 have a1:=hI.hk
 have a2:=hI.hl
 refine zin 25 Tryz.func80 ?_
 refine xg 12 [7,8] (decide (no<(0:Int))) (fun a0=>?_) (fun a0=>?_)
 ·have a0:=of_decide_eq_true a0
  exact xe 19 (.tuple #[S0,V0 3]) ⟨rfl,(B4 w)⟩
 have a0:=of_decide_eq_false a0
 refine xb 4 0 hk ?_
 refine xk 5 (show(decide (no≥(k:Int)):Bool)=true from decide_eq_true (by omega)) ?_
 exact xe 8 (.tuple #[S0,V0 3]) ⟨rfl,(B4 w)⟩
theorem Rg(B bm:Nat)(p:O0)(k c:Nat)(l:Bl)(w:World)(hI:RefI B bm p k c l w)(j:Nat)(hj:j<k) :
 C0 80 #[P0 bm,V0 (j:Int)] w (Qd (fun w' r=>∃ b c2,r=.tuple #[.slice (S1 b) 256 c2,V0 0]∧Bys w' (.slice (S1 b) 256 c2) (Qj l j)) w):=by
 have hk:=hI.blk
 have a4:=hI.hk
 have a5:=hI.hl
 have hr:=Zd hI.row
 have a1:(Ui l k).getD j []=Qj l j:=blksL_get l hj
 have a0:((Ui l k).getD j []).length=256:=by rw[a1];exact Vc (by omega)
 refine zin 25 Tryz.func80 ?_
 refine xgk 12 [7,8] (show(decide ((j:Int)<(0:Int)):Bool)=false from decide_eq_false (by omega)) ?_
 refine xb 4 0 hk ?_
 refine xk 5 (show(decide ((j:Int)≥(k:Int)):Bool)=false from decide_eq_false (by omega)) ?_
 refine xb 7 0 hk ?_
 refine xx 1 _ k j 1 (Strs.elem hr (Iy l k) (k:=j) (by omega)).1 ?_
 refine xl 0 ((Strs.elem hr (Iy l k) (k:=j) (by omega)).2) ?_
 refine xcf 0 fun _ _ _ zJ zQ zo zx zK=>Ka ((Ui l k).getD j []) zo zx Tryz.underlying9 Tryz.underlying22 Tryz.underlying5 (by omega) ?_
 intro bz cz W2 a3 a2
 refine zK _ _ ?_
 refine xe 5 (.tuple #[.slice (S1 bz) (((Ui l k).getD j []).length) cz,V0 0]) ?_
 rw[a0]
 rw[a0,a1] at a2
 exact⟨_,rfl,a3,_,_,rfl,a2⟩
def RReadP(k:Nat)(l:Bl)(no:Int)(w:World)(e:Ending)(w':World):Prop :=
 (¬ (0≤no∧no<(k:Int))∧e=.returned (.tuple #[S0,V0 3])∧B3 w w') ∨
 (∃ j:Nat,no=(j:Int)∧j<k∧∃ b c,e=.returned (.tuple #[.slice (S1 b) 256 c,V0 0])∧B3 w w'∧Bys w' (.slice (S1 b) 256 c) (Qj l j))
theorem Zb2(B bm:Nat)(p:O0)(k c:Nat)(l:Bl)(w:World)(hI:RefI B bm p k c l w)(no:Int) :
 C0 80 #[P0 bm,V0 no] w (RReadP k l no w):=by
 by_cases h:0≤no∧no<(k:Int)
 ·obtain⟨j,rfl⟩:∃ j:Nat,no=j:=⟨no.toNat,by omega⟩
  refine(Rg B bm p k c l w hI j (by omega)).mono ?_
  rintro e W ⟨_,rfl,hb,b,c2,rfl,ho⟩
  exact .inr ⟨j,rfl,by omega,_,_,rfl,hb,ho⟩
 ·refine(Dz B bm p k c l w hI no h).mono ?_
  rintro e W ⟨rfl,hb⟩
  exact .inl ⟨h,rfl,hb⟩
def RInP(l:Bl)(kind no:Int)(w:World)(e:Ending)(w':World):Prop :=
 (inE l kind no≠0∧e=.returned (.tuple #[S0,V0 (inE l kind no)])∧B3 w w') ∨
 (inE l kind no=0∧(inB l no).length=244∧∃ p c,e=.returned (.tuple #[.slice p 244 c,V0 0])∧B3 w w'∧w'.ownsRow w.heap.size 5 1 (.slice p 244 c) 244 ((inB l no).map bv))
theorem Zd0(B bm:Nat)(p:O0)(k c:Nat)(l:Bl)(w:World)(hI:RefI B bm p k c l w)(no:Int)(kind:Int) :
 C0 43 #[P0 bm,V0 no,V0 kind] w (RInP l kind no w):=by
 have a9:=hI.hl
 refine zin 25 Tryz.func43 ?_
 refine xc 10 (args:=#[P0 bm,V0 no]) (Zb2 B bm p k c l _ (hI.below (B4 w)) no) ?_
 rintro e W1 a7
 rcases a7 with ⟨ho,rfl,a0⟩|⟨j,a5,hj,b3,c3,rfl,a0,a8⟩
 ·refine xe 24 (.tuple #[S0,V0 3]) ?_
  have he:inE l kind no=3:=Lo (n:=k*256) hI.hl (by omega)
  exact .inl ⟨by rw[he];decide,by rw[he],a0⟩
 have a3:inE l kind no=Xy kind no (Qj l j):=Oj (n:=k*256) hI.hl a5 (by omega)
 have a4:inB l no=((Qj l j).drop 8).take 244:=Zak a5
 refine xc 22 (args:=#[.slice (S1 b3) 256 c3,V0 kind,V0 no]) (ref_Open kind no _ 256 c3 (Qj l j) _ (Vc (by omega)) a8) ?_
 rintro e W2 a6
 rcases a6 with ⟨hs,rfl,a2⟩|⟨hs,p2,c2,rfl,a2,h2⟩
 ·have hB:=bln a0 a2
  exact xe 7 (.tuple #[S0,V0 (Xy kind no (Qj l j))]) (.inl ⟨by rw[a3];exact hs,by rw[a3],hB⟩)
 have hB:=bln a0 a2
 have a1:=Ze h2 a0.size
 exact xe 7 (.tuple #[.slice p2 244 c2,V0 0]) (.inr ⟨by rw[a3,hs],by rw[a4];simp[Vc (show j<l.length/256 by omega)],_,_,rfl,hB,by rw[a4];exact a1⟩)
def Vv(t:Int)(leaf:Bool)(n m v:Nat):Bl:=leB (Gs leaf) 1++leB t 1++leB (n:Int) 2++leB (v:Int) 2++leB (m:Int) 2++leB 0 4
theorem Vk(t:Int)(leaf:Bool)(n m v:Nat):(Vv t leaf n m v).length=12:=by simp[Vv,Zm]
def Jy(m v:Nat)(H:Bl)(K:List Int)(Vs:List Bl):Nat→Bl
 | 0=>Vu (List.replicate 244 0) 0 H
 | i+1=>Vu (Vu (Jy m v H K Vs i) (12+i*8) (leB (K.getD i 0) 8)) (12+m*8+i*v) (Vs.getD i [])
theorem Fs{m v:Nat}{H:Bl}{K:List Int}{Vs:List Bl}(hH:H.length=12)(hf:12+m*8+m*v≤244):∀ {i:Nat},i≤m→(∀ j,j<i→(Vs.getD j []).length=v)→(Jy m v H K Vs i).length=244
 | 0,_,_=>by rw[Jy,Qg (by rw[List.length_replicate];omega),List.length_replicate]
 | i+1,hi,hV=>by
  have ih:=Fs (K:=K) hH hf (i:=i) (by omega) (fun j hj=>hV j (by omega))
  have h1:=hV i (by omega)
  have h2:(i+1)*v≤m*v:=Nat.mul_le_mul_right v hi
  rw[Nat.add_mul,Nat.one_mul] at h2
  have h3:(Vu (Jy m v H K Vs i) (12+i*8) (leB (K.getD i 0) 8)).length=244:=by rw[Qg (by rw[Zm,ih];omega),ih]
  rw[Jy,Qg (by rw[h1,h3];omega),h3]
theorem node_Put(t:Int)(leaf:Bool)(n m v:Nat)(K:List Int)(Vs:List Bl)(ak av:O0)(ck cv:Nat)(w:World)(N:NodeOk t leaf n m v K Vs)(hKs:Sl w (.slice ak n ck) n (K.map V0))(hVs:Sl w (.slice av n cv) n (Vs.map sv)) :
 C0 196 #[.agg #[V0 t,.bool leaf,.slice ak n ck,.slice av n cv]] w (Qd (fun w' r=>∃ p c,r=.tuple #[.slice p 244 c,V0 0]∧w'.ownsRow w.heap.size 5 1 (.slice p 244 c) 244 ((Jy m v (Vv t leaf n m v) K Vs n).map bv)) w):=by
 have e0:=N.ht1
 have e5:=N.ht2
 have g1:=N.hn
 have f0:=Ez t leaf
 rw[N.hv] at f0
 have f4:=Qh t leaf
 rw[N.hm] at f4
 have d2:=fitN t leaf
 rw[N.hm,N.hv] at d2
 have f2:=Sl.cap hKs
 refine zin 90 Tryz.func196 ?_
 refine xa 2 [V0 t,.bool leaf,.slice ak n ck,.slice av n cv] 140 fun b1 W1 n1=>?_
 refine xlv 7 n1.blk.rp ?_
 refine xr 0 (args:=#[.agg #[V0 t,.bool leaf,.slice ak n ck,.slice av n cv]]) (node_Right t leaf n m v K Vs ak av ck cv _ N (hKs.below n1.below) (hVs.below n1.below)) fun W2 e3=>?_
 refine xd 7 .z ?_
 have a4:=(n1.blk.below e3).below (Za W2)
 refine xb (.e [0] 1) 0 a4 ?_
 refine xb (.e [2] 3) 1 a4 ?_
 refine xb (.e [5] 6) 0 a4 ?_
 refine xb (.e [7] 8) 1 a4 ?_
 refine xr (.o [] 4) (args:=#[V0 t,.bool leaf]) (Nk t leaf v N.hv e0 e5 _) fun W3 e7=>?_
 refine xr (.o [] 9) (args:=#[V0 t,.bool leaf]) (Dr t leaf m N.hm e0 e5 _) fun W4 e4=>?_
 refine xd (.r [10,11] 3) .z ?_
 have a7:=((a4.below e7).below e4).below (Za W4)
 refine xb (.e [0] 1) 1 a7 ?_
 refine xb (.e [4] 5) 0 a7 ?_
 refine xb (.e [6,7] 8) 2 a7 ?_
 refine xr (.o [9,10,11,12,13,14,15] 2) (args:=#[.bool leaf]) (node_flag leaf _) fun W5 e6=>?_
 refine xbs (.o [3] 16) 6 [V0 1,V0 (Gs leaf),V0 1,V0 t,V0 2,V0 (n:Int),V0 2,V0 (v:Int),V0 2,V0 (m:Int),V0 4,V0 0] 221 fun b6 W6 n6=>?_
 have b0:=bln (bln (bln (bln (bln (bln n1.below e3) (Za W2)) e7) e4) (Za W4)) e6
 have g6:=n6.ge b0
 refine yc (.o [] 17) (args:=#[.slice (S1 b6) 6 6]) .z (Pack_node b6 (Gs leaf) t (n:Int) (v:Int) (m:Int) (Ts leaf).1 (Ts leaf).2 (by omega) (by omega) (by omega) (by omega) (by omega) (by omega) (by omega) (by omega) _ n6.blk) ?_
 rintro _ W7 ⟨_,rfl,c8,p2,c2,rfl,h2⟩
 have f5:=(bln b0 n6.below).size
 refine⟨c8,?_⟩
 refine xmk (.r [18,19,20,21,22] 4) fun _ _ _ _ zJ zQ zo zx zy zK=>Kc 244 (.int .u8 0) 1 1 ((List.replicate 244 (0:UInt8)).map bv) zo zx zy Tryz.underlying22 (by kernel_rfl) rfl (by omega) (by omega) (Oz 244) fun b8 W8 n8=>?_
 have c0:=bln (bln b0 n6.below) c8
 have g8:=n8.ge c0
 have c5:=Ze h2 f5
 have e1:=Xa c5 n8
 refine zK _ _ ?_
 have o8:=Zp (size:=1) (n:=244) n8.blk g8 (by rw[List.length_map,List.length_replicate]) (by unfold maxLen;omega)
 have d6:=Zb c5 n8.below
 have b7:=bln c0 n8.below
 refine xbi 7 (t2:=22) fun _ _ _ _ zJ zQ zo zx zy zK=>Wd (dLen:=244) (dCap:=244) (off:=0) 12 ((Vv t leaf n m v).map bv) ((Jy m v (Vv t leaf n m v) K Vs 0).map bv) zo Tryz.underlying22 (by kernel_rfl) zx zy (Zd d6) o8 (by simp[Vk]) (by omega) (by omega) (Yw _) b7.size (by simp[Jy,Vu,Vk]) fun W9 o9 e9 e8=>?_
 refine zK _ _ ?_
 have c1:=((((a7.below e6).below n6.below).below c8).below n8.below).grown e9 o8 (by decide)
 refine xb 6 2 c1 ?_
 have d7:=b7.trans e8
 have c9:=((n6.blk.below c8).below n8.below).grown e9 o8 (by decide)
 refine zl 5 90 (fun zm f6 V=>∃ (i:Nat),f6=[(1,P0 b1),(2,S0),(3,V0 0),(4,V0 (v:Int)),(5,V0 (m:Int)),(8,.slice (S1 b8) 244 244),(52,.slice ak n ck),(53,V0 (n:Int)),(54,V0 (i:Int))]∧zm=n-((i:Int)).toNat∧B3 w V∧Blk V b1 ([V0 t,.bool leaf,.slice ak n ck,.slice av n cv]) 140∧Blk V b6 ([V0 1,V0 (Gs leaf),V0 1,V0 t,V0 2,V0 (n:Int),V0 2,V0 (v:Int),V0 2,V0 (m:Int),V0 4,V0 0]) 221∧V.ownsRow w.heap.size 5 1 (.slice (S1 b8) 244 244) 244 ((Jy m v (Vv t leaf n m v) K Vs i).map bv)∧i≤n) ⟨0,rfl,rfl,d7,c1,c9,o9,Nat.zero_le _⟩ ?_
 rintro _ _ f8 ⟨i,rfl,rfl,a1,b4,a6,ho,hi⟩ g0 d3 f7
 have e8:i<n→i*v+v≤m*v:=fun h=>by have h9:(i+1)*v≤m*v:=Nat.mul_le_mul_right v (by omega);rw[Nat.add_mul,Nat.one_mul] at h9;exact h9
 refine xid 6 ((i:Int)<(n:Int)) (fun d9=>?_) (fun d9=>?_)
 ·refine xx 7 _ n i 1 (IntsN.elem hKs N.hK (k:=i) (by omega)).1 ?_
  refine xl 0 ((IntsN.elem (hKs.below a1) N.hK (k:=i) (by omega)).2) ?_
  refine xbs 8 1 [V0 8,V0 (K.getD i 0)] 221 fun e2 g5 a9=>?_
  have d8:=a9.ne a6
  have g2:=a9.ge a1
  refine xc 0 (args:=#[.slice (S1 e2) 1 1]) (Pack_8 e2 (K.getD i 0) (N.hk0 i (by omega)).1 _ a9.blk) ?_
  rintro _ f9 ⟨_,rfl,a8,p3,c3,rfl,h3⟩
  have d0:=(bln a1 a9.below).size
  refine xwm 11 ((i:Int)*8) (↑(i*8):Int) ?_
  refine xwm 0 (12+(↑(i*8):Int)) (↑(12+(i*8)):Int) ?_
  refine xsL 0 (fun _ _ _ _ zo zx zy V=>Wp (k:=(12+(i*8))) (b:=b8) (off:=0) (n:=244) (c:=244) (i:=(↑(12+(i*8)):Int)) (ki:=.i64) 1 zo zx zy rfl (by omega) (by omega) Tryz.underlying22 (by kernel_rfl) V) ?_
  have b5:=Zb (Zb ho a9.below) a8
  have d4:=Ze h3 d0
  have c6:=bln (bln a1 a9.below) a8
  refine xbi 1 (t2:=22) fun _ _ _ _ zJ zQ zo zx zy zK=>Wd (dLen:=(244-(12+(i*8)))) (dCap:=(244-(12+(i*8)))) (off:=(0+(12+(i*8))*1)) 8 ((leB (K.getD i 0) 8).map bv) ((Vu (Jy m v (Vv t leaf n m v) K Vs i) (12+i*8) (leB (K.getD i 0) 8)).map bv) zo Tryz.underlying22 (by kernel_rfl) zx zy (Zd d4) b5 (by simp[Zm]) (by omega) (by omega) (Yw _) c6.size (by simp[Vu,Zm,List.map_take,List.map_drop]) fun c7 f1 b9 d5=>?_
  refine zK _ _ ?_
  refine xd 2 (.t w.heap.size [5]) ?_
  refine xwm (.e [0,1] 2) ((m:Int)*8) (↑(m*8):Int) ?_
  refine xwm (.e [] 3) (12+(↑(m*8):Int)) (↑(12+(m*8)):Int) ?_
  refine xwm (.e [4,5] 6) ((i:Int)*(v:Int)) (↑(i*v):Int) ?_
  refine xwm (.e [] 7) ((↑(12+(m*8)):Int)+(↑(i*v):Int)) (↑((12+(m*8))+(i*v)):Int) ?_
  refine xsL (.e [] 8) (fun _ _ _ _ zo zx zy V=>Wp (k:=((12+(m*8))+(i*v))) (b:=b8) (off:=0) (n:=244) (c:=244) (i:=(↑((12+(m*8))+(i*v)):Int)) (ki:=.i64) 1 zo zx zy rfl (by omega) (by omega) Tryz.underlying22 (by kernel_rfl) V) ?_
  have a0:=(((b4.below a9.below).below a8).grown b9 b5 (by decide)).below (Za c7)
  refine xbt (.e [9] 10) 3 w.heap.size [5] a0 ?_
  refine xx (.e [11] 12) _ n i 1 (Strs.elem hVs N.hV (k:=i) (by omega)).1 ?_
  have b3:=bln (c6.trans d5) (Za c7)
  refine xlt (.e [] 13) (.t w.heap.size [5]) (fun V hV=>(Strs.elem (hVs.below (Gq b3 hV (Nat.le_refl _))) N.hV (k:=i) (by omega)).2) ?_
  have a2:=Zb f1 (Za c7)
  refine ybi (.o [] 14) (t2:=9) (.t w.heap.size [5]) fun _ _ _ _ zJ zQ zo zx zy zK=>Zd7 (dLen:=(244-((12+(m*8))+(i*v)))) (dCap:=(244-((12+(m*8))+(i*v)))) (off:=(0+((12+(m*8))+(i*v))*1)) (Vs.getD i []) ((Jy m v (Vv t leaf n m v) K Vs (i+1)).map bv) zo Tryz.underlying22 (by kernel_rfl) zx zy a2 (by rw[N.hw i (by omega)];omega) (by rw[N.hw i (by omega)];omega) b3.size (by simp[Jy,Vu,List.map_take,List.map_drop]) fun g3 f3 b2 c4=>?_
  refine zK _ _ (Zn c4 b2 a2 (by decide)) ?_
  refine xwm 4 ((i:Int)+1) (↑(i+1):Int) ?_
  have d1:=b3.trans c4
  have a3:=a0.grown b2 a2 (by decide)
  have a5:=((((a6.below a9.below).below a8).grown b9 b5 (by decide)).below (Za c7)).grown b2 a2 (by decide)
  exact ze 2 (d3 _ _ _ ⟨i+1,rfl,rfl,d1,a3,a5,f3,by omega⟩ (by omega))
 refine xe 13 (.tuple #[.slice (S1 b8) 244 244,V0 0]) ?_
 have e:i=n:=by omega
 subst e
 exact⟨_,rfl,a1,_,_,rfl,ho⟩
def Yv(K:List Int)(n:Nat)(i:Nat):Bl:=(List.range i).flatMap fun j=>if j<n then leB (K.getD j 0) 8 else List.replicate 8 0
theorem Ve(K:List Int)(n i:Nat):Yv K n (i+1)=Yv K n i++(if i<n then leB (K.getD i 0) 8 else List.replicate 8 0):=by
 unfold Yv;rw[List.range_succ,List.flatMap_append];simp
theorem Jh(K:List Int)(n i:Nat):(Yv K n i).length=i*8:=by
 induction i with
 | zero=>rfl
 | succ i ih=>rw[Ve,List.length_append,ih];split<;>simp[Zm]<;>omega
def Qu(Vs:List Bl)(i:Nat):Bl:=(List.range i).flatMap fun j=>Vs.getD j []
theorem Gn(Vs:List Bl)(i:Nat):Qu Vs (i+1)=Qu Vs i++Vs.getD i []:=by
 unfold Qu;rw[List.range_succ,List.flatMap_append];simp
theorem Wo{Vs:List Bl}{v:Nat}:∀ {i:Nat},(∀ j,j<i→(Vs.getD j []).length=v)→(Qu Vs i).length=i*v
 | 0,_=>by simp[Qu]
 | i+1,h=>by rw[Gn,List.length_append,Wo fun j hj=>h j (by omega),h i (by omega),Nat.add_mul,Nat.one_mul]
theorem Au{P z Q x:Bl}{k:Nat}(hk:P.length=k)(hz:z.length=x.length):Vu (P++z++Q) k x=P++x++Q:=by
 unfold Vu
 subst hk
 rw[List.append_assoc P z Q,List.take_left' rfl,←hz]
 have e:P++(z++Q)=(P++z)++Q:=(List.append_assoc _ _ _).symm
 rw[e,List.drop_left' (by simp)]
theorem Jq(K:List Int)(i:Nat):∀ d,Yv K i (i+d)=Yv K i i++List.replicate (d*8) 0
 | 0=>by simp
 | d+1=>by
  rw[←Nat.add_assoc,Ve,Jq K i d,if_neg (by omega),List.append_assoc,List.replicate_append_replicate,Nat.add_mul,Nat.one_mul]
theorem Lx(K:List Int)(n:Nat):∀ i,i≤n→Yv K n i=Yv K i i
 | 0,_=>rfl
 | i+1,h=>by
  rw[Ve,Ve,if_pos (by omega),if_pos (by omega),Lx K n i (by omega),Lx K (i+1) i (by omega)]
theorem Ic(a b:Nat):List.replicate (a+b) (0:UInt8)=List.replicate a 0++List.replicate b 0:=List.replicate_append_replicate.symm
theorem Sf{m v:Nat}{H:Bl}{K:List Int}{Vs:List Bl}(hH:H.length=12)(hf:12+m*8+m*v≤244):∀ {i:Nat},i≤m→(∀ j,j<i→(Vs.getD j []).length=v) →
  Jy m v H K Vs i=H++Yv K i m++Qu Vs i++List.replicate (232-m*8-i*v) 0
 | 0,_,_=>by
  have e1:=Jq K 0 m
  rw[Nat.zero_add] at e1
  rw[Jy,e1]
  have h1:(232-m*8-0*v)=232-m*8:=by omega
  rw[h1,show(244:Nat)=12+(m*8+(232-m*8)) by omega,Ic,Ic]
  have:=Au (P:=[]) (z:=List.replicate 12 (0:UInt8)) (Q:=List.replicate (m*8) 0++List.replicate (232-m*8) 0) (x:=H) (k:=0) rfl (by simp[hH])
  rw[List.nil_append,List.nil_append] at this
  rw[this]
  simp[Yv,Qu]
 | i+1,hi,hV=>by
  have ih:=Sf (K:=K) hH hf (i:=i) (by omega) (fun j hj=>hV j (by omega))
  have a3:=hV i (by omega)
  have h2:(i+1)*v≤m*v:=Nat.mul_le_mul_right v hi
  rw[Nat.add_mul,Nat.one_mul] at h2
  obtain⟨d,hd⟩:∃ d,m=i+(d+1):=⟨m-i-1,by omega⟩
  have ek:Yv K i m=Yv K i i++List.replicate 8 0++List.replicate (d*8) 0:=by
   rw[hd,Jq,show(d+1)*8=8+d*8 by omega,Ic,List.append_assoc]
  have a0:Yv K (i+1) m=Yv K i i++leB (K.getD i 0) 8++List.replicate (d*8) 0:=by
   rw[show m=(i+1)+d by omega,Jq,Ve,if_pos (by omega),Lx K (i+1) i (by omega)]
  have er:List.replicate (232-m*8-i*v) (0:UInt8)=List.replicate v 0++List.replicate (232-m*8-(i*v+v)) 0:=by
   rw[←Ic];congr 1;omega
  have a4:(Qu Vs i).length=i*v:=Wo fun j hj=>hV j (by omega)
  rw[Jy,ih,ek,er]
  have s1:=Au (P:=H++Yv K i i) (z:=List.replicate 8 (0:UInt8)) (Q:=List.replicate (d*8) 0++(Qu Vs i++(List.replicate v 0++List.replicate (232-m*8-(i*v+v)) 0))) (x:=leB (K.getD i 0) 8) (k:=12+i*8) (by rw[List.length_append,hH,Jh]) (by simp[Zm])
  have a1:H++(Yv K i i++List.replicate 8 0++List.replicate (d*8) 0)++Qu Vs i++(List.replicate v 0++List.replicate (232-m*8-(i*v+v)) 0)=H++Yv K i i++List.replicate 8 0++(List.replicate (d*8) 0++(Qu Vs i++(List.replicate v 0++List.replicate (232-m*8-(i*v+v)) 0))):=by simp only[List.append_assoc]
  rw[a1,s1]
  have s2:=Au (P:=H++Yv K (i+1) m++Qu Vs i) (z:=List.replicate v (0:UInt8)) (Q:=List.replicate (232-m*8-(i*v+v)) 0) (x:=Vs.getD i []) (k:=12+m*8+i*v) (by rw[List.length_append,List.length_append,hH,Jh,a4]) (by rw[List.length_replicate,a3])
  have a2:H++Yv K i i++leB (K.getD i 0) 8++(List.replicate (d*8) 0++(Qu Vs i++(List.replicate v 0++List.replicate (232-m*8-(i*v+v)) 0)))=H++Yv K (i+1) m++Qu Vs i++List.replicate v 0++List.replicate (232-m*8-(i*v+v)) 0:=by rw[a0];simp only[List.append_assoc]
  rw[a2,s2,Gn,Nat.add_mul,Nat.one_mul]
  simp only[List.append_assoc]
theorem Ca(w:World) :
 C0 184 #[V0 1,.bool true] w (Ret (V0 4) w):=by
 refine zin 19 Tryz.func184 ?_
 refine xbs 7 6 [V0 0,V0 4,V0 8,V0 24,V0 16,V0 4] 3 fun b1 W1 n1=>?_
 refine xb 32 1 n1.blk ?_
 exact xe 4 (V0 4) ⟨rfl,n1.below⟩
theorem Zgs(w:World) :
 C0 185 #[V0 1,.bool true] w (Ret (V0 18) w):=by
 refine zin 16 Tryz.func185 ?_
 refine xr 10 (args:=#[V0 1,.bool true]) (Ca _) fun W1 a0=>?_
 exact xe 18 (V0 18) ⟨rfl,a0⟩
theorem Bq(w:World) :
 C0 184 #[V0 2,.bool true] w (Ret (V0 8) w):=by
 refine zin 19 Tryz.func184 ?_
 refine xbs 7 6 [V0 0,V0 4,V0 8,V0 24,V0 16,V0 4] 3 fun b1 W1 n1=>?_
 refine xb 32 2 n1.blk ?_
 exact xe 4 (V0 8) ⟨rfl,n1.below⟩
theorem Zg8(w:World) :
 C0 185 #[V0 2,.bool true] w (Ret (V0 12) w):=by
 refine zin 16 Tryz.func185 ?_
 refine xr 10 (args:=#[V0 2,.bool true]) (Bq _) fun W1 a0=>?_
 exact xe 25 (V0 12) ⟨rfl,a0⟩
theorem Ck(w:World) :
 C0 184 #[V0 3,.bool true] w (Ret (V0 24) w):=by
 refine zin 19 Tryz.func184 ?_
 refine xbs 7 6 [V0 0,V0 4,V0 8,V0 24,V0 16,V0 4] 3 fun b1 W1 n1=>?_
 refine xb 32 3 n1.blk ?_
 exact xe 4 (V0 24) ⟨rfl,n1.below⟩
theorem Zgd(w:World) :
 C0 185 #[V0 3,.bool true] w (Ret (V0 6) w):=by
 refine zin 16 Tryz.func185 ?_
 refine xr 10 (args:=#[V0 3,.bool true]) (Ck _) fun W1 a0=>?_
 exact xe 39 (V0 6) ⟨rfl,a0⟩
theorem Bo(w:World) :
 C0 184 #[V0 4,.bool true] w (Ret (V0 16) w):=by
 refine zin 19 Tryz.func184 ?_
 refine xbs 7 6 [V0 0,V0 4,V0 8,V0 24,V0 16,V0 4] 3 fun b1 W1 n1=>?_
 refine xb 32 4 n1.blk ?_
 exact xe 4 (V0 16) ⟨rfl,n1.below⟩
theorem ref07_Max4(w:World) :
 C0 185 #[V0 4,.bool true] w (Ret (V0 9) w):=by
 refine zin 16 Tryz.func185 ?_
 refine xr 10 (args:=#[V0 4,.bool true]) (Bo _) fun W1 a0=>?_
 exact xe 32 (V0 9) ⟨rfl,a0⟩
theorem Bv(w:World) :
 C0 184 #[V0 5,.bool true] w (Ret (V0 4) w):=by
 refine zin 19 Tryz.func184 ?_
 refine xbs 7 6 [V0 0,V0 4,V0 8,V0 24,V0 16,V0 4] 3 fun b1 W1 n1=>?_
 refine xb 32 5 n1.blk ?_
 exact xe 4 (V0 4) ⟨rfl,n1.below⟩
theorem Zfl(w:World) :
 C0 185 #[V0 5,.bool true] w (Ret (V0 18) w):=by
 refine zin 16 Tryz.func185 ?_
 refine xr 10 (args:=#[V0 5,.bool true]) (Bv _) fun W1 a0=>?_
 exact xe 18 (V0 18) ⟨rfl,a0⟩
theorem Ns(t:Int)(w:World)(h1:1≤t)(h2:t≤5) :
 C0 184 #[V0 t,.bool false] w (Ret (V0 4) w):=by
 refine zin 19 Tryz.func184 ?_
 refine xbs 7 6 [V0 0,V0 4,V0 8,V0 24,V0 16,V0 4] 3 fun b1 W1 n1=>?_
 refine xgk 9 [8,9] (show(decide (t<(1:Int)):Bool)=false from decide_eq_false (by omega)) ?_
 refine xk 5 (show(decide (t>(5:Int)):Bool)=false from decide_eq_false (by omega)) ?_
 exact xe 17 (V0 4) ⟨rfl,n1.below⟩
theorem Zbz(t:Int)(w:World)(h1:1≤t)(h2:t≤5) :
 C0 185 #[V0 t,.bool false] w (Ret (V0 18) w):=by
 refine zin 16 Tryz.func185 ?_
 refine xr 10 (args:=#[V0 t,.bool false]) (Ns t _ h1 h2) fun W1 a0=>?_
 exact xe 18 (V0 18) ⟨rfl,a0⟩
theorem Mn(t:Int)(leaf:Bool)(w:World)(h:¬ (1≤t∧t≤5)) :
 C0 184 #[V0 t,.bool leaf] w (Ret (V0 0) w):=by
 refine zin 19 Tryz.func184 ?_
 refine xbs 7 6 [V0 0,V0 4,V0 8,V0 24,V0 16,V0 4] 3 fun b1 W1 n1=>?_
 refine xg 9 [8,9] (decide (t<(1:Int))) (fun a0=>?_) (fun a0=>?_)
 ·have a0:=of_decide_eq_true a0
  exact xe 13 (V0 0) ⟨rfl,n1.below⟩
 have a0:=of_decide_eq_false a0
 refine xk 5 (show(decide (t>(5:Int)):Bool)=true from decide_eq_true (by omega)) ?_
 exact xe 7 (V0 0) ⟨rfl,n1.below⟩
theorem Zbs(t:Int)(leaf:Bool)(w:World)(h:¬ (1≤t∧t≤5)) :
 C0 185 #[V0 t,.bool leaf] w (Ret (V0 0) w):=by
 refine zin 16 Tryz.func185 ?_
 refine xr 10 (args:=#[V0 t,.bool leaf]) (Mn t leaf _ h) fun W1 a0=>?_
 exact xe 40 (V0 0) ⟨rfl,a0⟩
theorem Zbx(t:Int)(leaf:Bool)(v:Nat)(hv:Ht t leaf=v)(h1:1≤t)(h2:t≤5)(w:World):C0 184 #[V0 t,.bool leaf] w (Ret (V0 (v:Int)) w):=by
 subst hv
 cases leaf
 ·exact Ns t w h1 h2
 obtain rfl|rfl|rfl|rfl|rfl:t=1∨t=2∨t=3∨t=4∨t=5:=by omega
 ·exact Ca w
 ·exact Bq w
 ·exact Ck w
 ·exact Bo w
 ·exact Bv w
theorem ref07_Max(t:Int)(leaf:Bool)(m:Nat)(hm:Qi t leaf=m)(h1:1≤t)(h2:t≤5)(w:World):C0 185 #[V0 t,.bool leaf] w (Ret (V0 (m:Int)) w):=by
 subst hm
 cases leaf
 ·exact Zbz t w h1 h2
 obtain rfl|rfl|rfl|rfl|rfl:t=1∨t=2∨t=3∨t=4∨t=5:=by omega
 ·exact Zgs w
 ·exact Zg8 w
 ·exact Zgd w
 ·exact ref07_Max4 w
 ·exact Zfl w
theorem Cb(t:Int)(leaf:Bool)(w:World):C0 184 #[V0 t,.bool leaf] w (Ret (V0 (widG t leaf:Int)) w):=by
 unfold widG
 by_cases h:1≤t∧t≤5
 ·rw[if_pos h];exact Zbx t leaf _ rfl h.1 h.2 w
 ·rw[if_neg h];exact Mn t leaf w h
theorem Lu(t:Int)(leaf:Bool)(w:World):C0 185 #[V0 t,.bool leaf] w (Ret (V0 (Zfy t leaf:Int)) w):=by
 unfold Zfy
 by_cases h:1≤t∧t≤5
 ·rw[if_pos h];exact ref07_Max t leaf _ rfl h.1 h.2 w
 ·rw[if_neg h];exact Zbs t leaf w h
theorem Ld{l:Bl}(h:Qv l=true):Xf l≤Xh l∧12+Xh l*8+Xh l*Xg l≤244∧Xh l≤18∧Xg l≤24∧Xf l*Xg l≤Xh l*Xg l :=
 ⟨Vf h,fitG (Yx l) (Yb l),Zbu (Yx l) (Yb l),Zbc (Yx l) (Yb l),Nat.mul_le_mul_right _ (Vf h)⟩
theorem Zgj(a:O0)(c:Nat)(l:Bl)(w:World)(hl:l.length=244)(h:Bys w (.slice a 244 c) l) :
 C0 183 #[.slice a 244 c] w (Ret (.bool (Qv l&&Nv l)) w):=by
 have e6:=Bys.cap h hl
 have e3:=raw1 l 0
 have f1:=Fn l 2 2
 have e9:=Zbu (Yx l) (Yb l)
 have e7:=Zbc (Yx l) (Yb l)
 change Xh l≤18 at e9
 change Xg l≤24 at e7
 refine zin 101 Tryz.func183 ?_
 refine xx 13 _ 244 0 1 (BysM.elem h hl (k:=0) (by omega)).1 ?_
 refine xl 0 ((BysM.elem h hl (k:=0) (by omega)).2) ?_
 refine xid 4 ((↑(l.getD 0 0).toNat:Int)>(1:Int)) (fun e5=>?_) (fun e5=>?_)
 ·refine xe 7 (.bool false) ?_
  rw[show Qv l=false from decide_eq_false (by omega)];exact⟨rfl,(B4 w)⟩
 refine xbs 5 6 [V0 1,V0 1,V0 2,V0 2,V0 2,V0 4] 3 fun b2 W2 n2=>?_
 refine xc 0 (args:=#[.slice a 244 c,.slice (S1 b2) 6 6]) (Ev a 244 c l (S1 b2) 6 6 [1,1,2,2,2,4] (Xv l) _ hl rfl rfl (by decide) (by decide) (by decide) (by decide) (h.below n2.below) (n2.blk.sl 6 6 (by decide) (by decide)) (Zem l)) ?_
 rintro _ W3 ⟨_,rfl,a7,p5,c5,rfl,h5⟩
 have a1:=Ze h5 n2.below.size
 refine xx 10 _ 6 0 1 (Zl (l:=Xv l) (Zd a1) rfl (k:=0) (by decide)).1 ?_
 refine xl 0 ((Zl (l:=Xv l) (Zd a1) rfl (k:=0) (by decide)).2) ?_
 refine xx 7 _ 6 1 1 (Zl (l:=Xv l) (Zd a1) rfl (k:=1) (by decide)).1 ?_
 refine xl 0 ((Zl (l:=Xv l) (Zd a1) rfl (k:=1) (by decide)).2) ?_
 refine xr 1 (args:=#[V0 (↑(Zh l 1 1):Int),.bool ((↑(Zh l 0 1):Int)==(1:Int))]) (Cb (Yx l) (Yb l) _) fun W4 a4=>?_
 have a9:=Zb a1 a4
 refine xx 6 _ 6 1 1 (Zl (l:=Xv l) (Zd a9) rfl (k:=1) (by decide)).1 ?_
 refine xl 0 ((Zl (l:=Xv l) (Zd a9) rfl (k:=1) (by decide)).2) ?_
 refine xr 1 (args:=#[V0 (↑(Zh l 1 1):Int),.bool ((↑(Zh l 0 1):Int)==(1:Int))]) (Lu (Yx l) (Yb l) _) fun W5 a5=>?_
 refine xg 9 [38,39] ((↑(Xg l):Int)==(0:Int)) (fun c4=>?_) (fun c4=>?_)
 ·have c4:=eq_of_beq c4
  have d2:=bln (bln (bln n2.below a7) a4) a5
  refine xe 46 (.bool false) ?_
  rw[show Qv l=false from decide_eq_false (by omega)];exact⟨rfl,d2⟩
 have c4:=Yf c4
 have a0:=Zb a9 a5
 refine xx 1 _ 6 3 1 (Zl (l:=Xv l) (Zd a0) rfl (k:=3) (by decide)).1 ?_
 refine xl 0 ((Zl (l:=Xv l) (Zd a0) rfl (k:=3) (by decide)).2) ?_
 refine xg 4 [44,45,46] ((↑(Zh l 4 2):Int) != (↑(Xg l):Int)) (fun c0=>?_) (fun c0=>?_)
 ·have c0:=Kh c0
  have d5:=bln (bln (bln n2.below a7) a4) a5
  refine xe 39 (.bool false) ?_
  rw[show Qv l=false from decide_eq_false (by omega)];exact⟨rfl,d5⟩
 have c0:=Xr c0
 refine xx 1 _ 6 4 1 (Zl (l:=Xv l) (Zd a0) rfl (k:=4) (by decide)).1 ?_
 refine xl 0 ((Zl (l:=Xv l) (Zd a0) rfl (k:=4) (by decide)).2) ?_
 refine xg 4 [51,52,53] ((↑(Zh l 6 2):Int) != (↑(Xh l):Int)) (fun c6=>?_) (fun c6=>?_)
 ·have c6:=Kh c6
  have c8:=bln (bln (bln n2.below a7) a4) a5
  refine xe 32 (.bool false) ?_
  rw[show Qv l=false from decide_eq_false (by omega)];exact⟨rfl,c8⟩
 have c6:=Xr c6
 refine xx 1 _ 6 5 1 (Zl (l:=Xv l) (Zd a0) rfl (k:=5) (by decide)).1 ?_
 refine xl 0 ((Zl (l:=Xv l) (Zd a0) rfl (k:=5) (by decide)).2) ?_
 refine xg 3 [57,58,59] ((↑(Zh l 8 4):Int) != (0:Int)) (fun c2=>?_) (fun c2=>?_)
 ·have c2:=Kh c2
  have d9:=bln (bln (bln n2.below a7) a4) a5
  refine xe 26 (.bool false) ?_
  rw[show Qv l=false from decide_eq_false (by omega)];exact⟨rfl,d9⟩
 have c2:=Xr c2
 refine xx 1 _ 6 2 1 (Zl (l:=Xv l) (Zd a0) rfl (k:=2) (by decide)).1 ?_
 refine xl 0 ((Zl (l:=Xv l) (Zd a0) rfl (k:=2) (by decide)).2) ?_
 refine xg 4 [64,65,66] (decide ((↑(Zh l 2 2):Int)>(↑(Xh l):Int))) (fun a3=>?_) (fun a3=>?_)
 ·have a3:=of_decide_eq_true a3
  have e2:=bln (bln (bln n2.below a7) a4) a5
  refine xe 19 (.bool false) ?_
  rw[show Qv l=false from decide_eq_false (by omega)];exact⟨rfl,e2⟩
 have a3:=of_decide_eq_false a3
 refine xg 3 [68,69] (!((↑(Zh l 0 1):Int)==(1:Int))) (fun b4=>?_) (fun b4=>?_)
 ·have e4:Zh l 0 1≠1:=by have q:¬ ((Zh l 0 1:Int)=1):=(by simpa using b4);omega
  refine xx 1 _ 6 2 1 (Zl (l:=Xv l) (Zd a0) rfl (k:=2) (by decide)).1 ?_
  refine xl 0 ((Zl (l:=Xv l) (Zd a0) rfl (k:=2) (by decide)).2) ?_
  refine xie 5 (↑(Zh l 2 2):Int) (0:Int) (fun e1=>?_) (fun e1=>?_)
  ·have d6:=bln (bln (bln n2.below a7) a4) a5
   refine xe 7 (.bool false) ?_
   rw[show Qv l=false from decide_eq_false (by omega)];exact⟨rfl,d6⟩
  refine xx 6 _ 6 2 1 (Zl (l:=Xv l) (Zd a0) rfl (k:=2) (by decide)).1 ?_
  refine xl 0 ((Zl (l:=Xv l) (Zd a0) rfl (k:=2) (by decide)).2) ?_
  refine xwm 0 (8*(↑(Zh l 2 2):Int)) (↑(8*(Zh l 2 2)):Int) ?_
  refine xwm 0 (12+(↑(8*(Zh l 2 2)):Int)) (↑(12+(8*(Zh l 2 2))):Int) ?_
  refine xwm 1 (8*(↑(Xh l):Int)) (↑(8*(Xh l)):Int) ?_
  refine xwm 0 (12+(↑(8*(Xh l)):Int)) (↑(12+(8*(Xh l))):Int) ?_
  refine xsB 0 (fun _ _ _ _ _ zo zx zy zz V=>Yu (k:=(12+(8*(Zh l 2 2)))) (h:=(12+(8*(Xh l)))) (b:=a) (n:=244) (c:=c) (i:=(↑(12+(8*(Zh l 2 2))):Int)) (ki:=.i64) (j:=(↑(12+(8*(Xh l))):Int)) (kj:=.i64) 1 zo zx zy rfl zz rfl (by omega) (by omega) Tryz.underlying22 (by kernel_rfl) V) ?_
  have e3:=raw1 l 0
  have hs:Qv l=true:=decide_eq_true ⟨by omega,by omega,by omega,by omega,by omega,by omega,by omega⟩
  obtain⟨d8,d1,c9,d4,e0⟩:=Ld hs
  unfold Xf at d8 e0
  have e8:=Nat.mul_comm (Zh l 2 2) (Xg l)
  have c7:Nv l=(Qf ((l.drop (12+8*Zh l 2 2)).take ((12+8*Xh l)-(12+8*Zh l 2 2)))&&Qf ((l.drop (12+8*Xh l+Xg l*Zh l 2 2)).take (244-(12+8*Xh l+Xg l*Zh l 2 2)))):=by unfold Nv Fb Oc Ds Xf;rw[show 12+Zh l 2 2*8=12+8*Zh l 2 2 by omega,show 12+Xh l*8=12+8*Xh l by omega,Nat.mul_comm (Zh l 2 2) (Xg l)]
  have a8:=bln (bln (bln n2.below a7) a4) a5
  refine xr 0 (args:=#[.slice (Ke a (12+(8*(Zh l 2 2))) c 1) ((12+(8*(Xh l)))-(12+(8*(Zh l 2 2)))) (c-(12+(8*(Zh l 2 2))))]) (Uw (Ke a (12+(8*(Zh l 2 2))) c 1) ((12+(8*(Xh l)))-(12+(8*(Zh l 2 2)))) (c-(12+(8*(Zh l 2 2)))) _ _ (by simp;omega) (by omega) ((Bys.cut h hl (12+8*Zh l 2 2) (12+8*Xh l) (by omega) (by omega)).below a8)) fun f4 b0=>?_
  refine xg 1 [86,87] (Qf ((l.drop (12+8*Zh l 2 2)).take ((12+8*Xh l)-(12+8*Zh l 2 2)))) (fun b5=>?_) (fun b5=>?_)
  ·refine xwm 2 (8*(↑(Xh l):Int)) (↑(8*(Xh l)):Int) ?_
   refine xwm 0 (12+(↑(8*(Xh l)):Int)) (↑(12+(8*(Xh l))):Int) ?_
   have b7:=Zb a0 b0
   refine xx 2 _ 6 2 1 (Zl (l:=Xv l) (Zd b7) rfl (k:=2) (by decide)).1 ?_
   refine xl 0 ((Zl (l:=Xv l) (Zd b7) rfl (k:=2) (by decide)).2) ?_
   refine xwm 0 ((↑(Xg l):Int)*(↑(Zh l 2 2):Int)) (↑((Xg l)*(Zh l 2 2)):Int) ?_
   refine xwm 0 ((↑(12+(8*(Xh l))):Int)+(↑((Xg l)*(Zh l 2 2)):Int)) (↑((12+(8*(Xh l)))+((Xg l)*(Zh l 2 2))):Int) ?_
   refine xsL 0 (fun _ _ _ _ zo zx zy V=>Yl (k:=((12+(8*(Xh l)))+((Xg l)*(Zh l 2 2)))) (b:=a) (n:=244) (c:=c) (i:=(↑((12+(8*(Xh l)))+((Xg l)*(Zh l 2 2))):Int)) (ki:=.i64) 1 zo zx zy rfl (by omega) Tryz.underlying22 (by kernel_rfl) V) ?_
   have c3:=bln a8 b0
   refine xr 0 (args:=#[.slice (Ke a ((12+(8*(Xh l)))+((Xg l)*(Zh l 2 2))) c 1) (244-((12+(8*(Xh l)))+((Xg l)*(Zh l 2 2)))) (c-((12+(8*(Xh l)))+((Xg l)*(Zh l 2 2))))]) (Uw (Ke a ((12+(8*(Xh l)))+((Xg l)*(Zh l 2 2))) c 1) (244-((12+(8*(Xh l)))+((Xg l)*(Zh l 2 2)))) (c-((12+(8*(Xh l)))+((Xg l)*(Zh l 2 2)))) _ _ (by simp;omega) (by omega) ((Bys.cut h hl (12+8*Xh l+Xg l*Zh l 2 2) 244 (by omega) (by omega)).below c3)) fun f2 d7=>?_
   have d3:=bln c3 d7
   refine xe 5 (.bool (Qf ((l.drop (12+8*Xh l+Xg l*Zh l 2 2)).take (244-(12+8*Xh l+Xg l*Zh l 2 2))))) ?_
   rw[hs,c7,b5];exact⟨rfl,d3⟩
  have b6:=bln a8 b0
  refine xe 17 (.bool false) ?_
  rw[hs,c7,b5];exact⟨rfl,b6⟩
 have e4:Zh l 0 1=1:=by have q:((Zh l 0 1:Int)=1):=(by simpa using b4);omega
 refine xx 15 _ 6 2 1 (Zl (l:=Xv l) (Zd a0) rfl (k:=2) (by decide)).1 ?_
 refine xl 0 ((Zl (l:=Xv l) (Zd a0) rfl (k:=2) (by decide)).2) ?_
 refine xwm 0 (8*(↑(Zh l 2 2):Int)) (↑(8*(Zh l 2 2)):Int) ?_
 refine xwm 0 (12+(↑(8*(Zh l 2 2)):Int)) (↑(12+(8*(Zh l 2 2))):Int) ?_
 refine xwm 1 (8*(↑(Xh l):Int)) (↑(8*(Xh l)):Int) ?_
 refine xwm 0 (12+(↑(8*(Xh l)):Int)) (↑(12+(8*(Xh l))):Int) ?_
 refine xsB 0 (fun _ _ _ _ _ zo zx zy zz V=>Yu (k:=(12+(8*(Zh l 2 2)))) (h:=(12+(8*(Xh l)))) (b:=a) (n:=244) (c:=c) (i:=(↑(12+(8*(Zh l 2 2))):Int)) (ki:=.i64) (j:=(↑(12+(8*(Xh l))):Int)) (kj:=.i64) 1 zo zx zy rfl zz rfl (by omega) (by omega) Tryz.underlying22 (by kernel_rfl) V) ?_
 have e3:=raw1 l 0
 have hs:Qv l=true:=decide_eq_true ⟨by omega,by omega,by omega,by omega,by omega,by omega,by omega⟩
 obtain⟨d8,d1,c9,d4,e0⟩:=Ld hs
 unfold Xf at d8 e0
 have e8:=Nat.mul_comm (Zh l 2 2) (Xg l)
 have c7:Nv l=(Qf ((l.drop (12+8*Zh l 2 2)).take ((12+8*Xh l)-(12+8*Zh l 2 2)))&&Qf ((l.drop (12+8*Xh l+Xg l*Zh l 2 2)).take (244-(12+8*Xh l+Xg l*Zh l 2 2)))):=by unfold Nv Fb Oc Ds Xf;rw[show 12+Zh l 2 2*8=12+8*Zh l 2 2 by omega,show 12+Xh l*8=12+8*Xh l by omega,Nat.mul_comm (Zh l 2 2) (Xg l)]
 have a2:=bln (bln (bln n2.below a7) a4) a5
 refine xr 0 (args:=#[.slice (Ke a (12+(8*(Zh l 2 2))) c 1) ((12+(8*(Xh l)))-(12+(8*(Zh l 2 2)))) (c-(12+(8*(Zh l 2 2))))]) (Uw (Ke a (12+(8*(Zh l 2 2))) c 1) ((12+(8*(Xh l)))-(12+(8*(Zh l 2 2)))) (c-(12+(8*(Zh l 2 2)))) _ _ (by simp;omega) (by omega) ((Bys.cut h hl (12+8*Zh l 2 2) (12+8*Xh l) (by omega) (by omega)).below a2)) fun f0 b3=>?_
 refine xg 1 [86,87] (Qf ((l.drop (12+8*Zh l 2 2)).take ((12+8*Xh l)-(12+8*Zh l 2 2)))) (fun b1=>?_) (fun b1=>?_)
 ·refine xwm 2 (8*(↑(Xh l):Int)) (↑(8*(Xh l)):Int) ?_
  refine xwm 0 (12+(↑(8*(Xh l)):Int)) (↑(12+(8*(Xh l))):Int) ?_
  have c1:=Zb a0 b3
  refine xx 2 _ 6 2 1 (Zl (l:=Xv l) (Zd c1) rfl (k:=2) (by decide)).1 ?_
  refine xl 0 ((Zl (l:=Xv l) (Zd c1) rfl (k:=2) (by decide)).2) ?_
  refine xwm 0 ((↑(Xg l):Int)*(↑(Zh l 2 2):Int)) (↑((Xg l)*(Zh l 2 2)):Int) ?_
  refine xwm 0 ((↑(12+(8*(Xh l))):Int)+(↑((Xg l)*(Zh l 2 2)):Int)) (↑((12+(8*(Xh l)))+((Xg l)*(Zh l 2 2))):Int) ?_
  refine xsL 0 (fun _ _ _ _ zo zx zy V=>Yl (k:=((12+(8*(Xh l)))+((Xg l)*(Zh l 2 2)))) (b:=a) (n:=244) (c:=c) (i:=(↑((12+(8*(Xh l)))+((Xg l)*(Zh l 2 2))):Int)) (ki:=.i64) 1 zo zx zy rfl (by omega) Tryz.underlying22 (by kernel_rfl) V) ?_
  have a6:=bln a2 b3
  refine xr 0 (args:=#[.slice (Ke a ((12+(8*(Xh l)))+((Xg l)*(Zh l 2 2))) c 1) (244-((12+(8*(Xh l)))+((Xg l)*(Zh l 2 2)))) (c-((12+(8*(Xh l)))+((Xg l)*(Zh l 2 2))))]) (Uw (Ke a ((12+(8*(Xh l)))+((Xg l)*(Zh l 2 2))) c 1) (244-((12+(8*(Xh l)))+((Xg l)*(Zh l 2 2)))) (c-((12+(8*(Xh l)))+((Xg l)*(Zh l 2 2)))) _ _ (by simp;omega) (by omega) ((Bys.cut h hl (12+8*Xh l+Xg l*Zh l 2 2) 244 (by omega) (by omega)).below a6)) fun f3 d0=>?_
  have b8:=bln a6 d0
  refine xe 5 (.bool (Qf ((l.drop (12+8*Xh l+Xg l*Zh l 2 2)).take (244-(12+8*Xh l+Xg l*Zh l 2 2))))) ?_
  rw[hs,c7,b1];exact⟨rfl,b8⟩
 have b9:=bln a2 b3
 refine xe 17 (.bool false) ?_
 rw[hs,c7,b1];exact⟨rfl,b9⟩
def RGetP(l:Bl)(k w:Nat)(W:World)(e:Ending)(w':World):Prop :=
 (Zh l k w<9223372036854775808∧e=.returned (.tuple #[V0 (Zh l k w:Int),V0 0])∧B3 W w')∨(¬ Zh l k w<9223372036854775808∧e=.returned (.tuple #[V0 0,V0 2])∧B3 W w')
theorem ref_GetP(a:O0)(n c k w:Nat)(l:Bl)(W:World)(hn:l.length=n)(hw:w=1∨w=2∨w=4∨w=8)(hk:k+w≤n)(hl:n≤100000000)(h:Bys W (.slice a n c) l)(ki wi:Int)(hki:ki=(k:Int))(hwi:wi=(w:Int)) :
 C0 72 #[.slice a n c,V0 ki,V0 wi] W (RGetP l k w W):=by
 subst hn hwi hki
 by_cases hq:Zh l k w<9223372036854775808
 ·refine(Wl a c k w l W hw hk hl h hq).mono ?_
  rintro e V ⟨rfl,hb⟩;exact .inl ⟨hq,rfl,hb⟩
 ·refine(Ng a c k w l W hw hk hl h hq).mono ?_
  rintro e V ⟨rfl,hb⟩;exact .inr ⟨hq,rfl,hb⟩
theorem Zd1{l:Bl}{i:Nat}(h:281474976710655<Zh l (12+i*8) 8):Pu l i=2:=by unfold Pu Cu;rw[if_pos h]
theorem keyE_low{l:Bl}{i:Nat}(h:¬ 281474976710655<Zh l (12+i*8) 8)(h0:0<i)(h1:(Zh l (12+i*8) 8:Int)≤(Vy l i).getD (i-1) 0):Pu l i=8:=by
 rw[La l (by omega)] at h1
 change ¬ 281474976710655<Cu l i at h
 change (Cu l i:Int)≤_ at h1
 unfold Pu
 rw[if_neg h,if_pos ⟨h0,by omega⟩]
theorem keyE_ok{l:Bl}{i:Nat}(h:¬ 281474976710655<Zh l (12+i*8) 8)(h0:¬ 0<i):Pu l i=0:=by
 change ¬ 281474976710655<Cu l i at h
 unfold Pu;rw[if_neg h,if_neg fun q=>h0 q.1]
theorem Zea{l:Bl}{i:Nat}(h:¬ 281474976710655<Zh l (12+i*8) 8)(h0:0<i)(h1:¬ (Zh l (12+i*8) 8:Int)≤(Vy l i).getD (i-1) 0):Pu l i=0:=by
 rw[La l (by omega)] at h1
 change ¬ 281474976710655<Cu l i at h
 change ¬ (Cu l i:Int)≤_ at h1
 unfold Pu
 rw[if_neg h,if_neg fun q=>h1 (by have:=q.2;omega)]
theorem Zee{a:O0}{c i:Nat}{l:Bl}{w:World}(h:Bys w (.slice a 244 c) l)(hl:l.length=244)(hb:12+8*Xh l+Xg l*i+Xg l≤244) :
 Bys w (.slice (Ke a (12+8*Xh l+Xg l*i) c 1) (12+8*Xh l+Xg l*i+Xg l-(12+8*Xh l+Xg l*i)) (c-(12+8*Xh l+Xg l*i))) (Cj l i):=by
 have:=Bys.cut h hl (12+8*Xh l+Xg l*i) (12+8*Xh l+Xg l*i+Xg l) (by omega) hb
 unfold Cj
 rw[show 12+Xh l*8+i*Xg l=12+8*Xh l+Xg l*i by rw[Nat.mul_comm i];omega]
 rw[show(l.drop (12+8*Xh l+Xg l*i)).take (Xg l)=(l.drop (12+8*Xh l+Xg l*i)).take (12+8*Xh l+Xg l*i+Xg l-(12+8*Xh l+Xg l*i)) by rw[Nat.add_sub_cancel_left]]
 exact this
theorem Fm{i:Nat}{l:Bl}(hl:l.length=244)(hb:12+8*Xh l+Xg l*i+Xg l≤244):(Cj l i).length=12+8*Xh l+Xg l*i+Xg l-(12+8*Xh l+Xg l*i):=by
 unfold Cj;simp only[List.length_take,List.length_drop];rw[Nat.mul_comm i];omega
theorem rawC{l:Bl}(h:Xf l≤18):(l.getD 2 0).toNat=Xf l:=by
 have e:Zh l 2 2=(l.getD 2 0).toNat+256*(l.getD 3 0).toNat:=raw2 l 2
 unfold Xf at h ⊢
 omega
def RNodeP(l:Bl)(w:World)(e:Ending)(w':World):Prop :=
 (Yk l≠0∧e=.returned (.tuple #[.agg #[V0 0,.bool false,S0,S0],V0 (Yk l)])∧B3 w w') ∨
 (Yk l=0∧∃ kp kc vp vc,e=.returned (.tuple #[.agg #[V0 (Yx l),.bool (Yb l),.slice kp (Xf l) kc,.slice vp (Xf l) vc],V0 0])∧B3 w w' ∧
  w'.ownsRow w.heap.size 3 1 (.slice kp (Xf l) kc) (Xf l) ((Vy l (Xf l)).map V0)∧w'.ownsRow w.heap.size 9 1 (.slice vp (Xf l) vc) (Xf l) ((Vx l (Xf l)).map sv))
theorem Ze5(a:O0)(c:Nat)(l:Bl)(w:World)(hl:l.length=244)(h:Bys w (.slice a 244 c) l) :
 C0 129 #[.slice a 244 c] w (RNodeP l w):=by
 have o3:=Bys.cap h hl
 refine zin 94 Tryz.func129 ?_
 refine xa 2 [V0 0,.bool false,S0,S0] 140 fun b1 W1 n1=>?_
 refine xr 7 (args:=#[.slice a 244 c]) (Zgj a c l _ hl (h.below n1.below)) fun W2 k0=>?_
 refine xi 3 (!(Qv l&&Nv l)) (fun n8=>?_) (fun n8=>?_)
 ·have he:Yk l=7:=by unfold Yk;by_cases q:Qv l=true<;>simp_all
  have k1:=n1.blk.below k0
  refine xsv 3 k1 [V0 0,.bool false,S0,S0] fun W4 u4 k4=>?_
  have g1:=n1.ge (B4 w)
  have n3:=u4.below (bln n1.below k0) g1
  exact xec 5 k4 (.tuple #[.agg #[V0 0,.bool false,S0,S0],V0 7]) (.inl ⟨by rw[he];decide,by rw[he],n3⟩)
 have n9:Qv l=true∧Nv l=true:=by simpa using n8
 have hs:=n9.1
 have j9:=n9.2
 obtain⟨s7,q2,q1,o9,s1⟩:=Ld hs
 refine xd 3 (.t w.heap.size [140]) ?_
 refine xx (.e [0] 1) _ 244 1 1 (BysM.elem h hl (k:=1) (by omega)).1 ?_
 have e0:=bln (bln n1.below k0) (Za W2)
 refine xlt (.e [] 2) (.t w.heap.size [140]) (fun V hV=>(BysM.elem (h.below (Gq e0 hV (Nat.le_refl _))) hl (k:=1) (by omega)).2) ?_
 refine xq (.e [] 3) (congrArg V0 (show(IntKind.i64.wrap (↑(l.getD 1 0).toNat:Int):Int)=(Yx l) from by unfold Yx;rw[raw1];exact Jt (by have:=(l.getD 1 0).toNat_lt;omega))) ?_
 refine xx (.e [4] 5) _ 244 0 1 (BysM.elem h hl (k:=0) (by omega)).1 ?_
 refine xlt (.e [] 6) (.t w.heap.size [140]) (fun V hV=>(BysM.elem (h.below (Gq e0 hV (Nat.le_refl _))) hl (k:=0) (by omega)).2) ?_
 refine xa (.o [7,8] 9) [V0 0,.bool false,S0,S0] 140 fun b5 W5 n5=>?_
 have k1:=(n1.blk.below k0).below (Za W2)
 have a2:=n5.ne k1
 have g5:=n5.ge e0
 refine ysv (.o [] 10) n5.blk [V0 (Yx l),.bool ((↑(l.getD 0 0).toNat:Int)==(1:Int)),S0,S0] (.t w.heap.size [140]) fun W6 u6 k6=>⟨(Zi u6 n5.blk g5 (by decide)),?_⟩
 refine xb 5 0 k6 ?_
 refine xb 1 1 k6 ?_
 refine xr 0 (args:=#[V0 (Yx l),.bool ((↑(l.getD 0 0).toNat:Int)==(1:Int))]) (Cb (Yx l) (Yb l) _) fun W7 l2=>?_
 have k5:=bln (u6.below (bln e0 n5.below) g5) l2
 have l4:=(u6.blk (k1.below n5.below) (Ne.symm (Ne.symm a2))).below l2
 have n0:=k6.below l2
 refine zl 10 94 (fun zm p4 V=>∃ (i:Nat) (kp:O0) (kc:Nat) (vp:O0) (vc:Nat),p4=[(0,.slice a 244 c),(2,P0 b1),(4,P0 b5),(5,V0 (↑(Xg l):Int)),(6,V0 (i:Int))]∧zm=Xf l-((i:Int)).toNat∧B3 w V∧Blk V b1 ([V0 0,.bool false,S0,S0]) 140∧Blk V b5 ([V0 (Yx l),.bool ((↑(l.getD 0 0).toNat:Int)==(1:Int)),.slice kp i kc,.slice vp i vc]) 140∧V.ownsRow w.heap.size 3 1 (.slice kp i kc) i ((Vy l i).map V0)∧V.ownsRow w.heap.size 9 1 (.slice vp i vc) i ((Vx l i).map sv)∧i≤Xf l∧Ye l i=0) ⟨0,none,0,none,0,rfl,rfl,k5,l4,n0,World.ownsRow_nil _ _ _ _,World.ownsRow_nil _ _ _ _,Nat.zero_le _,rfl⟩ ?_
 rintro _ _ W8 ⟨i,kp,kc,vp,vc,rfl,rfl,a7,a1,c9,hK,hV,hi,hz⟩ J8 k2 r8
 have r5:(i+1)*Xg l=i*Xg l+Xg l:=Nat.succ_mul i (Xg l)
 have p1:i<Xf l→(i+1)*Xg l≤Xh l*Xg l:=fun hh=>Nat.mul_le_mul_right _ (by omega)
 have o6:=Nat.mul_comm i (Xg l)
 refine xx 5 _ 244 2 1 (BysM.elem h hl (k:=2) (by omega)).1 ?_
 refine xl 0 ((BysM.elem (h.below a7) hl (k:=2) (by omega)).2) ?_
 refine xq 0 (congrArg V0 (show(IntKind.i64.wrap (↑(l.getD 2 0).toNat:Int):Int)=(↑(Xf l):Int) from by rw[rawC (by omega)];exact Jt (by omega))) ?_
 refine xid 3 ((i:Int)<(↑(Xf l):Int)) (fun p8=>?_) (fun p8=>?_)
 ·refine xwm 8 (8*(i:Int)) (↑(8*i):Int) ?_
  refine xwm 0 (12+(↑(8*i):Int)) (↑(12+(8*i)):Int) ?_
  refine xc 0 (args:=#[.slice a 244 c,V0 (↑(12+(8*i)):Int),V0 8]) (ref_GetP a 244 c (12+i*8) 8 l _ hl (by decide) (by omega) (by decide) (h.below a7) _ 8 (by omega) rfl) ?_
  rintro e q7 l5
  rcases l5 with ⟨p3,rfl,a0⟩|⟨p3,rfl,a0⟩
  ·refine xid 18 ((↑(Zh l (12+i*8) 8):Int)>(281474976710655:Int)) (fun m8=>?_) (fun m8=>?_)
   ·have e2:=a1.below a0
    refine xsv 3 e2 [V0 0,.bool false,S0,S0] fun r3 q3 o5=>?_
    have g1:=n1.ge (B4 w)
    have m1:=q3.below (bln a7 a0) g1
    refine xec 10 o5 (.tuple #[.agg #[V0 0,.bool false,S0,S0],V0 2]) ?_
    have f7:Pu l i=2:=Zd1 (by omega)
    have he:Yk l=2:=by unfold Yk;rw[if_pos hs,if_pos j9,Gh hz (by rw[f7];decide) (by omega),f7]
    exact .inl ⟨by rw[he];decide,by rw[he],m1⟩
   refine xg 8 [52,53] (decide ((i:Int)>(0:Int))) (fun c8=>?_) (fun c8=>?_)
   ·have c8:=of_decide_eq_true c8
    have a4:=c9.below a0
    refine xb 2 2 a4 ?_
    refine xwm 1 ((i:Int)-1) (↑(i-1):Int) ?_
    have g8:=Zb hK a0
    refine xx 0 _ i (i-1) 1 (IntsN.elem (Zd g8) (Jw l i) (k:=(i-1)) (by omega)).1 ?_
    refine xl 0 ((IntsN.elem (Zd g8) (Jw l i) (k:=(i-1)) (by omega)).2) ?_
    refine xid 4 ((↑(Zh l (12+i*8) 8):Int)≤((Vy l i).getD (i-1) 0)) (fun m9=>?_) (fun m9=>?_)
    ·have e4:=a1.below a0
     refine xsv 3 e4 [V0 0,.bool false,S0,S0] fun u0 o7 o2=>?_
     have g1:=n1.ge (B4 w)
     have m3:=o7.below (bln a7 a0) g1
     refine xec 10 o2 (.tuple #[.agg #[V0 0,.bool false,S0,S0],V0 8]) ?_
     have f7:Pu l i=8:=keyE_low (by omega) (by omega) (by omega)
     have he:Yk l=8:=by unfold Yk;rw[if_pos hs,if_pos j9,Gh hz (by rw[f7];decide) (by omega),f7]
     exact .inl ⟨by rw[he];decide,by rw[he],m3⟩
    refine xb 5 0 a4 ?_
    refine xb 1 1 a4 ?_
    refine xr 0 (args:=#[V0 (Yx l),.bool ((↑(l.getD 0 0).toNat:Int)==(1:Int))]) (Lu (Yx l) (Yb l) _) fun s3 b7=>?_
    refine xwm 0 (8*(↑(Xh l):Int)) (↑(8*(Xh l)):Int) ?_
    refine xwm 0 (12+(↑(8*(Xh l)):Int)) (↑(12+(8*(Xh l))):Int) ?_
    refine xwm 2 ((↑(Xg l):Int)*(i:Int)) (↑((Xg l)*i):Int) ?_
    refine xwm 0 ((↑(12+(8*(Xh l))):Int)+(↑((Xg l)*i):Int)) (↑((12+(8*(Xh l)))+((Xg l)*i)):Int) ?_
    have b6:=a4.below b7
    refine xb 6 2 b6 ?_
    refine xbs 1 1 [V0 (↑(Zh l (12+i*8) 8):Int)] 3 fun t4 t3 d0=>?_
    have h4:=bln (bln a7 a0) b7
    have t2:=d0.ge h4
    have i6:=Zb g8 b7
    have l6:=Xa i6 d0
    have c6:=Zb i6 d0.below
    have h6:=bln h4 d0.below
    refine xbi 0 fun _ _ _ _ zJ zQ zo zx zy zK=>Zo (m:=1) (news:=[V0 (↑(Zh l (12+i*8) 8):Int)]) (V0 0) 1 8 (i+1) ((Vy l (i+1)).map V0) zo Tryz.underlying28 (by kernel_rfl) rfl (by decide) zx c6 zy (d0.blk.sl 1 1 (by decide) (by decide)) rfl (by simp[Value.oneCell']) (by unfold maxLen;omega) (by omega) h6.size (by rfl) (by rw[Lm,List.map_append];rfl) fun g9 g3 t1 o1 d5 m6=>?_
    refine zK _ _ ?_
    have a5:=(b6.below d0.below).grown d5 c6 (by decide)
    refine xs 1 a5 [V0 (Yx l),.bool ((↑(l.getD 0 0).toNat:Int)==(1:Int)),.slice g9 (i+1) g3,.slice vp i vc] fun g0 h0 n6=>?_
    refine xd 2 (.t w.heap.size [9,140]) ?_
    refine xwm (.e [0,2,3,4,5] 6) ((↑((12+(8*(Xh l)))+((Xg l)*i)):Int)+(↑(Xg l):Int)) (↑(((12+(8*(Xh l)))+((Xg l)*i))+(Xg l)):Int) ?_
    refine xsB (.e [] 7) (fun _ _ _ _ _ zo zx zy zz V=>Yu (k:=((12+(8*(Xh l)))+((Xg l)*i))) (h:=(((12+(8*(Xh l)))+((Xg l)*i))+(Xg l))) (b:=a) (n:=244) (c:=c) (i:=(↑((12+(8*(Xh l)))+((Xg l)*i)):Int)) (ki:=.i64) (j:=(↑(((12+(8*(Xh l)))+((Xg l)*i))+(Xg l)):Int)) (kj:=.i64) 1 zo zx zy rfl zz rfl (by omega) (by omega) Tryz.underlying22 (by kernel_rfl) V) ?_
    have c0:=Zb (h0.own2 (Xc (Zb (Zb (Zb hV a0) b7) d0.below) d5 c6 (by decide)) a5 (by decide)) (Za g0)
    have c7:=bln (h0.below (h6.trans m6) g5) (Za g0)
    refine xcvt (.e [] 8) (.t w.heap.size [9,140]) (fun _ _ _ zo zx V c0=>Vb zo zx ((Zee (i:=i) h hl (by omega)).below (Gq c7 c0 (Nat.le_refl _))) (Fm (i:=i) hl (by omega)) Tryz.underlying22 Tryz.underlying5 Tryz.underlying9) ?_
    refine xm2 0 1 9 ?_ ?_
    ·have f2:=n6.below (Za g0)
     refine xb 0 3 f2 ?_
     refine xbs (.o [] 9) 1 [.string ⟨(Cj l i).toArray⟩] 9 fun u2 s8 e8=>?_
     have t7:=e8.ge c7
     have k8:=Xa c0 e8
     have c5:=Zb c0 e8.below
     have h8:=bln c7 e8.below
     refine ybi (.o [] 10) (.t w.heap.size [9,140]) fun _ _ _ _ zJ zQ zo zx zy zK=>Zo (m:=1) (news:=[.string ⟨(Cj l i).toArray⟩]) (.string ⟨#[]⟩) 1 16 (i+1) ((Vx l (i+1)).map sv) zo Tryz.underlying60 (by kernel_rfl) rfl (by decide) zx c5 zy (e8.blk.sl 1 1 (by decide) (by decide)) rfl (by simp[Value.oneCell']) (by unfold maxLen;omega) (by omega) h8.size (by rfl) (by rw[Jc,List.map_append];rfl) fun k3 l0 q6 o8 d6 h3=>?_
     refine zK _ _ (Zn h3 d6 c5 (by decide)) ?_
     have b4:=(f2.below e8.below).grown d6 c5 (by decide)
     refine ys (.o [11] 12) b4 [V0 (Yx l),.bool ((↑(l.getD 0 0).toNat:Int)==(1:Int)),.slice g9 (i+1) g3,.slice k3 (i+1) l0] (.t w.heap.size [9,140]) fun t6 h5 p6=>⟨(Zi h5 b4 g5 (by decide)),?_⟩
     refine xwm 5 ((i:Int)+1) (↑(i+1):Int) ?_
     have i5:=h5.below (h8.trans h3) g5
     have d4:=h5.blk ((((h0.blk ((((a1.below a0).below b7).below d0.below).grown d5 c6 (by decide)) (Ne.symm (Ne.symm a2))).below (Za g0)).below e8.below).grown d6 c5 (by decide)) (Ne.symm (Ne.symm a2))
     have h2:=h5.own2 (Xc (Zb (Zb (h0.own2 o1 a5 (by decide)) (Za g0)) e8.below) d6 c5 (by decide)) b4 (by decide)
     have j4:=h5.own2 o8 b4 (by decide)
     exact ze 2 (k2 _ _ _ ⟨i+1,_,_,_,_,rfl,rfl,i5,d4,p6,h2,j4,by omega,Qq hz (Zea (by omega) (by omega) (by omega))⟩ (by omega))
    refine xbs 0 1 [.string ⟨(Cj l i).toArray⟩] 9 fun t8 r4 e9=>?_
    have t5:=e9.ge c7
    have l3:=Xa c0 e9
    have f0:=(n6.below (Za g0)).below e9.below
    refine xb (.o [] 1) 3 f0 ?_
    have c1:=Zb c0 e9.below
    have e6:=bln c7 e9.below
    refine ybi (.o [] 10) (.t w.heap.size [9,140]) fun _ _ _ _ zJ zQ zo zx zy zK=>Zo (m:=1) (news:=[.string ⟨(Cj l i).toArray⟩]) (.string ⟨#[]⟩) 1 16 (i+1) ((Vx l (i+1)).map sv) zo Tryz.underlying60 (by kernel_rfl) rfl (by decide) zx c1 zy (e9.blk.sl 1 1 (by decide) (by decide)) rfl (by simp[Value.oneCell']) (by unfold maxLen;omega) (by omega) e6.size (by rfl) (by rw[Jc,List.map_append];rfl) fun m0 l7 r0 q5 e1 j2=>?_
    refine zK _ _ (Zn j2 e1 c1 (by decide)) ?_
    have a9:=f0.grown e1 c1 (by decide)
    refine ys (.o [11] 12) a9 [V0 (Yx l),.bool ((↑(l.getD 0 0).toNat:Int)==(1:Int)),.slice g9 (i+1) g3,.slice m0 (i+1) l7] (.t w.heap.size [9,140]) fun t0 j1 p9=>⟨(Zi j1 a9 g5 (by decide)),?_⟩
    refine xwm 5 ((i:Int)+1) (↑(i+1):Int) ?_
    have i1:=j1.below (e6.trans j2) g5
    have d1:=j1.blk ((((h0.blk ((((a1.below a0).below b7).below d0.below).grown d5 c6 (by decide)) (Ne.symm (Ne.symm a2))).below (Za g0)).below e9.below).grown e1 c1 (by decide)) (Ne.symm (Ne.symm a2))
    have i7:=j1.own2 (Xc (Zb (Zb (h0.own2 o1 a5 (by decide)) (Za g0)) e9.below) e1 c1 (by decide)) a9 (by decide)
    have i3:=j1.own2 q5 a9 (by decide)
    exact ze 2 (k2 _ _ _ ⟨i+1,_,_,_,_,rfl,rfl,i1,d1,p9,i7,i3,by omega,Qq hz (Zea (by omega) (by omega) (by omega))⟩ (by omega))
   have c8:=of_decide_eq_false c8
   have a6:=c9.below a0
   refine xb 17 0 a6 ?_
   refine xb 1 1 a6 ?_
   refine xr 0 (args:=#[V0 (Yx l),.bool ((↑(l.getD 0 0).toNat:Int)==(1:Int))]) (Lu (Yx l) (Yb l) _) fun u1 b8=>?_
   refine xwm 0 (8*(↑(Xh l):Int)) (↑(8*(Xh l)):Int) ?_
   refine xwm 0 (12+(↑(8*(Xh l)):Int)) (↑(12+(8*(Xh l))):Int) ?_
   refine xwm 2 ((↑(Xg l):Int)*(i:Int)) (↑((Xg l)*i):Int) ?_
   refine xwm 0 ((↑(12+(8*(Xh l))):Int)+(↑((Xg l)*i):Int)) (↑((12+(8*(Xh l)))+((Xg l)*i)):Int) ?_
   have b3:=a6.below b8
   refine xb 6 2 b3 ?_
   refine xbs 1 1 [V0 (↑(Zh l (12+i*8) 8):Int)] 3 fun r7 s4 d2=>?_
   have f9:=bln (bln a7 a0) b8
   have r2:=d2.ge f9
   have i8:=Zb (Zb hK a0) b8
   have m2:=Xa i8 d2
   have c2:=Zb i8 d2.below
   have f1:=bln f9 d2.below
   refine xbi 0 fun _ _ _ _ zJ zQ zo zx zy zK=>Zo (m:=1) (news:=[V0 (↑(Zh l (12+i*8) 8):Int)]) (V0 0) 1 8 (i+1) ((Vy l (i+1)).map V0) zo Tryz.underlying28 (by kernel_rfl) rfl (by decide) zx c2 zy (d2.blk.sl 1 1 (by decide) (by decide)) rfl (by simp[Value.oneCell']) (by unfold maxLen;omega) (by omega) f1.size (by rfl) (by rw[Lm,List.map_append];rfl) fun g6 g7 s9 n7 e3 l8=>?_
   refine zK _ _ ?_
   have a3:=(b3.below d2.below).grown e3 c2 (by decide)
   refine xs 1 a3 [V0 (Yx l),.bool ((↑(l.getD 0 0).toNat:Int)==(1:Int)),.slice g6 (i+1) g7,.slice vp i vc] fun f5 h1 o0=>?_
   refine xd 2 (.t w.heap.size [9,140]) ?_
   refine xwm (.e [0,2,3,4,5] 6) ((↑((12+(8*(Xh l)))+((Xg l)*i)):Int)+(↑(Xg l):Int)) (↑(((12+(8*(Xh l)))+((Xg l)*i))+(Xg l)):Int) ?_
   refine xsB (.e [] 7) (fun _ _ _ _ _ zo zx zy zz V=>Yu (k:=((12+(8*(Xh l)))+((Xg l)*i))) (h:=(((12+(8*(Xh l)))+((Xg l)*i))+(Xg l))) (b:=a) (n:=244) (c:=c) (i:=(↑((12+(8*(Xh l)))+((Xg l)*i)):Int)) (ki:=.i64) (j:=(↑(((12+(8*(Xh l)))+((Xg l)*i))+(Xg l)):Int)) (kj:=.i64) 1 zo zx zy rfl zz rfl (by omega) (by omega) Tryz.underlying22 (by kernel_rfl) V) ?_
   have b9:=Zb (h1.own2 (Xc (Zb (Zb (Zb hV a0) b8) d2.below) e3 c2 (by decide)) a3 (by decide)) (Za f5)
   have a8:=bln (h1.below (f1.trans l8) g5) (Za f5)
   refine xcvt (.e [] 8) (.t w.heap.size [9,140]) (fun _ _ _ zo zx V b9=>Vb zo zx ((Zee (i:=i) h hl (by omega)).below (Gq a8 b9 (Nat.le_refl _))) (Fm (i:=i) hl (by omega)) Tryz.underlying22 Tryz.underlying5 Tryz.underlying9) ?_
   refine xm2 0 1 9 ?_ ?_
   ·have f3:=o0.below (Za f5)
    refine xb 0 3 f3 ?_
    refine xbs (.o [] 9) 1 [.string ⟨(Cj l i).toArray⟩] 9 fun s5 s6 f4=>?_
    have s0:=f4.ge a8
    have l1:=Xa b9 f4
    have c4:=Zb b9 f4.below
    have f6:=bln a8 f4.below
    refine ybi (.o [] 10) (.t w.heap.size [9,140]) fun _ _ _ _ zJ zQ zo zx zy zK=>Zo (m:=1) (news:=[.string ⟨(Cj l i).toArray⟩]) (.string ⟨#[]⟩) 1 16 (i+1) ((Vx l (i+1)).map sv) zo Tryz.underlying60 (by kernel_rfl) rfl (by decide) zx c4 zy (f4.blk.sl 1 1 (by decide) (by decide)) rfl (by simp[Value.oneCell']) (by unfold maxLen;omega) (by omega) f6.size (by rfl) (by rw[Jc,List.map_append];rfl) fun l9 n2 r9 q0 d9 j6=>?_
    refine zK _ _ (Zn j6 d9 c4 (by decide)) ?_
    have b2:=(f3.below f4.below).grown d9 c4 (by decide)
    refine ys (.o [11] 12) b2 [V0 (Yx l),.bool ((↑(l.getD 0 0).toNat:Int)==(1:Int)),.slice g6 (i+1) g7,.slice l9 (i+1) n2] (.t w.heap.size [9,140]) fun q8 j3 q4=>⟨(Zi j3 b2 g5 (by decide)),?_⟩
    refine xwm 5 ((i:Int)+1) (↑(i+1):Int) ?_
    have j5:=j3.below (f6.trans j6) g5
    have d7:=j3.blk ((((h1.blk ((((a1.below a0).below b8).below d2.below).grown e3 c2 (by decide)) (Ne.symm (Ne.symm a2))).below (Za f5)).below f4.below).grown d9 c4 (by decide)) (Ne.symm (Ne.symm a2))
    have j8:=j3.own2 (Xc (Zb (Zb (h1.own2 n7 a3 (by decide)) (Za f5)) f4.below) d9 c4 (by decide)) b2 (by decide)
    have j0:=j3.own2 q0 b2 (by decide)
    exact ze 2 (k2 _ _ _ ⟨i+1,_,_,_,_,rfl,rfl,j5,d7,q4,j8,j0,by omega,Qq hz (keyE_ok (by omega) (by omega))⟩ (by omega))
   refine xbs 0 1 [.string ⟨(Cj l i).toArray⟩] 9 fun q9 r1 g2=>?_
   have u5:=g2.ge a8
   have k9:=Xa b9 g2
   have e7:=(o0.below (Za f5)).below g2.below
   refine xb (.o [] 1) 3 e7 ?_
   have c3:=Zb b9 g2.below
   have f8:=bln a8 g2.below
   refine ybi (.o [] 10) (.t w.heap.size [9,140]) fun _ _ _ _ zJ zQ zo zx zy zK=>Zo (m:=1) (news:=[.string ⟨(Cj l i).toArray⟩]) (.string ⟨#[]⟩) 1 16 (i+1) ((Vx l (i+1)).map sv) zo Tryz.underlying60 (by kernel_rfl) rfl (by decide) zx c3 zy (g2.blk.sl 1 1 (by decide) (by decide)) rfl (by simp[Value.oneCell']) (by unfold maxLen;omega) (by omega) f8.size (by rfl) (by rw[Jc,List.map_append];rfl) fun m7 n4 u3 o4 d8 j7=>?_
   refine zK _ _ (Zn j7 d8 c3 (by decide)) ?_
   have b0:=e7.grown d8 c3 (by decide)
   refine ys (.o [11] 12) b0 [V0 (Yx l),.bool ((↑(l.getD 0 0).toNat:Int)==(1:Int)),.slice g6 (i+1) g7,.slice m7 (i+1) n4] (.t w.heap.size [9,140]) fun t9 i0 p5=>⟨(Zi i0 b0 g5 (by decide)),?_⟩
   refine xwm 5 ((i:Int)+1) (↑(i+1):Int) ?_
   have i2:=i0.below (f8.trans j7) g5
   have d3:=i0.blk ((((h1.blk ((((a1.below a0).below b8).below d2.below).grown e3 c2 (by decide)) (Ne.symm (Ne.symm a2))).below (Za f5)).below g2.below).grown d8 c3 (by decide)) (Ne.symm (Ne.symm a2))
   have i9:=i0.own2 (Xc (Zb (Zb (h1.own2 n7 a3 (by decide)) (Za f5)) g2.below) d8 c3 (by decide)) b0 (by decide)
   have i4:=i0.own2 o4 b0 (by decide)
   exact ze 2 (k2 _ _ _ ⟨i+1,_,_,_,_,rfl,rfl,i2,d3,p5,i9,i4,by omega,Qq hz (keyE_ok (by omega) (by omega))⟩ (by omega))
  have e5:=a1.below a0
  refine xsv 22 e5 [V0 0,.bool false,S0,S0] fun s2 p7 p2=>?_
  have g1:=n1.ge (B4 w)
  have h9:=p7.below (bln a7 a0) g1
  refine xec 10 p2 (.tuple #[.agg #[V0 0,.bool false,S0,S0],V0 2]) ?_
  have f7:Pu l i=2:=Zd1 (by omega)
  have he:Yk l=2:=by unfold Yk;rw[if_pos hs,if_pos j9,Gh hz (by rw[f7];decide) (by omega),f7]
  exact .inl ⟨by rw[he];decide,by rw[he],h9⟩
 refine xlv 7 c9.rp ?_
 refine xsv 0 a1 [V0 (Yx l),.bool ((↑(l.getD 0 0).toNat:Int)==(1:Int)),.slice kp i kc,.slice vp i vc] fun r6 m4 p0=>?_
 have g1:=n1.ge (B4 w)
 have h7:=m4.below a7 g1
 have m5:=m4.own2 hK a1 (by decide)
 have k7:=m4.own2 hV a1 (by decide)
 refine xec 4 p0 (.tuple #[.agg #[V0 (Yx l),.bool ((↑(l.getD 0 0).toNat:Int)==(1:Int)),.slice kp i kc,.slice vp i vc],V0 0]) ?_
 obtain rfl:i=Xf l:=by omega
 exact .inr ⟨by unfold Yk;rw[if_pos hs,if_pos j9,hz],_,_,_,_,rfl,h7,m5,k7⟩
end Go.Proofs.YthhilbkandcbmaaGreatDoor
namespace Go.Proofs.YthhilbkandcbmaaGreatDoor
set_option maxHeartbeats 8000000
set_option maxRecDepth 100000
open Go.RowKit
set_option linter.unusedVariables false
def Ps(l:List Int):Prop:=∀ k,k<l.length→1≤k→l[k-1]?.getD 0<l[k]?.getD 0
instance (l:List Int):Decidable (Ps l):=by unfold Ps;infer_instance
theorem Ps.lt{l:List Int}(h:Ps l):∀ (j i:Nat),i<j→j<l.length→l[i]?.getD 0<l[j]?.getD 0:=by
 intro j
 induction j with
 | zero=>intro i h1;omega
 | succ j ih =>
  intro i h1 h2
  have h3:=h (j+1) h2 (by omega)
  simp only[Nat.add_sub_cancel] at h3
  by_cases hij:i=j
  ·subst hij;exact h3
  ·exact Int.lt_trans (ih i (by omega) (by omega)) h3
theorem Ps.one(l:List Int):Ps (l.take 1):=by
 intro k h1 h2;simp at h1;omega
theorem Ps.succ{l:List Int}{k:Nat}{x y:Int}(h:Ps (l.take k))(hx:l[k-1]? = some x)(hy:l[k]? = some y)(hxy:x<y):Ps (l.take (k+1)):=by
 intro j h1 h2
 have a0:j<k+1:=by simp at h1;omega
 rw[List.getElem?_take,List.getElem?_take,if_pos (by omega),if_pos a0]
 by_cases hj:j=k
 ·subst hj;rw[hx,hy];exact hxy
 ·have:=h j (by simp at h1 ⊢;omega) h2
  rw[List.getElem?_take,List.getElem?_take,if_pos (by omega),if_pos (by omega)] at this
  exact this
theorem Ps.all{l:List Int}{k:Nat}(h:Ps (l.take k))(hk:l.length≤k):Ps l:=by rwa [List.take_of_length_le hk] at h
end Go.Proofs.YthhilbkandcbmaaGreatDoor
namespace Go.Proofs.YthhilbkandcbmaaGreatDoor
set_option maxHeartbeats 8000000
set_option maxRecDepth 100000
open Go.RowKit
set_option linter.unusedVariables false
attribute [local go_sem] Oper.semAt_some
def qOf {n:Nat}(j:Fin n):Nat:=n-1-j.val
theorem Kz{n k:Nat}(h:k<n):(List.finRange n).take (k+1)=(List.finRange n).take k++[⟨k,h⟩]:=by
 rw[List.take_succ_eq_append_getElem (by simpa using h)];simp
theorem Bm(n:Nat):(List.finRange n).take n=List.finRange n:=List.take_of_length_le (by simp)
theorem We{n k:Nat}(h:k≤n):((List.finRange n).take k).length=k:=by simp[h]
def encB(l:List Int)(j:Fin l.length):Array Value:=#[V0 (qOf j:Int),V0 (l[qOf j]?.getD 0)]
theorem back1_in(l Bk:Nat)(p:Nat→Prop)(b off cap:Nat)(zs:List Int)(hlen:zs.length≤9223372036854775807)(hb':zs.length=0∨p b)(hBk:p Bk)(J Jx:List (Fin zs.length)→World→Prop)
  (hY:∀ pre x W,J pre W→pre.length<zs.length→YieldAt Fence.wide 2 Tryz.prog l (encB zs x) W fun e W' =>
   (e=.returned (.bool true)∧J (pre++[x]) W'∧Keeps p W W')∨(e=.returned (.bool false)∧Jx (pre++[x]) W'))
  (W:World) (hck:W.cell? ⟨Bk,0,none⟩=some (.slice (some ⟨b,off,none⟩) zs.length cap))
  (hc:∀ j x,zs[j]? = some x→W.cell? ⟨b,off+j,none⟩=some (V0 x)) (h0:J [] W) :
  CallsIn Fence.wide 3 Tryz.prog 176 #[.func (.yield l) #[] #[],P0 Bk] W fun e W'=>(∃ v,e=.returned v) ∧
   ((∃ ys,ys=List.finRange zs.length∧J ys W')∨(∃ pre,(∃ k,k≤zs.length∧pre=(List.finRange zs.length).take k)∧Jx pre W')):=by
 refine callsIn_of_wp Tryz.func176 rfl trivial ?_ rfl
 simp only[Tryz.ntmps176,List.size_toArray,List.length_cons,List.length_nil,Nat.reduceAdd,Nat.reduceSub,Array.replicate_succ,Array.replicate_zero,List.push_toArray,List.append_toArray,List.nil_append,List.cons_append]
 gi_wp2
 gi_loopw [3] (fun i wr=>∃ k:Nat,k≤zs.length∧i=V0 ((zs.length:Int)-1-k)∧J ((List.finRange zs.length).take k) wr∧Keeps p W wr)
  (fun i _=>((intOf i)+1).toNat)
 case atStart=>exact⟨0,Nat.zero_le _,by simp,h0,Keeps.refl _ _⟩
 case round =>
  obtain⟨k,hk,rfl,a1,a4⟩:=hrel
  by_cases hlt:k<zs.length
  ·have hb:p b:=hb'.resolve_left (by omega)
   obtain⟨x,hx⟩:∃ x,zs[zs.length-1-k]? = some x:=⟨zs[zs.length-1-k],by simp⟩
   have b1:=(a4.cell (a:=⟨Bk,0,none⟩) hBk).trans hck
   have a7:=(a4.cell (a:=⟨b,off+(zs.length-1-k),none⟩) hb).trans (hc _ _ hx)
   obtain⟨q,hq⟩:∃ q:Nat,q=zs.length-1-k:=⟨_,rfl⟩
   have a3:((zs.length:Int)-1-k)=(q:Int):=by omega
   have b2:q<zs.length:=by omega
   obtain⟨fn,a9,a5,a6,hy,hR⟩:=hY _ ⟨k,hlt⟩ wr a1 (by rw[We hk];exact hlt)
   have hE:encB zs ⟨k,hlt⟩=#[V0 (q:Int),V0 x]:=by
    have e0:zs[q]? = some x:=by rw[hq];exact hx
    have e2:qOf (⟨k,hlt⟩:Fin zs.length)=q:=hq.symm
    simp only[encB,e2,e0,Option.getD_some]
   rw[hE] at hy
   rw[←hq] at a7
   rw[a3]
   have HQ:=Lib.hid hq;clear hq
   have HI:=Lib.hid a3;clear a3
   have HX:=Lib.hid hx;clear hx
   have HE:=Lib.hid hE;clear hE
   gi_wp2
   refine hR.mono ?_
   rintro e W3 (⟨rfl,b0,a8⟩|⟨rfl,a2⟩)
   ·gi_wp2
    go_roundw
    case rel =>
     refine⟨k+1,by omega,?_,by rw[Kz hlt];exact b0,a4.trans a8⟩
     exact congrArg V0 (by have:=HI.out;omega)
    case measure=>simp[intOf]
   ·gi_wp2
    refine bodyPost_ret (results_none rfl _ _ _) rfl ?_
    exact⟨⟨_,rfl⟩,.inr ⟨_,⟨k+1,by omega,by rw[Kz hlt]⟩,a2⟩⟩
  ·obtain rfl:k=zs.length:=by omega
   have a0:((zs.length:Int)-1-zs.length) = -1:=by omega
   rw[a0]
   clear a0
   rw[Bm] at a1
   have HJ:=Lib.hid a1;clear a1
   gi_wp2
   go_end0
   exact⟨⟨_,rfl⟩,.inl ⟨_,rfl,HJ.out⟩⟩
theorem On{α:Type}(l Bk:Nat)(J:List α→World→Prop)(W:World){a0:O0}{c0:Nat}(hck:W.cell? ⟨Bk,0,none⟩=some (.slice a0 0 c0))(h0:J [] W) :
 CallsIn Fence.wide 3 Tryz.prog 176 #[.func (.yield l) #[] #[],P0 Bk] W fun e W'=>(∃ v,e=.returned v)∧J [] W':=by
 refine callsIn_of_wp Tryz.func176 rfl trivial ?_ rfl
 simp only[Tryz.ntmps176,List.size_toArray,List.length_cons,List.length_nil,Nat.reduceAdd,Nat.reduceSub,Array.replicate_succ,Array.replicate_zero,List.push_toArray,List.append_toArray,List.nil_append,List.cons_append]
 gi_wp2
 gi_loopw [3] (fun i wr=>i=V0 (-1)∧J [] wr) (fun _ _=>0)
 case atStart=>exact⟨rfl,h0⟩
 case round =>
  obtain⟨rfl,a1⟩:=hrel
  gi_wp2
  go_end0
  exact⟨⟨_,rfl⟩,a1⟩
theorem Zfw(Bk:Nat)(p:Nat→Prop)(v:Value)(zs:List Int)(w:World)(hp:∀ b,p b→b<w.heap.size)(hk:p Bk)(hlen:zs.length≤9223372036854775807)(hv:Ints w v zs)
  (hvp:zs.length≠0→∀ b off n cap,v=.slice (some ⟨b,off,none⟩) n cap→p b) (hck:w.cell? ⟨Bk,0,none⟩=some v) :
  SeqStopsK Fence.wide 3 Tryz.prog 176 #[P0 Bk] (encB zs) (Keeps p)
   (fun ys=>ys=List.finRange zs.length) (fun pre=>∃ k,k≤zs.length∧pre=(List.finRange zs.length).take k) zs.length w:=fun l J Jx W hW _ _ hY h0=>by
 have a1:=Zd8 hW hck
 rcases hv with ⟨a0,c0,rfl,h1,h2⟩|⟨b,off,cap,rfl,a3,a4,a2⟩
 ·obtain rfl:zs=[]:=by simpa using h2
  exact(On l Bk J W a1 h0).mono fun e W' ⟨he,hj⟩=>⟨he,.inl ⟨_,rfl,hj⟩⟩
 ·refine back1_in l Bk p b off cap zs hlen ?_ hk J Jx hY W a1 (fun j x hj=>Zd8 hW (a2 j _ (by simp[hj]))) h0
  by_cases h:zs.length=0
  ·exact .inl h
  ·exact .inr (hvp h _ _ _ _ rfl)
end Go.Proofs.YthhilbkandcbmaaGreatDoor
namespace Go.Proofs.YthhilbkandcbmaaGreatDoor
set_option maxHeartbeats 8000000
set_option maxRecDepth 100000
open Go.RowKit Go.Extern.Stop Go.Stop Go.Extern
set_option linter.unusedVariables false
attribute [local irreducible] wpList wpAnyH Code.wp Oper.wp Go
theorem Rz(kind no:Int)(a:O0)(n c:Nat)(l:Bl)(w:World)(hn:l.length=n)(h:Bys w (.slice a n c) l):C0 75 #[.slice a n c,V0 kind,V0 no] w (OpenP kind no l w):=by
 subst hn;exact seal_Open kind no a c l w h
def Qc(l:Bl)(tree:Int):Int:=if Yk l=0 then(if tree=0∨Yx l=tree then 0 else 6) else Yk l
def Zy(l:Bl)(no tree:Int):Int:=if inE l 2 no=0 then Qc (inB l no) tree else inE l 2 no
def Node1P(l:Bl)(tree:Int)(w:World)(e:Ending)(w':World):Prop :=
 (Qc l tree≠0∧∃ a b kp n1 kc vp n2 vc,e=.returned (.tuple #[.agg #[V0 a,.bool b,.slice kp n1 kc,.slice vp n2 vc],V0 (Qc l tree)])∧B3 w w') ∨
 (Qc l tree=0∧∃ kp kc vp vc,e=.returned (.tuple #[.agg #[V0 (Yx l),.bool (Yb l),.slice kp (Xf l) kc,.slice vp (Xf l) vc],V0 0])∧B3 w w' ∧
  w'.ownsRow w.heap.size 3 1 (.slice kp (Xf l) kc) (Xf l) ((Vy l (Xf l)).map V0)∧w'.ownsRow w.heap.size 9 1 (.slice vp (Xf l) vc) (Xf l) ((Vx l (Xf l)).map sv))
def Tp(l:Bl)(no tree:Int)(w:World)(e:Ending)(w':World):Prop :=
 (Zy l no tree≠0∧∃ b,e=.returned (.tuple #[.agg #[V0 0,.bool false,S0,S0],.iface 113 (P0 b)])∧B3 w w'∧Kv w' [some no] (some (Zy l no tree)) (.iface 113 (P0 b))) ∨
 (Zy l no tree=0∧∃ kp kc vp vc,e=.returned (.tuple #[.agg #[V0 (Yx (inB l no)),.bool (Yb (inB l no)),.slice kp (Xf (inB l no)) kc,.slice vp (Xf (inB l no)) vc],.nilIface])∧B3 w w' ∧
  w'.ownsRow w.heap.size 3 1 (.slice kp (Xf (inB l no)) kc) (Xf (inB l no)) ((Vy (inB l no) (Xf (inB l no))).map V0)∧w'.ownsRow w.heap.size 9 1 (.slice vp (Xf (inB l no)) vc) (Xf (inB l no)) ((Vx (inB l no) (Xf (inB l no))).map sv))
theorem node_1(tree:Int)(bt:Nat)(a:O0)(c:Nat)(l:Bl)(w:World)(kt:Blk w bt [V0 tree] 3)(hl:l.length=244)(h:Bys w (.slice a 244 c) l) :
 C0 123 #[.slice a 244 c,P0 bt] w (Node1P l tree w):=by
 refine zin 27 Tryz.func123 ?_
 refine xa 2 [V0 0,.bool false,S0,S0] 140 fun b1 W1 n1=>?_
 refine xc 6 (args:=#[.slice a 244 c]) (node_Read a c l _ hl (h.below n1.below)) ?_
 rintro e W2 c6
 rcases c6 with ⟨hz,rfl,a4⟩|⟨hz,kp,kc,vp,vc,rfl,a4,hk,c5⟩
 ·refine xa 3 [V0 0,.bool false,S0,S0] 140 fun b3 W3 n3=>?_
  have k1:=n1.blk.below a4
  have a9:=n3.ne k1
  have a6:=bln n1.below a4
  have g3:=n3.ge a6
  refine xsv 0 n3.blk [V0 0,.bool false,S0,S0] fun W4 u4 k4=>?_
  refine xgk 9 [13,14] (show(((Yk l)==(0:Int)):Bool)=false from beq_false_of_ne hz) ?_
  refine xlv 16 k4.rp ?_
  have b4:=u4.blk (k1.below n3.below) (Ne.symm (Ne.symm a9))
  refine xsv 1 b4 [V0 0,.bool false,S0,S0] fun W6 u6 k6=>?_
  have g1:=n1.ge (B4 w)
  have b5:=u6.below (u4.below (bln a6 n3.below) g3) g1
  exact xec 4 k6 (.tuple #[.agg #[V0 0,.bool false,S0,S0],V0 (Yk l)]) (.inl ⟨by unfold Qc;rw[if_neg hz];exact hz,_,_,_,_,_,_,_,_,by unfold Qc;rw[if_neg hz],b5⟩)
 refine xa 3 [V0 0,.bool false,S0,S0] 140 fun b7 W7 n7=>?_
 have k1:=n1.blk.below a4
 have a0:=n7.ne k1
 have a1:=bln n1.below a4
 have g7:=n7.ge a1
 refine xsv 0 n7.blk [V0 (Yx l),.bool (Yb l),.slice kp (Xf l) kc,.slice vp (Xf l) vc] fun W8 u8 k8=>?_
 have b0:=u8.blkT (((kt.below n1.below).below a4).below n7.below) n7.blk (by decide)
 refine xb 9 0 b0 ?_
 refine xg 3 [16,17,18] (tree != (0:Int)) (fun a8=>?_) (fun a8=>?_)
 ·have a8:=Kh a8
  refine xb 1 0 k8 ?_
  refine xb 0 0 b0 ?_
  refine xin 4 (Yx l) tree (fun b9=>?_) (fun b9=>?_)
  ·refine xlv 2 k8.rp ?_
   have b2:=u8.blk (k1.below n7.below) (Ne.symm (Ne.symm a0))
   refine xsv 0 b2 [V0 (Yx l),.bool (Yb l),.slice kp (Xf l) kc,.slice vp (Xf l) vc] fun d3 c9 d0=>?_
   have g1:=n1.ge (B4 w)
   have c1:=c9.below (u8.below (bln a1 n7.below) g7) g1
   exact xec 5 d0 (.tuple #[.agg #[V0 (Yx l),.bool (Yb l),.slice kp (Xf l) kc,.slice vp (Xf l) vc],V0 6]) (.inl ⟨by unfold Qc;rw[if_pos hz,if_neg (by omega)];decide,_,_,_,_,_,_,_,_,by unfold Qc;rw[if_pos hz,if_neg (by omega)],c1⟩)
  refine xlv 4 k8.rp ?_
  have a3:=u8.blk (k1.below n7.below) (Ne.symm (Ne.symm a0))
  refine xsv 1 a3 [V0 (Yx l),.bool (Yb l),.slice kp (Xf l) kc,.slice vp (Xf l) vc] fun d1 b6 c8=>?_
  have g1:=n1.ge (B4 w)
  have c3:=b6.below (u8.below (bln a1 n7.below) g7) g1
  have c4:=b6.own2 (u8.own2 (Zb (Ze hk n1.below.size) n7.below) n7.blk (by decide)) a3 (by decide)
  have a7:=b6.own2 (u8.own2 (Zb (Ze c5 n1.below.size) n7.below) n7.blk (by decide)) a3 (by decide)
  exact xec 4 c8 (.tuple #[.agg #[V0 (Yx l),.bool (Yb l),.slice kp (Xf l) kc,.slice vp (Xf l) vc],V0 0]) (.inr ⟨by unfold Qc;rw[if_pos hz,if_pos (by omega)],_,_,_,_,rfl,c3,c4,a7⟩)
 have a8:=Xr a8
 refine xlv 12 k8.rp ?_
 have a2:=u8.blk (k1.below n7.below) (Ne.symm (Ne.symm a0))
 refine xsv 1 a2 [V0 (Yx l),.bool (Yb l),.slice kp (Xf l) kc,.slice vp (Xf l) vc] fun d2 c0 c7=>?_
 have g1:=n1.ge (B4 w)
 have b8:=c0.below (u8.below (bln a1 n7.below) g7) g1
 have c2:=c0.own2 (u8.own2 (Zb (Ze hk n1.below.size) n7.below) n7.blk (by decide)) a2 (by decide)
 have a5:=c0.own2 (u8.own2 (Zb (Ze c5 n1.below.size) n7.below) n7.blk (by decide)) a2 (by decide)
 exact xec 4 c7 (.tuple #[.agg #[V0 (Yx l),.bool (Yb l),.slice kp (Xf l) kc,.slice vp (Xf l) vc],V0 0]) (.inr ⟨by unfold Qc;rw[if_pos hz,if_pos (by omega)],_,_,_,_,rfl,b8,c2,a5⟩)
theorem readNode(B b:Nat)(p:O0)(n c:Nat)(l:Bl)(no tree:Int)(w:World)(hI:ImgR B b p n c l w)(bt:Nat)(kt:Blk w bt [V0 tree] 3) :
 C0 122 #[P0 b,V0 no,V0 2,.func (.func 123) #[] #[P0 bt]] w (Tp l no tree w):=by
 refine zin 56 Tryz.func122 ?_
 refine xa 2 [V0 0,.bool false,S0,S0] 140 fun b1 W1 n1=>?_
 refine xa 5 [V0 0,.bool false,S0,S0] 140 fun b2 W2 n2=>?_
 have h8:=n2.ne n1.blk
 have hB:=bln n1.below n2.below
 refine xc 6 (args:=#[P0 b,V0 no]) (Sx B b p n c l no _ (hI.below hB)) ?_
 rintro e W3 i5
 rcases i5 with ⟨ho,vr,rfl,a0⟩|⟨j,hk,hj,p2,c2,rfl,a0,ho⟩
 ·refine xd 16 (.t w.heap.size [140]) ?_
  refine xm2 (.b [1,2,3]) 0 4 ?_ ?_
  ·have k2:=(n2.blk.below a0).below (Za W3)
   refine xlv 0 k2.rp ?_
   refine yc (.o [] 4) (args:=#[V0 no,.iface 75 (V0 3)]) (.t w.heap.size [140]) (Yd no 3 _) ?_
   rintro _ W4 ⟨_,rfl,h0,g0⟩
   refine⟨(SF.of_below _ h0),?_⟩
   rw[if_neg (by decide),if_neg (by decide)] at g0
   have j9:=g0
   obtain⟨i6,l2,rfl,_,_⟩:=j9
   have b6:=(((n1.blk.below n2.below).below a0).below (Za W3)).below h0
   have g1:=n1.ge (B4 w)
   refine ysv (.o [] 5) b6 [V0 0,.bool false,S0,S0] (.t w.heap.size [140]) fun W5 u5 k5=>⟨(Zi u5 b6 g1 (by decide)),?_⟩
   have h4:=u5.below (bln (bln (bln hB a0) (Za W3)) h0) g1
   have e2:=g0.upd u5 b6 (by decide)
   refine xec (.r [6] 4) k5 (.tuple #[.agg #[V0 0,.bool false,S0,S0],.iface 113 (P0 i6)]) ?_
   have he:Zy l no tree=3:=by unfold Zy;rw[Lo hI.len ho];rfl
   exact .inl ⟨by rw[he];decide,_,rfl,h4,by rw[he];exact e2⟩
  refine yc 0 (args:=#[V0 no,.iface 75 (V0 3)]) (.t w.heap.size [140]) (Yd no 3 _) ?_
  rintro _ W6 ⟨_,rfl,e5,f9⟩
  refine⟨(SF.of_below _ e5),?_⟩
  rw[if_neg (by decide),if_neg (by decide)] at f9
  have j1:=f9
  obtain⟨i3,l0,rfl,_,_⟩:=j1
  have k2:=((n2.blk.below a0).below (Za W3)).below e5
  refine xlv (.o [] 0) k2.rp ?_
  have c1:=(((n1.blk.below n2.below).below a0).below (Za W3)).below e5
  have g1:=n1.ge (B4 w)
  refine ysv (.o [] 5) c1 [V0 0,.bool false,S0,S0] (.t w.heap.size [140]) fun W7 u7 k7=>⟨(Zi u7 c1 g1 (by decide)),?_⟩
  have g9:=u7.below (bln (bln (bln hB a0) (Za W3)) e5) g1
  have e3:=f9.upd u7 c1 (by decide)
  refine xec (.r [6] 4) k7 (.tuple #[.agg #[V0 0,.bool false,S0,S0],.iface 113 (P0 i3)]) ?_
  have he:Zy l no tree=3:=by unfold Zy;rw[Lo hI.len ho];rfl
  exact .inl ⟨by rw[he];decide,_,rfl,g9,by rw[he];exact e3⟩
 have i7:=(bln n1.below n2.below).size
 have j3:j<l.length/256:=by rw[hI.len];exact hj
 have i1:=Vc j3
 have d6:=Oj (l:=l) (kind:=2) hI.len hk hj
 have h2:=Ze ho i7
 refine xc 22 (args:=#[.slice p2 256 c2,V0 2,V0 no]) (Rz 2 no p2 256 c2 (Qj l j) _ i1 (Yr (Zd h2) i1)) ?_
 rintro e W8 j2
 rcases j2 with ⟨hs,rfl,a2⟩|⟨hs,p3,c3,rfl,a2,h3⟩
 ·refine xk 14 (show(((Xy 2 no (Qj l j)) != (0:Int)):Bool)=true from bne_iff_ne.2 hs) ?_
  refine xd 1 (.t w.heap.size [140]) ?_
  refine xm2 (.b [1,2,3]) 0 4 ?_ ?_
  ·have k2:=((n2.blk.below a0).below a2).below (Za W8)
   refine xlv 0 k2.rp ?_
   refine yc (.o [] 4) (args:=#[V0 no,.iface 75 (V0 (Xy 2 no (Qj l j)))]) (.t w.heap.size [140]) (Yd no (Xy 2 no (Qj l j)) _) ?_
   rintro _ W9 ⟨_,rfl,f4,f1⟩
   refine⟨(SF.of_below _ f4),?_⟩
   rw[if_neg hs,if_neg hs] at f1
   have i8:=f1
   obtain⟨k3,l9,rfl,_,_⟩:=i8
   have c5:=((((n1.blk.below n2.below).below a0).below a2).below (Za W8)).below f4
   have g1:=n1.ge (B4 w)
   refine ysv (.o [] 5) c5 [V0 0,.bool false,S0,S0] (.t w.heap.size [140]) fun k9 h7 k4=>⟨(Zi h7 c5 g1 (by decide)),?_⟩
   have e7:=h7.below (bln (bln (bln (bln hB a0) a2) (Za W8)) f4) g1
   have e4:=f1.upd h7 c5 (by decide)
   refine xec (.r [6] 4) k4 (.tuple #[.agg #[V0 0,.bool false,S0,S0],.iface 113 (P0 k3)]) ?_
   have he:Zy l no tree=Xy 2 no (Qj l j):=by unfold Zy;rw[d6,if_neg hs]
   exact .inl ⟨by rw[he];exact hs,_,rfl,e7,by rw[he];exact e4⟩
  refine yc 0 (args:=#[V0 no,.iface 75 (V0 (Xy 2 no (Qj l j)))]) (.t w.heap.size [140]) (Yd no (Xy 2 no (Qj l j)) _) ?_
  rintro _ l6 ⟨_,rfl,a8,b8⟩
  refine⟨(SF.of_below _ a8),?_⟩
  rw[if_neg hs,if_neg hs] at b8
  have g7:=b8
  obtain⟨e8,j4,rfl,_,_⟩:=g7
  have k2:=(((n2.blk.below a0).below a2).below (Za W8)).below a8
  refine xlv (.o [] 0) k2.rp ?_
  have b9:=((((n1.blk.below n2.below).below a0).below a2).below (Za W8)).below a8
  have g1:=n1.ge (B4 w)
  refine ysv (.o [] 5) b9 [V0 0,.bool false,S0,S0] (.t w.heap.size [140]) fun l4 h5 i4=>⟨(Zi h5 b9 g1 (by decide)),?_⟩
  have g5:=h5.below (bln (bln (bln (bln hB a0) a2) (Za W8)) a8) g1
  have c6:=b8.upd h5 b9 (by decide)
  refine xec (.r [6] 4) i4 (.tuple #[.agg #[V0 0,.bool false,S0,S0],.iface 113 (P0 e8)]) ?_
  have he:Zy l no tree=Xy 2 no (Qj l j):=by unfold Zy;rw[d6,if_neg hs]
  exact .inl ⟨by rw[he];exact hs,_,rfl,g5,by rw[he];exact c6⟩
 have k1:=(bln hB a0).size
 have d9:=Ze h3 k1
 have k0:((Qj l j).drop 8).take 244=inB l no:=(Zak hk).symm
 have h9:=Zbg hI.len hk hj
 rw[k0] at d9
 have b7:=bln (bln hB a0) a2
 refine xc 21 (args:=#[.slice p3 244 c3,P0 bt]) (node_1 tree bt p3 c3 (inB l no) _ (kt.below b7) h9 (Yr (Zd d9) h9)) ?_
 rintro e l5 f8
 rcases f8 with ⟨hz,a5,b5,kp,m1,kc,vp,m2,vc,rfl,a1⟩|⟨hz,kp,kc,vp,vc,rfl,a1,hk,j8⟩
 ·refine xa 3 [V0 0,.bool false,S0,S0] 140 fun l7 l1 a7=>?_
  have c4:=(((n1.blk.below n2.below).below a0).below a2).below a1
  have a3:=a7.ne c4
  have k2:=((n2.blk.below a0).below a2).below a1
  have a4:=a7.ne k2
  have b0:=bln b7 a1
  have i0:=a7.ge b0
  refine xsv 0 a7.blk [V0 a5,.bool b5,.slice kp m1 kc,.slice vp m2 vc] fun d4 d3 l3=>?_
  refine xk 10 (show(((Qc (inB l no) tree) != (0:Int)):Bool)=true from bne_iff_ne.2 hz) ?_
  refine xd 1 (.t w.heap.size [140]) ?_
  refine xm2 (.b [1,2,3]) 0 4 ?_ ?_
  ·have e9:=(d3.blk (k2.below a7.below) (Ne.symm (Ne.symm a4))).below (Za d4)
   refine xlv 0 e9.rp ?_
   refine yc (.o [] 4) (args:=#[V0 no,.iface 75 (V0 (Qc (inB l no) tree))]) (.t w.heap.size [140]) (Yd no (Qc (inB l no) tree) _) ?_
   rintro _ l8 ⟨_,rfl,b3,b4⟩
   refine⟨(SF.of_below _ b3),?_⟩
   rw[if_neg hz,if_neg hz] at b4
   have h1:=b4
   obtain⟨g6,i9,rfl,_,_⟩:=h1
   have c0:=((d3.blk (c4.below a7.below) (Ne.symm (Ne.symm a3))).below (Za d4)).below b3
   have g1:=n1.ge (B4 w)
   refine ysv (.o [] 5) c0 [V0 0,.bool false,S0,S0] (.t w.heap.size [140]) fun m4 f3 j7=>⟨(Zi f3 c0 g1 (by decide)),?_⟩
   have f7:=f3.below (bln (bln (d3.below (bln b0 a7.below) i0) (Za d4)) b3) g1
   have c7:=b4.upd f3 c0 (by decide)
   refine xec (.r [6] 4) j7 (.tuple #[.agg #[V0 0,.bool false,S0,S0],.iface 113 (P0 g6)]) ?_
   have he:Zy l no tree=Qc (inB l no) tree:=by unfold Zy;rw[d6,if_pos hs]
   exact .inl ⟨by rw[he];exact hz,_,rfl,f7,by rw[he];exact c7⟩
  refine yc 0 (args:=#[V0 no,.iface 75 (V0 (Qc (inB l no) tree))]) (.t w.heap.size [140]) (Yd no (Qc (inB l no) tree) _) ?_
  rintro _ m3 ⟨_,rfl,a9,d1⟩
  refine⟨(SF.of_below _ a9),?_⟩
  rw[if_neg hz,if_neg hz] at d1
  have g8:=d1
  obtain⟨g3,j5,rfl,_,_⟩:=g8
  have f0:=((d3.blk (k2.below a7.below) (Ne.symm (Ne.symm a4))).below (Za d4)).below a9
  refine xlv (.o [] 0) f0.rp ?_
  have c8:=((d3.blk (c4.below a7.below) (Ne.symm (Ne.symm a3))).below (Za d4)).below a9
  have g1:=n1.ge (B4 w)
  refine ysv (.o [] 5) c8 [V0 0,.bool false,S0,S0] (.t w.heap.size [140]) fun m5 f6 j0=>⟨(Zi f6 c8 g1 (by decide)),?_⟩
  have h6:=f6.below (bln (bln (d3.below (bln b0 a7.below) i0) (Za d4)) a9) g1
  have d0:=d1.upd f6 c8 (by decide)
  refine xec (.r [6] 4) j0 (.tuple #[.agg #[V0 0,.bool false,S0,S0],.iface 113 (P0 g3)]) ?_
  have he:Zy l no tree=Qc (inB l no) tree:=by unfold Zy;rw[d6,if_pos hs]
  exact .inl ⟨by rw[he];exact hz,_,rfl,h6,by rw[he];exact d0⟩
 have e1:=(bln (bln hB a0) a2).size
 refine xa 3 [V0 0,.bool false,S0,S0] 140 fun m7 m0 a6=>?_
 have d7:=(((n1.blk.below n2.below).below a0).below a2).below a1
 have c9:=a6.ne d7
 have k2:=((n2.blk.below a0).below a2).below a1
 have g2:=a6.ne k2
 have d8:=bln b7 a1
 have k6:=a6.ge d8
 refine xsv 0 a6.blk [V0 (Yx (inB l no)),.bool (Yb (inB l no)),.slice kp (Xf (inB l no)) kc,.slice vp (Xf (inB l no)) vc] fun k8 e6 i2=>?_
 refine xlv 15 i2.rp ?_
 have d2:=e6.blk (d7.below a6.below) (Ne.symm (Ne.symm c9))
 refine xsv 0 d2 [V0 (Yx (inB l no)),.bool (Yb (inB l no)),.slice kp (Xf (inB l no)) kc,.slice vp (Xf (inB l no)) vc] fun m6 f2 j6=>?_
 have g1:=n1.ge (B4 w)
 have e0:=f2.below (e6.below (bln d8 a6.below) k6) g1
 have f5:=f2.own2 (e6.own2 (Zb (Ze hk e1) a6.below) a6.blk (by decide)) d2 (by decide)
 have d5:=f2.own2 (e6.own2 (Zb (Ze j8 e1) a6.below) a6.blk (by decide)) d2 (by decide)
 exact xec 4 j6 (.tuple #[.agg #[V0 (Yx (inB l no)),.bool (Yb (inB l no)),.slice kp (Xf (inB l no)) kc,.slice vp (Xf (inB l no)) vc],.nilIface]) (.inr ⟨by unfold Zy;rw[d6,if_pos hs,hz],_,_,_,_,rfl,e0,f5,d5⟩)
theorem Sd(B b:Nat)(p:O0)(n c:Nat)(l:Bl)(no tree:Int)(w:World)(hI:ImgR B b p n c l w) :
 C0 64 #[P0 b,V0 no,V0 tree] w (Tp l no tree w):=by
 refine zin 14 Tryz.func64 ?_
 refine xa 2 [V0 tree] 3 fun b1 W1 n1=>?_
 refine xa 0 [V0 0,.bool false,S0,S0] 140 fun b2 W2 n2=>?_
 have hB:=bln n1.below n2.below
 have k1:=n1.blk.below n2.below
 refine xc 8 (args:=#[P0 b,V0 no,V0 2,.func (.func 123) #[] #[P0 b1]]) (readNode B b p n c l no tree _ (hI.below hB) b1 k1) ?_
 rintro e W3 a7
 rcases a7 with ⟨he,bf,rfl,a1,hv⟩|⟨he,kp,kc,vp,vc,rfl,a1,hk,a8⟩
 ·have k2:=n2.blk.below a1
  refine xsv 2 k2 [V0 0,.bool false,S0,S0] fun W4 u4 k4=>?_
  have g2:=n2.ge n1.below
  have a4:=u4.below (bln hB a1) g2
  have a3:=hv.upd u4 k2 (by decide)
  exact xec 4 k4 (.tuple #[.agg #[V0 0,.bool false,S0,S0],.iface 113 (P0 bf)]) (.inl ⟨he,_,rfl,a4,a3⟩)
 have a6:=(bln n1.below n2.below).size
 have k2:=n2.blk.below a1
 refine xsv 2 k2 [V0 (Yx (inB l no)),.bool (Yb (inB l no)),.slice kp (Xf (inB l no)) kc,.slice vp (Xf (inB l no)) vc] fun W5 u5 k5=>?_
 have g2:=n2.ge n1.below
 have a2:=u5.below (bln hB a1) g2
 have a5:=u5.own2 (Ze hk a6) k2 (by decide)
 have a0:=u5.own2 (Ze a8 a6) k2 (by decide)
 exact xec 4 k5 (.tuple #[.agg #[V0 (Yx (inB l no)),.bool (Yb (inB l no)),.slice kp (Xf (inB l no)) kc,.slice vp (Xf (inB l no)) vc],.nilIface]) (.inr ⟨he,_,_,_,_,rfl,a2,a5,a0⟩)
theorem Yy(ba b:Nat)(v x:Value)(w:World)(hk:Blk w ba [v,x,P0 b] 128) :
 C0 54 #[P0 ba] w (Ret (P0 b) w):=by
 refine zin 9 Tryz.func54 ?_
 refine xr 9 (args:=#[P0 ba]) (Ki ba b _ _ _ hk) fun W1 a1=>?_
 have a0:=hk.below a1
 refine xb 10 2 a0 ?_
 exact xe 4 (P0 b) ⟨rfl,a1⟩
abbrev Ent:=Int×Bl×Int
def Vt:Ent:=(0,[],0)
def Ku(x:Ent):List Value:=[V0 x.1,.string ⟨x.2.1.toArray⟩,V0 x.2.2]
theorem Hh(x:Ent):(Ku x).length=3:=rfl
def lastK(l:List Ent):Nat→Int
 | 0=>-1
 | i+1=>(l.getD i Vt).1
structure EntsOk(v:Nat)(l:List Ent):Prop where
 hk:∀ i,i<l.length→0≤(l.getD i Vt).1∧(l.getD i Vt).1≤281474976710655
 hs:∀ j,j+1<l.length→(l.getD j Vt).1<(l.getD (j+1) Vt).1
 hw:∀ i,i<l.length→(l.getD i Vt).2.1.length=v
theorem EntsOk.last{v:Nat}{l:List Ent}(E:EntsOk v l){i:Nat}(h:i<l.length):lastK l i<(l.getD i Vt).1:=by
 cases i with
 | zero=>have:=(E.hk 0 h).1;simp only[lastK];omega
 | succ j=>exact E.hs j h
theorem Na(x:Nat):x≤(Aa x).sum:=by
 by_cases h:x≤1
 ·rw[Hj h];simp
 ·rw[Jl h];simp
theorem Gx(t:Int)(n:Nat):1≤Xq t n:=by
 have h1:=Na (ovN n (Qi t true));have h2:=Vj n (Qi t true);unfold Xq Hw;omega
theorem Zbt(t:Int)(v:Nat)(a:O0)(c:Nat)(l:List Ent)(w:World)(ht1:1≤t)(ht2:t≤5)(hv:Ht t true=v)(E:EntsOk v l)(h:Sts Ku w (.slice a l.length c) l)(hn:l.length≤32768) :
 C0 164 #[V0 t,.slice a l.length c] w (Ret (.bool true) w):=by
 have a3:=Ez t true
 rw[hv] at a3
 have a8:=Gx t l.length
 refine zin 45 Tryz.func164 ?_
 refine xr 8 (args:=#[V0 t,.bool true]) (Nk t true v hv ht1 ht2 _) fun W1 a4=>?_
 refine xgk 9 [12,13] (show(((v:Int)==(0:Int)):Bool)=false from by simp;omega) ?_
 refine xr 3 (args:=#[V0 t,V0 (l.length:Int)]) (Qe t l.length _ ht1 ht2 hn) fun W3 a2=>?_
 refine xk 4 (show(((↑(Xq t l.length):Int)==(0:Int)):Bool)=false from by simp;omega) ?_
 have hB:=bln a4 a2
 refine zl 16 45 (fun zm a7 V=>∃ (i:Nat),a7=[(5,V0 (v:Int)),(6,V0 (lastK l i)),(20,.slice a l.length c),(21,V0 (l.length:Int)),(22,V0 (i:Int))]∧zm=l.length-((i:Int)).toNat∧B3 w V∧i≤l.length) ⟨0,rfl,rfl,hB,Nat.zero_le _⟩ ?_
 rintro _ _ W4 ⟨i,rfl,rfl,a0,hi⟩ J4 a5 r4
 refine xid 6 ((i:Int)<(l.length:Int)) (fun a6=>?_) (fun a6=>?_)
 ·refine xx 6 _ l.length i 3 (Sts.cell h Hh Vt (k:=i) (i:=0) (by omega) rfl).1 ?_
  refine xlv 0 (Sts.rp (k:=i) (h.below a0) Hh Vt (by omega) (by decide)) ?_
  refine xa 0 [V0 0,.string ⟨#[]⟩,V0 0] 192 fun b6 W6 n6=>?_
  have g6:=n6.ge a0
  refine xsv 0 n6.blk [V0 ((l.getD i Vt).1),.string ⟨((l.getD i Vt).2.1).toArray⟩,V0 ((l.getD i Vt).2.2)] fun W7 u7 k7=>?_
  refine xb 6 0 k7 ?_
  refine xgk 3 [29,30] (show(decide ((l.getD i Vt).1≤(lastK l i)):Bool)=false from decide_eq_false (by have:=E.last (i:=i) (by omega);omega)) ?_
  refine xb 1 0 k7 ?_
  refine xgk 3 [33,34,35] (show(decide ((l.getD i Vt).1>(281474976710655:Int)):Bool)=false from decide_eq_false (by have:=(E.hk i (by omega)).2;omega)) ?_
  refine xb 1 1 k7 ?_
  refine xk 6 (show(((↑((l.getD i Vt).2.1).length:Int) != (v:Int)):Bool)=false from by rw[E.hw i (by omega)];simp) ?_
  refine xb 4 0 k7 ?_
  refine xw 5 ((i:Int)+1) ?_
  have a1:=u7.below (bln a0 n6.below) g6
  exact ze 2 (a5 _ _ _ ⟨i+1,rfl,rfl,a1,by omega⟩ (by omega))
 exact xe 11 (.bool true) ⟨rfl,a0⟩
theorem Fh(p:O0)(n c:Nat)(w:World) :
 C0 121 #[.slice p n c] w (fun e w'=>∃ b,e=.returned (.func (.func 176) #[] #[P0 b])∧B3 w w'∧w.heap.size≤b∧Blk w' b [.slice p n c] 28):=by
 refine zin 4 Tryz.func121 ?_
 refine xa 2 [.slice p n c] 28 fun b1 W1 n1=>?_
 have g1:=n1.ge (B4 w)
 exact xe 10 (.func (.func 176) #[] #[P0 b1]) ⟨_,rfl,n1.below,g1,n1.blk⟩
end Go.Proofs.YthhilbkandcbmaaGreatDoor
namespace Go.Proofs.YthhilbkandcbmaaGreatDoor
set_option maxHeartbeats 8000000
set_option maxRecDepth 100000
open Go.RowKit Go.Extern.Stop Go.Stop Go.Extern
set_option linter.unusedVariables false
attribute [local irreducible] wpList wpAnyH Code.wp Oper.wp Go
attribute [local go_sem] Oper.semAt_some
theorem Upd.of_put(w:World)(D:Nat)(o:Obj):Upd w D (w.putObj D o):=⟨rfl,rfl,rfl,by simp[World.putObj],fun k hk=>World.putObj_heap_other hk⟩
def Dfr (D:Nat)(w:World):Prop:=w.heap[D]? = some (.deferred (some []))
theorem Dfr.below{D:Nat}{w W:World}(h:Dfr D w)(hb:B3 w W):Dfr D W:=(hb.block D (Array.getElem?_eq_some_iff.1 h).1).trans h
theorem Dfr.ne{D b:Nat}{w:World}{cs:List Value}{t:TypeId}(h:Dfr D w)(k:Blk w b cs t):b≠D:=by
 rintro rfl
 have h':w.heap[b]? = _:=h
 rw[show w.heap[b]? = _ from k] at h'
 cases h'
theorem Dfr.upd{D b:Nat}{w W:World}{cs:List Value}{t:TypeId}(h:Dfr D w)(u:Upd w b W)(k:Blk w b cs t):Dfr D W:=(u.block D fun e=>h.ne k e.symm).trans h
theorem Dfr.row{D:Nat}{w:World}{base e size n:Nat}{v:Value}{xs:List Value}(h:Dfr D w)(k:w.ownsRow base e size v n xs):∀ g,v.ownBlock=some g→g≠D:=by
 rintro g hg rfl
 rcases k.2 with ⟨rfl,_⟩|⟨g',a1,a0,rfl,_,hh,_⟩
 ·cases hg
 ·simp only[Value.ownBlock,Option.some.injEq] at hg
  subst hg
  rw[show w.heap[g']? = _ from h] at hh
  cases hh
theorem Dfr.grown{D:Nat}{w W:World}{base e size n:Nat}{v:Value}{xs:List Value}(h:Dfr D w)(hg:w.grownBy W v.ownBlock)(k:w.ownsRow base e size v n xs):Dfr D W :=
 (hg.block D (Array.getElem?_eq_some_iff.1 h).1 fun q=>h.row k D q.symm rfl).trans h
theorem g_endM{P:Program}{fn:Func}{R:Ending→World→Prop}{a:Act}{w:World}{D:Nat}(hK:Dfr D w)(v:Value)(hd:a.defers=[{ target:=.collected D,args:=#[] }])(hr:(results fn a.tmps).run P (w.putObj D (.deferred none))=.ok v (w.putObj D (.deferred none)))(h:R (.returned v) (w.putObj D (.deferred none))):bodyPostM Fence.wide 4 P fn R .normal a w :=
 by
 show LeavesInM _ _ _ _ a.tmps R a.defers .returning w
 rw[hd]
 exact⟨by simp,.inl ⟨_,_,rfl,run_takeDeferred hK,_,hr,h⟩⟩
def noPan(Q:Exit→Act→World→Prop):Exit→Act→World→Prop
 | .normal,a,w=>Q .normal a w
 | .ret,a,w=>Q .ret a w
 | _,_,_=>False
theorem Zbi{P:Program}{c:Code}{Q:Exit→Act→World→Prop}{a:Act}{w:World}(h:c.wp P (noPan Q) a w):c.wp P Q a w:=wp_mono h fun e a w q=>by cases e<;>first|exact q|exact q.elim
theorem Dq{w:World}{base size n b:Nat}{e t:TypeId}{v:Value}{xs cs:List Value}(k:w.ownsRow base e size v n xs)(q:Blk w b cs t)(hne:e≠t):∀ g,v.ownBlock=some g→g≠b:=by
 rintro g hg rfl
 rcases k.2 with ⟨rfl,_⟩|⟨g',a1,a0,rfl,_,hh,_⟩
 ·cases hg
 ·simp only[Value.ownBlock,Option.some.injEq] at hg
  subst hg
  rw[show w.heap[g']? = _ from q] at hh
  simp only[Option.some.injEq,Obj.cells.injEq] at hh
  exact hne hh.2.1.symm
theorem Ce{w W:World}(h:B3 w W):KeepsOthers w W:=⟨h.size,fun b o hb _=>(h.block b (Array.getElem?_eq_some_iff.1 hb).1).trans hb⟩
theorem Ze1{w W:World}{b:Nat}{cs:List Value}{t:TypeId}(u:Upd w b W)(k:Blk w b cs t):KeepsOthers w W:=⟨Nat.le_of_eq u.size.symm,fun d o hd ho=>(u.block d (by rintro rfl;rw[show w.heap[d]? = _ from k] at hd;cases hd;cases ho)).trans hd⟩
theorem BelowBut.own3{w W:World}{b base size n:Nat}{e:TypeId}{v:Value}{xs:List Value}(h:BelowBut w b W)(k:w.ownsRow base e size v n xs)(hs:∀ j,v.ownBlock=some j→j≠b):W.ownsRow base e size v n xs:=by
 obtain⟨h1,h2⟩:=k
 refine⟨h1,?_⟩
 rcases h2 with h2|⟨g,a1,a0,rfl,hg,hh,r⟩
 ·exact Or.inl h2
 ·exact Or.inr ⟨g,a1,a0,rfl,hg,by rw[h.block g (Array.getElem?_eq_some_iff.1 hh).1 (hs g rfl)];exact hh,r⟩
theorem Fv{β:Type}{w:World}{b B:Nat}(hB:w.heap.size≤B):OwnFrom B (fun(_:β) W=>BelowBut w b W):=fun _ W W' a1 hs hg hr =>
 ⟨hg.os.trans hs.os,hg.tape.trans hs.tape,hg.output.trans hs.output,Nat.le_trans hs.size hg.size,fun k hk a0=>(hg.block k (Nat.lt_of_lt_of_le hk hs.size) (fun e=>by have:=(hr k e.symm).1;omega)).trans (hs.block k hk a0)⟩
theorem Kv.turn{A B:World}{row:Option Nat}{l:List (Option Int)}{c:Option Int}{v:Value}(h:Kv A l c v)(hg:A.grownBy B row)(hr:∀ r,row=some r→∃ o:Obj,A.heap[r]? = some o∧o.isCells=false):Kv B l c v:=h.kept fun _ _ k=>k.turn hg hr
def atW (way:List Int)(pre:List (Fin way.length))(bs:List Int):List Int:=(pre.map fun j=>way[qOf j]?.getD 0).reverse++bs
theorem atW_snoc(way:List Int)(pre:List (Fin way.length))(x:Fin way.length)(bs:List Int):atW way (pre++[x]) bs=(way[qOf x]?.getD 0)::atW way pre bs:=by simp[atW]
theorem atW_all(way bs:List Int):atW way (List.finRange way.length) bs=way++bs:=by
 unfold atW
 congr 1
 apply List.ext_getElem
 ·simp
 ·intro i h1 h2
  simp only[List.length_reverse,List.length_map,List.length_finRange] at h1
  rw[List.getElem_reverse,List.getElem_map]
  simp only[List.length_map,List.length_finRange,List.getElem_finRange,qOf]
  have e:way.length-1-(way.length-1-i)=i:=by omega
  simp[e,h2]
theorem Kv.one{w:World}{l:List (Option Int)}{c:Option Int}{v:Value}(h:Kv w l c v):v.oneCell'=true:=by
 rcases h.nil_or with ⟨_,rfl⟩|⟨_,t,x,rfl⟩<;>rfl
theorem Kv.iface{w:World}{l:List (Option Int)}{c:Int}{v:Value}(h:Kv w l (some c) v):∃ t x,v=.iface t x:=by
 rcases h.nil_or with ⟨q,_⟩|⟨_,q⟩
 ·simp[Lb] at q
 ·exact q
theorem Tg{b c:Int}{l:List (Option Int)}:atL b l (some c)=some b::l:=by simp[atL,Lb]
end Go.Proofs.YthhilbkandcbmaaGreatDoor
namespace Go.Proofs.YthhilbkandcbmaaGreatDoor
set_option maxHeartbeats 8000000
set_option maxRecDepth 100000
open Go.RowKit Go.Extern.Stop Go.Stop Go.Extern
set_option linter.unusedVariables false
def Hr(u v:Value):Prop:=∀ j,u.ownBlock=some j→v.ownBlock≠some j
theorem Hr.symm{u v:Value}(h:Hr u v):Hr v u:=fun j h1 h2=>h j h2 h1
theorem Hr.grow{w:World}{u v u':Value}{base e size n:Nat}{xs:List Value}(h:Hr u v)(k:w.ownsRow base e size v n xs)(hl:u'.ownBlock=u.ownBlock∨u'.ownBlock=some w.heap.size):Hr u' v:=by
 rintro j h1 h2
 rcases hl with hl|hl
 ·exact h j (hl▸h1) h2
 ·rw[hl,Option.some.injEq] at h1
  subst h1
  have:=(k.lt _ h2).2
  omega
theorem Hr.row{w W:World}{u v:Value}{base e size n:Nat}{xs:List Value}(h:Hr u v)(k:w.ownsRow base e size v n xs)(hg:w.grownBy W u.ownBlock):W.ownsRow base e size v n xs:=by
 obtain⟨h1,h2⟩:=k
 refine⟨h1,?_⟩
 rcases h2 with h2|⟨g,a1,a0,rfl,hb,hh,r⟩
 ·exact Or.inl h2
 ·exact Or.inr ⟨g,a1,a0,rfl,hb,(hg.block g (Array.getElem?_eq_some_iff.1 hh).1 (fun q=>h g q.symm rfl)).trans hh,r⟩
theorem Hr.of_lt{w W:World}{u v:Value}{base base2 e e2 size size2 n n2:Nat}{xs ys:List Value}(k:w.ownsRow base e size u n xs)(q:W.ownsRow base2 e2 size2 v n2 ys)(h:w.heap.size≤base2):Hr u v:=fun j h1 h2=>by
 have:=(k.lt j h1).2
 have:=(q.lt j h2).1
 omega
theorem Hr.nil(v:Value):Hr (S0) v:=fun j h=>by cases h
theorem Ur{P:Program}{a:Act}{w:World}{K:Act→World→Prop}{Q:Exit→Act→World→Prop}{o:Oper}{s x:Operand}{t e te:TypeId}{base:Nat}{v:Value}{n:Nat}{xs:List Value}{b m c:Nat}{news:List Value}(z:Value)(size bytes n':Nat)(xs':List Value)
 (ho:o.op=.call { callee:=.builtin .append,args:=#[s,x],argTypes:=#[t,t] }) (ht:P.underlying t=some (.slice e)) (hi:(P.info? e).map (fun i=>(i.zero,i.size,i.bytes))=some (some z,size,bytes)) (hzs:z.cells.size=size) (hsz:0<size) (hs:a.eval s=v)
 (hown:w.ownsRow base e size v n xs) (hx:a.eval x=.slice (S1 b) m c) (hnew:Blk w b news te) (hl:news.length=m*size) (h1:∀ u∈news,u.oneCell'=true) (h63:n+m≤maxLen) (hbytes:(n+m)*bytes≤140737488355328) (hbase:base≤w.heap.size) (hn:n+m=n') (hxs:xs++news=xs')
 (h:∀ p c W,W.ownsRow base e size (.slice p n' c) n' xs'→w.grownBy W v.ownBlock→Below base w W→((Value.slice p n' c).ownBlock=v.ownBlock∨(Value.slice p n' c).ownBlock=some w.heap.size)→K (a.put o.dst (.slice p n' c)) W):o.wp P a w K Q:=by
 cases hq:P.info? e with
 | none=>simp[hq] at hi
 | some i =>
  simp only[hq,Option.map_some,Option.some.injEq,Prod.mk.injEq] at hi
  have hc:∀ j u,news[j]? = some u→w.cell? ((⟨b,0,none⟩:Addr).add j)=some u:=fun j u hj=>by
   have hc:=hnew.cell hj
   by_cases h0:j=0
   ·subst h0;simpa [Addr.add] using hc
   ·simpa [Addr.add,h0] using hc
  obtain⟨v',W,hr,h2,h3,_,h5⟩:=run_append_own_at (P:=P) w base t o.type e i z size bytes ht hq hi.1 hi.2.1 hi.2.2 hzs hsz v n xs hown ⟨b,0,none⟩ m c news hl hc h1 h63 hbytes hbase
  subst hn hxs
  obtain⟨p,c2,rfl⟩:=(Zd h2).slice
  unfold Oper.wp execOp
  simp only[ho,resolve,invoke,builtin,Sem.run_bind,Sem.run_pure,Result.andThen_ok,List.map_toArray,List.map_cons,List.map_nil,hs,hx,hr]
  exact h p c2 W h2 h3 (Qk h3 hown (Nat.le_refl _) hbase) h5
structure WS where
 es:List Ent
 bs:List Int
 deep:Int
 looked:Nat
 fs:List (List Int×Int)
 dry:Bool
def Fy(l:Bl)(no:Int):List Int:=Vy (inB l no) (Xf (inB l no))
def Qb(l:Bl)(no:Int):List Bl:=Vx (inB l no) (Xf (inB l no))
end Go.Proofs.YthhilbkandcbmaaGreatDoor
namespace Go.Proofs.YthhilbkandcbmaaGreatDoor
set_option maxHeartbeats 8000000
set_option maxRecDepth 100000
open Go.RowKit Go.Extern.Stop Go.Stop Go.Extern
set_option linter.unusedVariables false
attribute [local irreducible] wpList wpAnyH Code.wp Oper.wp Go
theorem widG_24(t:Int)(b:Bool):widG t b≤24:=by
 unfold widG Ht
 repeat' split
 all_goals omega
theorem Qo(l:Bl)(n i:Nat):((Vx l n).getD i []).length≤1000:=by
 by_cases h:i<n
 ·rw[Es l h]
  unfold Cj
  rw[List.length_take]
  have:=widG_24 (Yx l) (Yb l)
  unfold Xg
  omega
 ·simp[List.getD,List.getElem?_eq_none (show(Vx l n).length≤i by rw[Fw];omega)]
theorem Cm(p:O0)(n c n2 c2:Nat):(Value.slice p n c).ownBlock=(Value.slice p n2 c2).ownBlock:=by
 cases p<;>rfl
theorem Hr.len{p q:O0}{n c m d:Nat}(h:Hr (.slice p n c) (.slice q m d))(n2 c2 m2 d2:Nat):Hr (.slice p n2 c2) (.slice q m2 d2):=fun j h1 h2 =>
 h j ((Cm _ _ _ _ _).trans h1) ((Cm _ _ _ _ _).trans h2)
end Go.Proofs.YthhilbkandcbmaaGreatDoor
namespace Go.Proofs.YthhilbkandcbmaaGreatDoor
set_option maxHeartbeats 8000000
set_option maxRecDepth 100000
open Go.RowKit Go.Extern.Stop Go.Stop Go.Extern
set_option linter.unusedVariables false
theorem Zcl(t:Int)(b:Bool):Zfy t b≤18:=by
 unfold Zfy Qi
 repeat' split
 all_goals omega
theorem Gm{l:Bl}(h:Yk l=0):Qv l=true:=by
 unfold Yk at h
 split at h
 ·assumption
 ·cases h
theorem Jp{l:Bl}{tree:Int}(h:Qc l tree=0):Yk l=0:=by
 unfold Qc at h
 split at h
 ·assumption
 ·assumption
theorem Jg{l:Bl}{no tree:Int}(h:Zy l no tree=0):inE l 2 no=0∧Qc (inB l no) tree=0:=by
 unfold Zy at h
 split at h
 ·exact⟨by assumption,h⟩
 ·rename_i q;exact absurd h q
theorem Em{l:Bl}:∀ {n:Nat},Ye l n=0→∀ i,i<n→Pu l i=0
 | 0,_,i,h=>absurd h (by omega)
 | n+1,h,i,hi=>by
  by_cases h1:Ye l n=0
  ·rw[Ye,if_neg (by rw[h1];decide)] at h
   by_cases e:i=n
   ·rw[e];exact h
   ·exact Em h1 i (by omega)
  ·rw[Ye,if_pos h1] at h
   exact absurd h h1
theorem Zg1{l:Bl}(h:Yk l=0):Ye l (Xf l)=0:=by
 unfold Yk at h
 split at h
 ·split at h
  ·exact h
  ·cases h
 ·cases h
theorem Zgr{l:Bl}{n:Nat}(h:Ye l n=0):Ps (Vy l n):=by
 intro k hk h1
 rw[Jw] at hk
 have e:=Em h k hk
 have g:∀ j,j<n→(Vy l n)[j]?.getD 0=(Cu l j:Int):=fun j hj=>by simp[Vy,List.getElem?_range hj]
 rw[g _ (by omega),g _ hk]
 unfold Pu at e
 split at e
 ·cases e
 ·split at e
  ·cases e
  ·rename_i q;omega
theorem nodK_sort{l:Bl}{no tree:Int}(h:Zy l no tree=0):Ps (Fy l no):=Zgr (Zg1 (Jp (Jg h).2))
end Go.Proofs.YthhilbkandcbmaaGreatDoor
namespace Go.Proofs.YthhilbkandcbmaaGreatDoor
set_option maxHeartbeats 8000000
set_option maxRecDepth 100000
open Go.RowKit Go.Extern.Stop Go.Stop Go.Extern
set_option linter.unusedVariables false
section
variable {P:Program} {fn:Func} {R:Ending→World→Prop} {w:World} {s:Zs}
def BlksOf(w:World):List (Nat×List Value)→Prop
 | []=>True
 | p::r=>(∃ t,Blk w p.1 p.2 t)∧BlksOf w r
noncomputable def zrlm (P:Program) (n:Nat) (kv:List (Nat×Value)) (l:List ResultVar):List (List Value)→Option (List Nat×List Value):=List.rec (motive:=fun _=>List (List Value)→Option (List Nat×List Value)) (fun _=>some ([],[])) (fun r _ ih css=>match r with
 | .tmp t=>match ih css with
  | some r=>some (r.1,zget n kv t::r.2)
  | none=>none
 | .cell k t=>match css with
  | []=>none
  | p::css'=>match zget n kv k with
   | .pointer (some ⟨b,off,sp⟩)=>match sp with
    | none=>match Nat.beq off 0&&(zrow P t&&zsz P t p.length) with
     | true=>match ih css' with
      | some r=>some (b::r.1,.agg p.toArray::r.2)
      | none=>none
     | false=>none
    | some _=>none
   | _=>none) l
theorem Ay(n:Nat)(kv:List (Nat×Value))(w:World):∀ (l:List ResultVar) (css:List (Nat×List Value)) (vs:List Value),BlksOf w css→zrlm P n kv l (css.map Prod.snd)=some (css.map Prod.fst,vs)→(l.mapM (zrf (zact n kv).tmps)).run P w=.ok vs w
  | [],css,vs,_,h=>by
    have h':some (([]:List Nat),([]:List Value))=some (css.map Prod.fst,vs):=h
    simp only[Option.some.injEq,Prod.mk.injEq] at h'
    rw[←h'.2];rfl
  | r :: l, css, vs, hb, h => by
    rw[List.mapM_cons]
    cases r with
    | tmp t =>
      have h':(match zrlm P n kv l (css.map Prod.snd) with|some r=>some (r.1,zget n kv t::r.2)|none=>none)=some (css.map Prod.fst,vs):=h
      split at h'
      · rename_i r' hv
        simp only[Option.some.injEq,Prod.mk.injEq] at h'
        obtain⟨h1,rfl⟩:=h'
        have a1:zrlm P n kv l (css.map Prod.snd)=some (css.map Prod.fst,r'.2):=by rw[hv,←h1]
        simp only[zrf,Sem.run_bind,Sem.run_pure,Result.andThen_ok,Ay n kv w l css r'.2 hb a1,Gc]
      · cases h'
    | cell k t' =>
      cases css with
      | nil=>cases h
      | cons p css =>
      have h':(match zget n kv k with
      | .pointer (some ⟨b,a0,sp⟩)=>match sp with
        | none=>match Nat.beq a0 0&&(zrow P t'&&zsz P t' p.2.length) with
          | true=>match zrlm P n kv l (css.map Prod.snd) with
            | some r=>some (b::r.1,.agg p.2.toArray::r.2)
            | none=>none
          | false=>none
        | some _=>none
      | _=>none)=some (p.1::css.map Prod.fst,vs):=h
      split at h'
      · rename_i b' a0 sp a3
        cases sp with
        | some _=>cases h'
        | none =>
          dsimp only at h'
          split at h'
          · rename_i hc
            simp only[Bool.and_eq_true] at hc
            split at h'
            · rename_i r' hv
              simp only[Option.some.injEq,Prod.mk.injEq,List.cons.injEq] at h'
              obtain⟨⟨rfl,h1⟩,rfl⟩:=h'
              obtain⟨⟨t,kb⟩,a2⟩:=hb
              have a1:zrlm P n kv l (css.map Prod.snd)=some (css.map Prod.fst,r'.2):=by rw[hv,←h1]
              obtain rfl:a0=0:=Nat.eq_of_beq_eq_true hc.1
              have hu:=hc.2.1
              unfold zrow at hu
              split at hu
              · rename_i d hd
                have hl:=run_loadVar_mid (P:=P) w p.1 0 t' p.2 d kb.whole hd hu (Zaq hc.2.2)
                have e:(zact n kv).tmps.getD k undef=.pointer (some ⟨p.1,0,none⟩):=by rw[Gc];exact a3
                simp only[zrf,e,asAddr,Sem.run_bind,Sem.run_pure,Result.andThen_ok,hl,Ay n kv w l css r'.2 a2 a1]
              · cases hu
            · cases h'
          · cases h'
      · cases h'
noncomputable def zresm (P:Program) (s:Zs) (fn:Func) (css:List (List Value)):Option (List Nat×Value):=match zfin s with
 | true=>match zrlm P s.n s.kv fn.results.toList css with
  | some r=>some (r.1,zvs r.2)
  | none=>none
 | false=>none
theorem Bd(q:Zq)(css:List (Nat×List Value))(hb:BlksOf w css)(v:Value)(hR:R (.returned v) w)(h:zresm P (zq P q s) fn (css.map Prod.snd)=some (css.map Prod.fst,v):=by kernel_rfl):Go P fn R s w:=by
 refine Zw q s ?_
 unfold zresm at h
 split at h
 ·rename_i hf
  split at h
  ·rename_i r hv
   simp only[Option.some.injEq,Prod.mk.injEq] at h
   obtain⟨h1,rfl⟩:=h
   have hv:zrlm P (zq P q s).n (zq P q s).kv fn.results.toList (css.map Prod.snd)=some (css.map Prod.fst,r.2):=by rw[hv,←h1]
   exact Zbl hf (Pr (Ay _ _ _ _ _ _ hb hv)) hR
  ·cases h
 ·cases h
end
end Go.Proofs.YthhilbkandcbmaaGreatDoor
namespace Go.Proofs.YthhilbkandcbmaaGreatDoor
set_option maxHeartbeats 8000000
set_option maxRecDepth 100000
open Go.RowKit Go.Extern.Stop Go.Stop Go.Extern
set_option linter.unusedVariables false
attribute [local irreducible] wpList wpAnyH Code.wp Oper.wp Go
theorem ref08_inB(n lo hi:Int)(w:World) :
 C0 130 #[V0 n,V0 lo,V0 hi] w (Ret (.bool (decide (lo≤n∧n≤hi))) w):=by
 refine zin 15 Tryz.func130 ?_
 refine xg 11 [9,10] (decide (n≥lo)) (fun a0=>?_) (fun a0=>?_)
 ·have a0:=of_decide_eq_true a0
  exact xe 8 (.bool (decide (n≤hi))) ⟨by rw[show decide (lo≤n∧n≤hi)=decide (n≤hi) from by simp;omega],(B4 w)⟩
 have a0:=of_decide_eq_false a0
 exact xe 8 (.bool false) ⟨by rw[show decide (lo≤n∧n≤hi)=false from decide_eq_false (by omega)],(B4 w)⟩
theorem Zfn(s:Bl)(lo hi:Int)(w:World)(hs:s.length≤1000) :
 C0 71 #[.string ⟨s.toArray⟩,V0 lo,V0 hi] w (Ret (.tuple #[V0 (if s.length=4∧lo≤(Zh s 0 4:Int)∧(Zh s 0 4:Int)≤hi then(Zh s 0 4:Int) else 0),V0 (if s.length=4 then(if lo≤(Zh s 0 4:Int)∧(Zh s 0 4:Int)≤hi then 0 else 2) else 7)]) w):=by
 refine zin 25 Tryz.func71 ?_
 refine xin 14 (s.length:Int) (4:Int) (fun a5=>?_) (fun a5=>?_)
 ·refine xe 8 (.tuple #[V0 0,V0 7]) ?_
  rw[if_neg (by omega),if_neg (by omega)];exact⟨rfl,(B4 w)⟩
 refine xcf 5 fun _ _ _ zJ zQ zo zx zK=>Ka s zo zx Tryz.underlying9 Tryz.underlying22 Tryz.underlying5 (by omega) ?_
 intro bz cz W2 a3 a6
 refine zK _ _ ?_
 refine xr 0 (args:=#[.slice (S1 bz) s.length cz,V0 0,V0 4]) (Il (S1 bz) s.length cz 0 4 0 4 s _ rfl rfl rfl (by decide) (by omega) (by omega) a6) fun W3 a2=>?_
 refine xr 13 (args:=#[V0 (↑(Zh s 0 4):Int),V0 lo,V0 hi]) (ref08_inB (↑(Zh s 0 4):Int) lo hi _) fun W4 a4=>?_
 refine xi 3 (!(decide (lo≤(Zh s 0 4:Int)∧(Zh s 0 4:Int)≤hi))) (fun a1=>?_) (fun a1=>?_)
 ·have a0:¬ (lo≤(Zh s 0 4:Int)∧(Zh s 0 4:Int)≤hi):=fun q=>absurd a1 (by rw[decide_eq_true q];decide)
  have hB:=bln (bln a3 a2) a4
  refine xe 8 (.tuple #[V0 0,V0 2]) ?_
  rw[if_neg fun q=>a0 q.2,if_pos (by omega),if_neg a0];exact⟨rfl,hB⟩
 have a0:lo≤(Zh s 0 4:Int)∧(Zh s 0 4:Int)≤hi:=Decidable.byContradiction fun q=>absurd a1 (by rw[decide_eq_false q];decide)
 have hB:=bln (bln a3 a2) a4
 refine xe 10 (.tuple #[V0 (↑(Zh s 0 4):Int),V0 0]) ?_
 rw[if_pos ⟨by omega,a0⟩,if_pos (by omega),if_pos a0];exact⟨rfl,hB⟩
theorem Ri(s:Bl)(w:World)(hs:s.length≤1000) :
 C0 71 #[.string ⟨s.toArray⟩,V0 1,V0 14399] w (Ret (.tuple #[V0 (Xi s:Int),V0 (Xl s)]) w):=by
 refine(Zfn s 1 14399 w hs).mono ?_
 rintro e W ⟨rfl,hb⟩
 refine⟨?_,hb⟩
 have e1:(if s.length=4 then(if(1:Int)≤(Zh s 0 4:Int)∧(Zh s 0 4:Int)≤14399 then(0:Int) else 2) else 7)=Xl s:=by
  unfold Xl
  by_cases h:s.length=4
  ·rw[if_pos h,if_pos h]
   by_cases q:1≤Zh s 0 4∧Zh s 0 4≤14399
   ·rw[if_pos q,if_pos ⟨by omega,by omega⟩]
   ·rw[if_neg q,if_neg (by omega)]
  ·rw[if_neg h,if_neg h]
 have e2:(if s.length=4∧(1:Int)≤(Zh s 0 4:Int)∧(Zh s 0 4:Int)≤14399 then(Zh s 0 4:Int) else 0)=(Xi s:Int):=by
  unfold Xi
  rw[←e1]
  by_cases h:s.length=4
  ·rw[if_pos h]
   by_cases q:(1:Int)≤(Zh s 0 4:Int)∧(Zh s 0 4:Int)≤14399
   ·rw[if_pos ⟨h,q⟩,if_pos q,if_pos rfl]
   ·rw[if_neg fun x=>q x.2,if_neg q,if_neg (by decide)];rfl
  ·rw[if_neg fun x=>h x.1,if_neg h,if_neg (by decide)];rfl
 rw[e1,e2]
theorem Sb(s:Bl)(w:World)(hs:s.length≤1000) :
 C0 36 #[.string ⟨s.toArray⟩] w (Ret (.tuple #[V0 (Xi s:Int),V0 (Xl s)]) w):=by
 refine zin 8 Tryz.func36 ?_
 refine xr 9 (args:=#[.string ⟨s.toArray⟩,V0 1,V0 14399]) (Ri s _ hs) fun W1 a0=>?_
 exact xe 7 (.tuple #[V0 (↑(Xi s):Int),V0 (Xl s)]) ⟨rfl,a0⟩
theorem Jm(no er:Int)(w:World)(he:er≠0):C0 44 #[V0 no,V0 er] w (Qd (fun w' r=>∃ a c,r=.agg #[.slice a 1 c,V0 er]∧w'.ownsRow w.heap.size 3 1 (.slice a 1 c) 1 [V0 no]) w):=by
 refine(ref11_At no er w).mono ?_
 rintro e W ⟨a,c,rfl,hb,ho⟩
 rw[fltL_nz he] at ho ⊢
 exact⟨_,rfl,hb,a,c,rfl,ho⟩
theorem Zdh(L:List Int):∀ u∈L.map V0,u.oneCell'=true:=by intro u hu;obtain⟨x,_,rfl⟩:=List.mem_map.1 hu;rfl
def RBlkNodeP(l:Bl)(no tree:Int)(w:World)(e:Ending)(w':World):Prop :=
 (Zy l no tree≠0∧∃ a c,e=.returned (.tuple #[.agg #[V0 0,.bool false,S0,S0],.agg #[.slice a 1 c,V0 (Zy l no tree)]])∧B3 w w'∧w'.ownsRow w.heap.size 3 1 (.slice a 1 c) 1 [V0 no]) ∨
 (Zy l no tree=0∧∃ kp kc vp vc,e=.returned (.tuple #[.agg #[V0 (Yx (inB l no)),.bool (Yb (inB l no)),.slice kp (Xf (inB l no)) kc,.slice vp (Xf (inB l no)) vc],.agg #[S0,V0 0]])∧B3 w w'∧w'.ownsRow w.heap.size 3 1 (.slice kp (Xf (inB l no)) kc) (Xf (inB l no)) ((Vy (inB l no) (Xf (inB l no))).map V0)∧w'.ownsRow w.heap.size 9 1 (.slice vp (Xf (inB l no)) vc) (Xf (inB l no)) ((Vx (inB l no) (Xf (inB l no))).map sv))
theorem Zgh(B bm:Nat)(p:O0)(k c:Nat)(l:Bl)(no tree:Int)(w:World)(hI:RefI B bm p k c l w) :
 C0 69 #[P0 bm,V0 no,V0 tree] w (RBlkNodeP l no tree w):=by
 refine zin 48 Tryz.func69 ?_
 refine xa 2 [V0 0,.bool false,S0,S0] 140 fun b1 W1 n1=>?_
 refine xa 0 [S0,V0 0] 37 fun b2 W2 n2=>?_
 have e4:=(hI.below n1.below).below n2.below
 refine xc 6 (args:=#[P0 bm,V0 no,V0 2]) (Zd0 B bm p k c l _ e4 no 2) ?_
 rintro e W3 g0
 rcases g0 with ⟨a9,rfl,a1⟩|⟨a9,f1,p3,c3,rfl,a1,h3⟩
 ·refine xk 14 (show(((inE l 2 no) != (0:Int)):Bool)=true from bne_iff_ne.2 a9) ?_
  refine xc 5 (args:=#[V0 no,V0 (inE l 2 no)]) (Jm no (inE l 2 no) _ a9) ?_
  rintro _ W4 ⟨_,rfl,e0,a5,c5,rfl,c9⟩
  have g3:=(bln (bln n1.below n2.below) a1).size
  have k1:=((n1.blk.below n2.below).below a1).below e0
  refine xsv 0 k1 [V0 0,.bool false,S0,S0] fun W5 u5 k5=>?_
  have g1:=n1.ge (B4 w)
  have k2:=u5.blkT ((n2.blk.below a1).below e0) k1 (by decide)
  refine xsv 0 k2 [.slice a5 1 c5,V0 (inE l 2 no)] fun W6 u6 k6=>?_
  have g2:=n2.ge n1.below
  have hB:=u6.below (u5.below (bln (bln (bln n1.below n2.below) a1) e0) g1) g2
  have b6:=u6.own2 (u5.own2 (Ze c9 g3) k1 (by decide)) k2 (by decide)
  have e1:=u6.blkT k5 k2 (by decide)
  refine Bd 4 [(b1,[V0 0,.bool false,S0,S0]),(b2,[.slice a5 1 c5,V0 (inE l 2 no)])] ⟨⟨_,e1⟩,⟨_,k6⟩,trivial⟩ (.tuple #[.agg #[V0 0,.bool false,S0,S0],.agg #[.slice a5 1 c5,V0 (inE l 2 no)]]) ?_
  have he:Zy l no tree=(inE l 2 no):=by unfold Zy;rw[if_neg a9]
  exact .inl ⟨by rw[he];exact a9,_,_,by rw[he],hB,b6⟩
 have g6:=(bln n1.below n2.below).size
 have e5:=Ze h3 g6
 refine xc 20 (args:=#[.slice p3 244 c3]) (Ze5 p3 c3 (inB l no) _ f1 (Yr (Zd e5) f1)) ?_
 rintro e W7 f3
 rcases f3 with ⟨hz,rfl,a3⟩|⟨hz,kp,kc,vp,vc,rfl,a3,hk,f0⟩
 ·refine xa 3 [V0 0,.bool false,S0,S0] 140 fun b8 W8 n8=>?_
  have k1:=((n1.blk.below n2.below).below a1).below a3
  have c2:=n8.ne k1
  refine xsv 0 n8.blk [V0 0,.bool false,S0,S0] fun W9 u9 k9=>?_
  have g8:=n8.ge (bln (bln (bln n1.below n2.below) a1) a3)
  refine xk 10 (show(((Yk (inB l no)) != (0:Int)):Bool)=true from bne_iff_ne.2 hz) ?_
  refine xc 5 (args:=#[V0 no,V0 (Yk (inB l no))]) (Jm no (Yk (inB l no)) _ hz) ?_
  rintro _ h0 ⟨_,rfl,b4,a5,c5,rfl,c9⟩
  have d6:=(u9.below (bln (bln (bln (bln n1.below n2.below) a1) a3) n8.below) g8).size
  have b3:=(u9.blk (k1.below n8.below) (Ne.symm (Ne.symm c2))).below b4
  refine xsv 0 b3 [V0 0,.bool false,S0,S0] fun i1 e3 g5=>?_
  have g1:=n1.ge (B4 w)
  have k2:=e3.blkT ((u9.blkT (((n2.blk.below a1).below a3).below n8.below) n8.blk (by decide)).below b4) b3 (by decide)
  refine xsv 0 k2 [.slice a5 1 c5,V0 (Yk (inB l no))] fun h8 d9 f9=>?_
  have g2:=n2.ge n1.below
  have hB:=d9.below (e3.below (bln (u9.below (bln (bln (bln (bln n1.below n2.below) a1) a3) n8.below) g8) b4) g1) g2
  have c6:=d9.own2 (e3.own2 (Ze c9 d6) b3 (by decide)) k2 (by decide)
  have c7:=d9.blkT g5 k2 (by decide)
  refine Bd 4 [(b1,[V0 0,.bool false,S0,S0]),(b2,[.slice a5 1 c5,V0 (Yk (inB l no))])] ⟨⟨_,c7⟩,⟨_,f9⟩,trivial⟩ (.tuple #[.agg #[V0 0,.bool false,S0,S0],.agg #[.slice a5 1 c5,V0 (Yk (inB l no))]]) ?_
  have he:Zy l no tree=(Yk (inB l no)):=by unfold Zy Qc;rw[if_pos a9,if_neg hz]
  exact .inl ⟨by rw[he];exact hz,_,_,by rw[he],hB,c6⟩
 have d5:=(bln (bln n1.below n2.below) a1).size
 refine xa 3 [V0 0,.bool false,S0,S0] 140 fun h2 h9 a0=>?_
 have k1:=((n1.blk.below n2.below).below a1).below a3
 have a2:=a0.ne k1
 refine xsv 0 a0.blk [V0 (Yx (inB l no)),.bool (Yb (inB l no)),.slice kp (Xf (inB l no)) kc,.slice vp (Xf (inB l no)) vc] fun h1 a4 e9=>?_
 have d3:=a0.ge (bln (bln (bln n1.below n2.below) a1) a3)
 refine xg 19 [36,37] (tree != (0:Int)) (fun a6=>?_) (fun a6=>?_)
 ·have a6:=Kh a6
  refine xb 1 0 e9 ?_
  refine xin 5 (Yx (inB l no)) tree (fun d8=>?_) (fun d8=>?_)
  ·refine xc 4 (args:=#[V0 no,V0 6]) (Jm no 6 _ (by decide)) ?_
   rintro _ i0 ⟨_,rfl,b5,a5,c5,rfl,c9⟩
   have e6:=(a4.below (bln (bln (bln (bln n1.below n2.below) a1) a3) a0.below) d3).size
   have b0:=(a4.blk (k1.below a0.below) (Ne.symm (Ne.symm a2))).below b5
   refine xsv 0 b0 [V0 0,.bool false,S0,S0] fun h7 e2 f5=>?_
   have g1:=n1.ge (B4 w)
   have k2:=e2.blkT ((a4.blkT (((n2.blk.below a1).below a3).below a0.below) a0.blk (by decide)).below b5) b0 (by decide)
   refine xsv 0 k2 [.slice a5 1 c5,V0 6] fun h4 e8 f2=>?_
   have g2:=n2.ge n1.below
   have hB:=e8.below (e2.below (bln (a4.below (bln (bln (bln (bln n1.below n2.below) a1) a3) a0.below) d3) b5) g1) g2
   have c8:=e8.own2 (e2.own2 (Ze c9 e6) b0 (by decide)) k2 (by decide)
   have c1:=e8.blkT f5 k2 (by decide)
   refine Bd 4 [(b1,[V0 0,.bool false,S0,S0]),(b2,[.slice a5 1 c5,V0 6])] ⟨⟨_,c1⟩,⟨_,f2⟩,trivial⟩ (.tuple #[.agg #[V0 0,.bool false,S0,S0],.agg #[.slice a5 1 c5,V0 6]]) ?_
   have he:Zy l no tree=6:=by unfold Zy Qc;rw[if_pos a9,if_pos hz,if_neg (by omega)]
   exact .inl ⟨by rw[he];decide,_,_,by rw[he],hB,c8⟩
  refine xlv 4 e9.rp ?_
  have a8:=a4.blk (k1.below a0.below) (Ne.symm (Ne.symm a2))
  refine xsv 1 a8 [V0 (Yx (inB l no)),.bool (Yb (inB l no)),.slice kp (Xf (inB l no)) kc,.slice vp (Xf (inB l no)) vc] fun h6 d1 f8=>?_
  have g1:=n1.ge (B4 w)
  have k2:=d1.blkT (a4.blkT (((n2.blk.below a1).below a3).below a0.below) a0.blk (by decide)) a8 (by decide)
  refine xsv 0 k2 [S0,V0 0] fun g7 d2 f7=>?_
  have g2:=n2.ge n1.below
  have hB:=d2.below (d1.below (a4.below (bln (bln (bln (bln n1.below n2.below) a1) a3) a0.below) d3) g1) g2
  have d7:=d2.own2 (d1.own2 (a4.own2 (Zb (Ze hk d5) a0.below) a0.blk (by decide)) a8 (by decide)) k2 (by decide)
  have c0:=d2.own2 (d1.own2 (a4.own2 (Zb (Ze f0 d5) a0.below) a0.blk (by decide)) a8 (by decide)) k2 (by decide)
  have b9:=d2.blkT f8 k2 (by decide)
  exact Bd 3 [(b1,[V0 (Yx (inB l no)),.bool (Yb (inB l no)),.slice kp (Xf (inB l no)) kc,.slice vp (Xf (inB l no)) vc]),(b2,[S0,V0 0])] ⟨⟨_,b9⟩,⟨_,f7⟩,trivial⟩ (.tuple #[.agg #[V0 (Yx (inB l no)),.bool (Yb (inB l no)),.slice kp (Xf (inB l no)) kc,.slice vp (Xf (inB l no)) vc],.agg #[S0,V0 0]]) (.inr ⟨by unfold Zy Qc;rw[if_pos a9,if_pos hz,if_pos (by omega)],_,_,_,_,rfl,hB,d7,c0⟩)
 have a6:=Xr a6
 refine xlv 12 e9.rp ?_
 have a7:=a4.blk (k1.below a0.below) (Ne.symm (Ne.symm a2))
 refine xsv 1 a7 [V0 (Yx (inB l no)),.bool (Yb (inB l no)),.slice kp (Xf (inB l no)) kc,.slice vp (Xf (inB l no)) vc] fun h5 d4 f4=>?_
 have g1:=n1.ge (B4 w)
 have k2:=d4.blkT (a4.blkT (((n2.blk.below a1).below a3).below a0.below) a0.blk (by decide)) a7 (by decide)
 refine xsv 0 k2 [S0,V0 0] fun g9 d0 f6=>?_
 have g2:=n2.ge n1.below
 have hB:=d0.below (d4.below (a4.below (bln (bln (bln (bln n1.below n2.below) a1) a3) a0.below) d3) g1) g2
 have e7:=d0.own2 (d4.own2 (a4.own2 (Zb (Ze hk d5) a0.below) a0.blk (by decide)) a7 (by decide)) k2 (by decide)
 have b7:=d0.own2 (d4.own2 (a4.own2 (Zb (Ze f0 d5) a0.below) a0.blk (by decide)) a7 (by decide)) k2 (by decide)
 have c4:=d0.blkT f4 k2 (by decide)
 exact Bd 3 [(b1,[V0 (Yx (inB l no)),.bool (Yb (inB l no)),.slice kp (Xf (inB l no)) kc,.slice vp (Xf (inB l no)) vc]),(b2,[S0,V0 0])] ⟨⟨_,c4⟩,⟨_,f6⟩,trivial⟩ (.tuple #[.agg #[V0 (Yx (inB l no)),.bool (Yb (inB l no)),.slice kp (Xf (inB l no)) kc,.slice vp (Xf (inB l no)) vc],.agg #[S0,V0 0]]) (.inr ⟨by unfold Zy Qc;rw[if_pos a9,if_pos hz,if_pos (by omega)],_,_,_,_,rfl,hB,e7,b7⟩)
abbrev Wg:=Nat×Int×Int
def Zcz(p:Wg):List Value:=[V0 (p.1:Int),V0 p.2.1,V0 p.2.2]
theorem Gi(p:Wg):(Zcz p).length=3:=rfl
def Ya:Wg:=(4,0,0)
def Jn(ps:List Wg):Prop:=ps.length≤1000∧∀ i,i<ps.length→((ps.getD i Ya).1=4∨(ps.getD i Ya).1=8)∧0≤(ps.getD i Ya).2.1∧(ps.getD i Ya).2.2<9223372036854775808∧((ps.getD i Ya).1=4→(ps.getD i Ya).2.2<4294967296)
def inP (p:Wg)(n:Int):Bool:=decide (p.2.1≤n∧n≤p.2.2)
def Jz(ps:List Wg)(N:List Int)(k:Nat):Bool:=(List.range k).all fun i=>inP (ps.getD i Ya) (N.getD i 0)
theorem Zg3(ps:List Wg)(N:List Int)(k:Nat):Jz ps N (k+1)=(Jz ps N k&&inP (ps.getD k Ya) (N.getD k 0)):=by simp[Jz,List.range_succ]
theorem Sv{ps:List Wg}{N:List Int}{i k:Nat}(hi:i<k)(h:inP (ps.getD i Ya) (N.getD i 0)=false):Jz ps N k=false:=by
 unfold Jz
 rw[List.all_eq_false]
 exact⟨i,List.mem_range.2 hi,by rw[h];decide⟩
def Cv(ps:List Wg)(N:List Int)(k:Nat):Bl:=(List.range k).flatMap fun i=>leB (N.getD i 0) (ps.getD i Ya).1
theorem Mj(ps:List Wg)(N:List Int)(k:Nat):Cv ps N (k+1)=Cv ps N k++leB (N.getD k 0) (ps.getD k Ya).1:=by simp[Cv,List.range_succ]
def Hs(ps:List Wg)(k:Nat):List Nat:=(List.range k).map fun i=>(ps.getD i Ya).1
theorem Vl(ps:List Wg)(k:Nat):Hs ps (k+1)=Hs ps k++[(ps.getD k Ya).1]:=by simp[Hs,List.range_succ]
theorem Mi(ps:List Wg)(k:Nat):(Hs ps k).length=k:=by simp[Hs]
theorem wids_get(ps:List Wg){k i:Nat}(h:i<k):(Hs ps k).getD i 0=(ps.getD i Ya).1:=by simp[Hs,List.getD,List.getElem?_range h]
theorem Wk(ps:List Wg)(N:List Int)(k:Nat):(Cv ps N k).length=(Hs ps k).sum:=by
 induction k with
 | zero=>rfl
 | succ k ih=>rw[Mj,Vl,List.length_append,Zm,ih];simp
theorem Pack_48(g w:Nat)(n:Int)(W:World)(hw:w=4∨w=8)(h0:0≤n)(hb:w=4→n<4294967296)(hk:Blk W g [V0 (w:Int),V0 n] 221):C0 118 #[.slice (S1 g) 1 1] W (Qd (fun w' r=>∃ p c,r=.tuple #[.slice p w c,V0 0]∧w'.ownsRow W.heap.size 5 1 (.slice p w c) w ((leB n w).map bv)) W):=by
 rcases hw with rfl|rfl
 ·exact Cc g n h0 (hb rfl) W hk
 ·exact Pack_8 g n h0 W hk
def ValPutP(ps:List Wg)(N:List Int)(w:World)(e:Ending)(w':World):Prop :=
 (Jz ps N ps.length=false∧e=.returned (.string ⟨#[]⟩)∧B3 w w')∨(Jz ps N ps.length=true∧e=.returned (.string ⟨(Cv ps N ps.length).toArray⟩)∧B3 w w')
theorem Zg9(ps:List Wg)(N:List Int)(gl gn:O0)(cl cn:Nat)(w:World)(hps:Jn ps)(hNl:N.length=ps.length)(hP:Sts Zcz w (.slice gl ps.length cl) ps)(hN:Sl w (.slice gn ps.length cn) ps.length (N.map V0)) :
 C0 128 #[.slice gl ps.length cl,.slice gn ps.length cn] w (ValPutP ps N w):=by
 have c0:=hps.1
 refine zin 51 Tryz.func128 ?_
 have hB:=Below.refl w.heap.size w
 refine zl 19 51 (fun zm b9 V=>∃ (i m:Nat) (q:O0) (d:Nat),b9=[(1,.slice gn ps.length cn),(5,.slice q m d),(10,.slice gl ps.length cl),(11,V0 (ps.length:Int)),(12,V0 (i:Int))]∧zm=ps.length-((i:Int)).toNat∧B3 w V∧V.ownsRow w.heap.size 5 1 (.slice q m d) m ((Cv ps N i).map bv)∧i≤ps.length∧m=(Hs ps i).sum∧m≤i*8∧Jz ps N i=true) ⟨0,0,_,_,rfl,rfl,hB,World.ownsRow_nil _ _ _ _,Nat.zero_le _,rfl,Nat.zero_le _,rfl⟩ ?_
 rintro _ _ W1 ⟨i,m,q,d,rfl,rfl,a2,ho,hi,hm,c4,a6⟩ J1 b5 r1
 refine xid 6 ((i:Int)<(ps.length:Int)) (fun b2=>?_) (fun b2=>?_)
 ·refine xx 7 _ ps.length i 3 (Sts.cell hP Gi Ya (k:=i) (i:=0) (by omega) rfl).1 ?_
  refine xlv 0 (Sts.rp (k:=i) (hP.below a2) Gi Ya (by omega) (by decide)) ?_
  refine xa 0 [V0 0,V0 0,V0 0] 234 fun b3 W3 n3=>?_
  have g3:=n3.ge a2
  refine xsv 1 n3.blk [V0 (↑(ps.getD i Ya).1:Int),V0 ((ps.getD i Ya).2.1),V0 ((ps.getD i Ya).2.2)] fun W4 u4 k4=>?_
  refine xd 4 .z ?_
  refine xx (.e [0,1] 2) _ ps.length i 1 (IntsN.elem hN hNl (k:=i) (by omega)).1 ?_
  have a0:=bln (u4.below (bln a2 n3.below) g3) (Za W4)
  refine xl (.e [] 3) ((IntsN.elem (hN.below a0) hNl (k:=i) (by omega)).2) ?_
  have a3:=k4.below (Za W4)
  refine xb (.e [4] 5) 1 a3 ?_
  refine xg (.b [6,7]) [23,24] (decide ((N.getD i 0)<(ps.getD i Ya).2.1)) (fun a5=>?_) (fun a5=>?_)
  ·have a5:=of_decide_eq_true a5
   exact xe (.r [8,9,10,11,12,13,14,15] 15) (.string ⟨#[]⟩) (.inl ⟨Sv (i:=i) (by omega) (decide_eq_false (by omega)),rfl,a0⟩)
  have a5:=of_decide_eq_false a5
  refine xx (.e [8,9] 10) _ ps.length i 1 (IntsN.elem hN hNl (k:=i) (by omega)).1 ?_
  refine xl (.e [] 11) ((IntsN.elem (hN.below a0) hNl (k:=i) (by omega)).2) ?_
  refine xb (.e [12] 13) 2 a3 ?_
  refine xid (.r [14,15] 2) ((N.getD i 0)>(ps.getD i Ya).2.2) (fun b6=>?_) (fun b6=>?_)
  ·exact xe 12 (.string ⟨#[]⟩) (.inl ⟨Sv (i:=i) (by omega) (decide_eq_false (by omega)),rfl,a0⟩)
  refine xd 3 .z ?_
  have a7:=a3.below (Za W4.drew)
  refine xb (.e [0] 1) 0 a7 ?_
  refine xx (.e [2,3] 4) _ ps.length i 1 (IntsN.elem hN hNl (k:=i) (by omega)).1 ?_
  have a1:=bln a0 (Za W4.drew)
  refine xl (.e [] 5) ((IntsN.elem (hN.below a1) hNl (k:=i) (by omega)).2) ?_
  refine xbs (.o [6] 7) 1 [V0 (↑(ps.getD i Ya).1:Int),V0 (N.getD i 0)] 221 fun b7 W7 n7=>?_
  have g7:=n7.ge a1
  refine yc (.o [] 8) (args:=#[.slice (S1 b7) 1 1]) .z (Pack_48 b7 (ps.getD i Ya).1 (N.getD i 0) _ (hps.2 i (by omega)).1 (by have:=(hps.2 i (by omega)).2.1;omega) (fun q=>by have:=(hps.2 i (by omega)).2.2.2 q;omega) n7.blk) ?_
  rintro _ W8 ⟨_,rfl,b1,p2,c2,rfl,h2⟩
  have b4:=(bln a1 n7.below).size
  refine⟨b1,?_⟩
  have b0:=Zb (Zb (Zb (Zb (u4.own2 (Zb ho n3.below) n3.blk (by decide)) (Za W4)) (Za W4.drew)) n7.below) b1
  have a8:=Ze h2 b4
  have a4:=bln (bln a1 n7.below) b1
  refine xbi (.r [9,10,11,12,13] 5) fun _ _ _ _ zJ zQ zo zx zy zK=>Zo (m:=(ps.getD i Ya).1) (news:=(leB (N.getD i 0) (ps.getD i Ya).1).map bv) (.int .u8 0) 1 1 ((m+(ps.getD i Ya).1)) (((Cv ps N (i+1)).map bv)) zo Tryz.underlying22 (by kernel_rfl) rfl (by decide) zx b0 zy (Zd a8) (by simp[Zm]) (Yw _) (by unfold maxLen;have:=(hps.2 i (by omega)).1;omega) (by have:=(hps.2 i (by omega)).1;omega) a4.size (by rfl) (by rw[Mj,List.map_append]) fun c3 c1 W9 o9 c5 b8=>?_
  refine zK _ _ ?_
  refine xwm 5 ((i:Int)+1) (↑(i+1):Int) ?_
  have a9:=a4.trans b8
  exact ze 2 (b5 _ _ _ ⟨i+1,_,_,_,rfl,rfl,a9,o9,by omega,by rw[Vl,hm];simp,by have:=(hps.2 i (by omega)).1;omega,by rw[Zg3,a6];exact decide_eq_true ⟨by omega,by omega⟩⟩ (by omega))
 refine xcv0 8 (fun _ _ _ zo zx=>Vb zo zx (Yr (Zd ho) (by rw[Wk];exact hm.symm)) (by rw[Wk];exact hm.symm) Tryz.underlying22 Tryz.underlying5 Tryz.underlying9) ?_
 refine xe 4 (.string ⟨(Cv ps N i).toArray⟩) ?_
 obtain rfl:i=ps.length:=by omega
 exact .inr ⟨a6,rfl,a2⟩
def Gp(ps:List Wg)(s:Bl):List Nat:=Jk s 0 (Hs ps ps.length)
theorem Ny(ps:List Wg)(s:Bl):(Gp ps s).length=ps.length:=by rw[Gp,Ij,Mi]
def Ua(ps:List Wg)(s:Bl):Bool:=Jz ps ((Gp ps s).map fun n:Nat=>(n:Int)) ps.length
def Xo(ps:List Wg)(s:Bl):Int:=if s.length=(Hs ps ps.length).sum then(if Ua ps s then 0 else 2) else 7
def Ja(ps:List Wg)(s:Bl):List Nat:=if Xo ps s=0 then Gp ps s else List.replicate ps.length 0
theorem Md(ps:List Wg)(s:Bl):(Ja ps s).length=ps.length:=by
 unfold Ja;split
 ·exact Ny ps s
 ·simp
theorem readOk_lt{ps:List Wg}{s:Bl}(hp:Jn ps)(h:Ua ps s=true):∀ i,i<(Hs ps ps.length).length→(Jk s 0 (Hs ps ps.length)).getD i 0<9223372036854775808:=by
 intro i hi
 rw[Mi] at hi
 unfold Ua Jz at h
 rw[List.all_eq_true] at h
 have h1:=of_decide_eq_true (h i (List.mem_range.2 hi))
 have h2:=(hp.2 i hi).2.2.1
 rw[show((Gp ps s).map fun n:Nat=>(n:Int)).getD i 0=(((Gp ps s).getD i 0:Nat):Int) by simp[List.getD,show i<(Gp ps s).length by rw[Ny];exact hi]] at h1
 change (Gp ps s).getD i 0<_
 omega
theorem map_nv(l:List Nat):l.map nv=(l.map fun n:Nat=>(n:Int)).map V0:=by simp[nv]
theorem putL_ne{ps:List Wg}{N:List Int}(hp:Jn ps)(h0:0<ps.length):((⟨(Cv ps N ps.length).toArray⟩:ByteArray).toList==(⟨#[]⟩:ByteArray).toList)=false:=by
 rw[show(⟨#[]⟩:ByteArray)=⟨([]:Bl).toArray⟩ from rfl,Lz]
 apply beq_false_of_ne
 intro q
 have h1:=congrArg List.length q
 obtain⟨k,hk⟩:∃ k,ps.length=k+1:=⟨ps.length-1,by omega⟩
 rw[hk,Mj,List.length_append,Zm] at h1
 rw[List.length_nil] at h1
 have:=(hp.2 k (by omega)).1
 omega
theorem Av(n:Nat):Hn (Value.int .i64 0).cells.toList n=(List.replicate n 0).map nv:=by
 rw[show(Value.int .i64 0).cells.toList=[Value.int .i64 0] from rfl,Hn,List.map_replicate]
 induction n with
 | zero=>rfl
 | succ n ih=>rw[List.replicate_succ,List.flatten_cons,ih,List.replicate_succ];rfl
theorem Fg(ps:List Wg)(s:Bl)(gl:O0)(cl:Nat)(w:World)(hps:Jn ps)(h0:0<ps.length)(hs:s.length≤100000)(hP:Sts Zcz w (.slice gl ps.length cl) ps)(hsl:s.length≠(Hs ps ps.length).sum) :
 C0 66 #[.slice gl ps.length cl,.string ⟨s.toArray⟩] w (Qd (fun w' r=>∃ p c,r=.tuple #[.slice p ps.length c,V0 (Xo ps s)]∧w'.ownsRow w.heap.size 3 1 (.slice p ps.length c) ps.length ((Ja ps s).map nv)) w):=by
 have c0:=hps.1
 refine zin 54 Tryz.func66 ?_
 have hB:=Below.refl w.heap.size w
 refine zl 25 54 (fun zm b8 V=>∃ (i:Nat) (q:O0) (d:Nat),b8=[(0,.slice gl ps.length cl),(1,.string ⟨s.toArray⟩),(4,S0),(5,V0 0),(6,.slice q i d),(7,V0 (↑(Hs ps i).sum:Int)),(12,.slice gl ps.length cl),(13,V0 (ps.length:Int)),(14,V0 (i:Int))]∧zm=ps.length-((i:Int)).toNat∧B3 w V∧V.ownsRow w.heap.size 3 1 (.slice q i d) i ((Hs ps i).map nv)∧i≤ps.length∧(Hs ps i).sum≤i*8) ⟨0,_,_,rfl,rfl,hB,World.ownsRow_nil _ _ _ _,Nat.zero_le _,Nat.zero_le _⟩ ?_
 rintro _ _ W1 ⟨i,q,d,rfl,rfl,a0,ho,hi,c2⟩ J1 b2 r1
 have b6:i<ps.length→(ps.getD i Ya).1≤8:=fun q=>by have:=(hps.2 i q).1;omega
 refine xid 6 ((i:Int)<(ps.length:Int)) (fun b0=>?_) (fun b0=>?_)
 ·refine xx 6 _ ps.length i 3 (Sts.cell hP Gi Ya (k:=i) (i:=0) (by omega) rfl).1 ?_
  refine xlv 0 (Sts.rp (k:=i) (hP.below a0) Gi Ya (by omega) (by decide)) ?_
  refine xa 0 [V0 0,V0 0,V0 0] 234 fun b3 W3 n3=>?_
  have g3:=n3.ge a0
  refine xsv 0 n3.blk [V0 (↑(ps.getD i Ya).1:Int),V0 ((ps.getD i Ya).2.1),V0 ((ps.getD i Ya).2.2)] fun W4 u4 k4=>?_
  refine xb 6 0 k4 ?_
  refine xbs 0 1 [V0 (↑(ps.getD i Ya).1:Int)] 3 fun b5 W5 n5=>?_
  have a1:=u4.below (bln a0 n3.below) g3
  have g5:=n5.ge a1
  have a3:=u4.own2 (Zb ho n3.below) n3.blk (by decide)
  have a8:=Xa a3 n5
  have a4:=Zb a3 n5.below
  have a2:=bln a1 n5.below
  refine xbi 0 fun _ _ _ _ zJ zQ zo zx zy zK=>Zo (m:=1) (news:=[V0 (↑(ps.getD i Ya).1:Int)]) (V0 0) 1 8 (i+1) (((Hs ps (i+1)).map nv)) zo Tryz.underlying28 (by kernel_rfl) rfl (by decide) zx a4 zy (n5.blk.sl 1 1 (by decide) (by decide)) rfl (by simp[Value.oneCell']) (by unfold maxLen;omega) (by omega) a2.size (by rfl) (by rw[Vl,List.map_append];rfl) fun c1 b9 W6 o6 b4 b1=>?_
  refine zK _ _ ?_
  have a7:=(k4.below n5.below).grown b4 a4 (by decide)
  refine xb 6 0 a7 ?_
  refine xwm 0 ((↑(Hs ps i).sum:Int)+(↑(ps.getD i Ya).1:Int)) (↑((Hs ps i).sum+((ps.getD i Ya).1)):Int) ?_
  refine xwm 5 ((i:Int)+1) (↑(i+1):Int) ?_
  refine xv1 2 7 (show(V0 (↑((Hs ps i).sum+((ps.getD i Ya).1)):Int):Value)=V0 (↑(Hs ps (i+1)).sum:Int) from by rw[Vl];simp) ?_
  have a5:=a2.trans b1
  exact ze 0 (b2 _ _ _ ⟨i+1,_,_,rfl,rfl,a5,o6,by omega,by rw[Vl,List.sum_append,List.sum_cons,List.sum_nil];have:=b6 (by omega);omega⟩ (by omega))
 refine xk 14 (show(((s.length:Int) != (↑(Hs ps i).sum:Int)):Bool)=true from bne_iff_ne.2 (by rw[show i=ps.length by omega];omega)) ?_
 refine xmk 4 fun _ _ _ _ zJ zQ zo zx zy zK=>Kc ps.length (V0 0) 1 8 ((List.replicate ps.length 0).map nv) zo zx zy Tryz.underlying28 (by kernel_rfl) rfl (by omega) (by omega) (Av _) fun b7 W7 n7=>?_
 have g7:=n7.ge a0
 have a9:=Xa ho n7
 refine zK _ _ ?_
 have a6:=bln a0 n7.below
 have o7:=Zp (size:=1) (n:=ps.length) n7.blk g7 (by simp) (by unfold maxLen;omega)
 refine xe 6 (.tuple #[.slice (S1 b7) ps.length ps.length,V0 7]) ?_
 have he:Xo ps s=7:=if_neg hsl
 exact⟨_,rfl,a6,_,_,by rw[he],by rw[Ja,if_neg (by rw[he];decide)];exact o7⟩
def UnpP(s:Bl)(ws:List Nat)(n:Nat)(W:World)(e:Ending)(w':World):Prop :=
 ((¬ ∀ i,i<ws.length→(Jk s 0 ws).getD i 0<9223372036854775808)∧e=.returned (.tuple #[S0,V0 2])∧B3 W w') ∨
 ((∀ i,i<ws.length→(Jk s 0 ws).getD i 0<9223372036854775808)∧∃ p c,e=.returned (.tuple #[.slice p n c,V0 0])∧B3 W w'∧w'.ownsRow W.heap.size 3 1 (.slice p n c) n ((Jk s 0 ws).map nv))
theorem Unpack_P(a:O0)(n c m:Nat)(s:Bl)(aw:O0)(cw:Nat)(ws:List Nat)(W:World)(hn:s.length=n)(hm:ws.length=m)(hk:∀ i,i<ws.length→ws.getD i 0=1∨ws.getD i 0=2∨ws.getD i 0=4∨ws.getD i 0=8)(hs:ws.sum≤n)(hl:n≤100000000)(hw:m≤1000)(h:Bys W (.slice a n c) s)(hws:Sl W (.slice aw m cw) m (ws.map nv)) :
 C0 127 #[.slice a n c,.slice aw m cw] W (UnpP s ws m W):=by
 subst hn hm
 by_cases hq:∀ i,i<ws.length→(Jk s 0 ws).getD i 0<9223372036854775808
 ·refine(Oa a c s aw cw ws W hk hs hl hw h hws hq).mono ?_
  rintro e V ⟨_,rfl,hb,p,c2,rfl,ho⟩
  exact .inr ⟨hq,p,c2,rfl,hb,ho⟩
 ·refine(Zhc a c s aw cw ws W hk hs hl hw h hws hq).mono ?_
  rintro e V ⟨rfl,hb⟩
  exact .inl ⟨hq,rfl,hb⟩
theorem rawsI_len(ps:List Wg)(s:Bl)(k:Nat):((Jk s 0 (Hs ps k)).map fun n:Nat=>(n:Int)).length=k:=by rw[List.length_map,Ij,Mi]
theorem Dn(ps:List Wg)(N:List Int)(gl gn:O0)(cl cn n:Nat)(w:World)(hps:Jn ps)(hn:n=ps.length)(hNl:N.length=n)(hP:Sts Zcz w (.slice gl ps.length cl) ps)(hN:Sl w (.slice gn n cn) n (N.map V0)) :
 C0 128 #[.slice gl ps.length cl,.slice gn n cn] w (fun e w'=>(Jz ps N n=false∧e=.returned (.string ⟨#[]⟩)∧B3 w w')∨(Jz ps N n=true∧e=.returned (.string ⟨(Cv ps N ps.length).toArray⟩)∧B3 w w')):=by
 subst hn;exact Zg9 ps N gl gn cl cn w hps hNl hP hN
theorem Re(ps:List Wg)(s:Bl)(gl:O0)(cl:Nat)(w:World)(hps:Jn ps)(h0:0<ps.length)(hs:s.length≤100000)(hP:Sts Zcz w (.slice gl ps.length cl) ps)(hsl:s.length=(Hs ps ps.length).sum) :
 C0 66 #[.slice gl ps.length cl,.string ⟨s.toArray⟩] w (Qd (fun w' r=>∃ p c,r=.tuple #[.slice p ps.length c,V0 (Xo ps s)]∧w'.ownsRow w.heap.size 3 1 (.slice p ps.length c) ps.length ((Ja ps s).map nv)) w):=by
 have f1:=hps.1
 refine zin 54 Tryz.func66 ?_
 have hB:=Below.refl w.heap.size w
 refine zl 25 54 (fun zm e8 V=>∃ (i:Nat) (q:O0) (d:Nat),e8=[(0,.slice gl ps.length cl),(1,.string ⟨s.toArray⟩),(4,S0),(5,V0 0),(6,.slice q i d),(7,V0 (↑(Hs ps i).sum:Int)),(12,.slice gl ps.length cl),(13,V0 (ps.length:Int)),(14,V0 (i:Int))]∧zm=ps.length-((i:Int)).toNat∧B3 w V∧V.ownsRow w.heap.size 3 1 (.slice q i d) i ((Hs ps i).map nv)∧i≤ps.length∧(Hs ps i).sum≤i*8) ⟨0,_,_,rfl,rfl,hB,World.ownsRow_nil _ _ _ _,Nat.zero_le _,Nat.zero_le _⟩ ?_
 rintro _ _ W1 ⟨i,q,d,rfl,rfl,a1,ho,hi,f3⟩ J1 e1 r1
 have e4:i<ps.length→(ps.getD i Ya).1≤8:=fun q=>by have:=(hps.2 i q).1;omega
 refine xid 6 ((i:Int)<(ps.length:Int)) (fun d6=>?_) (fun d6=>?_)
 ·refine xx 6 _ ps.length i 3 (Sts.cell hP Gi Ya (k:=i) (i:=0) (by omega) rfl).1 ?_
  refine xlv 0 (Sts.rp (k:=i) (hP.below a1) Gi Ya (by omega) (by decide)) ?_
  refine xa 0 [V0 0,V0 0,V0 0] 234 fun b3 W3 n3=>?_
  have g3:=n3.ge a1
  refine xsv 0 n3.blk [V0 (↑(ps.getD i Ya).1:Int),V0 ((ps.getD i Ya).2.1),V0 ((ps.getD i Ya).2.2)] fun W4 u4 k4=>?_
  refine xb 6 0 k4 ?_
  refine xbs 0 1 [V0 (↑(ps.getD i Ya).1:Int)] 3 fun b5 W5 n5=>?_
  have a7:=u4.below (bln a1 n3.below) g3
  have g5:=n5.ge a7
  have b1:=u4.own2 (Zb ho n3.below) n3.blk (by decide)
  have d4:=Xa b1 n5
  have b4:=Zb b1 n5.below
  have a8:=bln a7 n5.below
  refine xbi 0 fun _ _ _ _ zJ zQ zo zx zy zK=>Zo (m:=1) (news:=[V0 (↑(ps.getD i Ya).1:Int)]) (V0 0) 1 8 (i+1) (((Hs ps (i+1)).map nv)) zo Tryz.underlying28 (by kernel_rfl) rfl (by decide) zx b4 zy (n5.blk.sl 1 1 (by decide) (by decide)) rfl (by simp[Value.oneCell']) (by unfold maxLen;omega) (by omega) a8.size (by rfl) (by rw[Vl,List.map_append];rfl) fun f2 f0 W6 o6 e2 d8=>?_
  refine zK _ _ ?_
  have d2:=(k4.below n5.below).grown e2 b4 (by decide)
  refine xb 6 0 d2 ?_
  refine xwm 0 ((↑(Hs ps i).sum:Int)+(↑(ps.getD i Ya).1:Int)) (↑((Hs ps i).sum+((ps.getD i Ya).1)):Int) ?_
  refine xwm 5 ((i:Int)+1) (↑(i+1):Int) ?_
  refine xv1 2 7 (show(V0 (↑((Hs ps i).sum+((ps.getD i Ya).1)):Int):Value)=V0 (↑(Hs ps (i+1)).sum:Int) from by rw[Vl];simp) ?_
  have b7:=a8.trans d8
  exact ze 0 (e1 _ _ _ ⟨i+1,_,_,rfl,rfl,b7,o6,by omega,by rw[Vl,List.sum_append,List.sum_cons,List.sum_nil];have:=e4 (by omega);omega⟩ (by omega))
 refine xk 14 (show(((s.length:Int) != (↑(Hs ps i).sum:Int)):Bool)=false from by rw[show i=ps.length by omega,hsl];simp) ?_
 refine xcf 5 fun _ _ _ zJ zQ zo zx zK=>Ka s zo zx Tryz.underlying9 Tryz.underlying22 Tryz.underlying5 (by omega) ?_
 intro bz cz W7 b6 e3
 refine zK _ _ ?_
 have a2:=Zb ho b6
 refine xc 1 (args:=#[.slice (S1 bz) s.length cz,.slice q i d]) (Unpack_P (S1 bz) s.length cz i s q d (Hs ps i) _ rfl (Mi ps i) (fun j hj=>by rw[Mi] at hj;rw[wids_get ps hj];have:=(hps.2 j (by omega)).1;omega) (by rw[show i=ps.length by omega];omega) (by omega) (by omega) e3 (Zd a2)) ?_
 rintro e W8 e7
 rcases e7 with ⟨hq,rfl,b2⟩|⟨hq,p5,c5,rfl,b2,h5⟩
 ·have a5:i=ps.length:=by omega
  have d0:Ua ps s=false:=by rw[←Bool.not_eq_true];intro q;exact hq (by rw[a5];exact readOk_lt hps q)
  refine xmk 25 fun _ _ _ _ zJ zQ zo zx zy zK=>Kc ps.length (V0 0) 1 8 ((List.replicate ps.length 0).map nv) zo zx zy Tryz.underlying28 (by kernel_rfl) rfl (by omega) (by omega) (Av _) fun b9 W9 n9=>?_
  have b0:=bln (bln a1 b6) b2
  have g9:=n9.ge b0
  have c2:=Zb a2 b2
  have d5:=Xa c2 n9
  refine zK _ _ ?_
  have d1:=bln b0 n9.below
  have o9:=Zp (size:=1) (n:=ps.length) n9.blk g9 (by simp) (by unfold maxLen;omega)
  refine xe 6 (.tuple #[.slice (S1 b9) ps.length ps.length,V0 2]) ?_
  have he:Xo ps s=2:=by unfold Xo;rw[if_pos hsl,if_neg (by rw[d0];decide)]
  exact⟨_,rfl,d1,_,_,by rw[he],by rw[Ja,if_neg (by rw[he];decide)];exact o9⟩
 have d7:=(bln a1 b6).size
 have a5:i=ps.length:=by omega
 have a3:=Ze h5 d7
 have d9:Sl (W8) (.slice p5 i c5) i (((Jk s 0 (Hs ps i)).map fun n:Nat=>(n:Int)).map V0):=by have q:=Zd a3;rw[map_nv] at q;exact q
 have a4:=bln (bln a1 b6) b2
 refine xc 15 (args:=#[.slice gl ps.length cl,.slice p5 i c5]) (Dn ps ((Jk s 0 (Hs ps i)).map fun n:Nat=>(n:Int)) gl p5 cl c5 i _ hps a5 (rawsI_len ps s i) (hP.below a4) d9) ?_
 rintro e e9 c3
 rcases c3 with ⟨d3,rfl,a0⟩|⟨d3,rfl,a0⟩
 ·have d0:Ua ps s=false:=by unfold Ua Gp;rw[←a5];exact d3
  refine xmk 9 fun _ _ _ _ zJ zQ zo zx zy zK=>Kc ps.length (V0 0) 1 8 ((List.replicate ps.length 0).map nv) zo zx zy Tryz.underlying28 (by kernel_rfl) rfl (by omega) (by omega) (Av _) fun e0 f4 a9=>?_
  have a6:=bln a4 a0
  have e5:=a9.ge a6
  have c4:=Zb (Zb a2 b2) a0
  have b8:=Xa c4 a9
  have c0:=Zb a3 a0
  have c8:=Xa c0 a9
  refine zK _ _ ?_
  have c6:=bln a6 a9.below
  have e6:=Zp (size:=1) (n:=ps.length) a9.blk e5 (by simp) (by unfold maxLen;omega)
  refine xe 6 (.tuple #[.slice (S1 e0) ps.length ps.length,V0 2]) ?_
  have he:Xo ps s=2:=by unfold Xo;rw[if_pos hsl,if_neg (by rw[d0];decide)]
  exact⟨_,rfl,c6,_,_,by rw[he],by rw[Ja,if_neg (by rw[he];decide)];exact e6⟩
 have c7:Ua ps s=true:=by unfold Ua Gp;rw[←a5];exact d3
 refine xk 4 (show(((⟨(Cv ps ((Jk s 0 (Hs ps i)).map fun n:Nat=>(n:Int)) ps.length).toArray⟩:ByteArray).toList==(⟨#[]⟩:ByteArray).toList):Bool)=false from putL_ne hps h0) ?_
 have c1:=bln a4 a0
 have c9:=Zb a3 a0
 refine xe 10 (.tuple #[.slice p5 i c5,V0 0]) ?_
 have he:Xo ps s=0:=by unfold Xo;rw[if_pos hsl,if_pos c7]
 subst a5
 exact⟨_,rfl,c1,_,_,by rw[he],by rw[Ja,if_pos he];exact c9⟩
theorem Zbp(ps:List Wg)(s:Bl)(gl:O0)(cl:Nat)(w:World)(hps:Jn ps)(h0:0<ps.length)(hs:s.length≤100000)(hP:Sts Zcz w (.slice gl ps.length cl) ps) :
 C0 66 #[.slice gl ps.length cl,.string ⟨s.toArray⟩] w (Qd (fun w' r=>∃ p c,r=.tuple #[.slice p ps.length c,V0 (Xo ps s)]∧w'.ownsRow w.heap.size 3 1 (.slice p ps.length c) ps.length ((Ja ps s).map nv)) w):=by
 by_cases h:s.length=(Hs ps ps.length).sum
 ·exact Re ps s gl cl w hps h0 hs hP h
 ·exact Fg ps s gl cl w hps h0 hs hP h
def Yz:List Wg:=[(8,0,1099511627775)]
theorem Zct:Jn Yz:=by
 refine⟨by decide,fun i hi=>?_⟩
 have a0:i<1:=hi
 obtain rfl:i=0:=by omega
 simp[Yz,List.getD]
def detP:List Wg:=[(8,0,16384),(8,0,2147483647),(4,0,16777215),(4,0,16777215)]
theorem detP_ok:Jn detP:=by
 refine⟨by decide,fun i hi=>?_⟩
 have a0:i<4:=hi
 obtain rfl|rfl|rfl|rfl:i=0∨i=1∨i=2∨i=3:=by omega
 all_goals simp[detP,List.getD]
abbrev Mp:=Int×Int×Int
def mapC(m:Mp):List Value:=[V0 m.1,V0 m.2.1,V0 m.2.2]
theorem Ms(m:Mp):(mapC m).length=3:=rfl
abbrev Dv:=(Int×Int×Int×Int)×List Mp
structure MapsOk(data:Int)(M:List Mp):Prop where
 rise:M.Pairwise (fun x y=>x.1<y.1)
 each:∀ m∈M,(0≤m.1∧m.1≤281474976710655)∧(0≤m.2.1∧m.2.1<data)∧0≤m.2.2∧m.2.2≤16777215
theorem MapsOk.nil(data:Int):MapsOk data []:=⟨.nil,fun _ h=>by cases h⟩
structure DevOk(data:Int)(d:Dv):Prop where
 id:0≤d.1.1∧d.1.1≤16777215
 tx:0≤d.1.2.1∧d.1.2.1≤2147483647
 made:0≤d.1.2.2.1∧d.1.2.2.1≤16777215
 snap:0≤d.1.2.2.2∧d.1.2.2.2≤16777215
 maps:MapsOk data d.2
def Ud(L:List Dv):Nat:=(L.map fun d=>d.2.length).sum
structure DevsOk(data:Int)(L:List Dv):Prop where
 few:L.length≤4096
 sum:Ud L≤16384
 rise:L.Pairwise (fun x y=>x.1.1<y.1.1)
 each:∀ d∈L,DevOk data d
theorem DevsOk.nil(data:Int):DevsOk data []:=⟨by decide,by decide,.nil,fun _ h=>by cases h⟩
def Za7(v:Bl):Nat:=(Ja Yz v).getD 0 0
def Um(v:Bl):Nat:=Za7 v/16777216
def Ws(v:Bl):Nat:=Za7 v%16777216
theorem mapN_bd(v:Bl):Za7 v≤1099511627775:=by
 unfold Za7 Ja
 by_cases h:Xo Yz v=0
 ·rw[if_pos h]
  unfold Xo at h
  split at h
  ·split at h
   ·rename_i h1 h2
    unfold Ua Jz at h2
    rw[List.all_eq_true] at h2
    have h3:=of_decide_eq_true (h2 0 (List.mem_range.2 (by decide)))
    rw[show((Gp Yz v).map fun n:Nat=>(n:Int)).getD 0 0=(((Gp Yz v).getD 0 0:Nat):Int) by simp[List.getD,show 0<(Gp Yz v).length by rw[Ny];decide]] at h3
    have h4:(((Gp Yz v).getD 0 0:Nat):Int)≤1099511627775:=h3.2
    omega
   ·simp at h
  ·simp at h
 ·rw[if_neg h];decide
def mpD:Mp:=(0,0,0)
structure Sup where
 tx:Int
 time:Int
 unit:Int
 data:Int
 blocks:Int
 top:Int
 details:Int
 dslots:Int
 dover:Int
 mindex:Int
 mover:Int
def supC(s:Sup):List Value:=[V0 s.tx,V0 s.time,V0 s.unit,V0 s.data,V0 s.blocks,V0 s.top,V0 s.details,V0 s.dslots,V0 s.dover,V0 s.mindex,V0 s.mover]
def Sy(s:Sup):List Int:=[s.tx,s.time,s.unit,s.data,s.blocks,s.top,s.details,s.dslots,s.dover,s.mindex,s.mover]
def Xk(s:Sup):Bool:=(((((((((((true&&decide ((0:Int)≤s.tx∧s.tx≤2147483647))&&decide ((0:Int)≤s.time∧s.time≤16777215))&&decide ((1:Int)≤s.unit∧s.unit≤65536))&&decide ((0:Int)≤s.data∧s.data≤65536))&&decide ((2:Int)≤s.blocks∧s.blocks≤14400))&&decide ((1:Int)≤s.top∧s.top≤(s.blocks-1)))&&decide ((1:Int)≤s.details∧s.details≤(s.blocks-1)))&&decide ((1:Int)≤s.dslots∧s.dslots≤(s.blocks-1)))&&decide ((1:Int)≤s.dover∧s.dover≤(s.blocks-1)))&&decide ((1:Int)≤s.mindex∧s.mindex≤(s.blocks-1)))&&decide ((1:Int)≤s.mover∧s.mover≤(s.blocks-1)))
def Zf(l:Bl):Sup:=⟨(Zh l 12 4:Int),(Zh l 16 4:Int),(Zh l 20 4:Int),(Zh l 24 4:Int),(Zh l 28 4:Int),(Zh l 32 4:Int),(Zh l 36 4:Int),(Zh l 40 4:Int),(Zh l 44 4:Int),(Zh l 48 4:Int),(Zh l 52 4:Int)⟩
def Hi:Bl:=[83,67,65,78,84,76,73,78]
def Jv(N:List Int):Bl:=N.flatMap fun n=>leB n 4
theorem Ei(N:List Int):(Jv N).length=N.length*4:=by
 unfold Jv
 induction N with
 | nil=>rfl
 | cons n N ih=>rw[List.flatMap_cons,List.length_append,Zm,ih,List.length_cons];omega
def Hu(s:Sup):Bl:=Hi++Jv (1::Sy s)++List.replicate 188 0
theorem Vq(s:Sup):(Hu s).length=244:=by
 unfold Hu;rw[List.length_append,List.length_append,Ei,List.length_replicate];rfl
def Fz(l:Bl):Bool:=(l.take 8==Hi)&&decide (Zh l 8 4=1)&&Qf (l.drop 56)&&Xk (Zf l)
def Sn(n:Int):List Value:=[V0 4,V0 n]
theorem Zeb(n:Int):(Sn n).length=2:=rfl
theorem Cs{l:Bl}{k:Nat}(h:k+4≤l.length):l.drop k=leB (Zh l k 4:Int) 4++l.drop (k+4):=by
 rw[leB_raw h,←List.drop_drop,List.take_append_drop]
theorem drop8{l:Bl}(hl:l.length=244):l.drop 8=Jv ((Zh l 8 4:Int)::Sy (Zf l))++l.drop 56:=by
 rw[Cs (k:=8) (by omega),Cs (k:=12) (by omega),Cs (k:=16) (by omega),Cs (k:=20) (by omega),Cs (k:=24) (by omega),Cs (k:=28) (by omega),Cs (k:=32) (by omega),Cs (k:=36) (by omega),Cs (k:=40) (by omega),Cs (k:=44) (by omega),Cs (k:=48) (by omega),Cs (k:=52) (by omega)]
 simp[Jv,Sy,Zf]
theorem zeroB_iff(l:Bl):Qf l=true↔l=List.replicate l.length 0:=by
 unfold Qf
 rw[List.all_eq_true]
 constructor
 ·intro h;exact List.eq_replicate_iff.2 ⟨rfl,fun x hx=>by simpa using h x hx⟩
 ·intro h x hx;rw[h] at hx;rw[(List.mem_replicate.1 hx).2];rfl
theorem supB_eq{l:Bl}(hl:l.length=244):(Hu (Zf l)==l)=((l.take 8==Hi)&&decide (Zh l 8 4=1)&&Qf (l.drop 56)):=by
 have e1:l=l.take 8++(Jv ((Zh l 8 4:Int)::Sy (Zf l))++l.drop 56):=by rw[←drop8 hl,List.take_append_drop]
 have h8:(l.take 8).length=Hi.length:=by simp[Hi];omega
 have hn:∀ x:Int,(Jv (x::Sy (Zf l))).length=48:=fun x=>by rw[Ei];rfl
 have hr:=Yg l 8 4 (by decide)
 have a0:(l.drop 56).length=188:=by simp;omega
 rw[Bool.eq_iff_iff,beq_iff_eq,Bool.and_eq_true,Bool.and_eq_true,beq_iff_eq,decide_eq_true_iff,zeroB_iff,a0]
 constructor
 ·intro h
  have e2:=h.trans e1
  rw[Hu,List.append_assoc] at e2
  obtain⟨a1,a2⟩:=List.append_inj e2 h8.symm
  obtain⟨a3,a4⟩:=List.append_inj a2 (by rw[hn,hn])
  have a5:leB (1:Int) 4=leB (Zh l 8 4:Int) 4:=by
   unfold Jv at a3
   rw[List.flatMap_cons,List.flatMap_cons] at a3
   exact(List.append_inj a3 (by rw[Zm,Zm])).1
  have a6:=leB_inj (m:=1) (n:=Zh l 8 4) (w:=4) (by decide) (by omega) a5
  exact⟨⟨a1.symm,a6.symm⟩,a4.symm⟩
 ·rintro⟨⟨a1,a2⟩,a3⟩
  conv=>rhs;rw[e1]
  rw[a1,a2,a3,Hu,List.append_assoc];rfl
theorem Qn(B bs bl bat off k:Nat)(cs:List Value)(a:O0)(c:Nat)(l:Bl)(lo hi:Value)(w:World)(hBw:B≤w.heap.size)(hBs:B≤bs)(hBa:B≤bat)(ks:Blk w bs cs 69)(ho:off<cs.length)(kl:Blk w bl [.slice a 244 c] 22)(ka:Blk w bat [V0 (k:Int)] 3)(hl:l.length=244)(h:Bys w (.slice a 244 c) l)(hk:k+4≤244) :
 C0 77 #[.pointer (some ⟨bs,off,none⟩),lo,hi,P0 bl,P0 bat] w ((fun e w'=>∃ u,e=.returned u∧Below B w w'∧Zg [69,3] w w'∧Blk w' bs (cs.set off (V0 (Zh l k 4:Int))) 69∧Blk w' bat [V0 (↑(k+4):Int)] 3)):=by
 refine zin 18 Tryz.func77 ?_
 refine xb 3 0 kl ?_
 refine xb 0 0 ka ?_
 refine xr 0 (args:=#[.slice a 244 c,V0 (k:Int),V0 4]) (Get_okN a 244 c k 4 (k:Int) 4 l _ hl rfl rfl (by decide) hk (by decide) h) fun W1 a2=>?_
 have a1:=ks.below a2
 refine xsg 4 a1 off (V0 (↑(Zh l k 4):Int)) (ho) fun W2 u2 k2=>?_
 replace k2:Blk W2 bs (cs.set off (V0 (Zh l k 4:Int))) 69:=by rw[←(Eq.refl (cs.set off (V0 (Zh l k 4:Int))))];exact k2
 have a0:=u2.blkT (ka.below a2) a1 (by decide)
 refine xb 3 0 a0 ?_
 refine xwm 0 ((k:Int)+4) (↑(k+4):Int) ?_
 refine xs 0 a0 [V0 (↑(k+4):Int)] fun W3 u3 k3=>?_
 have hB:=u3.below (u2.below (blB (Below.refl B w) hBw a2) hBs) hBa
 have hO:=((show Zg [69,3] w _ from(Zg.of_below a2)).trans (Zg.of_upd u2 a1 (by decide))).trans (Zg.of_upd u3 a0 (by decide))
 have a3:=u3.blkT k2 a0 (by decide)
 exact xe 1 (.tuple #[]) ⟨_,rfl,hB,hO,a3,k3⟩
theorem Ys(B bs bo off:Nat)(cs:List Value)(n lo hi:Int)(b:Bool)(w:World)(hBw:B≤w.heap.size)(hBo:B≤bo)(ks:Blk w bs cs 69)(hn:cs[off]? = some (V0 n))(ko:Blk w bo [.bool b] 4) :
 C0 171 #[.pointer (some ⟨bs,off,none⟩),V0 lo,V0 hi,P0 bo] w ((fun e w'=>∃ u,e=.returned u∧Below B w w'∧Zg [4] w w'∧Blk w' bo [.bool (b&&decide ((lo:Int)≤n∧n≤hi))] 4)):=by
 refine zin 22 Tryz.func171 ?_
 refine xb 1 0 ko ?_
 refine xg 1 [7,8] b (fun a1=>?_) (fun a1=>?_)
 ·refine xl 2 (ks.cell (i:=off) hn) ?_
  refine xg 4 [13,14,15] (decide (n≥lo)) (fun a0=>?_) (fun a0=>?_)
  ·have a0:=of_decide_eq_true a0
   refine xl 2 (ks.cell (i:=off) hn) ?_
   refine xs 3 ko [.bool (decide (n≤hi))] fun W3 u3 k3=>?_
   have hB:=u3.below (Below.refl B w) hBo
   have hO:=(show Zg [4] w _ from(Zg.of_upd u3 ko (by decide)))
   exact xe 1 (.tuple #[]) ⟨_,rfl,hB,hO,by rw[show(b&&decide ((lo:Int)≤n∧n≤hi))=decide (n≤hi) from by first|(rw[show decide ((lo:Int)≤n∧n≤hi)=false from decide_eq_false (by omega),Bool.and_false];done)|(simp_all;done)|(simp_all;omega)];exact k3⟩
  have a0:=of_decide_eq_false a0
  refine xs 6 ko [.bool false] fun W4 u4 k4=>?_
  have hB:=u4.below (Below.refl B w) hBo
  have hO:=(show Zg [4] w _ from(Zg.of_upd u4 ko (by decide)))
  exact xe 1 (.tuple #[]) ⟨_,rfl,hB,hO,by rw[show(b&&decide ((lo:Int)≤n∧n≤hi))=false from by first|(rw[show decide ((lo:Int)≤n∧n≤hi)=false from decide_eq_false (by omega),Bool.and_false];done)|(simp_all;done)|(simp_all;omega)];exact k4⟩
 refine xs 13 ko [.bool false] fun W5 u5 k5=>?_
 have hB:=u5.below (Below.refl B w) hBo
 have hO:=(show Zg [4] w _ from(Zg.of_upd u5 ko (by decide)))
 exact xe 1 (.tuple #[]) ⟨_,rfl,hB,hO,by rw[show(b&&decide ((lo:Int)≤n∧n≤hi))=false from by first|(rw[show decide ((lo:Int)≤n∧n≤hi)=false from decide_eq_false (by omega),Bool.and_false];done)|(simp_all;done)|(simp_all;omega)];exact k5⟩
theorem Aq(B bs bl bat:Nat)(a:O0)(c:Nat)(l:Bl)(w:World)(hBw:B≤w.heap.size)(hBs:B≤bs)(hBa:B≤bat)(ks:Blk w bs [V0 0,V0 0,V0 0,V0 0,V0 0,V0 0,V0 0,V0 0,V0 0,V0 0,V0 0] 69)(kl:Blk w bl [.slice a 244 c] 22)(ka:Blk w bat [V0 (↑(12:Nat):Int)] 3)(hl:l.length=244)(hin:∀ W,Below B w W→Bys W (.slice a 244 c) l) :
 C0 76 #[P0 bs,.func (.func 77) #[] #[P0 bl,P0 bat]] w ((fun e w'=>∃ u,e=.returned u∧Below B w w'∧Zg [69,3] w w'∧Blk w' bs (supC (Zf l)) 69)):=by
 have g0:=Yg l 28 4 (by decide)
 refine zin 64 Tryz.func76 ?_
 refine xc 6 (args:=#[P0 bs,V0 0,V0 2147483647,P0 bl,P0 bat]) (Qn B bs bl bat 0 12 _ a c l _ _ _ (Nat.le_trans hBw (Below.refl B _).size) hBs hBa ks (by simp) kl ka hl (hin _ (Below.refl B _)) (by decide)) ?_
 rintro _ W1 ⟨u1,rfl,e7,f8,f2,f5⟩
 change Blk _ _ [V0 (↑(Zh l 12 4):Int),V0 0,V0 0,V0 0,V0 0,V0 0,V0 0,V0 0,V0 0,V0 0,V0 0] _ at f2
 change Blk _ _ [V0 (↑(16:Nat):Int)] _ at f5
 have c3:=kl.only f8 (by decide)
 refine xc 8 (args:=#[.pointer (some ⟨bs,1,none⟩),V0 0,V0 16777215,P0 bl,P0 bat]) (Qn B bs bl bat 1 16 _ a c l _ _ _ (Nat.le_trans hBw e7.size) hBs hBa f2 (by simp) c3 f5 hl (hin _ e7) (by decide)) ?_
 rintro _ W2 ⟨u2,rfl,h2,f7,f4,f1⟩
 change Blk _ _ [V0 (↑(Zh l 12 4):Int),V0 (↑(Zh l 16 4):Int),V0 0,V0 0,V0 0,V0 0,V0 0,V0 0,V0 0,V0 0,V0 0] _ at f4
 change Blk _ _ [V0 (↑(20:Nat):Int)] _ at f1
 have b1:=e7.trans h2
 have b4:=c3.only f7 (by decide)
 refine xc 8 (args:=#[.pointer (some ⟨bs,2,none⟩),V0 1,V0 65536,P0 bl,P0 bat]) (Qn B bs bl bat 2 20 _ a c l _ _ _ (Nat.le_trans hBw b1.size) hBs hBa f4 (by simp) b4 f1 hl (hin _ b1) (by decide)) ?_
 rintro _ W3 ⟨u3,rfl,h3,e9,e8,f0⟩
 change Blk _ _ [V0 (↑(Zh l 12 4):Int),V0 (↑(Zh l 16 4):Int),V0 (↑(Zh l 20 4):Int),V0 0,V0 0,V0 0,V0 0,V0 0,V0 0,V0 0,V0 0] _ at e8
 change Blk _ _ [V0 (↑(24:Nat):Int)] _ at f0
 have a9:=b1.trans h3
 have b9:=b4.only e9 (by decide)
 refine xc 8 (args:=#[.pointer (some ⟨bs,3,none⟩),V0 0,V0 65536,P0 bl,P0 bat]) (Qn B bs bl bat 3 24 _ a c l _ _ _ (Nat.le_trans hBw a9.size) hBs hBa e8 (by simp) b9 f0 hl (hin _ a9) (by decide)) ?_
 rintro _ W4 ⟨u4,rfl,g0,g7,g5,g1⟩
 change Blk _ _ [V0 (↑(Zh l 12 4):Int),V0 (↑(Zh l 16 4):Int),V0 (↑(Zh l 20 4):Int),V0 (↑(Zh l 24 4):Int),V0 0,V0 0,V0 0,V0 0,V0 0,V0 0,V0 0] _ at g5
 change Blk _ _ [V0 (↑(28:Nat):Int)] _ at g1
 have a2:=a9.trans g0
 have c1:=b9.only g7 (by decide)
 refine xc 8 (args:=#[.pointer (some ⟨bs,4,none⟩),V0 2,V0 14400,P0 bl,P0 bat]) (Qn B bs bl bat 4 28 _ a c l _ _ _ (Nat.le_trans hBw a2.size) hBs hBa g5 (by simp) c1 g1 hl (hin _ a2) (by decide)) ?_
 rintro _ W5 ⟨u5,rfl,h4,f9,g3,g2⟩
 change Blk _ _ [V0 (↑(Zh l 12 4):Int),V0 (↑(Zh l 16 4):Int),V0 (↑(Zh l 20 4):Int),V0 (↑(Zh l 24 4):Int),V0 (↑(Zh l 28 4):Int),V0 0,V0 0,V0 0,V0 0,V0 0,V0 0] _ at g3
 change Blk _ _ [V0 (↑(32:Nat):Int)] _ at g2
 refine xd 3 .z ?_
 refine xbs (.o [0,1,2,3,4,5,6,7,8,9,10,11,12,13,14,15,16,17,20] 18) 6 [.pointer (some ⟨bs,5,none⟩),.pointer (some ⟨bs,6,none⟩),.pointer (some ⟨bs,7,none⟩),.pointer (some ⟨bs,8,none⟩),.pointer (some ⟨bs,9,none⟩),.pointer (some ⟨bs,10,none⟩)] 159 fun b6 W6 n6=>?_
 have c6:=blB (a2.trans h4) hBw (Za W5)
 have g6:=n6.ge0 c6
 refine xu (.r [19] 3) 7 ?_
 refine xb 14 0 n6.blk ?_
 have a1:=(g3.below (Za W5)).below n6.below
 refine xb 9 4 a1 ?_
 refine xw 0 ((↑(Zh l 28 4):Int)-1) ?_
 have a8:=blB c6 hBw n6.below
 have b5:=((c1.only f9 (by decide)).below (Za W5)).below n6.below
 have c9:=(g2.below (Za W5)).below n6.below
 refine xc 0 (args:=#[.pointer (some ⟨bs,5,none⟩),V0 1,V0 ((↑(Zh l 28 4):Int)-1),P0 bl,P0 bat]) (Qn B bs bl bat 5 32 _ a c l _ _ _ (Nat.le_trans hBw a8.size) hBs hBa a1 (by simp) b5 c9 hl (hin _ a8) (by decide)) ?_
 rintro _ W7 ⟨u7,rfl,h1,e5,e4,f3⟩
 change Blk _ _ [V0 (↑(Zh l 12 4):Int),V0 (↑(Zh l 16 4):Int),V0 (↑(Zh l 20 4):Int),V0 (↑(Zh l 24 4):Int),V0 (↑(Zh l 28 4):Int),V0 (↑(Zh l 32 4):Int),V0 0,V0 0,V0 0,V0 0,V0 0] _ at e4
 change Blk _ _ [V0 (↑(36:Nat):Int)] _ at f3
 have d1:=n6.blk.only e5 (by decide)
 refine xb 22 1 d1 ?_
 refine xb 9 4 e4 ?_
 refine xw 0 ((↑(Zh l 28 4):Int)-1) ?_
 have a4:=a8.trans h1
 have d2:=b5.only e5 (by decide)
 refine xc 0 (args:=#[.pointer (some ⟨bs,6,none⟩),V0 1,V0 ((↑(Zh l 28 4):Int)-1),P0 bl,P0 bat]) (Qn B bs bl bat 6 36 _ a c l _ _ _ (Nat.le_trans hBw a4.size) hBs hBa e4 (by simp) d2 f3 hl (hin _ a4) (by decide)) ?_
 rintro _ W8 ⟨u8,rfl,h0,e0,d6,f6⟩
 change Blk _ _ [V0 (↑(Zh l 12 4):Int),V0 (↑(Zh l 16 4):Int),V0 (↑(Zh l 20 4):Int),V0 (↑(Zh l 24 4):Int),V0 (↑(Zh l 28 4):Int),V0 (↑(Zh l 32 4):Int),V0 (↑(Zh l 36 4):Int),V0 0,V0 0,V0 0,V0 0] _ at d6
 change Blk _ _ [V0 (↑(40:Nat):Int)] _ at f6
 have c4:=d1.only e0 (by decide)
 refine xb 22 2 c4 ?_
 refine xb 9 4 d6 ?_
 refine xw 0 ((↑(Zh l 28 4):Int)-1) ?_
 have a5:=a4.trans h0
 have c2:=d2.only e0 (by decide)
 refine xc 0 (args:=#[.pointer (some ⟨bs,7,none⟩),V0 1,V0 ((↑(Zh l 28 4):Int)-1),P0 bl,P0 bat]) (Qn B bs bl bat 7 40 _ a c l _ _ _ (Nat.le_trans hBw a5.size) hBs hBa d6 (by simp) c2 f6 hl (hin _ a5) (by decide)) ?_
 rintro _ W9 ⟨u9,rfl,g9,e6,d8,g8⟩
 change Blk _ _ [V0 (↑(Zh l 12 4):Int),V0 (↑(Zh l 16 4):Int),V0 (↑(Zh l 20 4):Int),V0 (↑(Zh l 24 4):Int),V0 (↑(Zh l 28 4):Int),V0 (↑(Zh l 32 4):Int),V0 (↑(Zh l 36 4):Int),V0 (↑(Zh l 40 4):Int),V0 0,V0 0,V0 0] _ at d8
 change Blk _ _ [V0 (↑(44:Nat):Int)] _ at g8
 have b8:=c4.only e6 (by decide)
 refine xb 22 3 b8 ?_
 refine xb 9 4 d8 ?_
 refine xw 0 ((↑(Zh l 28 4):Int)-1) ?_
 have b2:=a5.trans g9
 have c7:=c2.only e6 (by decide)
 refine xc 0 (args:=#[.pointer (some ⟨bs,8,none⟩),V0 1,V0 ((↑(Zh l 28 4):Int)-1),P0 bl,P0 bat]) (Qn B bs bl bat 8 44 _ a c l _ _ _ (Nat.le_trans hBw b2.size) hBs hBa d8 (by simp) c7 g8 hl (hin _ b2) (by decide)) ?_
 rintro _ h5 ⟨i0,rfl,e1,b0,a6,d0⟩
 change Blk _ _ [V0 (↑(Zh l 12 4):Int),V0 (↑(Zh l 16 4):Int),V0 (↑(Zh l 20 4):Int),V0 (↑(Zh l 24 4):Int),V0 (↑(Zh l 28 4):Int),V0 (↑(Zh l 32 4):Int),V0 (↑(Zh l 36 4):Int),V0 (↑(Zh l 40 4):Int),V0 (↑(Zh l 44 4):Int),V0 0,V0 0] _ at a6
 change Blk _ _ [V0 (↑(48:Nat):Int)] _ at d0
 have c0:=b8.only b0 (by decide)
 refine xb 22 4 c0 ?_
 refine xb 9 4 a6 ?_
 refine xw 0 ((↑(Zh l 28 4):Int)-1) ?_
 have a7:=b2.trans e1
 have d3:=c7.only b0 (by decide)
 refine xc 0 (args:=#[.pointer (some ⟨bs,9,none⟩),V0 1,V0 ((↑(Zh l 28 4):Int)-1),P0 bl,P0 bat]) (Qn B bs bl bat 9 48 _ a c l _ _ _ (Nat.le_trans hBw a7.size) hBs hBa a6 (by simp) d3 d0 hl (hin _ a7) (by decide)) ?_
 rintro _ h7 ⟨h9,rfl,d5,a3,b3,d4⟩
 change Blk _ _ [V0 (↑(Zh l 12 4):Int),V0 (↑(Zh l 16 4):Int),V0 (↑(Zh l 20 4):Int),V0 (↑(Zh l 24 4):Int),V0 (↑(Zh l 28 4):Int),V0 (↑(Zh l 32 4):Int),V0 (↑(Zh l 36 4):Int),V0 (↑(Zh l 40 4):Int),V0 (↑(Zh l 44 4):Int),V0 (↑(Zh l 48 4):Int),V0 0] _ at b3
 change Blk _ _ [V0 (↑(52:Nat):Int)] _ at d4
 have d7:=c0.only a3 (by decide)
 refine xb 22 5 d7 ?_
 refine xb 9 4 b3 ?_
 refine xw 0 ((↑(Zh l 28 4):Int)-1) ?_
 have a0:=a7.trans d5
 have c8:=d3.only a3 (by decide)
 refine xc 0 (args:=#[.pointer (some ⟨bs,10,none⟩),V0 1,V0 ((↑(Zh l 28 4):Int)-1),P0 bl,P0 bat]) (Qn B bs bl bat 10 52 _ a c l _ _ _ (Nat.le_trans hBw a0.size) hBs hBa b3 (by simp) c8 d4 hl (hin _ a0) (by decide)) ?_
 rintro _ h6 ⟨h8,rfl,d9,e3,c5,e2⟩
 change Blk _ _ [V0 (↑(Zh l 12 4):Int),V0 (↑(Zh l 16 4):Int),V0 (↑(Zh l 20 4):Int),V0 (↑(Zh l 24 4):Int),V0 (↑(Zh l 28 4):Int),V0 (↑(Zh l 32 4):Int),V0 (↑(Zh l 36 4):Int),V0 (↑(Zh l 40 4):Int),V0 (↑(Zh l 44 4):Int),V0 (↑(Zh l 48 4):Int),V0 (↑(Zh l 52 4):Int)] _ at c5
 change Blk _ _ [V0 (↑(56:Nat):Int)] _ at e2
 have b7:=a0.trans d9
 have hO:=((((((((((((show Zg [69,3] w _ from f8).trans f7).trans e9).trans g7).trans f9).trans (Zg.of_below (Za W5))).trans (Zg.of_below n6.below)).trans e5).trans e0).trans e6).trans b0).trans a3).trans e3
 exact xe 19 (.tuple #[]) ⟨_,rfl,b7,hO,c5⟩
theorem Rc(B bs bo:Nat)(s:Sup)(w:World)(hBw:B≤w.heap.size)(hBo:B≤bo)(hb0:0≤s.blocks)(hb1:s.blocks<9223372036854775808)(ks:Blk w bs [V0 s.tx,V0 s.time,V0 s.unit,V0 s.data,V0 s.blocks,V0 s.top,V0 s.details,V0 s.dslots,V0 s.dover,V0 s.mindex,V0 s.mover] 69)(ko:Blk w bo [.bool true] 4) :
 C0 76 #[P0 bs,.func (.func 171) #[] #[P0 bo]] w ((fun e w'=>∃ u,e=.returned u∧Below B w w'∧Zg [4] w w'∧Blk w' bo [.bool (Xk s)] 4)):=by
 refine zin 64 Tryz.func76 ?_
 refine xc 6 (args:=#[P0 bs,V0 0,V0 2147483647,P0 bo]) (Ys B bs bo 0 _ s.tx 0 2147483647 true _ (Nat.le_trans hBw (Below.refl B _).size) hBo ks rfl ko) ?_
 rintro _ W1 ⟨u1,rfl,hb1,e0,e6⟩
 have c5:=ks.only e0 (by decide)
 refine xc 8 (args:=#[.pointer (some ⟨bs,1,none⟩),V0 0,V0 16777215,P0 bo]) (Ys B bs bo 1 _ s.time 0 16777215 (true&&decide ((0:Int)≤s.tx∧s.tx≤2147483647)) _ (Nat.le_trans hBw hb1.size) hBo c5 rfl e6) ?_
 rintro _ W2 ⟨u2,rfl,e7,e4,f0⟩
 have b2:=hb1.trans e7
 have c7:=c5.only e4 (by decide)
 refine xc 8 (args:=#[.pointer (some ⟨bs,2,none⟩),V0 1,V0 65536,P0 bo]) (Ys B bs bo 2 _ s.unit 1 65536 ((true&&decide ((0:Int)≤s.tx∧s.tx≤2147483647))&&decide ((0:Int)≤s.time∧s.time≤16777215)) _ (Nat.le_trans hBw b2.size) hBo c7 rfl f0) ?_
 rintro _ W3 ⟨u3,rfl,f2,e1,f8⟩
 have b4:=b2.trans f2
 have c3:=c7.only e1 (by decide)
 refine xc 8 (args:=#[.pointer (some ⟨bs,3,none⟩),V0 0,V0 65536,P0 bo]) (Ys B bs bo 3 _ s.data 0 65536 (((true&&decide ((0:Int)≤s.tx∧s.tx≤2147483647))&&decide ((0:Int)≤s.time∧s.time≤16777215))&&decide ((1:Int)≤s.unit∧s.unit≤65536)) _ (Nat.le_trans hBw b4.size) hBo c3 rfl f8) ?_
 rintro _ W4 ⟨u4,rfl,e8,e3,f5⟩
 have b0:=b4.trans e8
 have c8:=c3.only e3 (by decide)
 refine xc 8 (args:=#[.pointer (some ⟨bs,4,none⟩),V0 2,V0 14400,P0 bo]) (Ys B bs bo 4 _ s.blocks 2 14400 ((((true&&decide ((0:Int)≤s.tx∧s.tx≤2147483647))&&decide ((0:Int)≤s.time∧s.time≤16777215))&&decide ((1:Int)≤s.unit∧s.unit≤65536))&&decide ((0:Int)≤s.data∧s.data≤65536)) _ (Nat.le_trans hBw b0.size) hBo c8 rfl f5) ?_
 rintro _ W5 ⟨u5,rfl,f1,e2,f6⟩
 refine xd 3 .z ?_
 refine xbs (.o [0,1,2,3,4,5,6,7,8,9,10,11,12,13,14,15,16,17,20] 18) 6 [.pointer (some ⟨bs,5,none⟩),.pointer (some ⟨bs,6,none⟩),.pointer (some ⟨bs,7,none⟩),.pointer (some ⟨bs,8,none⟩),.pointer (some ⟨bs,9,none⟩),.pointer (some ⟨bs,10,none⟩)] 159 fun b6 W6 n6=>?_
 have c4:=blB (b0.trans f1) hBw (Za W5)
 have g6:=n6.ge0 c4
 refine xu (.r [19] 3) 7 ?_
 refine xb 14 0 n6.blk ?_
 have a4:=((c8.only e2 (by decide)).below (Za W5)).below n6.below
 refine xb 9 4 a4 ?_
 refine xw 0 (s.blocks-1) ?_
 have c6:=blB c4 hBw n6.below
 have b5:=(f6.below (Za W5)).below n6.below
 refine xc 0 (args:=#[.pointer (some ⟨bs,5,none⟩),V0 1,V0 (s.blocks-1),P0 bo]) (Ys B bs bo 5 _ s.top 1 (s.blocks-1) (((((true&&decide ((0:Int)≤s.tx∧s.tx≤2147483647))&&decide ((0:Int)≤s.time∧s.time≤16777215))&&decide ((1:Int)≤s.unit∧s.unit≤65536))&&decide ((0:Int)≤s.data∧s.data≤65536))&&decide ((2:Int)≤s.blocks∧s.blocks≤14400)) _ (Nat.le_trans hBw c6.size) hBo a4 rfl b5) ?_
 rintro _ W7 ⟨u7,rfl,f9,d6,e5⟩
 have a9:=n6.blk.only d6 (by decide)
 refine xb 22 1 a9 ?_
 have a7:=a4.only d6 (by decide)
 refine xb 9 4 a7 ?_
 refine xw 0 (s.blocks-1) ?_
 have b7:=c6.trans f9
 refine xc 0 (args:=#[.pointer (some ⟨bs,6,none⟩),V0 1,V0 (s.blocks-1),P0 bo]) (Ys B bs bo 6 _ s.details 1 (s.blocks-1) ((((((true&&decide ((0:Int)≤s.tx∧s.tx≤2147483647))&&decide ((0:Int)≤s.time∧s.time≤16777215))&&decide ((1:Int)≤s.unit∧s.unit≤65536))&&decide ((0:Int)≤s.data∧s.data≤65536))&&decide ((2:Int)≤s.blocks∧s.blocks≤14400))&&decide ((1:Int)≤s.top∧s.top≤(s.blocks-1))) _ (Nat.le_trans hBw b7.size) hBo a7 rfl e5) ?_
 rintro _ W8 ⟨u8,rfl,f4,d0,e9⟩
 have c2:=a9.only d0 (by decide)
 refine xb 22 2 c2 ?_
 have a8:=a7.only d0 (by decide)
 refine xb 9 4 a8 ?_
 refine xw 0 (s.blocks-1) ?_
 have b1:=b7.trans f4
 refine xc 0 (args:=#[.pointer (some ⟨bs,7,none⟩),V0 1,V0 (s.blocks-1),P0 bo]) (Ys B bs bo 7 _ s.dslots 1 (s.blocks-1) (((((((true&&decide ((0:Int)≤s.tx∧s.tx≤2147483647))&&decide ((0:Int)≤s.time∧s.time≤16777215))&&decide ((1:Int)≤s.unit∧s.unit≤65536))&&decide ((0:Int)≤s.data∧s.data≤65536))&&decide ((2:Int)≤s.blocks∧s.blocks≤14400))&&decide ((1:Int)≤s.top∧s.top≤(s.blocks-1)))&&decide ((1:Int)≤s.details∧s.details≤(s.blocks-1))) _ (Nat.le_trans hBw b1.size) hBo a8 rfl e9) ?_
 rintro _ W9 ⟨u9,rfl,f3,d3,f7⟩
 have c1:=c2.only d3 (by decide)
 refine xb 22 3 c1 ?_
 have a6:=a8.only d3 (by decide)
 refine xb 9 4 a6 ?_
 refine xw 0 (s.blocks-1) ?_
 have c0:=b1.trans f3
 refine xc 0 (args:=#[.pointer (some ⟨bs,8,none⟩),V0 1,V0 (s.blocks-1),P0 bo]) (Ys B bs bo 8 _ s.dover 1 (s.blocks-1) ((((((((true&&decide ((0:Int)≤s.tx∧s.tx≤2147483647))&&decide ((0:Int)≤s.time∧s.time≤16777215))&&decide ((1:Int)≤s.unit∧s.unit≤65536))&&decide ((0:Int)≤s.data∧s.data≤65536))&&decide ((2:Int)≤s.blocks∧s.blocks≤14400))&&decide ((1:Int)≤s.top∧s.top≤(s.blocks-1)))&&decide ((1:Int)≤s.details∧s.details≤(s.blocks-1)))&&decide ((1:Int)≤s.dslots∧s.dslots≤(s.blocks-1))) _ (Nat.le_trans hBw c0.size) hBo a6 rfl f7) ?_
 rintro _ g0 ⟨g3,rfl,d1,a2,d2⟩
 have b9:=c1.only a2 (by decide)
 refine xb 22 4 b9 ?_
 have a5:=a6.only a2 (by decide)
 refine xb 9 4 a5 ?_
 refine xw 0 (s.blocks-1) ?_
 have b3:=c0.trans d1
 refine xc 0 (args:=#[.pointer (some ⟨bs,9,none⟩),V0 1,V0 (s.blocks-1),P0 bo]) (Ys B bs bo 9 _ s.mindex 1 (s.blocks-1) (((((((((true&&decide ((0:Int)≤s.tx∧s.tx≤2147483647))&&decide ((0:Int)≤s.time∧s.time≤16777215))&&decide ((1:Int)≤s.unit∧s.unit≤65536))&&decide ((0:Int)≤s.data∧s.data≤65536))&&decide ((2:Int)≤s.blocks∧s.blocks≤14400))&&decide ((1:Int)≤s.top∧s.top≤(s.blocks-1)))&&decide ((1:Int)≤s.details∧s.details≤(s.blocks-1)))&&decide ((1:Int)≤s.dslots∧s.dslots≤(s.blocks-1)))&&decide ((1:Int)≤s.dover∧s.dover≤(s.blocks-1))) _ (Nat.le_trans hBw b3.size) hBo a5 rfl d2) ?_
 rintro _ g7 ⟨g2,rfl,c9,a3,d8⟩
 have d4:=b9.only a3 (by decide)
 refine xb 22 5 d4 ?_
 have a1:=a5.only a3 (by decide)
 refine xb 9 4 a1 ?_
 refine xw 0 (s.blocks-1) ?_
 have a0:=b3.trans c9
 refine xc 0 (args:=#[.pointer (some ⟨bs,10,none⟩),V0 1,V0 (s.blocks-1),P0 bo]) (Ys B bs bo 10 _ s.mover 1 (s.blocks-1) ((((((((((true&&decide ((0:Int)≤s.tx∧s.tx≤2147483647))&&decide ((0:Int)≤s.time∧s.time≤16777215))&&decide ((1:Int)≤s.unit∧s.unit≤65536))&&decide ((0:Int)≤s.data∧s.data≤65536))&&decide ((2:Int)≤s.blocks∧s.blocks≤14400))&&decide ((1:Int)≤s.top∧s.top≤(s.blocks-1)))&&decide ((1:Int)≤s.details∧s.details≤(s.blocks-1)))&&decide ((1:Int)≤s.dslots∧s.dslots≤(s.blocks-1)))&&decide ((1:Int)≤s.dover∧s.dover≤(s.blocks-1)))&&decide ((1:Int)≤s.mindex∧s.mindex≤(s.blocks-1))) _ (Nat.le_trans hBw a0.size) hBo a1 rfl d8) ?_
 rintro _ g5 ⟨g1,rfl,d7,d5,d9⟩
 have b8:=a0.trans d7
 have hO:=((((((((((((show Zg [4] w _ from e0).trans e4).trans e1).trans e3).trans e2).trans (Zg.of_below (Za W5))).trans (Zg.of_below n6.below)).trans d6).trans d0).trans d3).trans a2).trans a3).trans d5
 exact xe 19 (.tuple #[]) ⟨_,rfl,b8,hO,d9⟩
theorem Zae(s:Sup)(w:World)(hb0:0≤s.blocks)(hb1:s.blocks<9223372036854775808) :
 C0 116 #[.agg #[V0 s.tx,V0 s.time,V0 s.unit,V0 s.data,V0 s.blocks,V0 s.top,V0 s.details,V0 s.dslots,V0 s.dover,V0 s.mindex,V0 s.mover]] w (Ret (.bool (Xk s)) w):=by
 refine zin 7 Tryz.func116 ?_
 refine xa 2 [V0 s.tx,V0 s.time,V0 s.unit,V0 s.data,V0 s.blocks,V0 s.top,V0 s.details,V0 s.dslots,V0 s.dover,V0 s.mindex,V0 s.mover] 69 fun b1 W1 n1=>?_
 refine xa 5 [.bool false] 4 fun b2 W2 n2=>?_
 refine xs 0 n2.blk [.bool true] fun W3 u3 k3=>?_
 have g2:=n2.ge n1.below
 have hB:=u3.below (bln n1.below n2.below) g2
 have k1:=u3.blkT (n1.blk.below n2.below) n2.blk (by decide)
 refine xc 5 (args:=#[P0 b1,.func (.func 171) #[] #[P0 b2]]) (Rc w.heap.size b1 b2 s _ hB.size g2 hb0 hb1 k1 k3) ?_
 rintro _ W4 ⟨u4,rfl,a2,a3,a1⟩
 refine xb 4 0 a1 ?_
 have a0:=hB.trans a2
 exact xe 4 (.bool (Xk s)) ⟨rfl,a0⟩
theorem Vp(B Bx bs bl off n:Nat)(cs:List Value)(x:Int)(lo hi:Value)(p:O0)(c:Nat)(N:List Int)(w:World)(hBm:B≤Bx)(hBx:Bx≤w.heap.size)(hBw:B≤w.heap.size)(hBl:B≤bl)(ks:Blk w bs cs 69)(hn:cs[off]? = some (V0 x))(kl:Blk w bl [.slice p n c] 222)(hup:w.ownsRow Bx 221 2 (.slice p n c) n (N.flatMap Sn))(hnn:n≤1000) :
 C0 117 #[.pointer (some ⟨bs,off,none⟩),lo,hi,P0 bl] w ((fun e w'=>∃ u p' c',e=.returned u∧Below B w w'∧Zg [222,221] w w'∧Blk w' bl [.slice p' (n+1) c'] 222∧w'.ownsRow Bx 221 2 (.slice p' (n+1) c') (n+1) ((N++[x]).flatMap Sn))):=by
 refine zin 14 Tryz.func117 ?_
 refine xd 0 (.t B [222,221]) ?_
 have b5:=ks.below (Za w)
 refine xlt (.e [1,2] 3) (.t B [222,221]) (fun V hV=>(b5.only hV.2 (by decide)).cell (i:=off) hn) ?_
 refine xm2 (.b [4]) 0 5 ?_ ?_
 ·have a6:=kl.below (Za w)
  refine xb 0 0 a6 ?_
  refine xbs (.o [] 5) 1 [V0 4,V0 x] 221 fun b1 W1 n1=>?_
  have a5:=Zb hup (Za w)
  have b8:=Xa a5 n1
  have a0:=Zb a5 n1.below
  have hB:=blB (blB (Below.refl B w) hBw (Za w)) hBw n1.below
  refine ybi (.o [] 6) (.t B [222,221]) fun _ _ _ _ zJ zQ zo zx zy zK=>Zo (m:=1) (news:=[V0 4,V0 x]) (.agg #[V0 0,V0 0]) 2 16 (n+1) (((N++[x]).flatMap Sn)) zo Tryz.underlying222 (by kernel_rfl) rfl (by decide) zx a0 zy (n1.blk.sl 1 1 (by decide) (by decide)) rfl (by simp[Value.oneCell']) (by unfold maxLen;omega) (by omega) (Nat.le_trans hBx hB.size) (by rfl) (by rw[List.flatMap_append];rfl) fun c1 c2 W2 o2 b7 b9=>?_
  refine zK _ _ (Zn (b9.mono hBm) b7 a0 (by decide)) ?_
  have a2:=(a6.below n1.below).grown b7 a0 (by decide)
  refine ys (.o [] 7) a2 [.slice c1 (n+1) c2] (.t B [222,221]) fun W3 u3 k3=>⟨(Zi u3 a2 hBl (by decide)),?_⟩
  have b0:=u3.below (hB.trans (b9.mono hBm)) hBl
  have hO:=(((show Zg [222,221] w _ from(Zg.of_below (Za w))).trans (Zg.of_below n1.below)).trans (Zg.of_grown b7 a0 (by decide))).trans (Zg.of_upd u3 a2 (by decide))
  have a9:=u3.own2 o2 a2 (by decide)
  exact xe 1 (.tuple #[]) ⟨_,_,_,rfl,b0,hO,k3,a9⟩
 refine xbs 0 1 [V0 4,V0 x] 221 fun b4 W4 n4=>?_
 have a4:=Zb hup (Za w)
 have b3:=Xa a4 n4
 have a7:=(kl.below (Za w)).below n4.below
 refine xb (.o [] 0) 0 a7 ?_
 have a1:=Zb a4 n4.below
 have hB:=blB (blB (Below.refl B w) hBw (Za w)) hBw n4.below
 refine ybi (.o [] 6) (.t B [222,221]) fun _ _ _ _ zJ zQ zo zx zy zK=>Zo (m:=1) (news:=[V0 4,V0 x]) (.agg #[V0 0,V0 0]) 2 16 (n+1) (((N++[x]).flatMap Sn)) zo Tryz.underlying222 (by kernel_rfl) rfl (by decide) zx a1 zy (n4.blk.sl 1 1 (by decide) (by decide)) rfl (by simp[Value.oneCell']) (by unfold maxLen;omega) (by omega) (Nat.le_trans hBx hB.size) (by rfl) (by rw[List.flatMap_append];rfl) fun c3 c4 W5 o5 a8 c0=>?_
 refine zK _ _ (Zn (c0.mono hBm) a8 a1 (by decide)) ?_
 have a3:=a7.grown a8 a1 (by decide)
 refine ys (.o [] 7) a3 [.slice c3 (n+1) c4] (.t B [222,221]) fun W6 u6 k6=>⟨(Zi u6 a3 hBl (by decide)),?_⟩
 have b2:=u6.below (hB.trans (c0.mono hBm)) hBl
 have hO:=(((show Zg [222,221] w _ from(Zg.of_below (Za w))).trans (Zg.of_below n4.below)).trans (Zg.of_grown a8 a1 (by decide))).trans (Zg.of_upd u6 a3 (by decide))
 have b6:=u6.own2 o5 a3 (by decide)
 exact xe 1 (.tuple #[]) ⟨_,_,_,rfl,b2,hO,k6,b6⟩
theorem Zaf(B Bx bs bl:Nat)(s:Sup)(p0:O0)(c0:Nat)(w:World)(hBm:B≤Bx)(hBx:Bx≤w.heap.size)(hBw:B≤w.heap.size)(hBl:B≤bl)(hb0:0≤s.blocks)(hb1:s.blocks<9223372036854775808)(ks:Blk w bs [V0 s.tx,V0 s.time,V0 s.unit,V0 s.data,V0 s.blocks,V0 s.top,V0 s.details,V0 s.dslots,V0 s.dover,V0 s.mindex,V0 s.mover] 69)(kl:Blk w bl [.slice p0 1 c0] 222)(hr0:w.ownsRow Bx 221 2 (.slice p0 1 c0) 1 ([1].flatMap Sn)) :
 C0 76 #[P0 bs,.func (.func 117) #[] #[P0 bl]] w ((fun e w'=>∃ u p c,e=.returned u∧Below B w w'∧Zg [222,221] w w'∧Blk w' bl [.slice p 12 c] 222∧w'.ownsRow Bx 221 2 (.slice p 12 c) 12 ((1::Sy s).flatMap Sn))):=by
 refine zin 64 Tryz.func76 ?_
 refine xc 6 (args:=#[P0 bs,V0 0,V0 2147483647,P0 bl]) (Vp B Bx bs bl 0 1 _ s.tx _ _ p0 c0 [1] _ hBm (Nat.le_trans hBx (Below.refl B _).size) (Nat.le_trans hBw (Below.refl B _).size) hBl ks rfl kl hr0 (by decide)) ?_
 rintro _ W1 ⟨u1,p1,c1,rfl,hb1,h9,f1,i4⟩
 have h5:World.ownsRow _ _ _ _ (.slice p1 2 c1) 2 ([1,s.tx].flatMap Sn):=i4
 replace f1:Blk _ _ [.slice p1 2 c1] _:=f1
 have e0:=ks.only h9 (by decide)
 refine xc 8 (args:=#[.pointer (some ⟨bs,1,none⟩),V0 0,V0 16777215,P0 bl]) (Vp B Bx bs bl 1 2 _ s.time _ _ p1 c1 [1,s.tx] _ hBm (Nat.le_trans hBx hb1.size) (Nat.le_trans hBw hb1.size) hBl e0 rfl f1 h5 (by decide)) ?_
 rintro _ W2 ⟨u2,p2,c2,rfl,i8,h8,e5,j2⟩
 have g9:World.ownsRow _ _ _ _ (.slice p2 3 c2) 3 ([1,s.tx,s.time].flatMap Sn):=j2
 replace e5:Blk _ _ [.slice p2 3 c2] _:=e5
 have d0:=hb1.trans i8
 have e1:=e0.only h8 (by decide)
 refine xc 8 (args:=#[.pointer (some ⟨bs,2,none⟩),V0 1,V0 65536,P0 bl]) (Vp B Bx bs bl 2 3 _ s.unit _ _ p2 c2 [1,s.tx,s.time] _ hBm (Nat.le_trans hBx d0.size) (Nat.le_trans hBw d0.size) hBl e1 rfl e5 g9 (by decide)) ?_
 rintro _ W3 ⟨u3,p3,c3,rfl,j0,h6,f3,j6⟩
 have h4:World.ownsRow _ _ _ _ (.slice p3 4 c3) 4 ([1,s.tx,s.time,s.unit].flatMap Sn):=j6
 replace f3:Blk _ _ [.slice p3 4 c3] _:=f3
 have b5:=d0.trans j0
 have d7:=e1.only h6 (by decide)
 refine xc 8 (args:=#[.pointer (some ⟨bs,3,none⟩),V0 0,V0 65536,P0 bl]) (Vp B Bx bs bl 3 4 _ s.data _ _ p3 c3 [1,s.tx,s.time,s.unit] _ hBm (Nat.le_trans hBx b5.size) (Nat.le_trans hBw b5.size) hBl d7 rfl f3 h4 (by decide)) ?_
 rintro _ W4 ⟨u4,p4,c4,rfl,j3,i2,h0,j7⟩
 have g0:World.ownsRow _ _ _ _ (.slice p4 5 c4) 5 ([1,s.tx,s.time,s.unit,s.data].flatMap Sn):=j7
 replace h0:Blk _ _ [.slice p4 5 c4] _:=h0
 have a2:=b5.trans j3
 have e4:=d7.only i2 (by decide)
 refine xc 8 (args:=#[.pointer (some ⟨bs,4,none⟩),V0 2,V0 14400,P0 bl]) (Vp B Bx bs bl 4 5 _ s.blocks _ _ p4 c4 [1,s.tx,s.time,s.unit,s.data] _ hBm (Nat.le_trans hBx a2.size) (Nat.le_trans hBw a2.size) hBl e4 rfl h0 g0 (by decide)) ?_
 rintro _ W5 ⟨u5,p5,c5,rfl,j8,i0,g7,j4⟩
 have e7:World.ownsRow _ _ _ _ (.slice p5 6 c5) 6 ([1,s.tx,s.time,s.unit,s.data,s.blocks].flatMap Sn):=j4
 replace g7:Blk _ _ [.slice p5 6 c5] _:=g7
 refine xd 3 .z ?_
 refine xbs (.o [0,1,2,3,4,5,6,7,8,9,10,11,12,13,14,15,16,17,20] 18) 6 [.pointer (some ⟨bs,5,none⟩),.pointer (some ⟨bs,6,none⟩),.pointer (some ⟨bs,7,none⟩),.pointer (some ⟨bs,8,none⟩),.pointer (some ⟨bs,9,none⟩),.pointer (some ⟨bs,10,none⟩)] 159 fun b6 W6 n6=>?_
 have d9:=blB (a2.trans j8) hBw (Za W5)
 have g6:=n6.ge0 d9
 refine xu (.r [19] 3) 7 ?_
 refine xb 14 0 n6.blk ?_
 have a8:=((e4.only i0 (by decide)).below (Za W5)).below n6.below
 refine xb 9 4 a8 ?_
 refine xw 0 (s.blocks-1) ?_
 have b4:=blB d9 hBw n6.below
 have e2:=(g7.below (Za W5)).below n6.below
 have a5:=Zb (Zb e7 (Za W5)) n6.below
 refine xc 0 (args:=#[.pointer (some ⟨bs,5,none⟩),V0 1,V0 (s.blocks-1),P0 bl]) (Vp B Bx bs bl 5 6 _ s.top _ _ p5 c5 [1,s.tx,s.time,s.unit,s.data,s.blocks] _ hBm (Nat.le_trans hBx b4.size) (Nat.le_trans hBw b4.size) hBl a8 rfl e2 a5 (by decide)) ?_
 rintro _ W7 ⟨u7,p6,c6,rfl,i7,g5,f8,j5⟩
 have g3:World.ownsRow _ _ _ _ (.slice p6 7 c6) 7 ([1,s.tx,s.time,s.unit,s.data,s.blocks,s.top].flatMap Sn):=j5
 replace f8:Blk _ _ [.slice p6 7 c6] _:=f8
 have e3:=n6.blk.only g5 (by decide)
 refine xb 22 1 e3 ?_
 have b3:=a8.only g5 (by decide)
 refine xb 9 4 b3 ?_
 refine xw 0 (s.blocks-1) ?_
 have a4:=b4.trans i7
 refine xc 0 (args:=#[.pointer (some ⟨bs,6,none⟩),V0 1,V0 (s.blocks-1),P0 bl]) (Vp B Bx bs bl 6 7 _ s.details _ _ p6 c6 [1,s.tx,s.time,s.unit,s.data,s.blocks,s.top] _ hBm (Nat.le_trans hBx a4.size) (Nat.le_trans hBw a4.size) hBl b3 rfl f8 g3 (by decide)) ?_
 rintro _ W8 ⟨u8,p7,c7,rfl,i6,f4,f9,i9⟩
 have g1:World.ownsRow _ _ _ _ (.slice p7 8 c7) 8 ([1,s.tx,s.time,s.unit,s.data,s.blocks,s.top,s.details].flatMap Sn):=i9
 replace f9:Blk _ _ [.slice p7 8 c7] _:=f9
 have d6:=e3.only f4 (by decide)
 refine xb 22 2 d6 ?_
 have a6:=b3.only f4 (by decide)
 refine xb 9 4 a6 ?_
 refine xw 0 (s.blocks-1) ?_
 have a7:=a4.trans i6
 refine xc 0 (args:=#[.pointer (some ⟨bs,7,none⟩),V0 1,V0 (s.blocks-1),P0 bl]) (Vp B Bx bs bl 7 8 _ s.dslots _ _ p7 c7 [1,s.tx,s.time,s.unit,s.data,s.blocks,s.top,s.details] _ hBm (Nat.le_trans hBx a7.size) (Nat.le_trans hBw a7.size) hBl a6 rfl f9 g1 (by decide)) ?_
 rintro _ W9 ⟨u9,p8,c8,rfl,i5,h1,f7,i3⟩
 have e8:World.ownsRow _ _ _ _ (.slice p8 9 c8) 9 ([1,s.tx,s.time,s.unit,s.data,s.blocks,s.top,s.details,s.dslots].flatMap Sn):=i3
 replace f7:Blk _ _ [.slice p8 9 c8] _:=f7
 have d3:=d6.only h1 (by decide)
 refine xb 22 3 d3 ?_
 have b7:=a6.only h1 (by decide)
 refine xb 9 4 b7 ?_
 refine xw 0 (s.blocks-1) ?_
 have d1:=a7.trans i5
 refine xc 0 (args:=#[.pointer (some ⟨bs,8,none⟩),V0 1,V0 (s.blocks-1),P0 bl]) (Vp B Bx bs bl 8 9 _ s.dover _ _ p8 c8 [1,s.tx,s.time,s.unit,s.data,s.blocks,s.top,s.details,s.dslots] _ hBm (Nat.le_trans hBx d1.size) (Nat.le_trans hBw d1.size) hBl b7 rfl f7 e8 (by decide)) ?_
 rintro _ j9 ⟨k4,p9,c9,rfl,f5,b9,b1,j1⟩
 have h3:World.ownsRow _ _ _ _ (.slice p9 10 c9) 10 ([1,s.tx,s.time,s.unit,s.data,s.blocks,s.top,s.details,s.dslots,s.dover].flatMap Sn):=j1
 replace b1:Blk _ _ [.slice p9 10 c9] _:=b1
 have d4:=d3.only b9 (by decide)
 refine xb 22 4 d4 ?_
 have b0:=b7.only b9 (by decide)
 refine xb 9 4 b0 ?_
 refine xw 0 (s.blocks-1) ?_
 have a9:=d1.trans f5
 refine xc 0 (args:=#[.pointer (some ⟨bs,9,none⟩),V0 1,V0 (s.blocks-1),P0 bl]) (Vp B Bx bs bl 9 10 _ s.mindex _ _ p9 c9 [1,s.tx,s.time,s.unit,s.data,s.blocks,s.top,s.details,s.dslots,s.dover] _ hBm (Nat.le_trans hBx a9.size) (Nat.le_trans hBw a9.size) hBl b0 rfl b1 h3 (by decide)) ?_
 rintro _ k1 ⟨k3,g8,g2,rfl,e6,a3,b8,f2⟩
 have d8:World.ownsRow _ _ _ _ (.slice g8 11 g2) 11 ([1,s.tx,s.time,s.unit,s.data,s.blocks,s.top,s.details,s.dslots,s.dover,s.mindex].flatMap Sn):=f2
 replace b8:Blk _ _ [.slice g8 11 g2] _:=b8
 have e9:=d4.only a3 (by decide)
 refine xb 22 5 e9 ?_
 have a1:=b0.only a3 (by decide)
 refine xb 9 4 a1 ?_
 refine xw 0 (s.blocks-1) ?_
 have a0:=a9.trans e6
 refine xc 0 (args:=#[.pointer (some ⟨bs,10,none⟩),V0 1,V0 (s.blocks-1),P0 bl]) (Vp B Bx bs bl 10 11 _ s.mover _ _ g8 g2 [1,s.tx,s.time,s.unit,s.data,s.blocks,s.top,s.details,s.dslots,s.dover,s.mindex] _ hBm (Nat.le_trans hBx a0.size) (Nat.le_trans hBw a0.size) hBl a1 rfl b8 d8 (by decide)) ?_
 rintro _ k0 ⟨k2,h7,i1,rfl,f0,f6,b2,h2⟩
 have d5:World.ownsRow _ _ _ _ (.slice h7 12 i1) 12 ([1,s.tx,s.time,s.unit,s.data,s.blocks,s.top,s.details,s.dslots,s.dover,s.mindex,s.mover].flatMap Sn):=h2
 replace b2:Blk _ _ [.slice h7 12 i1] _:=b2
 have d2:=a0.trans f0
 have hO:=((((((((((((show Zg [222,221] w _ from h9).trans h8).trans h6).trans i2).trans i0).trans (Zg.of_below (Za W5))).trans (Zg.of_below n6.below)).trans g5).trans f4).trans h1).trans b9).trans a3).trans f6
 exact xe 19 (.tuple #[]) ⟨_,_,_,rfl,d2,hO,b2,d5⟩
inductive Tr where
 | no
 | bad (fl:List Int) (c:Int)
 | val (s:List UInt8)
def trC (ks:List Int)(key:Int):Nat:=ks.countP (fun k=>decide (k≤key))
def trV (l:Bl)(no key:Int):Bl:=(Vx (inB l no) (Xf (inB l no))).getD (trC (Fy l no) key-1) []
def Zj(l:Bl)(tree key:Int):Nat→List Int→Int→List Int×Tr
 | 0,way,no=>(way,.bad (way++[no]) 10)
 | d+1,way,no =>
  if Zy l no tree≠0 then(way,.bad (way++[no]) (Zy l no tree)) else
  if trC (Fy l no) key=0 then(way++[no],.no) else
  if Yb (inB l no)=true then(if key∈Fy l no then(way++[no],.val (trV l no key)) else(way++[no],.no)) else
  if Xl (trV l no key)≠0 then(way++[no],.bad (way++[no]) (Xl (trV l no key))) else Zj l tree key d (way++[no]) (Xi (trV l no key):Int)
def trE (g:Bl→Int):List Int×Tr→List Int×Int
 | (_,.no)=>([],0)
 | (_,.bad fl c)=>(fl,c)
 | (w,.val s)=>if g s≠0 then(w,g s) else([],0)
def trS:List Int×Tr→Bl
 | (_,.val s)=>s
 | _=>[]
def Dg:List Int×Tr→Bool
 | (_,.val _)=>true
 | _=>false
theorem tr_pair{ks:List Int}(h:Ps ks):ks.Pairwise (·<·):=by
  rw[List.pairwise_iff_getElem]
  intro i j hi hj a0
  have st:∀ d,i+d+1<ks.length→ks[i]?.getD 0<ks[i+d+1]?.getD 0:=by
    intro d
    induction d with
    | zero=>intro hd;have:=h (i+0+1) hd (by omega);simpa using this
    | succ d ih=>intro hd;have h1:=ih (by omega);have h2:=h (i+(d+1)+1) hd (by omega);rw[show i+(d+1)+1-1=i+d+1 by omega] at h2;omega
  have:=st (j-i-1) (by omega)
  rw[show i+(j-i-1)+1=j by omega] at this
  simpa [hi,hj] using this
theorem Uz{l:Bl}{no tree:Int}(h:Zy l no tree=0):(Fy l no).Pairwise (·<·):=tr_pair (nodK_sort h)
theorem As(l:Bl)(no:Int):(Fy l no).length=Xf (inB l no):=Jw _ _
theorem Zdv(ks:List Int)(key:Int):trC ks key≤ks.length:=List.countP_le_length
theorem trC_lt{ks:List Int}(h:ks.Pairwise (·<·))(key:Int):trC ks key=ks.countP (fun k=>decide (k<key))+(if key∈ks then 1 else 0):=by
  unfold trC
  induction ks with
  | nil=>simp
  | cons a t ih =>
    rw[List.pairwise_cons] at h
    rw[List.countP_cons,List.countP_cons,ih h.2]
    by_cases e:a=key
    · subst e
      have hn:a∉t:=fun q=>absurd (h.1 a q) (by omega)
      simp[hn]
    · have h1:(key∈a::t)↔key∈t:=by simp[List.mem_cons,Ne.symm e]
      have h2:decide (a≤key)=decide (a<key):=by simp only[decide_eq_decide];omega
      simp only[h1,h2];omega
theorem trC_at{ks:List Int}(h:ks.Pairwise (·<·)){key:Int}{i:Nat}(hi:i<ks.length):ks[i]≤key↔i<trC ks key:=by
  unfold trC
  induction ks generalizing i with
  | nil=>simp at hi
  | cons a t ih =>
    rw[List.pairwise_cons] at h
    rw[List.countP_cons]
    cases i with
    | zero =>
      simp only[List.getElem_cons_zero]
      constructor
      · intro q;simp[q]
      · intro q
        by_cases e:a≤key
        · exact e
        · have:t.countP (fun k=>decide (k≤key))=0:=by
            rw[List.countP_eq_zero];intro x hx;have:=h.1 x hx;simp;omega
          rw[this] at q;simp[e] at q
    | succ i =>
      simp only[List.getElem_cons_succ]
      have a0:i<t.length:=by simpa using hi
      rw[ih h.2 a0]
      by_cases e:a≤key
      · simp[e]
      · have:t.countP (fun k=>decide (k≤key))=0:=by
          rw[List.countP_eq_zero];intro x hx;have:=h.1 x hx;simp;omega
        simp[e,this]
theorem trC_mem{ks:List Int}(h:ks.Pairwise (·<·)){key:Int}(h0:0<trC ks key):key∈ks↔ks.getD (trC ks key-1) 0=key:=by
  have hl:=Zdv ks key
  have hi:trC ks key-1<ks.length:=by omega
  have e:ks.getD (trC ks key-1) 0=ks[trC ks key-1]:=by simp[List.getD,hi]
  rw[e]
  have h1:=(trC_at h hi (key:=key)).2 (by omega)
  constructor
  · intro q
    obtain⟨j,hj,e2⟩:=List.mem_iff_getElem.1 q
    have h2:=(trC_at h hj (key:=key)).1 (by omega)
    by_cases e3:j=trC ks key-1
    · subst e3;exact e2
    · have:=(List.pairwise_iff_getElem.1 h) j (trC ks key-1) hj hi (by omega);omega
  · intro q;rw[←q];exact List.getElem_mem _
structure TrO where
 way:List Int
 found:Bool
 b:Int
 t:Int
 fl:List Int
 c:Int
def Lq(fl:List Int)(c:Int):TrO:=⟨[],false,0,0,fl,c⟩
def Xx(l:Bl)(way:List Int)(top id v:Int):TrO :=
 let r:=Zj l 1 id 16 way top
 if(trE Xl r).2≠0 then Lq (trE Xl r).1 (trE Xl r).2 else
 if Dg r=false then⟨r.1,false,0,0,[],0⟩ else
 let q:=Zj l 2 v 16 r.1 (Xi (trS r):Int)
 if(trE (Xo Yz) q).2≠0 then Lq (trE (Xo Yz) q).1 (trE (Xo Yz) q).2 else
 if Dg q=false then⟨q.1,false,0,0,[],0⟩ else⟨q.1,true,Um (trS q),Ws (trS q),[],0⟩
theorem Sk(a b:O0)(ca cb:Nat)(l:List Int)(w:World)(ha:Ints w (.slice a l.length ca) l)(hb:Ints w (.slice b l.length cb) l) :
 C0 15 #[.slice a l.length ca,.slice b l.length cb] w (Ret (.bool true) w):=by
 have a5:=Sl.len ha
 refine zin 26 Tryz.func15 ?_
 refine xk 15 (show(((l.length:Int) != (l.length:Int)):Bool)=false from by simp) ?_
 have hB:=Below.refl w.heap.size w
 refine zl 9 26 (fun zm a4 V=>∃ (i:Nat),a4=[(0,.slice a l.length ca),(1,.slice b l.length cb),(5,V0 (i:Int))]∧zm=l.length-((i:Int)).toNat∧B3 w V∧i≤l.length) ⟨0,rfl,rfl,hB,Nat.zero_le _⟩ ?_
 rintro _ _ W1 ⟨i,rfl,rfl,a1,hi⟩ J1 a3 r1
 refine xid 9 ((i:Int)<(l.length:Int)) (fun a2=>?_) (fun a2=>?_)
 ·refine xd 5 .z ?_
  refine xx (.e [0,1] 2) _ l.length i 1 (Ints.elem ha (k:=i) (by omega)).1 ?_
  have a0:=bln a1 (Za W1)
  refine xl (.e [] 3) ((Ints.elem (ha.below a0) (k:=i) (by omega)).2) ?_
  refine xx (.e [4,5] 6) _ l.length i 1 (Ints.elem hb (k:=i) (by omega)).1 ?_
  refine xl (.e [] 7) ((Ints.elem (hb.below a0) (k:=i) (by omega)).2) ?_
  refine xk (.r [8] 2) (show(((l.getD i 0) != (l.getD i 0)):Bool)=false from by simp) ?_
  refine xwm 5 ((i:Int)+1) (↑(i+1):Int) ?_
  exact ze 2 (a3 _ _ _ ⟨i+1,rfl,rfl,a0,by omega⟩ (by omega))
 exact xe 11 (.bool true) ⟨rfl,a1⟩
end Go.Proofs.YthhilbkandcbmaaGreatDoor
