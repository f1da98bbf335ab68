/- value.ReadSlot, slots.Read and block.Index, whatever the bytes. -/
import Derived.Test.YtgphgaehfdfjjaaGreatDoorRows
import Derived.RangeFuncNested
import Derived.RangeFuncBound
import Derived.RangeFuncCalls
import Derived.RangeFuncLeaves
import Derived.Shelf.Abstract
import Derived.Shelf.RegionOpen
import Derived.OwnWalkIn
import Derived.TacticsInMore
import Derived.LoopNIn
import Derived.LoopIn
import Derived.Laws.StructEq
import Derived.Maps.Own
import Derived.OrdersIn
import Derived.Sort.BigQuietIn
import Derived.Test.YtgphgaehfdfjjaaGreatDoorMg2
namespace Go.Proofs.YtgphgaehfdfjjaaGreatDoor
set_option maxHeartbeats 8000000
set_option maxRecDepth 100000
open Go.RowKit Go.Extern.Stop Go.Stop Go.Extern
set_option linter.unusedVariables false
attribute [local irreducible] wpList wpAnyH Code.wp Oper.wp Go
def Xi:List Gd:=[(8,1,14399),(4,0,960),(4,0,960)]
theorem slotP_ok:Hf Xi:=by
 refine⟨by decide,fun i hi=>?_⟩
 have a0:i<3:=hi
 obtain rfl|rfl|rfl:i=0∨i=1∨i=2:=by omega
 all_goals simp[Xi,List.getD]
def Ke(l:Bl)(i:Nat):Bl:=(l.drop (4+i*16)).take 16
def Ki(l:Bl)(i k:Nat):Nat:=(Yp Xi (Ke l i)).getD k 0
def sltC(x:Nat×Nat×Nat):List Value:=[V0 (x.1:Int),V0 (x.2.1:Int),V0 (x.2.2:Int)]
theorem Ty(x:Nat×Nat×Nat):(sltC x).length=3:=rfl
def sltX(l:Bl)(i:Nat):Nat×Nat×Nat:=(Ki l i 0,Ki l i 1,Ki l i 2)
def Pc(l:Bl)(n:Nat):List (Nat×Nat×Nat):=(List.range n).map (sltX l)
theorem Zai(l:Bl)(n:Nat):Pc l (n+1)=Pc l n++[sltX l n]:=by simp[Pc,List.range_succ]
theorem Fp(l:Bl)(n:Nat):(Pc l n).length=n:=by simp[Pc]
def Jz(l:Bl):Nat→Int
 | 0=>0
 | i+1=>if Jz l i≠0 then Jz l i else Yd Xi (Ke l i)
theorem Bz{l:Bl}{i:Nat}(h:Jz l i≠0):∀ n,i≤n→Jz l n=Jz l i
 | 0,h2=>by
  obtain rfl:i=0:=by omega
  rfl
 | n+1,h2=>by
   by_cases e:i=n+1
   ·rw[e]
   ·have ih:=Bz h n (by omega)
    rw[Jz,if_pos (by rw[ih];exact h),ih]
theorem sltsE_at{l:Bl}{i n:Nat}(h:Jz l i=0)(he:Yd Xi (Ke l i)≠0)(hi:i<n):Jz l n=Yd Xi (Ke l i):=by
 have e:Jz l (i+1)=Yd Xi (Ke l i):=by rw[Jz,if_neg (by rw[h];decide)]
 rw[Bz (by rw[e];exact he) n hi,e]
theorem Bu{l:Bl}{i:Nat}(h:Jz l i=0)(he:Yd Xi (Ke l i)=0):Jz l (i+1)=0:=by rw[Jz,if_neg (by rw[h];decide),he]
theorem Zfo{l:Bl}{i:Nat}(hl:l.length=244)(hi:i<15):(Ke l i).length=16:=by simp[Ke];omega
def Ea(l:Bl):Bool:=decide (Zh l 0 4≤15)&&Ve (l.drop (4+Zh l 0 4*16))
def Dj(l:Bl):Int:=if Ea l then Jz l (Zh l 0 4) else 7
def SlotsP(l:Bl)(w:World)(e:Ending)(w':World):Prop :=
 (Dj l≠0∧e=.returned (.tuple #[S0,V0 (Dj l)])∧B3 w w') ∨
 (Dj l=0∧∃ p c,e=.returned (.tuple #[.slice p (Zh l 0 4) c,V0 0])∧B3 w w'∧w'.ownsRow w.heap.size 136 3 (.slice p (Zh l 0 4) c) (Zh l 0 4) ((Pc l (Zh l 0 4)).flatMap sltC))
theorem Tb(w:World) :
 C0 113 #[] w (Qi (fun w' r=>∃ b,r=.slice (S1 b) 3 3∧w.heap.size≤b∧Blk w' b [V0 8,V0 1,V0 14399,V0 4,V0 0,V0 960,V0 4,V0 0,V0 960] 270) w):=by
 refine zin 5 Tryz.func113 ?_
 refine xbs 10 3 [V0 8,V0 1,V0 14399,V0 4,V0 0,V0 960,V0 4,V0 0,V0 960] 270 fun b1 W1 n1=>?_
 have g1:=n1.ge (B4 w)
 exact xe 4 (.slice (S1 b1) 3 3) ⟨_,rfl,n1.below,_,rfl,g1,n1.blk⟩
theorem Gj(s:Bl)(w:World)(hs:s.length≤1000) :
 C0 82 #[.string ⟨s.toArray⟩] w (Ret (.tuple #[.agg #[V0 (↑((Yp Xi s).getD 0 0):Int),V0 (↑((Yp Xi s).getD 1 0):Int),V0 (↑((Yp Xi s).getD 2 0):Int)],V0 (Yd Xi s)]) w):=by
 refine zin 23 Tryz.func82 ?_
 refine xa 2 [V0 0,V0 0,V0 0] 136 fun b1 W1 n1=>?_
 refine xc 5 (args:=#[]) (Tb _) ?_
 rintro _ W2 ⟨_,rfl,a1,gl,rfl,gg,kl⟩
 refine xc 1 (args:=#[.slice (S1 gl) 3 3,.string ⟨s.toArray⟩]) (Sg Xi s (S1 gl) 3 _ slotP_ok (by decide) (by omega) (kl.sl 3 3 (by decide) (by decide))) ?_
 rintro _ W3 ⟨_,rfl,a2,p5,c5,rfl,h5⟩
 have a3:=(bln n1.below a1).size
 refine xd 8 (.t w.heap.size [136]) ?_
 have a0:=Zb (Zd h5 a3) (Za W3)
 refine xx (.e [0] 1) _ 3 0 1 (Zu (l:=Yp Xi s) (Ze a0) (Kv _ _) (k:=0) (by decide)).1 ?_
 refine xlt (.e [] 2) (.t w.heap.size [136]) (fun V hV=>(Zu (l:=Yp Xi s) (Ze (Zo a0 hV.2 (by decide))) (Kv _ _) (k:=0) (by decide)).2) ?_
 refine xx (.e [3] 4) _ 3 1 1 (Zu (l:=Yp Xi s) (Ze a0) (Kv _ _) (k:=1) (by decide)).1 ?_
 refine xlt (.e [] 5) (.t w.heap.size [136]) (fun V hV=>(Zu (l:=Yp Xi s) (Ze (Zo a0 hV.2 (by decide))) (Kv _ _) (k:=1) (by decide)).2) ?_
 refine xx (.e [6] 7) _ 3 2 1 (Zu (l:=Yp Xi s) (Ze a0) (Kv _ _) (k:=2) (by decide)).1 ?_
 refine xlt (.e [] 8) (.t w.heap.size [136]) (fun V hV=>(Zu (l:=Yp Xi s) (Ze (Zo a0 hV.2 (by decide))) (Kv _ _) (k:=2) (by decide)).2) ?_
 have k1:=((n1.blk.below a1).below a2).below (Za W3)
 have g1:=n1.ge (B4 w)
 refine ysv (.o [9,10] 11) k1 [V0 (↑((Yp Xi s).getD 0 0):Int),V0 (↑((Yp Xi s).getD 1 0):Int),V0 (↑((Yp Xi s).getD 2 0):Int)] (.t w.heap.size [136]) fun W4 u4 k4=>⟨(Xj u4 k1 g1 (by decide)),?_⟩
 have hB:=u4.below (bln (bln (bln n1.below a1) a2) (Za W3)) g1
 exact xec (.r [12] 3) k4 (.tuple #[.agg #[V0 (↑((Yp Xi s).getD 0 0):Int),V0 (↑((Yp Xi s).getD 1 0):Int),V0 (↑((Yp Xi s).getD 2 0):Int)],V0 (Yd Xi s)]) ⟨rfl,hB⟩
theorem Zca(B bt:Nat)(x:Bl)(w:World)(hBw:B≤w.heap.size)(hBt:B≤bt)(kt:Blk w bt [.string ⟨x.toArray⟩] 9)(hx:16≤x.length) :
 C0 81 #[P0 bt] w ((fun e w'=>e=.returned (.string ⟨(x.take 16).toArray⟩)∧Below B w w'∧Zg [9] w w'∧Blk w' bt [.string ⟨(x.drop 16).toArray⟩] 9)):=by
 refine zin 8 Tryz.func81 ?_
 refine xb 7 0 kt ?_
 refine xsH 0 (fun _ _ _ _ zo zx zy V=>run_strH (k:=16) (j:=16) (kj:=.i64) zo zx zy rfl hx Tryz.underlying9 V) ?_
 refine xb 5 0 kt ?_
 refine xsL 0 (fun _ _ _ _ zo zx zy V=>run_strL (k:=16) (j:=16) (kj:=.i64) zo zx zy rfl hx Tryz.underlying9 V) ?_
 refine xs 0 kt [.string ⟨(x.drop 16).toArray⟩] fun W1 u1 k1=>?_
 have hB:=u1.below (Below.refl B w) hBt
 have hO:=(show Zg [9] w _ from(Zg.of_upd u1 kt (by decide)))
 exact xe 9 (.string ⟨(x.take 16).toArray⟩) ⟨rfl,hB,hO,k1⟩
theorem Mu(l:Bl)(i:Nat)(w:World)(hs:(Ke l i).length≤1000):C0 82 #[.string ⟨(Ke l i).toArray⟩] w (fun e w' =>
 (Yd Xi (Ke l i)=0∧e=.returned (.tuple #[.agg #[V0 (Ki l i 0:Int),V0 (Ki l i 1:Int),V0 (Ki l i 2:Int)],V0 0])∧B3 w w') ∨
 (Yd Xi (Ke l i)≠0∧e=.returned (.tuple #[.agg #[V0 (Ki l i 0:Int),V0 (Ki l i 1:Int),V0 (Ki l i 2:Int)],V0 (Yd Xi (Ke l i))])∧B3 w w')):=by
 refine(Gj (Ke l i) w hs).mono ?_
 rintro e W ⟨rfl,hb⟩
 by_cases h:Yd Xi (Ke l i)=0
 ·exact .inl ⟨h,by rw[h];rfl,hb⟩
 ·exact .inr ⟨h,rfl,hb⟩
theorem bysK{w:World}{a:O0}{c k:Nat}{l:Bl}(h:Bys w (.slice a 244 c) l)(hl:l.length=244)(hk:k≤244):Bys w (.slice (Jh a k c 1) (244-k) (c-k)) (l.drop k):=by
 have:=Bys.cut h hl k 244 hk (by decide)
 rwa [List.take_of_length_le (by simp;omega)] at this
theorem Zar(a:O0)(c:Nat)(l:Bl)(w:World)(hl:l.length=244)(h:Bys w (.slice a 244 c) l) :
 C0 38 #[.slice a 244 c] w (SlotsP l w):=by
 have e6:=Bys.cap h hl
 refine zin 52 Tryz.func38 ?_
 refine xr 20 (args:=#[.slice a 244 c,V0 0,V0 4]) (Zdv a 244 c 0 4 0 4 l _ hl rfl rfl (by decide) (by decide) (by decide) (h.below (B4 w))) fun W1 b8=>?_
 refine xg 13 [20,21] (decide ((↑(Zh l 0 4):Int)>(15:Int))) (fun a9=>?_) (fun a9=>?_)
 ·have a9:=of_decide_eq_true a9
  refine xe 19 (.tuple #[S0,V0 7]) ?_
  have he:Dj l=7:=by unfold Dj Ea;rw[decide_eq_false (by omega),Bool.false_and,if_neg (by decide)]
  exact .inl ⟨by rw[he];decide,by rw[he],b8⟩
 have a9:=of_decide_eq_false a9
 refine xwm 2 ((↑(Zh l 0 4):Int)*16) (↑((Zh l 0 4)*16):Int) ?_
 refine xwm 0 (4+(↑((Zh l 0 4)*16):Int)) (↑(4+((Zh l 0 4)*16)):Int) ?_
 refine xsL 0 (fun _ _ _ _ zo zx zy V=>Vw (k:=(4+((Zh l 0 4)*16))) (b:=a) (n:=244) (c:=c) (i:=(↑(4+((Zh l 0 4)*16)):Int)) (ki:=.i64) 1 zo zx zy rfl (by omega) Tryz.underlying22 (by kernel_rfl) V) ?_
 refine xr 0 (args:=#[.slice (Jh a (4+((Zh l 0 4)*16)) c 1) (244-(4+((Zh l 0 4)*16))) (c-(4+((Zh l 0 4)*16)))]) (Wx (Jh a (4+((Zh l 0 4)*16)) c 1) (244-(4+((Zh l 0 4)*16))) (c-(4+((Zh l 0 4)*16))) (l.drop (4+Zh l 0 4*16)) _ (by simp;omega) (by omega) ((bysK (k:=4+Zh l 0 4*16) h hl (by omega)).below b8)) fun W3 d8=>?_
 refine xi 4 (!(Ve (l.drop (4+Zh l 0 4*16)))) (fun d2=>?_) (fun d2=>?_)
 ·have b9:Ve (l.drop (4+Zh l 0 4*16))=false:=Zch d2
  have c9:=bln b8 d8
  refine xe 8 (.tuple #[S0,V0 7]) ?_
  have he:Dj l=7:=by unfold Dj Ea;rw[b9,Bool.and_false,if_neg (by decide)]
  exact .inl ⟨by rw[he];decide,by rw[he],c9⟩
 have b9:Ve (l.drop (4+Zh l 0 4*16))=true:=Zb1 d2
 refine xsL 5 (fun _ _ _ _ zo zx zy V=>Vw (k:=4) (b:=a) (n:=244) (c:=c) (i:=4) (ki:=.i64) 1 zo zx zy rfl (by omega) Tryz.underlying22 (by kernel_rfl) V) ?_
 have a2:=bln b8 d8
 refine xcv0 0 (fun _ _ _ zo zx=>Jf zo zx ((bysK (k:=4) h hl (by decide)).below a2) (by simp;omega) Tryz.underlying22 Tryz.underlying5 Tryz.underlying9) ?_
 refine xa 0 [.string ⟨#[]⟩] 9 fun b5 W5 n5=>?_
 have g5:=n5.ge a2
 refine xs 0 n5.blk [.string ⟨(l.drop 4).toArray⟩] fun W6 u6 k6=>?_
 have e1:Blk _ _ [.string ⟨((l.drop (4+0*16))).toArray⟩] _:=k6
 have d1:=u6.below (bln a2 n5.below) g5
 refine zl 21 52 (fun zm e5 V=>∃ (i:Nat) (q:O0) (d:Nat),e5=[(7,.func (.func 81) #[] #[P0 b5]),(8,.slice q i d),(34,V0 (↑(Zh l 0 4):Int)),(35,V0 (i:Int))]∧zm=(Zh l 0 4)-((i:Int)).toNat∧B3 w V∧Blk V b5 ([.string ⟨(l.drop (4+i*16)).toArray⟩]) 9∧V.ownsRow w.heap.size 136 3 (.slice q i d) i ((Pc l i).flatMap sltC)∧i≤(Zh l 0 4)∧Jz l i=0) ⟨0,_,_,rfl,rfl,d1,e1,World.ownsRow_nil _ _ _ _,Nat.zero_le _,rfl⟩ ?_
 rintro _ _ W7 ⟨i,q,d,rfl,rfl,a1,a8,ho,hi,hz⟩ J7 e0 r7
 refine xid 6 ((i:Int)<(↑(Zh l 0 4):Int)) (fun e3=>?_) (fun e3=>?_)
 ·refine xc 7 (args:=#[P0 b5]) (Zca w.heap.size b5 (l.drop (4+i*16)) _ a1.size g5 a8 (by simp;omega)) ?_
  rintro _ W9 ⟨rfl,d9,d6,d7⟩
  rw[List.drop_drop,show 4+i*16+16=4+(i+1)*16 by omega] at d7
  refine xc 0 (args:=#[.string ⟨(Ke l i).toArray⟩]) (Mu l i _ (by rw[Zfo hl (by omega)];decide)) ?_
  rintro e f9 c2
  rcases c2 with ⟨b6,rfl,a0⟩|⟨b6,rfl,a0⟩
  ·refine xa 3 [V0 0,V0 0,V0 0] 136 fun f5 f7 a5=>?_
   have b4:=bln (a1.trans d9) a0
   have e8:=a5.ge b4
   have b3:=Zb (Zo ho d6 (by decide)) a0
   have a3:=Zz b3 a5
   refine xsv 0 a5.blk [V0 (↑(Ki l i 0):Int),V0 (↑(Ki l i 1):Int),V0 (↑(Ki l i 2):Int)] fun g0 c4 d5=>?_
   refine xlv 15 d5.rp ?_
   refine xbs 0 1 [V0 (↑(Ki l i 0):Int),V0 (↑(Ki l i 1):Int),V0 (↑(Ki l i 2):Int)] 136 fun f6 f4 a4=>?_
   have c1:=a4.ne d5
   have a6:=c4.below (bln b4 a5.below) e8
   have f8:=a4.ge a6
   have b1:=c4.own3 (Zb b3 a5.below) a3
   have c8:=Zz b1 a4
   have a7:=Zb b1 a4.below
   have b2:=bln a6 a4.below
   refine xbi 0 fun _ _ _ _ zJ zQ zo zx zy zK=>Zx (m:=1) (news:=[V0 (↑(Ki l i 0):Int),V0 (↑(Ki l i 1):Int),V0 (↑(Ki l i 2):Int)]) (.agg #[V0 0,V0 0,V0 0]) 3 24 (i+1) (((Pc l (i+1)).flatMap sltC)) zo Tryz.underlying41 (by kernel_rfl) rfl (by decide) zx a7 zy (a4.blk.sl 1 1 (by decide) (by decide)) rfl (by simp[Value.oneCell']) (by unfold maxLen;omega) (by omega) b2.size (by rfl) (by rw[Zai,List.flatMap_append];rfl) fun e7 e9 f3 f0 c6 c5=>?_
   refine zK _ _ ?_
   refine xwm 5 ((i:Int)+1) (↑(i+1):Int) ?_
   have d0:=b2.trans c5
   have b7:=((c4.blkT ((d7.below a0).below a5.below) a5.blk (by decide)).below a4.below).grown c6 a7 (by decide)
   exact ze 2 (e0 _ _ _ ⟨i+1,_,_,rfl,rfl,d0,b7,f0,by omega,Bu hz b6⟩ (by omega))
  refine xa 3 [V0 0,V0 0,V0 0] 136 fun g1 f1 c0=>?_
  have b0:=bln (a1.trans d9) a0
  have e2:=c0.ge b0
  have c7:=Zb (Zo ho d6 (by decide)) a0
  have d3:=Zz c7 c0
  refine xsv 0 c0.blk [V0 (↑(Ki l i 0):Int),V0 (↑(Ki l i 1):Int),V0 (↑(Ki l i 2):Int)] fun g2 e4 f2=>?_
  refine xk 10 (show(((Yd Xi (Ke l i)) != (0:Int)):Bool)=true from bne_iff_ne.2 b6) ?_
  have d4:=e4.below (bln b0 c0.below) e2
  refine xe 14 (.tuple #[S0,V0 (Yd Xi (Ke l i))]) ?_
  have c3:Ea l=true:=by unfold Ea;rw[b9,decide_eq_true (by omega)];rfl
  have he:Dj l=Yd Xi (Ke l i):=by unfold Dj;rw[if_pos c3,sltsE_at hz b6 (by omega)]
  exact .inl ⟨by rw[he];exact b6,by rw[he],d4⟩
 refine xe 13 (.tuple #[.slice q i d,V0 0]) ?_
 have c3:Ea l=true:=by unfold Ea;rw[b9,decide_eq_true (by omega)];rfl
 obtain rfl:i=Zh l 0 4:=by omega
 exact .inr ⟨by unfold Dj;rw[if_pos c3,hz],_,_,rfl,a1,ho⟩
def Xx(l:Bl)(no:Int):Int:=if inE l 4 no=0 then Dj (inB l no) else inE l 4 no
def Zfq(l:Bl)(no:Int)(w:World)(e:Ending)(w':World):Prop :=
 (Xx l no≠0∧∃ b,e=.returned (.tuple #[S0,.iface 215 (P0 b)])∧B3 w w'∧Vz w' [some no] (some (Xx l no)) (.iface 215 (P0 b))) ∨
 (Xx l no=0∧∃ p c,e=.returned (.tuple #[.slice p (Zh (inB l no) 0 4) c,.nilIface])∧B3 w w'∧w'.ownsRow w.heap.size 136 3 (.slice p (Zh (inB l no) 0 4) c) (Zh (inB l no) 0 4) ((Pc (inB l no) (Zh (inB l no) 0 4)).flatMap sltC))
theorem readIdx(B b:Nat)(p:O0)(n c:Nat)(l:Bl)(no:Int)(w:World)(hI:ImgR B b p n c l w) :
 C0 37 #[P0 b,V0 no,V0 4,.func (.func 38) #[] #[]] w (Zfq l no w):=by
 refine zin 56 Tryz.func37 ?_
 refine xc 15 (args:=#[P0 b,V0 no]) (Ph B b p n c l no _ (hI.below (B4 w))) ?_
 rintro e W1 b7
 rcases b7 with ⟨ho,vr,rfl,a0⟩|⟨j,hk,hj,p2,c2,rfl,a0,ho⟩
 ·refine xc 21 (args:=#[V0 no,.iface 33 (V0 3)]) (Xk no 3 _) ?_
  rintro _ W2 ⟨_,rfl,b3,a6⟩
  rw[if_neg (by decide),if_neg (by decide)] at a6
  have b8:=a6
  obtain⟨c8,d2,rfl,_,_⟩:=b8
  have hB:=bln a0 b3
  refine xe 6 (.tuple #[S0,.iface 215 (P0 c8)]) ?_
  have he:Xx l no=3:=by unfold Xx;rw[Dl hI.len ho];rfl
  exact .inl ⟨by rw[he];decide,_,rfl,hB,by rw[he];exact a6⟩
 have b2:=Nat.le_refl w.heap.size
 have c5:j<l.length/256:=by rw[hI.len];exact hj
 have b1:=Qu c5
 have a3:=Ri (l:=l) (kind:=4) hI.len hk hj
 have a8:=Zd ho b2
 refine xc 22 (args:=#[.slice p2 256 c2,V0 4,V0 no]) (Co 4 no p2 256 c2 (Kd l j) _ b1 (Yl (Ze a8) b1)) ?_
 rintro e W3 c1
 rcases c1 with ⟨hs,rfl,a2⟩|⟨hs,p3,c3,rfl,a2,h3⟩
 ·refine xk 14 (show(((Xz 4 no (Kd l j)) != (0:Int)):Bool)=true from bne_iff_ne.2 hs) ?_
  refine xc 6 (args:=#[V0 no,.iface 33 (V0 (Xz 4 no (Kd l j)))]) (Xk no (Xz 4 no (Kd l j)) _) ?_
  rintro _ W4 ⟨_,rfl,c7,a9⟩
  rw[if_neg hs,if_neg hs] at a9
  have c0:=a9
  obtain⟨b9,d1,rfl,_,_⟩:=c0
  have hB:=bln (bln a0 a2) c7
  refine xe 6 (.tuple #[S0,.iface 215 (P0 b9)]) ?_
  have he:Xx l no=Xz 4 no (Kd l j):=by unfold Xx;rw[a3,if_neg hs]
  exact .inl ⟨by rw[he];exact hs,_,rfl,hB,by rw[he];exact a9⟩
 have a1:=Zd h3 a0.size
 have b5:((Kd l j).drop 8).take 244=inB l no:=(Rd hk).symm
 have b0:=Sy hI.len hk hj
 rw[b5] at a1
 refine xc 21 (args:=#[.slice p3 244 c3]) (Zar p3 c3 (inB l no) _ b0 (Yl (Ze a1) b0)) ?_
 rintro e W5 b4
 rcases b4 with ⟨hz,rfl,a5⟩|⟨hz,p4,c4,rfl,a5,h4⟩
 ·refine xk 14 (show(((Dj (inB l no)) != (0:Int)):Bool)=true from bne_iff_ne.2 hz) ?_
  refine xc 6 (args:=#[V0 no,.iface 33 (V0 (Dj (inB l no)))]) (Xk no (Dj (inB l no)) _) ?_
  rintro _ W6 ⟨_,rfl,c9,a4⟩
  rw[if_neg hz,if_neg hz] at a4
  have c6:=a4
  obtain⟨b6,d3,rfl,_,_⟩:=c6
  have hB:=bln (bln (bln a0 a2) a5) c9
  refine xe 6 (.tuple #[S0,.iface 215 (P0 b6)]) ?_
  have he:Xx l no=Dj (inB l no):=by unfold Xx;rw[a3,if_pos hs]
  exact .inl ⟨by rw[he];exact hz,_,rfl,hB,by rw[he];exact a4⟩
 have d0:=(bln a0 a2).size
 have hB:=bln (bln a0 a2) a5
 have a7:=Zd h4 d0
 exact xe 25 (.tuple #[.slice p4 (Zh (inB l no) 0 4) c4,.nilIface]) (.inr ⟨by unfold Xx;rw[a3,if_pos hs,hz],_,_,rfl,hB,a7⟩)
theorem Qp(B b:Nat)(p:O0)(n c:Nat)(l:Bl)(no:Int)(w:World)(hI:ImgR B b p n c l w) :
 C0 11 #[P0 b,V0 no] w (Zfq l no w):=by
 refine zin 11 Tryz.func11 ?_
 refine xc 10 (args:=#[P0 b,V0 no,V0 4,.func (.func 38) #[] #[]]) (readIdx B b p n c l no _ (hI.below (B4 w))) ?_
 rintro e W1 a2
 rcases a2 with ⟨he,bf,rfl,a0,hv⟩|⟨he,p4,c4,rfl,a0,h4⟩
 ·exact xe 7 (.tuple #[S0,.iface 215 (P0 bf)]) (.inl ⟨he,_,rfl,a0,hv⟩)
 have a3:=Nat.le_refl w.heap.size
 have a1:=Zd h4 a3
 exact xe 7 (.tuple #[.slice p4 (Zh (inB l no) 0 4) c4,.nilIface]) (.inr ⟨he,_,_,rfl,a0,a1⟩)
theorem BysM.elem{w:World}{a:O0}{n c:Nat}{l:Bl}(h:Bys w (.slice a n c) l)(hl:l.length=n){k:Nat}(hk:k<n):a.isSome=true∧w.cell? (Zv a (k*1))=some (.int .u8 (↑(l.getD k 0).toNat:Int)):=by
 subst hl;exact Bys.elem h hk
def Qo(t:Int)(leaf:Bool)(n m v:Nat):Bl:=leB (Ji leaf) 1++leB t 1++leB (n:Int) 2++leB (v:Int) 2++leB (m:Int) 2++leB 0 4
theorem Qk(t:Int)(leaf:Bool)(n m v:Nat):(Qo t leaf n m v).length=12:=by simp[Qo,Zf]
def Kf(m v:Nat)(H:Bl)(K:List Int)(Vs:List Bl):Nat→Bl
 | 0=>Qs (List.replicate 244 0) 0 H
 | i+1=>Qs (Qs (Kf m v H K Vs i) (12+i*8) (leB (K.getD i 0) 8)) (12+m*8+i*v) (Vs.getD i [])
theorem Mj{m v:Nat}{H:Bl}{K:List Int}{Vs:List Bl}(hH:H.length=12)(hf:12+m*8+m*v≤244):∀ {i:Nat},i≤m→(∀ j,j<i→(Vs.getD j []).length=v)→(Kf m v H K Vs i).length=244
 | 0,_,_=>by rw[Kf,Qe (by rw[List.length_replicate];omega),List.length_replicate]
 | i+1,hi,hV=>by
  have ih:=Mj (K:=K) hH hf (i:=i) (by omega) (fun j hj=>hV j (by omega))
  have h1:=hV i (by omega)
  have h2:(i+1)*v≤m*v:=Nat.mul_le_mul_right v hi
  rw[Nat.add_mul,Nat.one_mul] at h2
  have h3:(Qs (Kf m v H K Vs i) (12+i*8) (leB (K.getD i 0) 8)).length=244:=by rw[Qe (by rw[Zf,ih];omega),ih]
  rw[Kf,Qe (by rw[h1,h3];omega),h3]
theorem node_Put(t:Int)(leaf:Bool)(n m v:Nat)(K:List Int)(Vs:List Bl)(ak av:O0)(ck cv:Nat)(w:World)(N:NodeOk t leaf n m v K Vs)(hKs:Sl w (.slice ak n ck) n (K.map V0))(hVs:Sl w (.slice av n cv) n (Vs.map sv)) :
 C0 108 #[.agg #[V0 t,.bool leaf,.slice ak n ck,.slice av n cv]] w (Qi (fun w' r=>∃ p c,r=.tuple #[.slice p 244 c,V0 0]∧w'.ownsRow w.heap.size 5 1 (.slice p 244 c) 244 ((Kf m v (Qo t leaf n m v) K Vs n).map bv)) w):=by
 have e7:=N.ht1
 have e3:=N.ht2
 have f9:=N.hn
 have f4:=Nz t leaf
 rw[N.hv] at f4
 have f1:=Yo t leaf
 rw[N.hm] at f1
 have d7:=fitN t leaf
 rw[N.hm,N.hv] at d7
 have f5:=Sl.cap hKs
 refine zin 90 Tryz.func108 ?_
 refine xa 2 [V0 t,.bool leaf,.slice ak n ck,.slice av n cv] 38 fun b1 W1 n1=>?_
 refine xlv 7 n1.blk.rp ?_
 refine xr 0 (args:=#[.agg #[V0 t,.bool leaf,.slice ak n ck,.slice av n cv]]) (Za2 t leaf n m v K Vs ak av ck cv _ N (hKs.below n1.below) (hVs.below n1.below)) fun W2 e0=>?_
 refine xd 7 .z ?_
 have a3:=(n1.blk.below e0).below (Za W2)
 refine xb (.e [0] 1) 0 a3 ?_
 refine xb (.e [2] 3) 1 a3 ?_
 refine xb (.e [5] 6) 0 a3 ?_
 refine xb (.e [7] 8) 1 a3 ?_
 refine xr (.o [] 4) (args:=#[V0 t,.bool leaf]) (Gw t leaf v N.hv e7 e3 _) fun W3 e8=>?_
 refine xr (.o [] 9) (args:=#[V0 t,.bool leaf]) (Nn t leaf m N.hm e7 e3 _) fun W4 e6=>?_
 refine xd (.r [10,11] 3) .z ?_
 have a8:=((a3.below e8).below e6).below (Za W4)
 refine xb (.e [0] 1) 1 a8 ?_
 refine xb (.e [4] 5) 0 a8 ?_
 refine xb (.e [6,7] 8) 2 a8 ?_
 refine xr (.o [9,10,11,12,13,14,15] 2) (args:=#[.bool leaf]) (Zeu leaf _) fun W5 e5=>?_
 refine xbs (.o [3] 16) 6 [V0 1,V0 (Ji leaf),V0 1,V0 t,V0 2,V0 (n:Int),V0 2,V0 (v:Int),V0 2,V0 (m:Int),V0 4,V0 0] 229 fun b6 W6 n6=>?_
 have b2:=bln (bln (bln (bln (bln (bln n1.below e0) (Za W2)) e8) e6) (Za W4)) e5
 have g6:=n6.ge b2
 refine yc (.o [] 17) (args:=#[.slice (S1 b6) 6 6]) .z (Zd2 b6 (Ji leaf) t (n:Int) (v:Int) (m:Int) (Ds leaf).1 (Ds leaf).2 (by omega) (by omega) (by omega) (by omega) (by omega) (by omega) (by omega) (by omega) _ n6.blk) ?_
 rintro _ W7 ⟨_,rfl,c8,p2,c2,rfl,h2⟩
 have f2:=(bln b2 n6.below).size
 refine⟨c8,?_⟩
 refine xmk (.r [18,19,20,21,22] 4) fun _ _ _ _ zJ zQ zo zx zy zK=>Vq 244 (.int .u8 0) 1 1 ((List.replicate 244 (0:UInt8)).map bv) zo zx zy Tryz.underlying22 (by kernel_rfl) rfl (by omega) (by omega) (Om 244) fun b8 W8 n8=>?_
 have c6:=bln (bln b2 n6.below) c8
 have g8:=n8.ge c6
 have b9:=Zd h2 f2
 have e1:=Zz b9 n8
 refine zK _ _ ?_
 have o8:=Xf (size:=1) (n:=244) n8.blk g8 (by rw[List.length_map,List.length_replicate]) (by unfold maxLen;omega)
 have d3:=Zb b9 n8.below
 have c1:=bln c6 n8.below
 refine xbi 7 (t2:=22) fun _ _ _ _ zJ zQ zo zx zy zK=>Gx (dLen:=244) (dCap:=244) (off:=0) 12 ((Qo t leaf n m v).map bv) ((Kf m v (Qo t leaf n m v) K Vs 0).map bv) zo Tryz.underlying22 (by kernel_rfl) zx zy (Ze d3) o8 (by simp[Qk]) (by omega) (by omega) (Yj _) c1.size (by simp[Kf,Qs,Qk]) fun W9 o9 e2 e9=>?_
 refine zK _ _ ?_
 have c5:=((((a8.below e5).below n6.below).below c8).below n8.below).grown e2 o8 (by decide)
 refine xb 6 2 c5 ?_
 have d9:=c1.trans e9
 have d1:=((n6.blk.below c8).below n8.below).grown e2 o8 (by decide)
 refine zl 5 90 (fun zm f3 V=>∃ (i:Nat),f3=[(1,P0 b1),(2,S0),(3,V0 0),(4,V0 (v:Int)),(5,V0 (m:Int)),(8,.slice (S1 b8) 244 244),(52,.slice ak n ck),(53,V0 (n:Int)),(54,V0 (i:Int))]∧zm=n-((i:Int)).toNat∧B3 w V∧Blk V b1 ([V0 t,.bool leaf,.slice ak n ck,.slice av n cv]) 38∧Blk V b6 ([V0 1,V0 (Ji leaf),V0 1,V0 t,V0 2,V0 (n:Int),V0 2,V0 (v:Int),V0 2,V0 (m:Int),V0 4,V0 0]) 229∧V.ownsRow w.heap.size 5 1 (.slice (S1 b8) 244 244) 244 ((Kf m v (Qo t leaf n m v) K Vs i).map bv)∧i≤n) ⟨0,rfl,rfl,d9,c5,d1,o9,Nat.zero_le _⟩ ?_
 rintro _ _ g1 ⟨i,rfl,rfl,a0,b0,a6,ho,hi⟩ g2 d4 f7
 have e9:i<n→i*v+v≤m*v:=fun h=>by have h9:(i+1)*v≤m*v:=Nat.mul_le_mul_right v (by omega);rw[Nat.add_mul,Nat.one_mul] at h9;exact h9
 refine xid 6 ((i:Int)<(n:Int)) (fun d6=>?_) (fun d6=>?_)
 ·refine xx 7 _ n i 1 (IntsN.elem hKs N.hK (k:=i) (by omega)).1 ?_
  refine xl 0 ((IntsN.elem (hKs.below a0) N.hK (k:=i) (by omega)).2) ?_
  refine xbs 8 1 [V0 8,V0 (K.getD i 0)] 229 fun e4 g3 a9=>?_
  have c9:=a9.ne a6
  have g5:=a9.ge a0
  refine xc 0 (args:=#[.slice (S1 e4) 1 1]) (Zf3 e4 (K.getD i 0) (N.hk0 i (by omega)).1 _ a9.blk) ?_
  rintro _ g0 ⟨_,rfl,a7,p3,c3,rfl,h3⟩
  have d8:=(bln a0 a9.below).size
  refine xwm 11 ((i:Int)*8) (↑(i*8):Int) ?_
  refine xwm 0 (12+(↑(i*8):Int)) (↑(12+(i*8)):Int) ?_
  refine xsL 0 (fun _ _ _ _ zo zx zy V=>Hu (k:=(12+(i*8))) (b:=b8) (off:=0) (n:=244) (c:=244) (i:=(↑(12+(i*8)):Int)) (ki:=.i64) 1 zo zx zy rfl (by omega) (by omega) Tryz.underlying22 (by kernel_rfl) V) ?_
  have b5:=Zb (Zb ho a9.below) a7
  have d5:=Zd h3 d8
  have b7:=bln (bln a0 a9.below) a7
  refine xbi 1 (t2:=22) fun _ _ _ _ zJ zQ zo zx zy zK=>Gx (dLen:=(244-(12+(i*8)))) (dCap:=(244-(12+(i*8)))) (off:=(0+(12+(i*8))*1)) 8 ((leB (K.getD i 0) 8).map bv) ((Qs (Kf m v (Qo t leaf n m v) K Vs i) (12+i*8) (leB (K.getD i 0) 8)).map bv) zo Tryz.underlying22 (by kernel_rfl) zx zy (Ze d5) b5 (by simp[Zf]) (by omega) (by omega) (Yj _) b7.size (by simp[Qs,Zf,List.map_take,List.map_drop]) fun c7 f6 c0 d0=>?_
  refine zK _ _ ?_
  refine xd 2 (.t w.heap.size [5]) ?_
  refine xwm (.e [0,1] 2) ((m:Int)*8) (↑(m*8):Int) ?_
  refine xwm (.e [] 3) (12+(↑(m*8):Int)) (↑(12+(m*8)):Int) ?_
  refine xwm (.e [4,5] 6) ((i:Int)*(v:Int)) (↑(i*v):Int) ?_
  refine xwm (.e [] 7) ((↑(12+(m*8)):Int)+(↑(i*v):Int)) (↑((12+(m*8))+(i*v)):Int) ?_
  refine xsL (.e [] 8) (fun _ _ _ _ zo zx zy V=>Hu (k:=((12+(m*8))+(i*v))) (b:=b8) (off:=0) (n:=244) (c:=244) (i:=(↑((12+(m*8))+(i*v)):Int)) (ki:=.i64) 1 zo zx zy rfl (by omega) (by omega) Tryz.underlying22 (by kernel_rfl) V) ?_
  have a1:=(((b0.below a9.below).below a7).grown c0 b5 (by decide)).below (Za c7)
  refine xbt (.e [9] 10) 3 w.heap.size [5] a1 ?_
  refine xx (.e [11] 12) _ n i 1 (Strs.elem hVs N.hV (k:=i) (by omega)).1 ?_
  have b4:=bln (b7.trans d0) (Za c7)
  refine xlt (.e [] 13) (.t w.heap.size [5]) (fun V hV=>(Strs.elem (hVs.below (Il b4 hV (Nat.le_refl _))) N.hV (k:=i) (by omega)).2) ?_
  have a2:=Zb f6 (Za c7)
  refine ybi (.o [] 14) (t2:=9) (.t w.heap.size [5]) fun _ _ _ _ zJ zQ zo zx zy zK=>op_copyS (dLen:=(244-((12+(m*8))+(i*v)))) (dCap:=(244-((12+(m*8))+(i*v)))) (off:=(0+((12+(m*8))+(i*v))*1)) (Vs.getD i []) ((Kf m v (Qo t leaf n m v) K Vs (i+1)).map bv) zo Tryz.underlying22 (by kernel_rfl) zx zy a2 (by rw[N.hw i (by omega)];omega) (by rw[N.hw i (by omega)];omega) b4.size (by simp[Kf,Qs,List.map_take,List.map_drop]) fun f8 f0 b3 c4=>?_
  refine zK _ _ (Xy c4 b3 a2 (by decide)) ?_
  refine xwm 4 ((i:Int)+1) (↑(i+1):Int) ?_
  have d2:=b4.trans c4
  have a4:=a1.grown b3 a2 (by decide)
  have a5:=((((a6.below a9.below).below a7).grown c0 b5 (by decide)).below (Za c7)).grown b3 a2 (by decide)
  exact ze 2 (d4 _ _ _ ⟨i+1,rfl,rfl,d2,a4,a5,f0,by omega⟩ (by omega))
 refine xe 13 (.tuple #[.slice (S1 b8) 244 244,V0 0]) ?_
 have e:i=n:=by omega
 subst e
 exact⟨_,rfl,a0,_,_,rfl,ho⟩
theorem Jn(ba b:Nat)(v x:Value)(w:World)(hk:Blk w ba [v,x,P0 b] 125) :
 C0 24 #[P0 ba] w (Ret (P0 b) w):=by
 refine zin 9 Tryz.func24 ?_
 refine xr 9 (args:=#[P0 ba]) (Kk ba b _ _ _ hk) fun W1 a1=>?_
 have a0:=hk.below a1
 refine xb 10 2 a0 ?_
 exact xe 4 (P0 b) ⟨rfl,a1⟩
abbrev Ent:=Int×Bl×Int
def Qz:Ent:=(0,[],0)
def Je(x:Ent):List Value:=[V0 x.1,.string ⟨x.2.1.toArray⟩,V0 x.2.2]
theorem Kj(x:Ent):(Je x).length=3:=rfl
def Zfs(l:List Ent):Nat→Int
 | 0=>-1
 | i+1=>(l.getD i Qz).1
structure EntsOk(v:Nat)(l:List Ent):Prop where
 hk:∀ i,i<l.length→0≤(l.getD i Qz).1∧(l.getD i Qz).1≤281474976710655
 hs:∀ j,j+1<l.length→(l.getD j Qz).1<(l.getD (j+1) Qz).1
 hw:∀ i,i<l.length→(l.getD i Qz).2.1.length=v
theorem EntsOk.last{v:Nat}{l:List Ent}(E:EntsOk v l){i:Nat}(h:i<l.length):Zfs l i<(l.getD i Qz).1:=by
 cases i with
 | zero=>have:=(E.hk 0 h).1;simp only[Zfs];omega
 | succ j=>exact E.hs j h
theorem My(x:Nat):x≤(Aa x).sum:=by
 by_cases h:x≤1
 ·rw[Ht h];simp
 ·rw[Hq h];simp
theorem Am(t:Int)(n:Nat):1≤Yi t n:=by
 have h1:=My (ovN n (Yy t true));have h2:=Qq n (Yy t true);unfold Yi Ks;omega
theorem Sc(t:Int)(v:Nat)(a:O0)(c:Nat)(l:List Ent)(w:World)(ht1:1≤t)(ht2:t≤5)(hv:Lp t true=v)(E:EntsOk v l)(h:Sts Je w (.slice a l.length c) l)(hn:l.length≤32768) :
 C0 49 #[V0 t,.slice a l.length c] w (Ret (.bool true) w):=by
 have a5:=Nz t true
 rw[hv] at a5
 have a8:=Am t l.length
 refine zin 45 Tryz.func49 ?_
 refine xr 8 (args:=#[V0 t,.bool true]) (Gw t true v hv ht1 ht2 _) fun W1 a2=>?_
 refine xgk 9 [12,13] (show(((v:Int)==(0:Int)):Bool)=false from by simp;omega) ?_
 refine xr 3 (args:=#[V0 t,V0 (l.length:Int)]) (Jb t l.length _ ht1 ht2 hn) fun W3 a7=>?_
 refine xk 4 (show(((↑(Yi t l.length):Int)==(0:Int)):Bool)=false from by simp;omega) ?_
 have hB:=bln a2 a7
 refine zl 16 45 (fun zm a3 V=>∃ (i:Nat),a3=[(5,V0 (v:Int)),(6,V0 (Zfs l i)),(20,.slice a l.length c),(21,V0 (l.length:Int)),(22,V0 (i:Int))]∧zm=l.length-((i:Int)).toNat∧B3 w V∧i≤l.length) ⟨0,rfl,rfl,hB,Nat.zero_le _⟩ ?_
 rintro _ _ W4 ⟨i,rfl,rfl,a0,hi⟩ J4 a4 r4
 refine xid 6 ((i:Int)<(l.length:Int)) (fun a6=>?_) (fun a6=>?_)
 ·refine xx 6 _ l.length i 3 (Sts.cell h Kj Qz (k:=i) (i:=0) (by omega) rfl).1 ?_
  refine xlv 0 (Sts.rp (k:=i) (h.below a0) Kj Qz (by omega) (by decide)) ?_
  refine xa 0 [V0 0,.string ⟨#[]⟩,V0 0] 100 fun b6 W6 n6=>?_
  have g6:=n6.ge a0
  refine xsv 0 n6.blk [V0 ((l.getD i Qz).1),.string ⟨((l.getD i Qz).2.1).toArray⟩,V0 ((l.getD i Qz).2.2)] fun W7 u7 k7=>?_
  refine xb 6 0 k7 ?_
  refine xgk 3 [29,30] (show(decide ((l.getD i Qz).1≤(Zfs l i)):Bool)=false from decide_eq_false (by have:=E.last (i:=i) (by omega);omega)) ?_
  refine xb 1 0 k7 ?_
  refine xgk 3 [33,34,35] (show(decide ((l.getD i Qz).1>(281474976710655:Int)):Bool)=false from decide_eq_false (by have:=(E.hk i (by omega)).2;omega)) ?_
  refine xb 1 1 k7 ?_
  refine xk 6 (show(((↑((l.getD i Qz).2.1).length:Int) != (v:Int)):Bool)=false from by rw[E.hw i (by omega)];simp) ?_
  refine xb 4 0 k7 ?_
  refine xw 5 ((i:Int)+1) ?_
  have a1:=u7.below (bln a0 n6.below) g6
  exact ze 2 (a4 _ _ _ ⟨i+1,rfl,rfl,a1,by omega⟩ (by omega))
 exact xe 11 (.bool true) ⟨rfl,a0⟩
theorem Oq(w:World) :
 C0 89 #[] w (Qi (fun w' r=>∃ b,r=.slice (S1 b) 1 1∧w.heap.size≤b∧Blk w' b [V0 4,V0 1,V0 14399] 270) w):=by
 refine zin 3 Tryz.func89 ?_
 refine xbs 8 1 [V0 4,V0 1,V0 14399] 270 fun b1 W1 n1=>?_
 have g1:=n1.ge (B4 w)
 exact xe 4 (.slice (S1 b1) 1 1) ⟨_,rfl,n1.below,_,rfl,g1,n1.blk⟩
theorem Zb8(gl gn:Nat)(n:Int)(h1:1≤n)(h2:n≤14399)(w:World)(hl:Blk w gl [V0 4,V0 1,V0 14399] 270)(hn:Blk w gn [V0 n] 3) :
 C0 87 #[.slice (S1 gl) 1 1,.slice (S1 gn) 1 1] w (Ret (.string ⟨(leB n 4).toArray⟩) w):=by
 have b6:=h1
 have b2:=h2
 clear h2
 refine zin 51 Tryz.func87 ?_
 refine xu 19 2 ?_
 refine xlv 15 hl.rp ?_
 refine xa 0 [V0 0,V0 0,V0 0] 270 fun b1 W1 n1=>?_
 have a6:=n1.ne hl
 refine xsv 1 n1.blk [V0 4,V0 1,V0 14399] fun W2 u2 k2=>?_
 have g1:=n1.ge (B4 w)
 refine xd 4 .z ?_
 have a1:=(u2.blkT (hn.below n1.below) n1.blk (by decide)).below (Za W2)
 refine xb (.e [0,1,2] 3) 0 a1 ?_
 have a0:=k2.below (Za W2)
 refine xb (.e [4] 5) 1 a0 ?_
 refine xgk (.b [6,7]) [23,24] (show(decide (n<(1:Int)):Bool)=false from decide_eq_false (by omega)) ?_
 refine xb (.e [8,9,10] 11) 0 a1 ?_
 refine xb (.e [12] 13) 2 a0 ?_
 refine xk (.r [14,15] 2) (show(decide (n>(14399:Int)):Bool)=false from decide_eq_false (by omega)) ?_
 refine xd 3 .z ?_
 have a4:=a0.below (Za W2.drew)
 refine xb (.e [0] 1) 0 a4 ?_
 have a3:=a1.below (Za W2.drew)
 refine xb (.e [2,3,4] 5) 0 a3 ?_
 refine xbs (.o [6] 7) 1 [V0 4,V0 n] 229 fun b4 W4 n4=>?_
 refine yc (.o [] 8) (args:=#[.slice (S1 b4) 1 1]) .z (Px b4 n (by omega) (by omega) _ n4.blk) ?_
 rintro _ W5 ⟨_,rfl,a7,p2,c2,rfl,h2⟩
 have a8:=(bln (bln (bln (u2.below n1.below g1) (Za W2)) (Za W2.drew)) n4.below).size
 refine⟨a7,?_⟩
 have o6:=World.ownsRow_nil W5 w.heap.size 5 1
 have a5:=Zd h2 a8
 have hB:=bln (bln (bln (bln (u2.below n1.below g1) (Za W2)) (Za W2.drew)) n4.below) a7
 refine xbi (.r [9,10,11,12,13] 5) fun _ _ _ _ zJ zQ zo zx zy zK=>Zx (m:=4) (news:=(leB n 4).map bv) (.int .u8 0) 1 1 (4) ((leB n 4).map bv) zo Tryz.underlying22 (by kernel_rfl) rfl (by decide) zx o6 zy (Ze a5) (by simp[Zf]) (Yj _) (by unfold maxLen;omega) (by omega) hB.size (by rfl) (by simp) fun b0 b3 W7 o7 b5 a9=>?_
 refine zK _ _ ?_
 refine xcv0 24 (fun _ _ _ zo zx=>Jf zo zx (Yl (Ze o7) (Zf _ _)) (Zf _ _) Tryz.underlying22 Tryz.underlying5 Tryz.underlying9) ?_
 have a2:=hB.trans a9
 exact xe 4 (.string ⟨(leB n 4).toArray⟩) ⟨rfl,a2⟩
theorem Za8(n:Int)(h1:1≤n)(h2:n≤14399)(w:World) :
 C0 41 #[V0 n] w (Ret (.string ⟨(leB n 4).toArray⟩) w):=by
 refine zin 7 Tryz.func41 ?_
 refine xc 7 (args:=#[]) (Oq _) ?_
 rintro _ W1 ⟨_,rfl,a1,gl,rfl,gg,kl⟩
 refine xbs 1 1 [V0 n] 3 fun b2 W2 n2=>?_
 have a0:=kl.below n2.below
 refine xr 0 (args:=#[.slice (S1 gl) 1 1,.slice (S1 b2) 1 1]) (Zb8 gl b2 n h1 h2 _ a0 n2.blk) fun W3 a2=>?_
 have hB:=bln (bln a1 n2.below) a2
 exact xe 4 (.string ⟨(leB n 4).toArray⟩) ⟨rfl,hB⟩
theorem Sts.cut{α:Type}{f:α→List Value}{m:Nat}{w:World}{b:O0}{c:Nat}{l:List α}(hm:∀ x,(f x).length=m)(h:Sts f w (.slice b l.length c) l)(k:Nat)(hk:k≤l.length):Sts f w (.slice (Jh b k c m) (l.drop k).length (c-k)) (l.drop k):=by
 have a0:(l.drop k).length=l.length-k:=by simp
 have a2:=Sl.cap h
 by_cases hkn:k=l.length
 ·refine .inl ⟨Jh b k c m,c-k,by rw[show(l.drop k).length=0 by omega],by omega,?_⟩
  rw[List.drop_eq_nil_of_le (by omega)];rfl
 rcases h with ⟨a',c',h1,h2,h3⟩|⟨g,a3,a4,h1,h2,h3,h4⟩
 ·omega
 ·simp only[Value.slice.injEq] at h1
  obtain⟨rfl,_,rfl⟩:=h1
  refine .inr ⟨g,a3+k*m,c-k,?_,by omega,by omega,fun j x hj=>?_⟩
  ·rw[Jh,if_neg (by omega)];simp[Addr.add]
  ·have a1:(l.drop k).flatMap f=(l.flatMap f).drop (k*m):=by
    conv=>rhs;rw[←List.take_append_drop k l,List.flatMap_append]
    rw[List.drop_left' (by rw[Nt hm,List.length_take,Nat.min_eq_left hk])]
   rw[a1,List.getElem?_drop] at hj
   have:=h4 _ _ hj
   rwa [←Nat.add_assoc] at this
theorem Al.only{B ba b g n c:Nat}{pa:O0}{ca f N k:Nat}{l:Bl}{w W:World}{T:List TypeId}(h:Al B ba b g n c pa ca f N k l w)(hO:Zg T w W)(hT:(T.contains 125||T.contains 72||T.contains 5||T.contains 3)=false):Al B ba b g n c pa ca f N k l W:=by
 simp only[Bool.or_eq_false_iff] at hT
 exact⟨h.blkA.only hO hT.1.1.1,h.blkI.only hO hT.1.1.2,Zo h.data hO hT.1.2,Zo h.nums hO hT.2⟩
def Xc(l:List Ent)(m i:Nat):List Ent:=(l.drop (i*m)).take m
def Va(c:List Ent):List Int:=c.map (·.1)
def Kr(c:List Ent):List Bl:=c.map (·.2.1)
def nodB(t:Int)(leaf:Bool)(m v:Nat)(c:List Ent):Bl:=Kf m v (Qo t leaf c.length m v) (Va c) (Kr c) c.length
def levB(t:Int)(leaf:Bool)(m v:Nat)(l:List Ent)(q:Nat)(bs:Bl):Nat→Bl
 | 0=>bs
 | i+1=>Qs (levB t leaf m v l q bs i) ((q+i)*256) (Yg 2 ((q+i:Nat):Int) (nodB t leaf m v (Xc l m i)))
def upX (l:List Ent)(m q i:Nat):Ent:=(((Xc l m i).getD 0 Qz).1,leB ((q+i:Nat):Int) 4,((q+i:Nat):Int))
def upE (l:List Ent)(m q j:Nat):List Ent:=(List.range j).map (upX l m q)
theorem upE_succ(l:List Ent)(m q j:Nat):upE l m q (j+1)=upE l m q j++[upX l m q j]:=by simp[upE,List.range_succ]
theorem Yc(l:List Ent)(m q j:Nat):(upE l m q j).length=j:=by simp[upE]
theorem Pd{l:List Ent}{m q j i:Nat}(h:i<j):(upE l m q j).getD i Qz=upX l m q i:=by simp[upE,List.getD,List.getElem?_range h]
theorem We(l:List Ent)(m i:Nat):(Xc l m i).length=Qw l.length m i:=by simp[Xc,Qw]
theorem Lj{l:List Ent}{m i j:Nat}(h:j<Qw l.length m i):(Xc l m i).getD j Qz=l.getD (i*m+j) Qz:=by
 unfold Qw at h
 simp[Xc,List.getD,List.getElem?_take_of_lt (show j<m by omega),List.getElem?_drop]
theorem Fl{c:List Ent}{j:Nat}(h:j<c.length):(Va c).getD j 0=(c.getD j Qz).1:=by simp[Va,List.getD,h]
theorem Zfm{c:List Ent}{j:Nat}(h:j<c.length):(Kr c).getD j []=(c.getD j Qz).2.1:=by simp[Kr,List.getD,h]
theorem Uj(c:List Ent):(Va c).length=c.length:=by simp[Va]
theorem Fc(c:List Ent):(Kr c).length=c.length:=by simp[Kr]
theorem siz_lt{n m i:Nat}(hm:1≤m)(hn:1≤n)(h:i<ovN n m):i*m<n:=by
 unfold ovN at h
 rcases Nat.eq_zero_or_pos i with rfl|hi
 ·omega
 have h2:i<(n+m-1)/m:=by omega
 have h3:=(Nat.lt_div_iff_mul_lt (by omega)).1 h2
 omega
theorem Ii{t:Int}{leaf:Bool}{m v:Nat}{l:List Ent}(E:EntsOk v l)(h1:1≤t)(h2:t≤5)(hm:Yy t leaf=m)(hv:Lp t leaf=v)(hl:leaf=false→1≤l.length){i:Nat}(hi:i<ovN l.length m):NodeOk t leaf (Xc l m i).length m v (Va (Xc l m i)) (Kr (Xc l m i)):=by
 have a5:=(Yo t leaf).1
 rw[hm] at a5
 have a0:=We l m i
 have a6:=Zc0 a5 hi
 have a7:(Xc l m i).length≤l.length-i*m:=by rw[a0];unfold Qw;omega
 have a4:∀ j,j<(Xc l m i).length→i*m+j<l.length∧(Va (Xc l m i)).getD j 0=(l.getD (i*m+j) Qz).1∧(Kr (Xc l m i)).getD j []=(l.getD (i*m+j) Qz).2.1:=fun j hj=>by
  refine⟨by omega,?_,?_⟩
  ·rw[Fl hj,Lj (by omega)]
  ·rw[Zfm hj,Lj (by omega)]
 refine⟨h1,h2,hm,hv,Uj _,Fc _,by rw[a0];unfold Qw;omega,fun h=>?_,fun j hj=>?_,fun j hj=>?_,fun j hj=>?_⟩
 ·have:=siz_lt a5 (hl h) hi
  rw[a0];unfold Qw;omega
 ·obtain⟨a1,a2,_⟩:=a4 j hj
  rw[a2];exact E.hk _ a1
 ·obtain⟨a1,a2,_⟩:=a4 j (by omega)
  obtain⟨b1,b2,_⟩:=a4 (j+1) hj
  rw[a2,b2];exact E.hs _ (by omega)
 ·obtain⟨a1,_,a3⟩:=a4 j hj
  rw[a3];exact E.hw _ a1
theorem Iy{t:Int}{leaf:Bool}{m v:Nat}{c:List Ent}(N:NodeOk t leaf c.length m v (Va c) (Kr c)):(nodB t leaf m v c).length=244:=by
 have hf:=fitN t leaf
 rw[N.hm,N.hv] at hf
 exact Mj (Qk _ _ _ _ _) hf N.hn (fun j hj=>N.hw j hj)
theorem Aq{w:World}{b:O0}{n m c:Nat}(h:Sl w (.slice b (ovN n m) c) (ovN n m) ((sizL n m).map nv)){k:Nat}(hk:k<ovN n m):b.isSome=true∧w.cell? (Zv b (k*1))=some (V0 ((Qw n m k:Nat):Int)):=by
 have:=Zu h (sizL_len n m) hk
 rwa [show(sizL n m).getD k 0=Qw n m k from by simp[sizL,List.getD,List.getElem?_range hk]] at this
theorem Zet{l:List Ent}{j:Nat}(h:j<l.length):((Va l).take (j+1)).map V0=((Va l).take j).map V0++[V0 (l.getD j Qz).1]:=by
 rw[List.take_succ_eq_append_getElem (by rw[Uj];exact h)]
 simp[Va,List.getD,h]
theorem Zeq{l:List Ent}{j:Nat}(h:j<l.length):((Kr l).take (j+1)).map sv=((Kr l).take j).map sv++[.string ⟨(l.getD j Qz).2.1.toArray⟩]:=by
 rw[List.take_succ_eq_append_getElem (by rw[Fc];exact h)]
 simp[Kr,List.getD,h,sv]
theorem Ox{l:List Ent}{m i s:Nat}(hs:Qw l.length m i=s):(Va (l.drop (i*m))).take s=Va (Xc l m i):=by
 subst hs
 unfold Va Xc Qw
 rw[←List.map_take]
 congr 1
 rw[List.take_eq_take_iff];simp
theorem Ow{l:List Ent}{m i s:Nat}(hs:Qw l.length m i=s):(Kr (l.drop (i*m))).take s=Kr (Xc l m i):=by
 subst hs
 unfold Kr Xc Qw
 rw[←List.map_take]
 congr 1
 rw[List.take_eq_take_iff];simp
theorem EntsOk.mono{v:Nat}{l:List Ent}(E:EntsOk v l):∀ {a b:Nat},a<b→b<l.length→(l.getD a Qz).1<(l.getD b Qz).1:=by
 intro a b h hb
 induction b with
 | zero=>omega
 | succ b ih =>
  have h1:=E.hs b (by omega)
  rcases Nat.lt_or_ge a b with h2|h2
  ·have:=ih h2 (by omega);omega
  ·obtain rfl:a=b:=by omega
   exact h1
theorem Ze1{v:Nat}{l:List Ent}{m:Nat}(hm:1≤m)(hl:1≤l.length){i q:Nat}(hi:i<ovN l.length m):(upX l m q i).1=(l.getD (i*m) Qz).1∧i*m<l.length:=by
 have h:=siz_lt hm hl hi
 refine⟨?_,h⟩
 unfold upX
 rw[Lj (by unfold Qw;omega)];rfl
theorem up_ok{v:Nat}{l:List Ent}(E:EntsOk v l){m q:Nat}(hm:1≤m):EntsOk 4 (upE l m q (ovN l.length m)):=by
 rcases Nat.eq_zero_or_pos l.length with h0|hl
 ·have h1:ovN l.length m=1:=by
   rw[h0];unfold ovN
   have:(0+m-1)/m=0:=Nat.div_eq_of_lt (by omega)
   omega
  have a0:l=[]:=List.eq_nil_of_length_eq_zero h0
  subst a0
  constructor
  ·intro i hi;rw[Yc,h1] at hi;rw[Pd (by omega)];simp[upX,Xc,Qz]
  ·intro j hj;rw[Yc,h1] at hj;omega
  ·intro i hi;rw[Yc,h1] at hi;rw[Pd (by omega)];simp[upX,Zf]
 constructor
 ·intro i hi
  rw[Yc] at hi
  obtain⟨h1,h2⟩:=Ze1 (v:=v) (q:=q) hm hl hi
  rw[Pd hi,h1];exact E.hk _ h2
 ·intro j hj
  rw[Yc] at hj
  obtain⟨h1,h2⟩:=Ze1 (v:=v) (q:=q) hm hl hj
  obtain⟨h3,h4⟩:=Ze1 (v:=v) (q:=q) hm hl (show j<ovN l.length m by omega)
  rw[Pd hj,Pd (by omega),h1,h3]
  refine E.mono ?_ h2
  rw[Nat.add_mul];omega
 ·intro i hi
  rw[Yc] at hi
  rw[Pd hi];simp[upX,Zf]
def Pl(t:Int)(u:List Ent)(q:Nat)(bs:Bl):Int×Bl :=
 if h:u.length≤1 then((u.getD 0 Qz).2.2,bs)
 else Pl t (upE u 18 q (ovN u.length 18)) (q+ovN u.length 18) (levB t false 18 4 u q bs (ovN u.length 18))
termination_by u.length
decreasing_by rw[Yc];have:=ov18 (x:=u.length) (by omega);omega
theorem Ci{t:Int}{u:List Ent}{q:Nat}{bs:Bl}(h:u.length≤1):Pl t u q bs=((u.getD 0 Qz).2.2,bs):=by rw[Pl];simp[h]
theorem Tu{t:Int}{u:List Ent}{q:Nat}{bs:Bl}(h:¬ u.length≤1):Pl t u q bs=Pl t (upE u 18 q (ovN u.length 18)) (q+ovN u.length 18) (levB t false 18 4 u q bs (ovN u.length 18)):=by rw[Pl];simp[h]
def Kh(t:Int)(l:List Ent)(q:Nat)(bs:Bl):Int×Bl :=
 Pl t (upE l (Yy t true) q (ovN l.length (Yy t true))) (q+ovN l.length (Yy t true)) (levB t true (Yy t true) (Lp t true) l q bs (ovN l.length (Yy t true)))
def LaidQ(B ba b g n c:Nat)(pa:O0)(ca f N k:Nat)(l:Bl)(kind:Int)(li:Bl)(q:Nat)(w:World)(e:Ending)(w':World):Prop :=
 e=.returned (.tuple #[V0 (q:Int),.nilIface])∧Below B w w'∧Zg [125,5] w w'∧Fr [ba,g] w w'∧Al B ba b g n c pa ca f N (k+1) (Qs l (q*256) (Yg kind (q:Int) li)) w'
theorem Hx(B ba b g n c:Nat)(p:O0)(ca f N k:Nat)(l:Bl)(kind:Int)(a:O0)(ci:Nat)(li:Bl)(q n':Nat)(w:World)(hq:f+k=q)(hn':li.length=n')(hC:AlC B ba n c ca f N)(hA:Al B ba b g n c p ca f N k l w)(hkN:k<N)(h1:1≤kind)(h2:kind≤4)(hin:∀ W,Below B w W→Zg [125] w W→Bys W (.slice a n' ci) li)(hl:n'≤244)(hBw:B≤w.heap.size) :
 C0 63 #[P0 ba,V0 kind,.slice a n' ci] w (LaidQ B ba b g n c p ca f N k l kind li q w):=by
 subst hq hn';exact Zc4 B ba b g n c p ca f N k l kind a ci li w hC hA hkN h1 h2 hin hl hBw
theorem up_row{l:List Ent}{m q i:Nat}{key:Int}(hk:key=((Xc l m i).getD 0 Qz).1):(upE l m q i).flatMap Je++[V0 key,.string ⟨(leB ((q+i:Nat):Int) 4).toArray⟩,V0 ((q+i:Nat):Int)]=(upE l m q (i+1)).flatMap Je:=by
 subst hk;rw[upE_succ];simp[Je,upX]
theorem Zfi{l:List Ent}{m i j:Nat}(hs:Qw l.length m i=j)(hj:0<j):((Va (Xc l m i))).getD 0 0=((Xc l m i).getD 0 Qz).1:=Fl (by rw[We];omega)
theorem Tf{l:List Ent}{m i j:Nat}(hs:Qw l.length m i=j)(hj:j=0):(0:Int)=((Xc l m i).getD 0 Qz).1:=by
 have:Xc l m i=[]:=List.eq_nil_of_length_eq_zero (by rw[We];omega)
 rw[this];rfl
def bmN (n:Nat):Nat:=(n+959)/960
theorem bmN_lt{n i:Nat}(h:i<bmN n):i*960<n:=by unfold bmN at h;omega
theorem bmN_done{n i:Nat}(h:i=bmN n):n≤i*960:=by subst h;unfold bmN;omega
def mn3 (n:Int):Int:=if n<3 then n else 3
def Zj(l:List Int):List Int:=l.map mn3
theorem Zbe{l:List Int}{k:Nat}(h:k<l.length):Zj (l.take (k+1))=Zj (l.take k)++[mn3 (l.getD k 0)]:=by
 unfold Zj
 rw[List.take_succ_eq_append_getElem h,List.map_append,show l.getD k 0=l[k] from by simp[List.getD,h]]
 rfl
def ovX (l:List Int)(k:Nat):List Ent:=if 3≤l.getD k 0 then [((k:Int),leB (l.getD k 0) 4,0)] else []
def Zn(l:List Int)(k:Nat):List Ent:=(List.range k).flatMap (ovX l)
theorem Ch(l:List Int)(k:Nat):Zn l (k+1)=Zn l k++ovX l k:=by simp[Zn,List.range_succ]
theorem Uh{l:List Int}{k:Nat}(h:3≤l.getD k 0):Zn l (k+1)=Zn l k++[((k:Int),leB (l.getD k 0) 4,0)]:=by rw[Ch];unfold ovX;rw[if_pos h]
theorem Nj{l:List Int}{k:Nat}(h:¬ 3≤l.getD k 0):Zn l (k+1)=Zn l k:=by rw[Ch];unfold ovX;rw[if_neg h];simp
theorem overK_ok(l:List Int)(k:Nat):(Zn l k).Pairwise (fun a b=>a.1<b.1)∧∀ x∈Zn l k,0≤x.1∧x.1<k∧x.2.1.length=4:=by
 induction k with
 | zero=>simp[Zn]
 | succ k ih =>
  by_cases h3:3≤l.getD k 0
  ·rw[Uh h3]
   refine⟨List.pairwise_append.2 ⟨ih.1,by simp,fun a ha b hb=>?_⟩,fun x hx=>?_⟩
   ·simp only[List.mem_singleton] at hb;subst hb;exact(ih.2 a ha).2.1
   ·rcases List.mem_append.1 hx with h|h
    ·have:=ih.2 x h;exact⟨this.1,by have:=this.2.1;omega,this.2.2⟩
    ·simp only[List.mem_singleton] at h;subst h;exact⟨Int.natCast_nonneg _,by show(k:Int)<((k+1:Nat):Int);omega,Zf _ _⟩
  ·rw[Nj h3]
   exact⟨ih.1,fun x hx=>by have:=ih.2 x hx;exact⟨this.1,by have:=this.2.1;omega,this.2.2⟩⟩
theorem Hm(l:List Int)(k:Nat):(Zn l k).length≤k:=by
 induction k with
 | zero=>simp[Zn]
 | succ k ih =>
  by_cases h3:3≤l.getD k 0
  ·rw[Uh h3];simp;exact ih
  ·rw[Nj h3];omega
theorem Wd{l:List Ent}{i:Nat}(h:i<l.length):l.getD i Qz=l[i]:=by simp[List.getD,h]
theorem Fk(l:List Int)(k:Nat)(hk:k≤65536):EntsOk 4 (Zn l k):=by
 have h:=overK_ok l k
 refine⟨fun i hi=>?_,fun j hj=>?_,fun i hi=>?_⟩
 ·rw[Wd hi];have:=h.2 _ (List.getElem_mem hi);omega
 ·rw[Wd hj,Wd (by omega)];exact List.pairwise_iff_getElem.1 h.1 j (j+1) (by omega) hj (by omega)
 ·rw[Wd hi];exact(h.2 _ (List.getElem_mem hi)).2.2
def Ua(n:Int):Prop:=0≤n∧n≤2147483647
instance (n:Int):Decidable (Ua n):=by unfold Ua;infer_instance
def Kl(l:List Int):Int:=if 65536<l.length then 1 else if ∀ k,k<l.length→Ua (l.getD k 0) then 0 else 2
theorem Ux{l:List Int}(h:Kl l=0):l.length≤65536∧∀ k,k<l.length→Ua (l.getD k 0):=by
 unfold Kl at h
 split at h
 ·simp at h
 ·split at h
  ·exact⟨by omega,by assumption⟩
  ·simp at h
def Ja(l:List Int)(i:Nat):List Int:=(l.drop (i*960)).take 960
def Xh(l:List Int)(n:Nat):List (List Int):=(List.range n).map (Ja l)
theorem Kc(l:List Int)(n:Nat):(Xh l n).length=n:=by simp[Xh]
theorem Sm{l:List Int}{n i:Nat}(h:i<n):(Xh l n).getD i []=Ja l i:=by simp[Xh,List.getD,h]
theorem Pg(l:List Int)(i:Nat):(Ja l i).length=min 960 (l.length-i*960):=by simp[Ja]
def Kg(l:List Int):Prop:=∀ n∈l,0≤n∧n≤3
theorem Az{l:List Int}(h:∀ k,k<l.length→Ua (l.getD k 0)):Kg (Zj l):=by
 intro n hn
 obtain⟨m,hm,rfl⟩:=List.mem_map.1 hn
 obtain⟨k,hk,rfl⟩:=List.getElem_of_mem hm
 have:=h k hk
 rw[show l.getD k 0=l[k] from by simp[List.getD,hk]] at this
 unfold Ua at this
 unfold mn3;split<;>omega
theorem Lm{l:List Int}(h:Kg l)(i:Nat):Kg (Ja l i):=fun n hn=>h n (List.mem_of_mem_drop (List.mem_of_mem_take hn))
def atI (l:List Int)(i j:Nat):Int:=if j<i then l.getD j 0 else 0
def g4 (l:List Int)(i k:Nat):Int:=atI l i (4*k)+4*atI l i (4*k+1)+16*atI l i (4*k+2)+64*atI l i (4*k+3)
def g4B (l:List Int)(i k:Nat):UInt8:=UInt8.ofNat (g4 l i k).toNat
def Ud(l:List Int)(i:Nat):Bl:=leB l.length 4++(List.range 240).map (g4B l i)
theorem Qv(l:List Int)(i:Nat):(Ud l i).length=244:=by simp[Ud,Zf]
def Uz(l:List Int):Bl:=Ud l l.length
def Zbn(l:List Int)(k:Nat):Nat:=((l.take k).filter fun n=>n==0).length
def Xp(l:List Int):Nat:=Zbn l l.length
def Zy(l:List Int):Nat:=l.findIdx fun n=>n==0
theorem Zak{l:List Int}{k:Nat}(h:k<l.length):Zbn l (k+1)=Zbn l k+(if l.getD k 0=0 then 1 else 0):=by
 unfold Zbn
 rw[List.take_succ_eq_append_getElem h,List.filter_append,List.length_append]
 simp only[List.getD,List.getElem?_eq_getElem h,Option.getD_some]
 by_cases e:l[k]=0<;>simp[e]
theorem Wc(l:List Int)(k:Nat):Zbn l k≤k:=Nat.le_trans (List.length_filter_le _ _) (by simp;omega)
theorem Uy(l:List Int):Zy l≤l.length:=List.findIdx_le_length
theorem Zeg{l:List Int}{i:Nat}(h:i<l.length)(h0:l.getD i 0=0)(hp:∀ j,j<i→l.getD j 0≠0):Zy l=i:=by
 unfold Zy
 refine(List.findIdx_eq h).2 ⟨?_,fun j hj=>?_⟩
 ·rw[List.getD,List.getElem?_eq_getElem h] at h0;simpa using h0
 ·have:=hp j hj
  rw[List.getD,List.getElem?_eq_getElem (by omega)] at this;simpa using this
theorem Tg{l:List Int}(hp:∀ j,j<l.length→l.getD j 0≠0):Zy l=l.length:=by
 unfold Zy
 rw[List.findIdx_eq_length]
 intro n hn
 obtain⟨k,hk,rfl⟩:=List.getElem_of_mem hn
 have:=hp k hk
 rw[List.getD,List.getElem?_eq_getElem hk] at this;simpa using this
def slotB(n f g:Int):Bl:=leB n 8++leB f 4++leB g 4
theorem Zfz(n f g:Int):(slotB n f g).length=16:=by simp[slotB,Zf]
def Hz(L:List (List Int))(q:Nat)(bs:Bl):Nat→Bl
 | 0=>bs
 | i+1=>Qs (Hz L q bs i) ((q+i)*256) (Yg 3 ((q+i:Nat):Int) (Uz (L.getD i [])))
def Zaw(L:List (List Int))(q i:Nat):Ent:=((i:Int),slotB ((q+i:Nat):Int) (Xp (L.getD i []):Int) (Zy (L.getD i []):Int),0)
def Xu(L:List (List Int))(q j:Nat):List Ent:=(List.range j).map (Zaw L q)
theorem Hv(L:List (List Int))(q j:Nat):(Xu L q j).length=j:=by simp[Xu]
theorem Sd(L:List (List Int))(q j:Nat):Xu L q (j+1)=Xu L q j++[Zaw L q j]:=by simp[Xu,List.range_succ]
theorem Hs{L:List (List Int)}{q j i:Nat}(h:i<j):(Xu L q j).getD i Qz=Zaw L q i:=by simp[Xu,List.getD,h]
theorem Zb3(L:List (List Int))(q j:Nat)(hj:j≤65536):EntsOk 16 (Xu L q j):=by
 refine⟨fun i hi=>?_,fun i hi=>?_,fun i hi=>?_⟩<;>rw[Hv] at hi
 ·rw[Hs hi];simp only[Zaw];omega
 ·rw[Hs hi,Hs (by omega)];simp only[Zaw];omega
 ·rw[Hs hi];exact Zfz _ _ _
def Zdi(l:List Int)(q:Nat)(bs:Bl):Int×Int×Bl :=
 let L:=Xh (Zj l) (bmN l.length)
 let x:=Kh 4 (Xu L q (bmN l.length)) (q+bmN l.length) (Hz L q bs (bmN l.length))
 let y:=Kh 5 (Zn l l.length) (q+bmN l.length+Yi 4 (bmN l.length)) x.2
 (x.1,y.1,y.2)
def Fa(l:List Int):Nat:=bmN l.length+Yi 4 (bmN l.length)+Yi 5 (Zn l l.length).length
theorem Ey{l:List Int}(h:Kg l)(i j:Nat):0≤atI l i j∧atI l i j≤3:=by
 unfold atI
 split
 ·by_cases hj:j<l.length
  ·rw[show l.getD j 0=l[j] from by simp[List.getD,hj]];exact h _ (List.getElem_mem hj)
  ·rw[show l.getD j 0=0 from by simp[List.getD,Nat.le_of_not_lt hj]];omega
 ·omega
theorem Vx{l:List Int}(h:Kg l)(j:Nat):0≤l.getD j 0∧l.getD j 0≤3:=by
 have:=Ey h (j+1) j
 unfold atI at this
 rwa [if_pos (by omega)] at this
theorem Vg{l:List Int}{i j:Nat}(h:j≠i):atI l (i+1) j=atI l i j:=by
 unfold atI
 by_cases q:j<i
 ·rw[if_pos q,if_pos (by omega)]
 ·rw[if_neg q,if_neg (by omega)]
theorem Ok(l:List Int)(i:Nat):atI l (i+1) i=l.getD i 0:=by unfold atI;rw[if_pos (by omega)]
theorem Gm{l:List Int}{i j:Nat}(h:i≤j):atI l i j=0:=by unfold atI;rw[if_neg (by omega)]
theorem g4_ne{l:List Int}{i k:Nat}(h:k≠i/4):g4 l (i+1) k=g4 l i k:=by
 unfold g4
 rw[Vg (by omega),Vg (by omega),Vg (by omega),Vg (by omega)]
theorem g4_at{l:List Int}(h:Kg l){i q r:Nat}(hi:i=4*q+r)(hr:r<4):g4 l (i+1) q=g4 l i q+l.getD i 0*4 ^ r∧0≤g4 l i q∧g4 l i q<4 ^ r:=by
 have b0:=Ey h i (4*q)
 have b1:=Ey h i (4*q+1)
 have b2:=Ey h i (4*q+2)
 have b3:=Ey h i (4*q+3)
 unfold g4
 obtain rfl|rfl|rfl|rfl:r=0∨r=1∨r=2∨r=3:=by omega
 ·rw[show 4*q=i from by omega,Ok,Vg (by omega),Vg (by omega),Vg (by omega),Gm (Nat.le_refl i),Gm (Nat.le_add_right i 1),Gm (Nat.le_add_right i 2),Gm (Nat.le_add_right i 3)]
  omega
 ·have e2:atI l i (4*q+2)=0:=Gm (by omega)
  have e3:atI l i (4*q+3)=0:=Gm (by omega)
  have e1:atI l i (4*q+1)=0:=Gm (by omega)
  rw[Vg (j:=4*q) (by omega),Vg (j:=4*q+2) (by omega),Vg (j:=4*q+3) (by omega),e1,e2,e3,←hi,Ok]
  omega
 ·have e2:atI l i (4*q+2)=0:=Gm (by omega)
  have e3:atI l i (4*q+3)=0:=Gm (by omega)
  rw[Vg (j:=4*q) (by omega),Vg (j:=4*q+1) (by omega),Vg (j:=4*q+3) (by omega),e2,e3,←hi,Ok]
  omega
 ·have e3:atI l i (4*q+3)=0:=Gm (by omega)
  rw[Vg (j:=4*q) (by omega),Vg (j:=4*q+1) (by omega),Vg (j:=4*q+2) (by omega),e3,←hi,Ok]
  omega
theorem g4B_at{l:List Int}(h:Kg l){i:Nat}:((g4B l (i+1) (i/4)).toNat:Int)=((g4B l i (i/4)).toNat:Int)+l.getD i 0*4 ^ (i%4)∧(g4B l i (i/4)).toNat<4 ^ (i%4):=by
 obtain⟨h1,h2,h3⟩:=g4_at h (show i=4*(i/4)+i%4 by omega) (by omega)
 have hn:=Vx h i
 have hp:(4:Int) ^ (i%4)≤64:=by
  have:i%4<4:=by omega
  obtain e|e|e|e:i%4=0∨i%4=1∨i%4=2∨i%4=3:=by omega
  all_goals rw[e];decide
 have a1:(0:Int)<4 ^ (i%4):=Int.pow_pos (by decide)
 generalize hP:(4:Int) ^ (i%4)=Pq at *
 have hq:l.getD i 0*Pq≤3*Pq:=Int.mul_le_mul_of_nonneg_right hn.2 (by omega)
 have a0:0≤l.getD i 0*Pq:=Int.mul_nonneg hn.1 (by omega)
 generalize l.getD i 0*Pq=M at *
 have a2:((4 ^ (i%4):Nat):Int)=Pq:=by rw[←hP];simp
 unfold g4B
 rw[UInt8.toNat_ofNat',UInt8.toNat_ofNat',h1]
 omega
def Em(gs:List (Nat×Nat))(L:List (List Int))(i:Nat):Value:=.slice (some ⟨(gs.getD i (0,0)).1,0,none⟩) (L.getD i []).length (gs.getD i (0,0)).2
structure Lists(w:World)(base:Nat)(v:Value)(gs:List (Nat×Nat))(L:List (List Int)):Prop where
 row:w.ownsRow base 28 1 v L.length ((List.range L.length).map (Em gs L))
 each:∀ i,i<L.length→w.ownsRow base 3 1 (Em gs L i) (L.getD i []).length ((L.getD i []).map (Value.int .i64))
theorem Lists.below{w W:World}{base:Nat}{v:Value}{gs:List (Nat×Nat)}{L:List (List Int)}(h:Lists w base v gs L)(hb:B3 w W):Lists W base v gs L:=⟨Zb h.row hb,fun i hi=>Zb (h.each i hi) hb⟩
theorem Lists.only{T:List TypeId}{w W:World}{base:Nat}{v:Value}{gs:List (Nat×Nat)}{L:List (List Int)}(h:Lists w base v gs L)(hO:Zg T w W)(hT:T.contains 28=false∧T.contains 3=false):Lists W base v gs L:=⟨Zo h.row hO hT.1,fun i hi=>Zo (h.each i hi) hO hT.2⟩
theorem Lists.elem{w:World}{base:Nat}{p:O0}{n c:Nat}{gs:List (Nat×Nat)}{L:List (List Int)}(h:Lists w base (.slice p n c) gs L)(hn:L.length=n){k:Nat}(hk:k<n):p.isSome=true∧w.cell? (Zv p (k*1))=some (Em gs L k):=by
 subst hn
 rw[Nat.mul_one]
 exact Sl.elem (Ze h.row) (by simp[hk])
theorem Lists.mono{w:World}{base base':Nat}{v:Value}{gs:List (Nat×Nat)}{L:List (List Int)}(h:Lists w base' v gs L)(hb:base≤base'):Lists w base v gs L:=⟨Zd h.row hb,fun i hi=>Zd (h.each i hi) hb⟩
theorem plotN_bd{l:List Int}(h:l.length≤3000):2≤Fa l∧Fa l≤500∧bmN l.length≤4:=by
 have h4:=Nm 4 (bmN l.length)
 have a1:1≤Yi 4 (bmN l.length):=by
  have h1:=My (ovN (bmN l.length) (Yy 4 true));have h2:=Qq (bmN l.length) (Yy 4 true);unfold Yi Ks;omega
 have a0:1≤Yi 5 (Zn l l.length).length:=by
  have h1:=My (ovN (Zn l l.length).length (Yy 5 true));have h2:=Qq (Zn l l.length).length (Yy 5 true);unfold Yi Ks;omega
 have hk:=Hm l l.length
 have h5:=Ag (Qq (Zn l l.length).length (Yy 5 true))
 have ho:ovN (Zn l l.length).length (Yy 5 true)≤167:=by
  rw[show Yy 5 true=18 from rfl];unfold ovN;omega
 have a2:Yi 5 (Zn l l.length).length≤334:=by unfold Yi Ks;omega
 have hb:bmN l.length≤4:=by unfold bmN;omega
 unfold Fa
 omega
def FrB (B:Nat)(S:List Nat)(w W:World):Prop:=w.heap.size≤W.heap.size∧∀ k,k<B→k∉S→W.heap[k]? = w.heap[k]?
theorem Fr.trans_B{S S':List Nat}{a w W:World}(h:Fr S a w)(k:FrB a.heap.size S' w W)(hs:∀ k∈S',k∈S):Fr S a W:=⟨Nat.le_trans h.size k.1,fun i hi hn=>(k.2 i hi fun q=>hn (hs i q)).trans (h.block i hi hn)⟩
theorem or_step:∀ r:Fin 4,∀ n:Fin 4,∀ o:Fin 64,o.val<4 ^ r.val→o.val ||| (n.val*4 ^ r.val)=o.val+n.val*4 ^ r.val:=by decide
theorem Tw(kind no:Int)(a:O0)(n c:Nat)(l:Bl)(w:World)(hn:l.length=n)(h:Bys w (.slice a n c) l):C0 74 #[.slice a n c,V0 kind,V0 no] w (OpenP kind no l w):=by
 subst hn;exact Fe kind no a c l w h
theorem Zce(a:O0)(n c:Nat)(l:Bl)(w:World)(hn:l.length=n)(hl:n≤100000000)(h:Bys w (.slice a n c) l):C0 173 #[.slice a n c] w (BitsP l w):=by
 subst hn;exact Zeb a c l w hl h
def Dw(l:Bl):Bool:=decide (l.length=244)&&decide (Zh l 0 4≤960)&&(List.range 960).all fun i=>decide (i<Zh l 0 4)||Zex l i==0
theorem Uf(l:Bl):Dw l=true↔Oh l:=by
 unfold Dw Oh
 simp only[Bool.and_eq_true,decide_eq_true_eq,List.all_eq_true,List.mem_range,Bool.or_eq_true,beq_iff_eq]
 constructor
 ·rintro⟨⟨h1,h2⟩,h3⟩
  exact⟨h1,h2,fun i hi hc=>(h3 i hi).resolve_left (by omega)⟩
 ·rintro⟨h1,h2,h3⟩
  exact⟨⟨h1,h2⟩,fun i hi=>by by_cases h:i<Zh l 0 4;exact .inl h;exact .inr (h3 i hi (by omega))⟩
def Xo(l:Bl)(no:Int):Int:=if inE l 3 no=0 then(if Dw (inB l no) then 0 else 7) else inE l 3 no
def Ad(l:Bl)(no:Int)(w:World)(e:Ending)(w':World):Prop :=
 (Xo l no≠0∧∃ b,e=.returned (.tuple #[S0,.iface 215 (P0 b)])∧B3 w w'∧Vz w' [some no] (some (Xo l no)) (.iface 215 (P0 b))) ∨
 (Xo l no=0∧∃ p c,e=.returned (.tuple #[.slice p (Zh (inB l no) 0 4) c,.nilIface])∧B3 w w'∧w'.ownsRow w.heap.size 3 1 (.slice p (Zh (inB l no) 0 4) c) (Zh (inB l no) 0 4) ((Me (inB l no) (Zh (inB l no) 0 4)).map nv))
theorem readB(B b:Nat)(p:O0)(n c:Nat)(l:Bl)(no:Int)(w:World)(hI:ImgR B b p n c l w) :
 C0 172 #[P0 b,V0 no,V0 3,.func (.func 173) #[] #[]] w (Ad l no w):=by
 refine zin 56 Tryz.func172 ?_
 refine xc 15 (args:=#[P0 b,V0 no]) (Ph B b p n c l no _ (hI.below (B4 w))) ?_
 rintro e W1 b8
 rcases b8 with ⟨ho,vr,rfl,a0⟩|⟨j,hk,hj,p2,c2,rfl,a0,ho⟩
 ·refine xc 21 (args:=#[V0 no,.iface 33 (V0 3)]) (Xk no 3 _) ?_
  rintro _ W2 ⟨_,rfl,b4,a7⟩
  rw[if_neg (by decide),if_neg (by decide)] at a7
  have b9:=a7
  obtain⟨c9,d3,rfl,_,_⟩:=b9
  have hB:=bln a0 b4
  refine xe 6 (.tuple #[S0,.iface 215 (P0 c9)]) ?_
  have he:Xo l no=3:=by unfold Xo;rw[Dl hI.len ho];rfl
  exact .inl ⟨by rw[he];decide,_,rfl,hB,by rw[he];exact a7⟩
 have b3:=Nat.le_refl w.heap.size
 have c6:j<l.length/256:=by rw[hI.len];exact hj
 have b2:=Qu c6
 have a3:=Ri (l:=l) (kind:=3) hI.len hk hj
 have a9:=Zd ho b3
 refine xc 22 (args:=#[.slice p2 256 c2,V0 3,V0 no]) (Tw 3 no p2 256 c2 (Kd l j) _ b2 (Yl (Ze a9) b2)) ?_
 rintro e W3 c5
 rcases c5 with ⟨hs,rfl,a2⟩|⟨hs,p3,c3,rfl,a2,h3⟩
 ·refine xk 14 (show(((Xz 3 no (Kd l j)) != (0:Int)):Bool)=true from bne_iff_ne.2 hs) ?_
  refine xc 6 (args:=#[V0 no,.iface 33 (V0 (Xz 3 no (Kd l j)))]) (Xk no (Xz 3 no (Kd l j)) _) ?_
  rintro _ W4 ⟨_,rfl,c8,b0⟩
  rw[if_neg hs,if_neg hs] at b0
  have c1:=b0
  obtain⟨c0,d2,rfl,_,_⟩:=c1
  have hB:=bln (bln a0 a2) c8
  refine xe 6 (.tuple #[S0,.iface 215 (P0 c0)]) ?_
  have he:Xo l no=Xz 3 no (Kd l j):=by unfold Xo;rw[a3,if_neg hs]
  exact .inl ⟨by rw[he];exact hs,_,rfl,hB,by rw[he];exact b0⟩
 have a1:=Zd h3 a0.size
 have b6:((Kd l j).drop 8).take 244=inB l no:=(Rd hk).symm
 have b1:=Sy hI.len hk hj
 rw[b6] at a1
 refine xc 21 (args:=#[.slice p3 244 c3]) (Zce p3 244 c3 (inB l no) _ b1 (by decide) (Yl (Ze a1) b1)) ?_
 rintro e W5 b5
 rcases b5 with ⟨a4,rfl,a6⟩|⟨a4,p4,c4,rfl,a6,h4⟩
 ·refine xc 21 (args:=#[V0 no,.iface 33 (V0 7)]) (Xk no 7 _) ?_
  rintro _ W6 ⟨_,rfl,d0,a5⟩
  rw[if_neg (by decide),if_neg (by decide)] at a5
  have c7:=a5
  obtain⟨b7,d4,rfl,_,_⟩:=c7
  have hB:=bln (bln (bln a0 a2) a6) d0
  refine xe 6 (.tuple #[S0,.iface 215 (P0 b7)]) ?_
  have he:Xo l no=7:=by unfold Xo;rw[a3,if_pos hs,if_neg (by rw[Uf];exact a4)]
  exact .inl ⟨by rw[he];decide,_,rfl,hB,by rw[he];exact a5⟩
 have d1:=(bln a0 a2).size
 have hB:=bln (bln a0 a2) a6
 have a8:=Zd h4 d1
 exact xe 25 (.tuple #[.slice p4 (Zh (inB l no) 0 4) c4,.nilIface]) (.inr ⟨by unfold Xo;rw[a3,if_pos hs,if_pos ((Uf _).2 a4)],_,_,rfl,hB,a8⟩)
theorem Za7(B b:Nat)(p:O0)(n c:Nat)(l:Bl)(no:Int)(w:World)(hI:ImgR B b p n c l w) :
 C0 120 #[P0 b,V0 no] w (Ad l no w):=by
 refine zin 11 Tryz.func120 ?_
 refine xc 10 (args:=#[P0 b,V0 no,V0 3,.func (.func 173) #[] #[]]) (readB B b p n c l no _ (hI.below (B4 w))) ?_
 rintro e W1 a2
 rcases a2 with ⟨he,bf,rfl,a0,hv⟩|⟨he,p4,c4,rfl,a0,h4⟩
 ·exact xe 7 (.tuple #[S0,.iface 215 (P0 bf)]) (.inl ⟨he,_,rfl,a0,hv⟩)
 have a3:=Nat.le_refl w.heap.size
 have a1:=Zd h4 a3
 exact xe 7 (.tuple #[.slice p4 (Zh (inB l no) 0 4) c4,.nilIface]) (.inr ⟨he,_,_,rfl,a0,a1⟩)
def Yb(K:List Int)(n:Nat)(i:Nat):Bl:=(List.range i).flatMap fun j=>if j<n then leB (K.getD j 0) 8 else List.replicate 8 0
theorem Yz(K:List Int)(n i:Nat):Yb K n (i+1)=Yb K n i++(if i<n then leB (K.getD i 0) 8 else List.replicate 8 0):=by
 unfold Yb;rw[List.range_succ,List.flatMap_append];simp
theorem Vo(K:List Int)(n i:Nat):(Yb K n i).length=i*8:=by
 induction i with
 | zero=>rfl
 | succ i ih=>rw[Yz,List.length_append,ih];split<;>simp[Zf]<;>omega
def Yq(Vs:List Bl)(i:Nat):Bl:=(List.range i).flatMap fun j=>Vs.getD j []
theorem Jq(Vs:List Bl)(i:Nat):Yq Vs (i+1)=Yq Vs i++Vs.getD i []:=by
 unfold Yq;rw[List.range_succ,List.flatMap_append];simp
theorem Hw{Vs:List Bl}{v:Nat}:∀ {i:Nat},(∀ j,j<i→(Vs.getD j []).length=v)→(Yq Vs i).length=i*v
 | 0,_=>by simp[Yq]
 | i+1,h=>by rw[Jq,List.length_append,Hw fun j hj=>h j (by omega),h i (by omega),Nat.add_mul,Nat.one_mul]
theorem Dp{P z Q x:Bl}{k:Nat}(hk:P.length=k)(hz:z.length=x.length):Qs (P++z++Q) k x=P++x++Q:=by
 unfold Qs
 subst hk
 rw[List.append_assoc P z Q,List.take_left' rfl,←hz]
 have e:P++(z++Q)=(P++z)++Q:=(List.append_assoc _ _ _).symm
 rw[e,List.drop_left' (by simp)]
theorem Vt(K:List Int)(i:Nat):∀ d,Yb K i (i+d)=Yb K i i++List.replicate (d*8) 0
 | 0=>by simp
 | d+1=>by
  rw[←Nat.add_assoc,Yz,Vt K i d,if_neg (by omega),List.append_assoc,List.replicate_append_replicate,Nat.add_mul,Nat.one_mul]
theorem Ws(K:List Int)(n:Nat):∀ i,i≤n→Yb K n i=Yb K i i
 | 0,_=>rfl
 | i+1,h=>by
  rw[Yz,Yz,if_pos (by omega),if_pos (by omega),Ws K n i (by omega),Ws K (i+1) i (by omega)]
theorem Dt(a b:Nat):List.replicate (a+b) (0:UInt8)=List.replicate a 0++List.replicate b 0:=List.replicate_append_replicate.symm
theorem Be{m v:Nat}{H:Bl}{K:List Int}{Vs:List Bl}(hH:H.length=12)(hf:12+m*8+m*v≤244):∀ {i:Nat},i≤m→(∀ j,j<i→(Vs.getD j []).length=v) →
  Kf m v H K Vs i=H++Yb K i m++Yq Vs i++List.replicate (232-m*8-i*v) 0
 | 0,_,_=>by
  have e1:=Vt K 0 m
  rw[Nat.zero_add] at e1
  rw[Kf,e1]
  have h1:(232-m*8-0*v)=232-m*8:=by omega
  rw[h1,show(244:Nat)=12+(m*8+(232-m*8)) by omega,Dt,Dt]
  have:=Dp (P:=[]) (z:=List.replicate 12 (0:UInt8)) (Q:=List.replicate (m*8) 0++List.replicate (232-m*8) 0) (x:=H) (k:=0) rfl (by simp[hH])
  rw[List.nil_append,List.nil_append] at this
  rw[this]
  simp[Yb,Yq]
 | i+1,hi,hV=>by
  have ih:=Be (K:=K) hH hf (i:=i) (by omega) (fun j hj=>hV j (by omega))
  have a4:=hV i (by omega)
  have h2:(i+1)*v≤m*v:=Nat.mul_le_mul_right v hi
  rw[Nat.add_mul,Nat.one_mul] at h2
  obtain⟨d,hd⟩:∃ d,m=i+(d+1):=⟨m-i-1,by omega⟩
  have ek:Yb K i m=Yb K i i++List.replicate 8 0++List.replicate (d*8) 0:=by
   rw[hd,Vt,show(d+1)*8=8+d*8 by omega,Dt,List.append_assoc]
  have a3:Yb K (i+1) m=Yb K i i++leB (K.getD i 0) 8++List.replicate (d*8) 0:=by
   rw[show m=(i+1)+d by omega,Vt,Yz,if_pos (by omega),Ws K (i+1) i (by omega)]
  have er:List.replicate (232-m*8-i*v) (0:UInt8)=List.replicate v 0++List.replicate (232-m*8-(i*v+v)) 0:=by
   rw[←Dt];congr 1;omega
  have a0:(Yq Vs i).length=i*v:=Hw fun j hj=>hV j (by omega)
  rw[Kf,ih,ek,er]
  have s1:=Dp (P:=H++Yb K i i) (z:=List.replicate 8 (0:UInt8)) (Q:=List.replicate (d*8) 0++(Yq Vs i++(List.replicate v 0++List.replicate (232-m*8-(i*v+v)) 0))) (x:=leB (K.getD i 0) 8) (k:=12+i*8) (by rw[List.length_append,hH,Vo]) (by simp[Zf])
  have a1:H++(Yb K i i++List.replicate 8 0++List.replicate (d*8) 0)++Yq Vs i++(List.replicate v 0++List.replicate (232-m*8-(i*v+v)) 0)=H++Yb K i i++List.replicate 8 0++(List.replicate (d*8) 0++(Yq Vs i++(List.replicate v 0++List.replicate (232-m*8-(i*v+v)) 0))):=by simp only[List.append_assoc]
  rw[a1,s1]
  have s2:=Dp (P:=H++Yb K (i+1) m++Yq Vs i) (z:=List.replicate v (0:UInt8)) (Q:=List.replicate (232-m*8-(i*v+v)) 0) (x:=Vs.getD i []) (k:=12+m*8+i*v) (by rw[List.length_append,List.length_append,hH,Vo,a0]) (by rw[List.length_replicate,a4])
  have a2:H++Yb K i i++leB (K.getD i 0) 8++(List.replicate (d*8) 0++(Yq Vs i++(List.replicate v 0++List.replicate (232-m*8-(i*v+v)) 0)))=H++Yb K (i+1) m++Yq Vs i++List.replicate v 0++List.replicate (232-m*8-(i*v+v)) 0:=by rw[a3];simp only[List.append_assoc]
  rw[a2,s2,Jq,Nat.add_mul,Nat.one_mul]
  simp only[List.append_assoc]
end Go.Proofs.YtgphgaehfdfjjaaGreatDoor
namespace Go.Proofs.YtgphgaehfdfjjaaGreatDoor
set_option maxHeartbeats 8000000
set_option maxRecDepth 100000
open Go.RowKit
set_option linter.unusedVariables false
def Nd(l:List Int):Prop:=∀ k,k<l.length→1≤k→l[k-1]?.getD 0<l[k]?.getD 0
instance (l:List Int):Decidable (Nd l):=by unfold Nd;infer_instance
theorem Nd.lt{l:List Int}(h:Nd l):∀ (j i:Nat),i<j→j<l.length→l[i]?.getD 0<l[j]?.getD 0:=by
 intro j
 induction j with
 | zero=>intro i h1;omega
 | succ j ih =>
  intro i h1 h2
  have h3:=h (j+1) h2 (by omega)
  simp only[Nat.add_sub_cancel] at h3
  by_cases hij:i=j
  ·subst hij;exact h3
  ·exact Int.lt_trans (ih i (by omega) (by omega)) h3
theorem Nd.one(l:List Int):Nd (l.take 1):=by
 intro k h1 h2;simp at h1;omega
theorem Nd.succ{l:List Int}{k:Nat}{x y:Int}(h:Nd (l.take k))(hx:l[k-1]? = some x)(hy:l[k]? = some y)(hxy:x<y):Nd (l.take (k+1)):=by
 intro j h1 h2
 have a0:j<k+1:=by simp at h1;omega
 rw[List.getElem?_take,List.getElem?_take,if_pos (by omega),if_pos a0]
 by_cases hj:j=k
 ·subst hj;rw[hx,hy];exact hxy
 ·have:=h j (by simp at h1 ⊢;omega) h2
  rw[List.getElem?_take,List.getElem?_take,if_pos (by omega),if_pos (by omega)] at this
  exact this
theorem Nd.all{l:List Int}{k:Nat}(h:Nd (l.take k))(hk:l.length≤k):Nd l:=by rwa [List.take_of_length_le hk] at h
end Go.Proofs.YtgphgaehfdfjjaaGreatDoor
namespace Go.Proofs.YtgphgaehfdfjjaaGreatDoor
set_option maxHeartbeats 8000000
set_option maxRecDepth 100000
open Go.RowKit
set_option linter.unusedVariables false
attribute [local go_sem] Oper.semAt_some
theorem Ui{n k:Nat}(h:k<n):(List.finRange n).take (k+1)=(List.finRange n).take k++[⟨k,h⟩]:=by
 rw[List.take_succ_eq_append_getElem (by simpa using h)];simp
theorem Fv(n:Nat):(List.finRange n).take n=List.finRange n:=List.take_of_length_le (by simp)
theorem Lk{n k:Nat}(h:k≤n):((List.finRange n).take k).length=k:=by simp[h]
end Go.Proofs.YtgphgaehfdfjjaaGreatDoor
namespace Go.Proofs.YtgphgaehfdfjjaaGreatDoor
set_option maxHeartbeats 8000000
set_option maxRecDepth 100000
open Go.RowKit Go.Extern.Stop Go.Stop Go.Extern
set_option linter.unusedVariables false
attribute [local irreducible] wpList wpAnyH Code.wp Oper.wp Go
attribute [local go_sem] Oper.semAt_some
theorem Upd.of_put(w:World)(D:Nat)(o:Obj):Upd w D (w.putObj D o):=⟨rfl,rfl,rfl,by simp[World.putObj],fun k hk=>World.putObj_heap_other hk⟩
def Dfr (D:Nat)(w:World):Prop:=w.heap[D]? = some (.deferred (some []))
theorem Dfr.below{D:Nat}{w W:World}(h:Dfr D w)(hb:B3 w W):Dfr D W:=(hb.block D (Array.getElem?_eq_some_iff.1 h).1).trans h
theorem Dfr.ne{D b:Nat}{w:World}{cs:List Value}{t:TypeId}(h:Dfr D w)(k:Blk w b cs t):b≠D:=by
 rintro rfl
 have h':w.heap[b]? = _:=h
 rw[show w.heap[b]? = _ from k] at h'
 cases h'
theorem Dfr.upd{D b:Nat}{w W:World}{cs:List Value}{t:TypeId}(h:Dfr D w)(u:Upd w b W)(k:Blk w b cs t):Dfr D W:=(u.block D fun e=>h.ne k e.symm).trans h
theorem Dfr.row{D:Nat}{w:World}{base e size n:Nat}{v:Value}{xs:List Value}(h:Dfr D w)(k:w.ownsRow base e size v n xs):∀ g,v.ownBlock=some g→g≠D:=by
 rintro g hg rfl
 rcases k.2 with ⟨rfl,_⟩|⟨g',a1,a0,rfl,_,hh,_⟩
 ·cases hg
 ·simp only[Value.ownBlock,Option.some.injEq] at hg
  subst hg
  rw[show w.heap[g']? = _ from h] at hh
  cases hh
theorem Dfr.grown{D:Nat}{w W:World}{base e size n:Nat}{v:Value}{xs:List Value}(h:Dfr D w)(hg:w.grownBy W v.ownBlock)(k:w.ownsRow base e size v n xs):Dfr D W :=
 (hg.block D (Array.getElem?_eq_some_iff.1 h).1 fun q=>h.row k D q.symm rfl).trans h
theorem g_endM{P:Program}{fn:Func}{R:Ending→World→Prop}{a:Act}{w:World}{D:Nat}(hK:Dfr D w)(v:Value)(hd:a.defers=[{ target:=.collected D,args:=#[] }])(hr:(results fn a.tmps).run P (w.putObj D (.deferred none))=.ok v (w.putObj D (.deferred none)))(h:R (.returned v) (w.putObj D (.deferred none))):bodyPostM Fence.wide 4 P fn R .normal a w :=
 by
 show LeavesInM _ _ _ _ a.tmps R a.defers .returning w
 rw[hd]
 exact⟨by simp,.inl ⟨_,_,rfl,run_takeDeferred hK,_,hr,h⟩⟩
def noPan(Q:Exit→Act→World→Prop):Exit→Act→World→Prop
 | .normal,a,w=>Q .normal a w
 | .ret,a,w=>Q .ret a w
 | _,_,_=>False
theorem g_nopan{P:Program}{c:Code}{Q:Exit→Act→World→Prop}{a:Act}{w:World}(h:c.wp P (noPan Q) a w):c.wp P Q a w:=wp_mono h fun e a w q=>by cases e<;>first|exact q|exact q.elim
theorem Lb{w:World}{base size n b:Nat}{e t:TypeId}{v:Value}{xs cs:List Value}(k:w.ownsRow base e size v n xs)(q:Blk w b cs t)(hne:e≠t):∀ g,v.ownBlock=some g→g≠b:=by
 rintro g hg rfl
 rcases k.2 with ⟨rfl,_⟩|⟨g',a1,a0,rfl,_,hh,_⟩
 ·cases hg
 ·simp only[Value.ownBlock,Option.some.injEq] at hg
  subst hg
  rw[show w.heap[g']? = _ from q] at hh
  simp only[Option.some.injEq,Obj.cells.injEq] at hh
  exact hne hh.2.1.symm
theorem Rh{w W:World}(h:B3 w W):KeepsOthers w W:=⟨h.size,fun b o hb _=>(h.block b (Array.getElem?_eq_some_iff.1 hb).1).trans hb⟩
theorem Zag{w W:World}{b:Nat}{cs:List Value}{t:TypeId}(u:Upd w b W)(k:Blk w b cs t):KeepsOthers w W:=⟨Nat.le_of_eq u.size.symm,fun d o hd ho=>(u.block d (by rintro rfl;rw[show w.heap[d]? = _ from k] at hd;cases hd;cases ho)).trans hd⟩
theorem BelowBut.own3{w W:World}{b base size n:Nat}{e:TypeId}{v:Value}{xs:List Value}(h:BelowBut w b W)(k:w.ownsRow base e size v n xs)(hs:∀ j,v.ownBlock=some j→j≠b):W.ownsRow base e size v n xs:=by
 obtain⟨h1,h2⟩:=k
 refine⟨h1,?_⟩
 rcases h2 with h2|⟨g,a1,a0,rfl,hg,hh,r⟩
 ·exact Or.inl h2
 ·exact Or.inr ⟨g,a1,a0,rfl,hg,by rw[h.block g (Array.getElem?_eq_some_iff.1 hh).1 (hs g rfl)];exact hh,r⟩
theorem Sv{β:Type}{w:World}{b B:Nat}(hB:w.heap.size≤B):OwnFrom B (fun(_:β) W=>BelowBut w b W):=fun _ W W' a1 hs hg hr =>
 ⟨hg.os.trans hs.os,hg.tape.trans hs.tape,hg.output.trans hs.output,Nat.le_trans hs.size hg.size,fun k hk a0=>(hg.block k (Nat.lt_of_lt_of_le hk hs.size) (fun e=>by have:=(hr k e.symm).1;omega)).trans (hs.block k hk a0)⟩
theorem Vz.turn{A B:World}{row:Option Nat}{l:List (Option Int)}{c:Option Int}{v:Value}(h:Vz A l c v)(hg:A.grownBy B row)(hr:∀ r,row=some r→∃ o:Obj,A.heap[r]? = some o∧o.isCells=false):Vz B l c v:=h.kept fun _ _ k=>k.turn hg hr
theorem Vz.one{w:World}{l:List (Option Int)}{c:Option Int}{v:Value}(h:Vz w l c v):v.oneCell'=true:=by
 rcases h.nil_or with ⟨_,rfl⟩|⟨_,t,x,rfl⟩<;>rfl
theorem Vz.iface{w:World}{l:List (Option Int)}{c:Int}{v:Value}(h:Vz w l (some c) v):∃ t x,v=.iface t x:=by
 rcases h.nil_or with ⟨q,_⟩|⟨_,q⟩
 ·simp[Pa] at q
 ·exact q
end Go.Proofs.YtgphgaehfdfjjaaGreatDoor
namespace Go.Proofs.YtgphgaehfdfjjaaGreatDoor
set_option maxHeartbeats 8000000
set_option maxRecDepth 100000
open Go.RowKit Go.Extern.Stop Go.Stop Go.Extern
set_option linter.unusedVariables false
def Pe(u v:Value):Prop:=∀ j,u.ownBlock=some j→v.ownBlock≠some j
theorem Pe.symm{u v:Value}(h:Pe u v):Pe v u:=fun j h1 h2=>h j h2 h1
theorem Pe.row{w W:World}{u v:Value}{base e size n:Nat}{xs:List Value}(h:Pe u v)(k:w.ownsRow base e size v n xs)(hg:w.grownBy W u.ownBlock):W.ownsRow base e size v n xs:=by
 obtain⟨h1,h2⟩:=k
 refine⟨h1,?_⟩
 rcases h2 with h2|⟨g,a1,a0,rfl,hb,hh,r⟩
 ·exact Or.inl h2
 ·exact Or.inr ⟨g,a1,a0,rfl,hb,(hg.block g (Array.getElem?_eq_some_iff.1 hh).1 (fun q=>h g q.symm rfl)).trans hh,r⟩
theorem Pe.of_lt{w W:World}{u v:Value}{base base2 e e2 size size2 n n2:Nat}{xs ys:List Value}(k:w.ownsRow base e size u n xs)(q:W.ownsRow base2 e2 size2 v n2 ys)(h:w.heap.size≤base2):Pe u v:=fun j h1 h2=>by
 have:=(k.lt j h1).2
 have:=(q.lt j h2).1
 omega
theorem Pe.nil(v:Value):Pe (S0) v:=fun j h=>by cases h
structure WS where
 es:List Ent
 bs:List Int
 deep:Int
 looked:Nat
 fs:List (List Int×Int)
 dry:Bool
def Wo(l:Bl)(no:Int):List Bl:=Ho (inB l no) (Xb (inB l no))
end Go.Proofs.YtgphgaehfdfjjaaGreatDoor
namespace Go.Proofs.YtgphgaehfdfjjaaGreatDoor
set_option maxHeartbeats 8000000
set_option maxRecDepth 100000
open Go.RowKit Go.Extern.Stop Go.Stop Go.Extern
set_option linter.unusedVariables false
attribute [local irreducible] wpList wpAnyH Code.wp Oper.wp Go
theorem widG_24(t:Int)(b:Bool):widG t b≤24:=by
 unfold widG Lp
 repeat' split
 all_goals omega
theorem Rw(l:Bl)(n i:Nat):((Ho l n).getD i []).length≤1000:=by
 by_cases h:i<n
 ·rw[Er l h]
  unfold Zbv
  rw[List.length_take]
  have:=widG_24 (Yx l) (Qf l)
  unfold Yu
  omega
 ·simp[List.getD,List.getElem?_eq_none (show(Ho l n).length≤i by rw[Ku];omega)]
theorem Nc(p:O0)(n c n2 c2:Nat):(Value.slice p n c).ownBlock=(Value.slice p n2 c2).ownBlock:=by
 cases p<;>rfl
theorem Pe.len{p q:O0}{n c m d:Nat}(h:Pe (.slice p n c) (.slice q m d))(n2 c2 m2 d2:Nat):Pe (.slice p n2 c2) (.slice q m2 d2):=fun j h1 h2 =>
 h j ((Nc _ _ _ _ _).trans h1) ((Nc _ _ _ _ _).trans h2)
end Go.Proofs.YtgphgaehfdfjjaaGreatDoor
namespace Go.Proofs.YtgphgaehfdfjjaaGreatDoor
set_option maxHeartbeats 8000000
set_option maxRecDepth 100000
open Go.RowKit Go.Extern.Stop Go.Stop Go.Extern
set_option linter.unusedVariables false
theorem maxG_18(t:Int)(b:Bool):Zfw t b≤18:=by
 unfold Zfw Yy
 repeat' split
 all_goals omega
theorem Tx{l:Bl}(h:Vd l=0):Nu l=true:=by
 unfold Vd at h
 split at h
 ·assumption
 ·cases h
theorem Mz{l:Bl}{tree:Int}(h:Yh l tree=0):Vd l=0:=by
 unfold Yh at h
 split at h
 ·assumption
 ·assumption
theorem Bn{l:Bl}{no tree:Int}(h:Xa l no tree=0):inE l 2 no=0∧Yh (inB l no) tree=0:=by
 unfold Xa at h
 split at h
 ·exact⟨by assumption,h⟩
 ·rename_i q;exact absurd h q
end Go.Proofs.YtgphgaehfdfjjaaGreatDoor
namespace Go.Proofs.YtgphgaehfdfjjaaGreatDoor
set_option maxHeartbeats 8000000
set_option maxRecDepth 100000
open Go.RowKit Go.Extern.Stop Go.Stop Go.Extern
set_option linter.unusedVariables false
attribute [local irreducible] wpList wpAnyH Code.wp Oper.wp Go
theorem Ia(L:List Int):∀ u∈L.map V0,u.oneCell'=true:=by intro u hu;obtain⟨x,_,rfl⟩:=List.mem_map.1 hu;rfl
def bitI(l:Bl)(n:Nat):List Int:=(Me l n).map fun x:Nat=>(x:Int)
theorem Ae(l:Bl)(n:Nat):(bitI l n).length=n:=by simp[bitI,Me]
structure Sup where
 tx:Int
 time:Int
 unit:Int
 data:Int
 blocks:Int
 top:Int
 details:Int
 dslots:Int
 dover:Int
 mindex:Int
 mover:Int
def supC(s:Sup):List Value:=[V0 s.tx,V0 s.time,V0 s.unit,V0 s.data,V0 s.blocks,V0 s.top,V0 s.details,V0 s.dslots,V0 s.dover,V0 s.mindex,V0 s.mover]
def Qj(s:Sup):Bool:=(((((((((((true&&decide ((0:Int)≤s.tx∧s.tx≤2147483647))&&decide ((0:Int)≤s.time∧s.time≤16777215))&&decide ((1:Int)≤s.unit∧s.unit≤65536))&&decide ((0:Int)≤s.data∧s.data≤65536))&&decide ((2:Int)≤s.blocks∧s.blocks≤14400))&&decide ((1:Int)≤s.top∧s.top≤(s.blocks-1)))&&decide ((1:Int)≤s.details∧s.details≤(s.blocks-1)))&&decide ((1:Int)≤s.dslots∧s.dslots≤(s.blocks-1)))&&decide ((1:Int)≤s.dover∧s.dover≤(s.blocks-1)))&&decide ((1:Int)≤s.mindex∧s.mindex≤(s.blocks-1)))&&decide ((1:Int)≤s.mover∧s.mover≤(s.blocks-1)))
theorem Xv(B bs bo off:Nat)(cs:List Value)(n lo hi:Int)(b:Bool)(w:World)(hBw:B≤w.heap.size)(hBo:B≤bo)(ks:Blk w bs cs 24)(hn:cs[off]? = some (V0 n))(ko:Blk w bo [.bool b] 4) :
 C0 33 #[.pointer (some ⟨bs,off,none⟩),V0 lo,V0 hi,P0 bo] w ((fun e w'=>∃ u,e=.returned u∧Below B w w'∧Zg [4] w w'∧Blk w' bo [.bool (b&&decide ((lo:Int)≤n∧n≤hi))] 4)):=by
 refine zin 22 Tryz.func33 ?_
 refine xb 1 0 ko ?_
 refine xg 1 [7,8] b (fun a1=>?_) (fun a1=>?_)
 ·refine xl 2 (ks.cell (i:=off) hn) ?_
  refine xg 4 [13,14,15] (decide (n≥lo)) (fun a0=>?_) (fun a0=>?_)
  ·have a0:=of_decide_eq_true a0
   refine xl 2 (ks.cell (i:=off) hn) ?_
   refine xs 3 ko [.bool (decide (n≤hi))] fun W3 u3 k3=>?_
   have hB:=u3.below (Below.refl B w) hBo
   have hO:=(show Zg [4] w _ from(Zg.of_upd u3 ko (by decide)))
   exact xe 1 (.tuple #[]) ⟨_,rfl,hB,hO,by rw[show(b&&decide ((lo:Int)≤n∧n≤hi))=decide (n≤hi) from by first|(rw[show decide ((lo:Int)≤n∧n≤hi)=false from decide_eq_false (by omega),Bool.and_false];done)|(simp_all;done)|(simp_all;omega)];exact k3⟩
  have a0:=of_decide_eq_false a0
  refine xs 6 ko [.bool false] fun W4 u4 k4=>?_
  have hB:=u4.below (Below.refl B w) hBo
  have hO:=(show Zg [4] w _ from(Zg.of_upd u4 ko (by decide)))
  exact xe 1 (.tuple #[]) ⟨_,rfl,hB,hO,by rw[show(b&&decide ((lo:Int)≤n∧n≤hi))=false from by first|(rw[show decide ((lo:Int)≤n∧n≤hi)=false from decide_eq_false (by omega),Bool.and_false];done)|(simp_all;done)|(simp_all;omega)];exact k4⟩
 refine xs 13 ko [.bool false] fun W5 u5 k5=>?_
 have hB:=u5.below (Below.refl B w) hBo
 have hO:=(show Zg [4] w _ from(Zg.of_upd u5 ko (by decide)))
 exact xe 1 (.tuple #[]) ⟨_,rfl,hB,hO,by rw[show(b&&decide ((lo:Int)≤n∧n≤hi))=false from by first|(rw[show decide ((lo:Int)≤n∧n≤hi)=false from decide_eq_false (by omega),Bool.and_false];done)|(simp_all;done)|(simp_all;omega)];exact k5⟩
theorem Zbl(a b:O0)(ca cb:Nat)(l:List Int)(w:World)(ha:Ints w (.slice a l.length ca) l)(hb:Ints w (.slice b l.length cb) l) :
 C0 25 #[.slice a l.length ca,.slice b l.length cb] w (Ret (.bool true) w):=by
 have a5:=Sl.len ha
 refine zin 26 Tryz.func25 ?_
 refine xk 15 (show(((l.length:Int) != (l.length:Int)):Bool)=false from by simp) ?_
 have hB:=Below.refl w.heap.size w
 refine zl 9 26 (fun zm a3 V=>∃ (i:Nat),a3=[(0,.slice a l.length ca),(1,.slice b l.length cb),(5,V0 (i:Int))]∧zm=l.length-((i:Int)).toNat∧B3 w V∧i≤l.length) ⟨0,rfl,rfl,hB,Nat.zero_le _⟩ ?_
 rintro _ _ W1 ⟨i,rfl,rfl,a1,hi⟩ J1 a2 r1
 refine xid 9 ((i:Int)<(l.length:Int)) (fun a4=>?_) (fun a4=>?_)
 ·refine xd 5 .z ?_
  refine xx (.e [0,1] 2) _ l.length i 1 (Ints.elem ha (k:=i) (by omega)).1 ?_
  have a0:=bln a1 (Za W1)
  refine xl (.e [] 3) ((Ints.elem (ha.below a0) (k:=i) (by omega)).2) ?_
  refine xx (.e [4,5] 6) _ l.length i 1 (Ints.elem hb (k:=i) (by omega)).1 ?_
  refine xl (.e [] 7) ((Ints.elem (hb.below a0) (k:=i) (by omega)).2) ?_
  refine xk (.r [8] 2) (show(((l.getD i 0) != (l.getD i 0)):Bool)=false from by simp) ?_
  refine xwm 5 ((i:Int)+1) (↑(i+1):Int) ?_
  exact ze 2 (a2 _ _ _ ⟨i+1,rfl,rfl,a0,by omega⟩ (by omega))
 exact xe 11 (.bool true) ⟨rfl,a1⟩
theorem ImgR.mono{B B' b:Nat}{p:O0}{n c:Nat}{l:Bl}{w:World}(h:ImgR B b p n c l w)(hB:B'≤B):ImgR B' b p n c l w:=⟨h.blk,Zd h.row hB,h.hn⟩
theorem Zfv(a:O0)(c n m:Nat)(l:Bl)(w:World)(hn:l.length=n)(hm:min (n/256) 14400*256=m)(h:Bys w (.slice a n c) l)(hl:n≤100000000)(hc:n≤c) :
 C0 6 #[.slice a n c] w (Qi (fun w' r=>∃ b p c2,r=P0 b∧w.heap.size≤b∧ImgR w.heap.size b p m c2 (l.take m) w') w):=by
 subst hn hm
 refine(Ap a c l w h hl hc).mono ?_
 rintro e W ⟨_,rfl,hb,b,p,c2,rfl,h1,h2,h3⟩
 exact⟨_,rfl,hb,b,p,c2,rfl,h1,h2,h3,by omega⟩
def bitR(l:Bl)(no:Int):List Int:=if Xo l no=0 then bitI (inB l no) (Zh (inB l no) 0 4) else []
def Eo(l:Bl)(no:Int):List (Nat×Nat×Nat):=if Xx l no=0 then Pc (inB l no) (Zh (inB l no) 0 4) else []
theorem Th{l:Bl}{no:Int}(h:Xo l no=0):bitR l no=bitI (inB l no) (Zh (inB l no) 0 4)∧(bitR l no).length=Zh (inB l no) 0 4:=by unfold bitR;rw[if_pos h];exact⟨rfl,Ae _ _⟩
theorem Wu{l:Bl}{no:Int}(h:Xx l no=0):Eo l no=Pc (inB l no) (Zh (inB l no) 0 4)∧(Eo l no).length=Zh (inB l no) 0 4:=by unfold Eo;rw[if_pos h];exact⟨rfl,Fp _ _⟩
theorem idxR_bad{l:Bl}{no:Int}(h:Xx l no≠0):Eo l no=[]:=if_neg h
theorem bitI_map(l:Bl)(n:Nat):(bitI l n).map V0=(Me l n).map nv:=by simp[bitI,nv]
end Go.Proofs.YtgphgaehfdfjjaaGreatDoor
namespace Go.Proofs.YtgphgaehfdfjjaaGreatDoor
set_option maxHeartbeats 8000000
set_option maxRecDepth 100000
set_option linter.unusedVariables false
abbrev Rx:=Int×Int×Int
abbrev Cx:=List Nat×List Int×Int
def valX(no t:Int)(leaf:Bool)(v:Bl):Rx :=
 if leaf=true∧t=4 then(if Yd Xi v≠0 then(no,7,Yd Xi v) else(((Yp Xi v).getD 0 0:Nat),7,0))
 else if Vv v≠0 then(no,(if leaf then 2 else t),Vv v) else((Wh v:Int),(if leaf then 2 else t),0)
def Rf(t:Int)(leaf:Bool):Prop:=leaf=true∧t≠1∧t≠4
instance (t:Int) (leaf:Bool):Decidable (Rf t leaf):=inferInstanceAs (Decidable (_∧_∧_))
def Us(l:Bl)(no ak:Int):Int:=if ak=6 then Xx l no else if ak=7 then Xo l no else Xa l no ak
def Zad(l:Bl)(no:Int):List Rx:=if Rf (Yx (inB l no)) (Qf (inB l no)) then [] else(Wo l no).map (valX no (Yx (inB l no)) (Qf (inB l no)))
def Jy(s:Nat×Nat×Nat):Rx:=((s.1:Int),7,0)
def Lq(l:Bl)(no ak:Int):List Rx:=if ak=6 then(Eo l no).map Jy else if ak=7 then [] else Zad l no
def Qc(f:List Nat→Rx→Cx):List Nat→List Rx→Cx
 | cs,[]=>(cs,[],0)
 | cs,x::r=>if(f cs x).2.2≠0 then f cs x else Qc f (f cs x).1 r
def Vf(cs:List Nat)(k:Int):List Nat:=cs.set k.toNat (cs.getD k.toNat 0+1)
def Zp(l:Bl):Nat→List Nat→Rx→Cx
 | 0,cs,x=>(cs,[],0)
 | d+1,cs,x =>
  if x.2.2≠0 then(cs,[x.1],x.2.2)
  else if ¬ (0≤x.1∧x.1<cs.length) then(cs,[x.1],3)
  else if cs.getD x.1.toNat 0≠0 then(Vf cs x.1,[],0)
  else if Us l x.1 x.2.1≠0 then(Vf cs x.1,[x.1],Us l x.1 x.2.1)
  else Qc (Zp l d) (Vf cs x.1) (Lq l x.1 x.2.1)
def zer (cs:List Nat):Nat:=cs.count 0
def phi (cs:List Nat):Nat:=cs.sum+2001*zer cs
theorem Vi(cs:List Nat)(k:Int):(Vf cs k).length=cs.length:=by simp[Vf]
theorem sum_set{cs:List Nat}{k:Nat}(h:k<cs.length)(v:Nat):(cs.set k v).sum+cs.getD k 0=cs.sum+v:=by
 induction cs generalizing k with
 | nil=>exact absurd h (by simp)
 | cons a cs ih =>
  cases k with
  | zero=>simp[List.getD];omega
  | succ k =>
   have:=ih (k:=k) (by simpa using h)
   simp only[List.set_cons_succ,List.sum_cons,List.getD_cons_succ]
   omega
theorem zer_set{cs:List Nat}{k:Nat}(h:k<cs.length){v:Nat}(hv:v≠0):zer (cs.set k v)+(if cs.getD k 0=0 then 1 else 0)=zer cs:=by
 unfold zer
 induction cs generalizing k with
 | nil=>exact absurd h (by simp)
 | cons a cs ih =>
  cases k with
  | zero =>
   simp only[List.set_cons_zero,List.count_cons,List.getD_cons_zero]
   have:(v==0)=false:=by simpa using hv
   rw[this]
   by_cases e:a=0<;>simp[e]
  | succ k =>
   have:=ih (k:=k) (by simpa using h)
   simp only[List.set_cons_succ,List.count_cons,List.getD_cons_succ]
   omega
theorem Jt{cs:List Nat}{k:Int}(h0:0≤k)(h:k<cs.length):zer (Vf cs k)+(if cs.getD k.toNat 0=0 then 1 else 0)=zer cs:=zer_set (by omega) (by omega)
theorem Uq{cs:List Nat}{k:Int}(h0:0≤k)(h:k<cs.length):(Vf cs k).sum=cs.sum+1:=by
 have:=sum_set (cs:=cs) (k:=k.toNat) (by omega) (cs.getD k.toNat 0+1)
 unfold Vf;omega
theorem getD_sum(cs:List Nat)(k:Nat):cs.getD k 0≤cs.sum:=by
 induction cs generalizing k with
 | nil=>simp
 | cons a cs ih =>
  cases k with
  | zero=>simp[List.getD]
  | succ k=>have:=ih k;simp only[List.getD_cons_succ,List.sum_cons];omega
theorem getD_phi(cs:List Nat)(k:Nat):cs.getD k 0≤phi cs:=Nat.le_trans (getD_sum cs k) (Nat.le_add_right _ _)
theorem Xq(f:List Nat→Rx→Cx)(cs:List Nat)(x:Rx)(r:List Rx):Qc f cs (x::r)=if(f cs x).2.2≠0 then f cs x else Qc f (f cs x).1 r:=rfl
theorem Km(f:List Nat→Rx→Cx):∀ (A B:List Rx) (cs:List Nat),Qc f cs (A++B)=if(Qc f cs A).2.2≠0 then Qc f cs A else Qc f (Qc f cs A).1 B
 | [],B,cs=>by simp[Qc]
 | x::A,B,cs=>by
  rw[List.cons_append,Xq,Xq]
  by_cases h:(f cs x).2.2≠0
  ·rw[if_pos h,if_pos h,if_pos h]
  ·rw[if_neg h,if_neg h]
   exact Km f A B _
structure Well(cs:List Nat)(n:Nat)(o:Cx):Prop where
 len:o.1.length=cs.length
 zer:zer o.1≤zer cs
 phi:phi o.1≤phi cs+n
theorem Well.refl(cs:List Nat)(n:Nat)(b:List Int)(e:Int):Well cs n (cs,b,e):=⟨rfl,Nat.le_refl _,Nat.le_add_right _ _⟩
theorem Well.mono{cs:List Nat}{n m:Nat}{o:Cx}(h:Well cs n o)(hm:n≤m):Well cs m o:=⟨h.len,h.zer,by have:=h.phi;omega⟩
theorem Well.trans{cs:List Nat}{n m:Nat}{o o2:Cx}(h:Well cs n o)(k:Well o.1 m o2):Well cs (n+m) o2:=⟨k.len.trans h.len,Nat.le_trans k.zer h.zer,by have:=h.phi;have:=k.phi;omega⟩
theorem Hr{f:List Nat→Rx→Cx}(hf:∀ cs x,Well cs 1 (f cs x)):∀ (L:List Rx) (cs:List Nat),Well cs L.length (Qc f cs L)
 | [],cs=>Well.refl cs _ _ _
 | x::r,cs=>by
  rw[Xq]
  split
  ·exact(hf cs x).mono (by simp)
  ·have:=(hf cs x).trans (Hr hf r (f cs x).1)
   exact this.mono (by simp;omega)
theorem maxC(l:Bl)(no ak:Int)(h:Xa l no ak=0):Xb (inB l no)≤18:=Nat.le_trans (La (Tx (Mz (Bn h).2))) (maxG_18 _ _)
theorem Ij(l:Bl)(no:Int):(Eo l no).length≤255:=by
 by_cases h:Xx l no=0
 ·rw[(Wu h).2]
  unfold Xx at h
  by_cases h1:inE l 4 no=0
  ·rw[if_pos h1] at h
   unfold Dj at h
   by_cases h2:Ea (inB l no)=true
   ·have h3:(decide (Zh (inB l no) 0 4≤15)&&_)=true:=h2
    rw[Bool.and_eq_true] at h3
    have:=of_decide_eq_true h3.1
    omega
   ·rw[if_neg h2] at h;omega
  ·rw[if_neg h1] at h;exact absurd h h1
 ·rw[idxR_bad h];exact Nat.zero_le _
theorem De{l:Bl}{no ak:Int}(h:Us l no ak=0):(Lq l no ak).length≤1000:=by
 unfold Us at h;unfold Lq
 split
 ·rw[List.length_map];have:=Ij l no;omega
 ·rename_i h6
  rw[if_neg h6] at h
  split
  ·exact Nat.zero_le _
  ·rename_i h7
   rw[if_neg h7] at h
   unfold Zad
   split
   ·exact Nat.zero_le _
   ·rw[List.length_map]
    have:=maxC l no ak h
    unfold Wo;rw[Ku];omega
theorem Vu(l:Bl):∀ (d:Nat) (cs:List Nat) (x:Rx),Well cs 1 (Zp l d cs x)
 | 0,cs,x=>Well.refl cs _ _ _
 | d+1,cs,x=>by
  unfold Zp
  split
  ·exact Well.refl cs _ _ _
  ·split
   ·exact Well.refl cs _ _ _
   ·rename_i h1 h2
    have h2:0≤x.1∧x.1<cs.length:=Classical.not_not.1 h2
    have hz:=Jt h2.1 h2.2
    have hs:=Uq h2.1 h2.2
    have hb:Well cs 1 (Vf cs x.1,([]:List Int),0):=⟨Vi _ _,by show zer (Vf cs x.1)≤_;omega,by show phi (Vf cs x.1)≤_;unfold phi;omega⟩
    split
    ·exact hb
    ·rename_i h3
     split
     ·exact⟨hb.len,hb.zer,hb.phi⟩
     ·rename_i h4
      have hw:=Hr (Vu l d) (Lq l x.1 x.2.1) (Vf cs x.1)
      have hf:=De (Classical.not_not.1 h4)
      rw[if_pos (Classical.not_not.1 h3)] at hz
      refine⟨hw.len.trans (Vi _ _),Nat.le_trans hw.zer hb.zer,?_⟩
      have:=hw.phi
      unfold phi at this ⊢
      omega
theorem Ue{f g:List Nat→Rx→Cx}{n:Nat}(hf:∀ cs x,Well cs 1 (f cs x))(h:∀ cs x,zer cs≤n→f cs x=g cs x):∀ (L:List Rx) (cs:List Nat),zer cs≤n→Qc f cs L=Qc g cs L
 | [],cs,_=>rfl
 | x::r,cs,hn=>by
  rw[Xq,Xq,h cs x hn]
  split
  ·rfl
  ·have:=(hf cs x).zer
   rw[h cs x hn] at this
   exact Ue hf h r _ (Nat.le_trans this hn)
theorem Lh(l:Bl):∀ (d d':Nat) (cs:List Nat) (x:Rx),zer cs<d→zer cs<d'→Zp l d cs x=Zp l d' cs x
 | 0,_,_,_,h,_=>absurd h (by omega)
 | _+1,0,_,_,_,h=>absurd h (by omega)
 | d+1,d'+1,cs,x,h,h'=>by
  unfold Zp
  by_cases h1:x.2.2≠0
  ·rw[if_pos h1,if_pos h1]
  ·rw[if_neg h1,if_neg h1]
   by_cases h2:¬ (0≤x.1∧x.1<cs.length)
   ·rw[if_pos h2,if_pos h2]
   ·rw[if_neg h2,if_neg h2]
    by_cases h3:cs.getD x.1.toNat 0≠0
    ·rw[if_pos h3,if_pos h3]
    ·rw[if_neg h3,if_neg h3]
     by_cases h4:Us l x.1 x.2.1≠0
     ·rw[if_pos h4,if_pos h4]
     ·rw[if_neg h4,if_neg h4]
      have a0:=Classical.not_not.1 h2
      have hz:=Jt a0.1 a0.2
      rw[if_pos (Classical.not_not.1 h3)] at hz
      exact Ue (n:=zer (Vf cs x.1)) (Vu l d) (fun a1 x' hn=>Lh l d d' a1 x' (by omega) (by omega)) _ _ (Nat.le_refl _)
def Ya(l:Bl)(cs:List Nat)(L:List Rx):Cx:=Qc (Zp l (cs.length+1)) cs L
theorem zer_le(cs:List Nat):zer cs≤cs.length:=List.count_le_length
theorem Br(l:Bl)(cs:List Nat):Ya l cs []=(cs,[],0):=rfl
theorem Cd{l:Bl}{cs:List Nat}{x:Rx}{r:List Rx}(h:x.2.2≠0):Ya l cs (x::r)=(cs,[x.1],x.2.2):=by
 have e:Zp l (cs.length+1) cs x=(cs,[x.1],x.2.2):=if_pos h
 unfold Ya;rw[Xq,e,if_pos h]
theorem Bp{l:Bl}{cs:List Nat}{x:Rx}{r:List Rx}(h:x.2.2=0)(h2:¬ (0≤x.1∧x.1<cs.length)):Ya l cs (x::r)=(cs,[x.1],3):=by
 have e:Zp l (cs.length+1) cs x=(cs,[x.1],3):=by unfold Zp;rw[if_neg (fun q=>q h),if_pos h2]
 unfold Ya;rw[Xq,e,if_pos (show(3:Int)≠0 by decide)]
theorem Mi{l:Bl}{cs:List Nat}{x:Rx}{r:List Rx}(h:x.2.2=0)(h2:0≤x.1∧x.1<cs.length)(h3:cs.getD x.1.toNat 0≠0):Ya l cs (x::r)=Ya l (Vf cs x.1) r:=by
 have e:Zp l (cs.length+1) cs x=(Vf cs x.1,[],0):=by unfold Zp;rw[if_neg (fun q=>q h),if_neg (fun q=>q h2),if_pos h3]
 unfold Ya;rw[Xq,e,if_neg (by simp),Vi]
theorem Cl{l:Bl}{cs:List Nat}{x:Rx}{r:List Rx}(h:x.2.2=0)(h2:0≤x.1∧x.1<cs.length)(h3:cs.getD x.1.toNat 0=0)(h4:Us l x.1 x.2.1≠0):Ya l cs (x::r)=(Vf cs x.1,[x.1],Us l x.1 x.2.1):=by
 have e:Zp l (cs.length+1) cs x=(Vf cs x.1,[x.1],Us l x.1 x.2.1):=by unfold Zp;rw[if_neg (fun q=>q h),if_neg (fun q=>q h2),if_neg (fun q=>q h3),if_pos h4]
 unfold Ya;rw[Xq,e,if_pos h4]
theorem Hl{l:Bl}{cs:List Nat}{x:Rx}{r:List Rx}(h:x.2.2=0)(h2:0≤x.1∧x.1<cs.length)(h3:cs.getD x.1.toNat 0=0)(h4:Us l x.1 x.2.1=0):Ya l cs (x::r)=Ya l (Vf cs x.1) (Lq l x.1 x.2.1++r):=by
 have hz:=Jt h2.1 h2.2
 rw[if_pos h3] at hz
 have a1:=zer_le cs
 have e:Zp l (cs.length+1) cs x=Qc (Zp l (cs.length+1)) (Vf cs x.1) (Lq l x.1 x.2.1):=by
  conv=>lhs;unfold Zp
  rw[if_neg (fun q=>q h),if_neg (fun q=>q h2),if_neg (fun q=>q h3),if_neg (fun q=>q h4)]
  exact Ue (n:=zer (Vf cs x.1)) (Vu l _) (fun a0 x' hn=>Lh l _ _ a0 x' (by omega) (by omega)) _ _ (Nat.le_refl _)
 unfold Ya
 rw[Xq,e,Vi,Km]
end Go.Proofs.YtgphgaehfdfjjaaGreatDoor
namespace Go.Proofs.YtgphgaehfdfjjaaGreatDoor
set_option maxHeartbeats 8000000
set_option maxRecDepth 100000
open Go.RowKit Go.Extern.Stop Go.Stop Go.Extern
set_option linter.unusedVariables false
attribute [local irreducible] wpList wpAnyH Code.wp Oper.wp Go
theorem Sx(l:List Int)(c:Int):Ez (l.map some) (some c)=c:=by simp[Ez,Pa]
def eL (S:WS):List (Option Int):=if S.fs=[] then [] else(S.fs.getD 0 ([],0)).1.map some
def eT (S:WS):Option Int:=if S.fs=[] then none else some (S.fs.getD 0 ([],0)).2
theorem Si(w:World) :
 C0 162 #[] w (Qi (fun w' r=>∃ b,r=.slice (S1 b) 1 1∧w.heap.size≤b∧Blk w' b [V0 4,V0 3,V0 2147483647] 270) w):=by
 refine zin 3 Tryz.func162 ?_
 refine xbs 8 1 [V0 4,V0 3,V0 2147483647] 270 fun b1 W1 n1=>?_
 have g1:=n1.ge (B4 w)
 exact xe 4 (.slice (S1 b1) 1 1) ⟨_,rfl,n1.below,_,rfl,g1,n1.blk⟩
theorem Ml(gl gn:Nat)(n:Int)(h1:3≤n)(h2:n≤2147483647)(w:World)(hl:Blk w gl [V0 4,V0 3,V0 2147483647] 270)(hn:Blk w gn [V0 n] 3) :
 C0 87 #[.slice (S1 gl) 1 1,.slice (S1 gn) 1 1] w (Ret (.string ⟨(leB n 4).toArray⟩) w):=by
 refine zin 51 Tryz.func87 ?_
 refine xu 19 2 ?_
 refine xlv 15 hl.rp ?_
 refine xa 0 [V0 0,V0 0,V0 0] 270 fun b1 W1 n1=>?_
 have a7:=n1.ne hl
 refine xsv 1 n1.blk [V0 4,V0 3,V0 2147483647] fun W2 u2 k2=>?_
 have g1:=n1.ge (B4 w)
 refine xd 4 .z ?_
 have a1:=(u2.blkT (hn.below n1.below) n1.blk (by decide)).below (Za W2)
 refine xb (.e [0,1,2] 3) 0 a1 ?_
 have a0:=k2.below (Za W2)
 refine xb (.e [4] 5) 1 a0 ?_
 refine xgk (.b [6,7]) [23,24] (show(decide (n<(3:Int)):Bool)=false from decide_eq_false (by omega)) ?_
 refine xb (.e [8,9,10] 11) 0 a1 ?_
 refine xb (.e [12] 13) 2 a0 ?_
 refine xk (.r [14,15] 2) (show(decide (n>(2147483647:Int)):Bool)=false from decide_eq_false (by omega)) ?_
 refine xd 3 .z ?_
 have a5:=a0.below (Za W2.drew)
 refine xb (.e [0] 1) 0 a5 ?_
 have a4:=a1.below (Za W2.drew)
 refine xb (.e [2,3,4] 5) 0 a4 ?_
 refine xbs (.o [6] 7) 1 [V0 4,V0 n] 229 fun b4 W4 n4=>?_
 refine yc (.o [] 8) (args:=#[.slice (S1 b4) 1 1]) .z (Px b4 n (by omega) (by omega) _ n4.blk) ?_
 rintro _ W5 ⟨_,rfl,a8,b0,b2,rfl,a6⟩
 have a9:=(bln (bln (bln (u2.below n1.below g1) (Za W2)) (Za W2.drew)) n4.below).size
 refine⟨a8,?_⟩
 have o6:=World.ownsRow_nil W5 w.heap.size 5 1
 have a2:=Zd a6 a9
 have hB:=bln (bln (bln (bln (u2.below n1.below g1) (Za W2)) (Za W2.drew)) n4.below) a8
 refine xbi (.r [9,10,11,12,13] 5) fun _ _ _ _ zJ zQ zo zx zy zK=>Zx (m:=4) (news:=(leB n 4).map bv) (.int .u8 0) 1 1 (4) ((leB n 4).map bv) zo Tryz.underlying22 (by kernel_rfl) rfl (by decide) zx o6 zy (Ze a2) (by simp[Zf]) (Yj _) (by unfold maxLen;omega) (by omega) hB.size (by rfl) (by simp) fun b5 b6 W7 o7 b7 b3=>?_
 refine zK _ _ ?_
 refine xcv0 24 (fun _ _ _ zo zx=>Jf zo zx (Yl (Ze o7) (by simp[Zf])) (by simp[Zf]) Tryz.underlying22 Tryz.underlying5 Tryz.underlying9) ?_
 have a3:=hB.trans b3
 exact xe 4 (.string ⟨(leB n 4).toArray⟩) ⟨rfl,a3⟩
theorem Se(n:Int)(h1:3≤n)(h2:n≤2147483647)(w:World) :
 C0 109 #[V0 n] w (Ret (.string ⟨(leB n 4).toArray⟩) w):=by
 refine zin 7 Tryz.func109 ?_
 refine xc 7 (args:=#[]) (Si _) ?_
 rintro _ W1 ⟨_,rfl,a1,gl,rfl,gg,kl⟩
 refine xbs 1 1 [V0 n] 3 fun b2 W2 n2=>?_
 have a0:=kl.below n2.below
 refine xr 0 (args:=#[.slice (S1 gl) 1 1,.slice (S1 b2) 1 1]) (Ml gl b2 n h1 h2 _ a0 n2.blk) fun W3 a2=>?_
 have hB:=bln (bln a1 n2.below) a2
 exact xe 4 (.string ⟨(leB n 4).toArray⟩) ⟨rfl,hB⟩
theorem Bq(w:World) :
 C0 113 #[] w (Qi (fun w' r=>∃ b,r=.slice (S1 b) 3 3∧w.heap.size≤b∧Blk w' b [V0 8,V0 1,V0 14399,V0 4,V0 0,V0 960,V0 4,V0 0,V0 960] 270) w):=by
 refine zin 5 Tryz.func113 ?_
 refine xbs 10 3 [V0 8,V0 1,V0 14399,V0 4,V0 0,V0 960,V0 4,V0 0,V0 960] 270 fun b1 W1 n1=>?_
 have g1:=n1.ge (B4 w)
 exact xe 4 (.slice (S1 b1) 3 3) ⟨_,rfl,n1.below,_,rfl,g1,n1.blk⟩
theorem Gc(gl gn:Nat)(n f g:Int)(h1:1≤n)(h2:n≤14399)(h3:0≤f)(h4:f≤960)(h5:0≤g)(h6:g≤960)(w:World)(hl:Blk w gl [V0 8,V0 1,V0 14399,V0 4,V0 0,V0 960,V0 4,V0 0,V0 960] 270)(hn:Blk w gn [V0 n,V0 f,V0 g] 3) :
 C0 87 #[.slice (S1 gl) 3 3,.slice (S1 gn) 3 3] w (Ret (.string ⟨(leB n 8++leB f 4++leB g 4).toArray⟩) w):=by
 refine zin 51 Tryz.func87 ?_
 refine xu 19 4 ?_
 refine xlv 15 (hl.rpp 0 3) ?_
 refine xa 0 [V0 0,V0 0,V0 0] 270 fun b1 W1 n1=>?_
 have c4:=n1.ne hl
 refine xsv 1 n1.blk [V0 8,V0 1,V0 14399] fun W2 u2 k2=>?_
 have g1:=n1.ge (B4 w)
 refine xd 4 .z ?_
 have b6:=(u2.blkT (hn.below n1.below) n1.blk (by decide)).below (Za W2)
 refine xb (.e [0,1,2] 3) 0 b6 ?_
 have c1:=k2.below (Za W2)
 refine xb (.e [4] 5) 1 c1 ?_
 refine xgk (.b [6,7]) [23,24] (show(decide (n<(1:Int)):Bool)=false from decide_eq_false (by omega)) ?_
 refine xb (.e [8,9,10] 11) 0 b6 ?_
 refine xb (.e [12] 13) 2 c1 ?_
 refine xk (.r [14,15] 2) (show(decide (n>(14399:Int)):Bool)=false from decide_eq_false (by omega)) ?_
 refine xd 3 .z ?_
 have e1:=c1.below (Za W2.drew)
 refine xb (.e [0] 1) 0 e1 ?_
 have d6:=b6.below (Za W2.drew)
 refine xb (.e [2,3,4] 5) 0 d6 ?_
 refine xbs (.o [6] 7) 1 [V0 8,V0 n] 229 fun b4 W4 n4=>?_
 refine yc (.o [] 8) (args:=#[.slice (S1 b4) 1 1]) .z (Zf3 b4 n (by omega) _ n4.blk) ?_
 rintro _ W5 ⟨_,rfl,c3,i3,g9,rfl,f6⟩
 have h9:=(bln (bln (bln (u2.below n1.below g1) (Za W2)) (Za W2.drew)) n4.below).size
 refine⟨c3,?_⟩
 have o6:=World.ownsRow_nil W5 w.heap.size 5 1
 have c0:=Zd f6 h9
 have hB:=bln (bln (bln (bln (u2.below n1.below g1) (Za W2)) (Za W2.drew)) n4.below) c3
 refine xbi (.r [9,10,11,12,13] 5) fun _ _ _ _ zJ zQ zo zx zy zK=>Zx (m:=8) (news:=(leB n 8).map bv) (.int .u8 0) 1 1 (8) ((leB n 8).map bv) zo Tryz.underlying22 (by kernel_rfl) rfl (by decide) zx o6 zy (Ze c0) (by simp[Zf]) (Yj _) (by unfold maxLen;omega) (by omega) hB.size (by rfl) (by simp) fun j4 j6 W7 o7 e2 g6=>?_
 refine zK _ _ ?_
 have b5:=(((((u2.blk (hl.below n1.below) (Ne.symm (Ne.symm c4))).below (Za W2)).below (Za W2.drew)).below n4.below).below c3).grown e2 o6 (by decide)
 refine xlv 24 (b5.rpp 3 3) ?_
 refine xa 0 [V0 0,V0 0,V0 0] 270 fun b8 W8 n8=>?_
 have c8:=n8.ne b5
 have d9:=((e1.below n4.below).below c3).grown e2 o6 (by decide)
 have d1:=n8.ne d9
 have d5:=hB.trans g6
 have g8:=n8.ge d5
 refine xsv 1 n8.blk [V0 4,V0 0,V0 960] fun W9 u9 k9=>?_
 refine xd 4 .z ?_
 have b3:=(u9.blkT ((((d6.below n4.below).below c3).grown e2 o6 (by decide)).below n8.below) n8.blk (by decide)).below (Za W9)
 refine xb (.e [0,1,2] 3) 1 b3 ?_
 have b2:=k9.below (Za W9)
 refine xb (.e [4] 5) 1 b2 ?_
 refine xgk (.b [6,7]) [23,24] (show(decide (f<(0:Int)):Bool)=false from decide_eq_false (by omega)) ?_
 refine xb (.e [8,9,10] 11) 1 b3 ?_
 refine xb (.e [12] 13) 2 b2 ?_
 refine xk (.r [14,15] 2) (show(decide (f>(960:Int)):Bool)=false from decide_eq_false (by omega)) ?_
 refine xd 3 .z ?_
 have c5:=b2.below (Za W9.drew)
 refine xb (.e [0] 1) 0 c5 ?_
 have d0:=b3.below (Za W9.drew)
 refine xb (.e [2,3,4] 5) 1 d0 ?_
 refine xbs (.o [6] 7) 1 [V0 4,V0 f] 229 fun g2 j8 a5=>?_
 have c7:=((u9.blkT (((n4.blk.below c3).grown e2 o6 (by decide)).below n8.below) n8.blk (by decide)).below (Za W9)).below (Za W9.drew)
 have f3:=a5.ne c7
 have b7:=bln (bln (u9.below (bln d5 n8.below) g8) (Za W9)) (Za W9.drew)
 have j2:=a5.ge b7
 refine yc (.o [] 8) (args:=#[.slice (S1 g2) 1 1]) .z (Px g2 f (by omega) (by omega) _ a5.blk) ?_
 rintro _ j1 ⟨_,rfl,a0,h7,g7,rfl,f5⟩
 have e6:=(bln b7 a5.below).size
 refine⟨a0,?_⟩
 have a1:=Zb (Zb (Zb (Zb (u9.own2 (Zb o7 n8.below) n8.blk (by decide)) (Za W9)) (Za W9.drew)) a5.below) a0
 have a9:=Zd f5 e6
 have e0:=bln (bln b7 a5.below) a0
 refine xbi (.r [9,10,11,12,13] 5) fun _ _ _ _ zJ zQ zo zx zy zK=>Zx (m:=4) (news:=(leB f 4).map bv) (.int .u8 0) 1 1 (12) ((leB n 8++leB f 4).map bv) zo Tryz.underlying22 (by kernel_rfl) rfl (by decide) zx a1 zy (Ze a9) (by simp[Zf]) (Yj _) (by unfold maxLen;omega) (by omega) e0.size (by rfl) (by simp) fun h0 i4 j3 i5 a3 f1=>?_
 refine zK _ _ ?_
 have d2:=(((((u9.blk (b5.below n8.below) (Ne.symm (Ne.symm c8))).below (Za W9)).below (Za W9.drew)).below a5.below).below a0).grown a3 a1 (by decide)
 refine xlv 24 (d2.rpp 6 3) ?_
 refine xa 0 [V0 0,V0 0,V0 0] 270 fun j0 j7 a2=>?_
 have f0:=a2.ne d2
 have g0:=(((((u9.blk (d9.below n8.below) (Ne.symm (Ne.symm d1))).below (Za W9)).below (Za W9.drew)).below a5.below).below a0).grown a3 a1 (by decide)
 have e9:=a2.ne g0
 have f9:=((c5.below a5.below).below a0).grown a3 a1 (by decide)
 have f4:=a2.ne f9
 have c9:=e0.trans f1
 have i1:=a2.ge c9
 refine xsv 1 a2.blk [V0 4,V0 0,V0 960] fun a4 d8 i7=>?_
 refine xd 4 .z ?_
 have c2:=(d8.blkT ((((d0.below a5.below).below a0).grown a3 a1 (by decide)).below a2.below) a2.blk (by decide)).below (Za a4)
 refine xb (.e [0,1,2] 3) 2 c2 ?_
 have a6:=i7.below (Za a4)
 refine xb (.e [4] 5) 1 a6 ?_
 refine xgk (.b [6,7]) [23,24] (show(decide (g<(0:Int)):Bool)=false from decide_eq_false (by omega)) ?_
 refine xb (.e [8,9,10] 11) 2 c2 ?_
 refine xb (.e [12] 13) 2 a6 ?_
 refine xk (.r [14,15] 2) (show(decide (g>(960:Int)):Bool)=false from decide_eq_false (by omega)) ?_
 refine xd 3 .z ?_
 have c6:=a6.below (Za a4.drew)
 refine xb (.e [0] 1) 0 c6 ?_
 have e8:=c2.below (Za a4.drew)
 refine xb (.e [2,3,4] 5) 2 e8 ?_
 refine xbs (.o [6] 7) 1 [V0 4,V0 g] 229 fun g3 i9 a8=>?_
 have f8:=((d8.blkT ((((c7.below a5.below).below a0).grown a3 a1 (by decide)).below a2.below) a2.blk (by decide)).below (Za a4)).below (Za a4.drew)
 have e5:=a8.ne f8
 have d4:=((d8.blkT (((a5.blk.below a0).grown a3 a1 (by decide)).below a2.below) a2.blk (by decide)).below (Za a4)).below (Za a4.drew)
 have e3:=a8.ne d4
 have b9:=bln (bln (d8.below (bln c9 a2.below) i1) (Za a4)) (Za a4.drew)
 have k0:=a8.ge b9
 refine yc (.o [] 8) (args:=#[.slice (S1 g3) 1 1]) .z (Px g3 g (by omega) (by omega) _ a8.blk) ?_
 rintro _ j9 ⟨_,rfl,a7,g5,h8,rfl,e4⟩
 have f7:=(bln b9 a8.below).size
 refine⟨a7,?_⟩
 have d3:=Zb (Zb (Zb (Zb (d8.own2 (Zb i5 a2.below) a2.blk (by decide)) (Za a4)) (Za a4.drew)) a8.below) a7
 have b0:=Zd e4 f7
 have d7:=bln (bln b9 a8.below) a7
 refine xbi (.r [9,10,11,12,13] 5) fun _ _ _ _ zJ zQ zo zx zy zK=>Zx (m:=4) (news:=(leB g 4).map bv) (.int .u8 0) 1 1 (16) ((leB n 8++leB f 4++leB g 4).map bv) zo Tryz.underlying22 (by kernel_rfl) rfl (by decide) zx d3 zy (Ze b0) (by simp[Zf]) (Yj _) (by unfold maxLen;omega) (by omega) d7.size (by rfl) (by simp) fun i8 i0 j5 i6 i2 e7=>?_
 refine zK _ _ ?_
 refine xcv0 24 (fun _ _ _ zo zx=>Jf zo zx (Yl (Ze i6) (by simp[Zf])) (by simp[Zf]) Tryz.underlying22 Tryz.underlying5 Tryz.underlying9) ?_
 have f2:=d7.trans e7
 exact xe 4 (.string ⟨(leB n 8++leB f 4++leB g 4).toArray⟩) ⟨rfl,f2⟩
theorem Vp(n f g:Int)(h1:1≤n)(h2:n≤14399)(h3:0≤f)(h4:f≤960)(h5:0≤g)(h6:g≤960)(w:World) :
 C0 57 #[.agg #[V0 n,V0 f,V0 g]] w (Ret (.string ⟨(leB n 8++leB f 4++leB g 4).toArray⟩) w):=by
 refine zin 12 Tryz.func57 ?_
 refine xa 2 [V0 n,V0 f,V0 g] 136 fun b1 W1 n1=>?_
 refine xd 4 .z ?_
 have k1:=n1.blk.below (Za W1)
 refine xb (.e [1] 2) 0 k1 ?_
 refine xb (.e [3] 4) 1 k1 ?_
 refine xb (.e [5] 6) 2 k1 ?_
 refine xm2 0 0 7 ?_ ?_
 ·refine yc 0 (args:=#[]) .z (Bq _) ?_
  rintro _ W2 ⟨_,rfl,a2,gl,rfl,gg,kl⟩
  refine⟨a2,?_⟩
  refine xbs (.o [] 7) 3 [V0 n,V0 f,V0 g] 3 fun b3 W3 n3=>?_
  have a0:=kl.below n3.below
  refine xr (.o [] 8) (args:=#[.slice (S1 gl) 3 3,.slice (S1 b3) 3 3]) (Gc gl b3 n f g h1 h2 h3 h4 h5 h6 _ a0 n3.blk) fun W4 a3=>?_
  have hB:=bln (bln (bln (bln n1.below (Za W1)) a2) n3.below) a3
  exact xe (.r [9] 3) (.string ⟨(leB n 8++leB f 4++leB g 4).toArray⟩) ⟨rfl,hB⟩
 refine xbs 0 3 [V0 n,V0 f,V0 g] 3 fun b5 W5 n5=>?_
 refine yc (.o [] 0) (args:=#[]) .z (Bq _) ?_
 rintro _ W6 ⟨_,rfl,a1,gl,rfl,gg,kl⟩
 refine⟨a1,?_⟩
 have k5:=n5.blk.below a1
 refine xr (.o [] 8) (args:=#[.slice (S1 gl) 3 3,.slice (S1 b5) 3 3]) (Gc gl b5 n f g h1 h2 h3 h4 h5 h6 _ kl k5) fun W7 a4=>?_
 have hB:=bln (bln (bln (bln n1.below (Za W1)) n5.below) a1) a4
 exact xe (.r [9] 3) (.string ⟨(leB n 8++leB f 4++leB g 4).toArray⟩) ⟨rfl,hB⟩
end Go.Proofs.YtgphgaehfdfjjaaGreatDoor
namespace Go.Proofs.YtgphgaehfdfjjaaGreatDoor
set_option maxHeartbeats 8000000
set_option maxRecDepth 100000
open Go.RowKit Go.Extern.Stop Go.Stop Go.Extern
open Go.ChangeMaps (setBlock heap_setBlock_same heap_setBlock_other)
set_option linter.unusedVariables false
attribute [local irreducible] wpList wpAnyH Code.wp Oper.wp Go
variable {P:Program} {w:World}
/-! ### in a walk -/
inductive Zm
 | mm (t:TypeId)
 | lk (t:TypeId) (m k:Value)
 | mu (t:TypeId) (m k v:Value)
 | b1 (b:Builtin) (t:TypeId) (u:Value)
 | b2 (b:Builtin) (t t2:TypeId) (u v:Value)
noncomputable def zmf (n:Nat) (kv:List (Nat×Value)) (o:Oper):Option Zm:=match o.op with
 | .makeMap t none=>some (.mm t)
 | .lookup t x y false=>some (.lk t (zev n kv x) (zev n kv y))
 | .mapUpdate t x y z=>some (.mu t (zev n kv x) (zev n kv y) (zev n kv z))
 | .call c=>match c.callee with
  | .builtin b=>match c.args.toList,c.argTypes.toList with
   | [x],[t]=>some (.b1 b t (zev n kv x))
   | [x,y],[t,t2]=>some (.b2 b t t2 (zev n kv x) (zev n kv y))
   | _,_=>none
  | _=>none
 | _=>none
noncomputable def zm (s:Zs):Option Zm:=match zop s with
 | some o=>zmf s.n s.kv o
 | none=>none
section
variable {P:Program} {fn:Func} {R:Ending→World→Prop} {w:World} {s:Zs}
end
end Go.Proofs.YtgphgaehfdfjjaaGreatDoor
namespace Go.Proofs.YtgphgaehfdfjjaaGreatDoor
set_option maxHeartbeats 8000000
set_option maxRecDepth 100000
open Go.RowKit
set_option linter.unusedVariables false
theorem rows_in{n:Nat}{P:Program}{row:String}{args:Array Value}{w:World}{R:Value→World→Prop}(h:Rows P row args w R):RowsIn Fence.wide n P row args w R :=
 fun c cs _=>let ⟨v,w',r,q⟩:=h c cs;⟨v,w',r,stepsIn_wide.2 q⟩
theorem oper_in{P:Program}{l n:Nat}{o:Oper}{a:Act}{w:World}{K:Act→World→Prop}{Q:Exit→Act→World→Prop}(hd:∀ c,o.op≠.defer c)(h:o.wp P a w K Q):o.wpIn (Fence.wide.inRound l) n P a w K Q:=by
 unfold Oper.wpIn
 refine⟨fun f _=>trivial,?_⟩
 rw[Oper.semAt_plain _ _ _ hd]
 unfold Oper.wp at h
 generalize (execOp a.eval o).run P w=r at *
 cases r with
 | ok nx w' =>
  cases nx with
  | value v=>exact h
  | skip=>exact h
  | defer d=>exact h
  | enter f args=>exact⟨(fun q=>by cases q),callsIn_wide.2 h⟩
  | row r args=>exact⟨(fun q=>by cases q),rows_in h⟩
  | _=>exact h.elim
 | halt hh w' =>
  cases hh with
  | panic v=>exact h
  | _=>exact h.elim
theorem op_in{P:Program}{l n i:Nat}{ops:Array Oper}{a:Act}{w:World}{K K':Act→World→Prop}{Q:Exit→Act→World→Prop}(hQ:¬ LetsOut Q)(hd:∀ o∈ops.toList,∀ c,o.op≠.defer c)(hK:∀ a w,K a w→K' a w)(h:wpOp P ops Q i K a w):wpOpIn (Fence.wide.inRound l) n P ops Q i K' a w:=by
 unfold wpOp at h
 unfold wpOpIn
 cases ho:ops[i]? with
 | none=>rw[ho] at h;exact hK _ _ h
 | some o =>
  rw[ho] at h
  dsimp only at h ⊢
  split at h
  ·rename_i hw
   rw[if_pos hw]
   have a0:o∈ops.toList:=by
    obtain⟨hi,e⟩:=Array.getElem?_eq_some_iff.1 ho
    rw[←e];exact Array.mem_toList_iff.2 (Array.getElem_mem hi)
   exact Oper.wpIn_mono hK (oper_in (hd o a0) (h.resolve_right fun q=>hQ q.2))
  ·rename_i hw
   rw[if_neg hw]
   exact⟨fun f _=>trivial,hK _ _ h⟩
theorem any_in{P:Program}{l n:Nat}{md:Region.Mode}{ops:Array Oper}{Q:Exit→Act→World→Prop}(hQ:¬ LetsOut Q)(hd:∀ o∈ops.toList,∀ c,o.op≠.defer c):∀ (fuel:Nat) (L:Array Bool) (a:Act) (w:World),wpAny P md ops Q fuel L a w→wpAnyIn (Fence.wide.inRound l) n P md ops Q fuel L a w
 | 0,_,_,_,h=>h
 | fuel+1,L,a,w,h=>⟨h.1,fun i hi=>op_in hQ hd (fun a w=>any_in hQ hd fuel _ a w) (h.2 i hi)⟩
theorem h_regIn{P:Program}{l0 n0 id:Nat}{l:List Oper}{Q:Exit→Act→World→Prop}{a:Act}{w:World}(S:World→Prop)(n:Nat)(hn:l.toArray.size=n)(L:Array Bool)(hL:Array.replicate n false=L)(hm:P.follows .mixedOrders=true)(hQ:¬ LetsOut Q)(hd:∀ o∈l,∀ c,o.op≠.defer c)(hS:S w.drew)(h:S w.drew→wpAnyH P .any l.toArray Q S n L a w.drew):(Code.region id l.toArray true).wpIn (Fence.wide.inRound l0) n0 P Q a w :=
 wpIn_region_any hm (any_in hQ (by simpa using hd) _ _ _ _ (wpAny_of_held _ _ _ _ (by rw[hn,hL];exact h hS)))
end Go.Proofs.YtgphgaehfdfjjaaGreatDoor
namespace Go.Proofs.YtgphgaehfdfjjaaGreatDoor
set_option maxHeartbeats 8000000
set_option maxRecDepth 100000
open Go.RowKit
set_option linter.unusedVariables false
attribute [local go_sem] Oper.semAt_some
def encK(b off n:Nat)(j:Fin (bmN n)):Array Value:=#[.slice (some ⟨b,off+j.val*960,none⟩) (min 960 (n-j.val*960)) (min 960 (n-j.val*960))]
theorem Zea(l B1 B2:Nat)(p:Nat→Prop)(b off n cap:Nat)(hlen:n≤1000000)(hcap:n≤cap)(hB1:p B1)(hB2:p B2)(J Jx:List (Fin (bmN n))→World→Prop)
  (hY:∀ pre x W,J pre W→pre.length<bmN n→YieldAt Fence.wide 2 Tryz.prog l (encK b off n x) W fun e W' =>
   (e=.returned (.bool true)∧J (pre++[x]) W'∧Keeps p W W')∨(e=.returned (.bool false)∧Jx (pre++[x]) W'))
  (W:World) (hck:W.cell? ⟨B1,0,none⟩=some (.slice (some ⟨b,off,none⟩) n cap)) (hcn:W.cell? ⟨B2,0,none⟩=some (V0 960)) (hJa:AbidesFrom W.heap.size J) (h0:J [] W) :
  CallsIn Fence.wide 3 Tryz.prog 163 #[.func (.yield l) #[] #[],P0 B1,P0 B2] W fun e W'=>(∃ v,e=.returned v) ∧
   ((∃ ys,ys=List.finRange (bmN n)∧J ys W')∨(∃ pre,(∃ k,k≤bmN n∧pre=(List.finRange (bmN n)).take k)∧Jx pre W')):=by
 refine callsIn_of_wp Tryz.func163 rfl trivial ?_ rfl
 simp only[Tryz.ntmps163,List.size_toArray,List.length_cons,List.length_nil,Nat.reduceAdd,Nat.reduceSub,Array.replicate_succ,Array.replicate_zero,List.push_toArray,List.append_toArray,List.nil_append,List.cons_append]
 gi_wp2
 gi_loopw [4] (fun i wr=>∃ k:Nat,k≤bmN n∧i=V0 ((k*960:Nat):Int)∧J ((List.finRange (bmN n)).take k) wr∧Keeps p W wr)
  (fun i _=>(n-(intOf i)).toNat)
 case atStart=>exact⟨0,Nat.zero_le _,by simp,h0,Keeps.refl _ _⟩
 case round =>
  obtain⟨k,hk,rfl,a0,a2⟩:=hrel
  have a8:=(a2.cell (a:=⟨B1,0,none⟩) hB1).trans hck
  have a3:=(a2.cell (a:=⟨B2,0,none⟩) hB2).trans hcn
  by_cases hlt:k<bmN n
  ·have b2:=bmN_lt hlt
   gi_wp2
   gi_big_quiet_th (fail)
   obtain⟨fn,a7,a4,a9,hy,hR⟩:=hY _ ⟨k,hlt⟩ (wr.drewN nq) (hJa _ wr _ none a0 ⟨rfl,rfl,rfl,Nat.le_refl _,fun _ _ _=>rfl⟩ (fun _ e=>by cases e)) (by rw[Lk hk];exact hlt)
   have hE:encK b off n ⟨k,hlt⟩=#[.slice (some ⟨b,off+k*960,none⟩) (min 960 (n-k*960)) (min 960 (n-k*960))]:=rfl
   rw[hE] at hy
   have HE:=Lib.hid hE;clear hE
   rw[show(if((n-k*960:Nat):Int)<960 then((n-k*960:Nat):Int) else 960)=((min 960 (n-k*960):Nat):Int) from by split<;>omega]
   obtain⟨m,hm⟩:∃ m,min 960 (n-k*960)=m:=⟨_,rfl⟩
   rw[hm] at hy ⊢
   have b3:k*960+m≤n:=by omega
   have b1:k*960+m≤cap:=by omega
   have b5:k*960+m-k*960=m:=by omega
   gi_wp2
   refine hR.mono ?_
   rintro e W3 (⟨rfl,b0,a5⟩|⟨rfl,a1⟩)
   ·have a6:W3.cell? ⟨B2,0,none⟩=some (V0 960):=(a5.cell (a:=⟨B2,0,none⟩) hB2).trans a3
    gi_wp2
    go_roundw
    case rel =>
     refine⟨k+1,by omega,?_,by rw[Ui hlt];exact b0,(a2.trans (show Keeps p wr (wr.drewN nq) from⟨Nat.le_refl _,fun _ _=>rfl⟩)).trans a5⟩
     exact congrArg V0 (by omega)
    case measure=>simp only[intOf];omega
   ·gi_wp2
    refine bodyPost_ret (results_none rfl _ _ _) rfl ?_
    exact⟨⟨_,rfl⟩,.inr ⟨_,⟨k+1,by omega,by rw[Ui hlt]⟩,a1⟩⟩
  ·obtain rfl:k=bmN n:=by omega
   have b4:=bmN_done (n:=n) rfl
   have b6:¬ (((bmN n*960:Nat):Int)<(n:Int)):=by omega
   rw[Fv] at a0
   have HJ:=Lib.hid a0;clear a0
   gi_wp2
   go_end0
   exact⟨⟨_,rfl⟩,.inl HJ.out⟩
theorem Db{α:Type}(l B1 B2:Nat)(J:List α→World→Prop)(W:World){a0:O0}{c0:Nat}(hck:W.cell? ⟨B1,0,none⟩=some (.slice a0 0 c0))(h0:J [] W) :
 CallsIn Fence.wide 3 Tryz.prog 163 #[.func (.yield l) #[] #[],P0 B1,P0 B2] W fun e W'=>(∃ v,e=.returned v)∧J [] W':=by
 refine callsIn_of_wp Tryz.func163 rfl trivial ?_ rfl
 simp only[Tryz.ntmps163,List.size_toArray,List.length_cons,List.length_nil,Nat.reduceAdd,Nat.reduceSub,Array.replicate_succ,Array.replicate_zero,List.push_toArray,List.append_toArray,List.nil_append,List.cons_append]
 gi_wp2
 gi_loopw [4] (fun i wr=>i=V0 0∧J [] wr∧wr.cell? ⟨B1,0,none⟩=some (.slice a0 0 c0)) (fun _ _=>0)
 case atStart=>exact⟨rfl,h0,hck⟩
 case round =>
  obtain⟨rfl,a1,a2⟩:=hrel
  have HJ:=Lib.hid a1;clear a1
  gi_wp2
  go_end0
  exact⟨⟨_,rfl⟩,HJ.out⟩
theorem Tp(B1 B2:Nat)(p:Nat→Prop)(b off n cap:Nat)(v:Value)(w:World)(hp:∀ b,p b→b<w.heap.size)(h1:p B1)(h2:p B2)(hlen:n≤1000000)(hv:(n=0∧∃ a c,v=.slice a 0 c)∨v=.slice (some ⟨b,off,none⟩) n cap∧n≤cap)(hck:w.cell? ⟨B1,0,none⟩=some v)(hcn:w.cell? ⟨B2,0,none⟩=some (V0 960)) :
  SeqStopsK Fence.wide 3 Tryz.prog 163 #[P0 B1,P0 B2] (encK b off n) (Keeps p)
   (fun ys=>ys=List.finRange (bmN n)) (fun pre=>∃ k,k≤bmN n∧pre=(List.finRange (bmN n)).take k) (bmN n) w:=fun l J Jx W hW a3 _ hY h0=>by
 have a0:=getC hW hck
 have a2:=getC hW hcn
 rcases hv with ⟨rfl,a,c,rfl⟩|⟨rfl,a1⟩
 ·exact(Db l B1 B2 J W a0 h0).mono fun e W' ⟨he,hj⟩=>⟨he,.inl ⟨_,rfl,hj⟩⟩
 ·exact Zea l B1 B2 p b off n cap hlen a1 h1 h2 J Jx hY W a0 a2 a3 h0
end Go.Proofs.YtgphgaehfdfjjaaGreatDoor
namespace Go.Proofs.YtgphgaehfdfjjaaGreatDoor
set_option maxHeartbeats 8000000
set_option maxRecDepth 100000
open Go.RowKit Go.Extern.Stop Go.Stop Go.Extern
set_option linter.unusedVariables false
attribute [local irreducible] wpList wpAnyH Code.wp Oper.wp Go
theorem Fb(p:O0)(n c:Nat)(w:World) :
 C0 110 #[.slice p n c,V0 960] w (fun e w'=>∃ b1 b2,e=.returned (.func (.func 163) #[] #[P0 b1,P0 b2])∧B3 w w'∧w.heap.size≤b1∧w.heap.size≤b2∧b1≠b2∧Blk w' b1 [.slice p n c] 28∧Blk w' b2 [V0 960] 3):=by
 refine zin 9 Tryz.func110 ?_
 refine xa 2 [.slice p n c] 28 fun b1 W1 n1=>?_
 refine xa 0 [V0 960] 3 fun b2 W2 n2=>?_
 refine xb 6 0 n2.blk ?_
 have k1:=n1.blk.below n2.below
 have hB:=bln n1.below n2.below
 have g1:=n1.ge (B4 w)
 have g2:=n2.ge n1.below
 exact xe 13 (.func (.func 163) #[] #[P0 b1,P0 b2]) ⟨_,_,rfl,hB,g1,g2,(Blk.tne k1 n2.blk (by decide)),k1,n2.blk⟩
end Go.Proofs.YtgphgaehfdfjjaaGreatDoor
namespace Go.Proofs.YtgphgaehfdfjjaaGreatDoor
set_option maxHeartbeats 8000000
set_option maxRecDepth 100000
open Go.RowKit
set_option linter.unusedVariables false
theorem Iz{A B:World}{row:Option Nat}{base size n:Nat}{e:TypeId}{v:Value}{xs:List Value}(k:A.ownsRow base e size v n xs)(hg:A.grownBy B row)(hr:∀ r,row=some r→∃ o:Obj,A.heap[r]? = some o∧o.isCells=false):B.ownsRow base e size v n xs:=by
 obtain⟨h1,h2⟩:=k
 refine⟨h1,?_⟩
 rcases h2 with h2|⟨g,a1,a0,hv,hb,hh,r⟩
 ·exact Or.inl h2
 ·refine Or.inr ⟨g,a1,a0,hv,hb,?_,r⟩
  rw[hg.block g (Array.getElem?_eq_some_iff.1 hh).1 (fun q=>by
   obtain⟨o,ho,hc⟩:=hr g q.symm
   rw[hh] at ho
   cases ho
   cases hc)]
  exact hh
theorem Lists.turn{A B:World}{row:Option Nat}{base:Nat}{v:Value}{gs:List (Nat×Nat)}{L:List (List Int)}(h:Lists A base v gs L)(hg:A.grownBy B row)(hr:∀ r,row=some r→∃ o:Obj,A.heap[r]? = some o∧o.isCells=false):Lists B base v gs L:=⟨Iz h.row hg hr,fun i hi=>Iz (h.each i hi) hg hr⟩
structure RdZ(w0:World)(b:Nat)(W V:World):Prop where
 bb:BelowBut w0 b V
 ko:KeepsOthers W V
 fr:∀ k,k<w0.heap.size→k≠b→V.heap[k]? = W.heap[k]?
 le:W.heap.size≤V.heap.size
theorem RdZ.refl{w0 W:World}{b:Nat}(h:BelowBut w0 b W):RdZ w0 b W W:=⟨h,⟨Nat.le_refl _,fun _ _ h _=>h⟩,fun _ _ _=>rfl,Nat.le_refl _⟩
theorem RdZ.below{w0 W V U:World}{b:Nat}(h:RdZ w0 b W V)(hb:Below V.heap.size V U):RdZ w0 b W U :=
 ⟨h.bb.next hb,h.ko.trans (Rh hb),fun k hk hn=>(hb.block k (Nat.lt_of_lt_of_le hk h.bb.size)).trans (h.fr k hk hn),Nat.le_trans h.le hb.size⟩
theorem RdZ.upd{w0 W V U:World}{b:Nat}{cs:List Value}{t:TypeId}(h:RdZ w0 b W V)(u:Upd V b U)(k:Blk V b cs t):RdZ w0 b W U :=
 ⟨h.bb.upd u,h.ko.trans (Zag u k),fun k hk hn=>(u.block k hn).trans (h.fr k hk hn),Nat.le_trans h.le (Nat.le_of_eq u.size.symm)⟩
theorem RdZ.grown{w0 W V U:World}{b size n:Nat}{e:TypeId}{v:Value}{xs:List Value}(h:RdZ w0 b W V)(hg:V.grownBy U v.ownBlock)(k:V.ownsRow w0.heap.size e size v n xs):RdZ w0 b W U :=
 ⟨⟨hg.os.trans h.bb.os,hg.tape.trans h.bb.tape,hg.output.trans h.bb.output,Nat.le_trans h.bb.size hg.size,fun i hi hn=>(hg.block i (Nat.lt_of_lt_of_le hi h.bb.size) (fun e=>by have:=(k.lt i e.symm).1;omega)).trans (h.bb.block i hi hn)⟩,
  ⟨Nat.le_trans h.ko.size hg.size,fun i o hi ho=>by
   have h1:=h.ko.same i o hi ho
   rw[hg.block i (Array.getElem?_eq_some_iff.1 h1).1 (fun q=>by
    rcases k.2 with ⟨rfl,_⟩|⟨g,a1,a0,rfl,_,hh,_⟩
    ·cases q
    ·simp only[Value.ownBlock,Option.some.injEq] at q
     subst q
     rw[hh] at h1
     cases h1
     cases ho)]
   exact h1⟩,
  fun i hi hn=>(hg.block i (Nat.lt_of_lt_of_le hi h.bb.size) (fun e=>by have:=(k.lt i e.symm).1;omega)).trans (h.fr i hi hn),Nat.le_trans h.le hg.size⟩
theorem row_or{w:World}{base e n c:Nat}{p:O0}{xs:List Value}(k:w.ownsRow base e 1 (.slice p n c) n xs):∃ g,(n=0∧∃ a c',Value.slice p n c=.slice a 0 c')∨Value.slice p n c=.slice (S1 g) n c∧n≤c:=by
 rcases k.2 with ⟨h,_⟩|⟨g,a1,a0,hv,_,_,hc,_⟩
 ·simp only[Value.slice.injEq] at h
  exact⟨0,.inl ⟨h.2.1,none,0,by rw[h.1,h.2.1,h.2.2]⟩⟩
 ·simp only[Value.slice.injEq] at hv
  obtain⟨rfl,_,rfl⟩:=hv
  exact⟨g,.inr ⟨rfl,hc⟩⟩
def Each(w:World)(base:Nat)(gs:List (Nat×Nat))(L:List (List Int)):Prop:=∀ i,i<L.length→w.ownsRow base 3 1 (Em gs L i) (L.getD i []).length ((L.getD i []).map V0)
theorem Each.below{w W:World}{base:Nat}{gs:List (Nat×Nat)}{L:List (List Int)}(h:Each w base gs L)(hb:B3 w W):Each W base gs L:=fun i hi=>Zb (h i hi) hb
theorem Each.only{T:List TypeId}{w W:World}{base:Nat}{gs:List (Nat×Nat)}{L:List (List Int)}(h:Each w base gs L)(hO:Zg T w W)(hT:T.contains 3=false):Each W base gs L:=fun i hi=>Zo (h i hi) hO hT
theorem Iq{gs:List (Nat×Nat)}{L:List (List Int)}{g c i:Nat}{ch:List Int}(hg:gs.length=L.length)(hi:i<L.length):Em (gs++[(g,c)]) (L++[ch]) i=Em gs L i:=by
 unfold Em
 simp[List.getD,List.getElem?_append_left,hi,hg]
theorem Aw{gs:List (Nat×Nat)}{L:List (List Int)}{g c:Nat}{ch:List Int}(hg:gs.length=L.length):Em (gs++[(g,c)]) (L++[ch]) L.length=.slice (S1 g) ch.length c:=by
 unfold Em
 rw[show(gs++[(g,c)]).getD L.length (0,0)=(g,c) from by rw[←hg];simp[List.getD],show(L++[ch]).getD L.length []=ch from by simp[List.getD]]
theorem Lists.snoc{w:World}{base g c n:Nat}{v:Value}{gs:List (Nat×Nat)}{L:List (List Int)}{ch:List Int}(hn:n=L.length+1)(hrow:w.ownsRow base 28 1 v n ((List.range L.length).map (Em gs L)++[.slice (S1 g) ch.length c]))(he:Each w base gs L)(hnew:w.ownsRow base 3 1 (.slice (S1 g) ch.length c) ch.length (ch.map V0))(hg:gs.length=L.length):Lists w base v (gs++[(g,c)]) (L++[ch]):=by
 subst hn
 refine⟨?_,fun i hi=>?_⟩
 ·rw[show(L++[ch]).length=L.length+1 from by simp,List.range_succ,List.map_append]
  rw[show(List.range L.length).map (Em (gs++[(g,c)]) (L++[ch]))=(List.range L.length).map (Em gs L) from List.map_congr_left fun i hi=>Iq hg (List.mem_range.1 hi),List.map_singleton,Aw hg]
  exact hrow
 ·by_cases h:i<L.length
  ·rw[Iq hg h,show(L++[ch]).getD i []=L.getD i [] from by simp[List.getD,List.getElem?_append_left,h]]
   exact he i h
  ·obtain rfl:i=L.length:=by simp at hi;omega
   rw[Aw hg,show(L++[ch]).getD L.length []=ch from by simp[List.getD]]
   exact hnew
theorem Sl.midI{w:World}{g n c:Nat}{xs:List Value}(h:Sl w (.slice (S1 g) n c) n xs)(hl:xs.length=n)(k m:Nat)(hm:0<m)(hk:k+m≤n):Sl w (.slice (some ⟨g,0+k,none⟩) m m) m ((xs.drop k).take m):=by
 rcases h with ⟨a',c',h1,h2,h3⟩|⟨g',a1,a2,h1,h2,h3,h4⟩
 ·omega
 ·simp only[Value.slice.injEq,Option.some.injEq,Addr.mk.injEq] at h1
  obtain⟨⟨rfl,rfl,_⟩,_,rfl⟩:=h1
  refine .inr ⟨g,0+k,m,rfl,Nat.le_refl _,by omega,fun j x hj=>?_⟩
  have a0:j<m:=by
   rcases Nat.lt_or_ge j m with q|q
   ·exact q
   ·rw[List.getElem?_eq_none (by simp;omega)] at hj;cases hj
  rw[List.getElem?_take_of_lt a0,List.getElem?_drop] at hj
  have:=h4 (k+j) x hj
  rw[show 0+k+j=0+(k+j) from by omega]
  exact this
end Go.Proofs.YtgphgaehfdfjjaaGreatDoor
namespace Go.Proofs.YtgphgaehfdfjjaaGreatDoor
set_option maxHeartbeats 8000000
set_option maxRecDepth 100000
open Go.RowKit Go.Extern.Stop Go.Stop Go.Extern
set_option linter.unusedVariables false
attribute [local irreducible] wpList wpAnyH Code.wp Oper.wp Go
section
variable {P:Program} {a:Act}
theorem shl_bd{n:Int}(h:0≤n∧n≤3){s:Nat}(hs:s≤6):0≤n*2 ^ s∧n*2 ^ s≤192:=by
 obtain rfl|rfl|rfl|rfl:n=0∨n=1∨n=2∨n=3:=by omega
 all_goals obtain rfl|rfl|rfl|rfl|rfl|rfl|rfl:s=0∨s=1∨s=2∨s=3∨s=4∨s=5∨s=6:=by omega
 all_goals decide
theorem run_shlS{o:Oper}{t t2:TypeId}{x y:Operand}{n:Int}{s:Nat}{j:Int}{kj:IntKind}(ho:o.op=.binOp .shl t x y t2)(hx:a.eval x=V0 n)(hy:a.eval y=.int kj j)(hj:j=(s:Int))(hn:0≤n∧n≤3)(hs:s≤6)(w:World):(execOp a.eval o).run P w=.ok (.value (V0 (n*2 ^ s))) w:=by
 subst hj
 have e:=shift_shl .i64 kj n (s:Int) (Int.natCast_nonneg s) (by show(s:Int)≤64;omega)
 rw[show((s:Int)).toNat=s from by omega] at e
 have hb:=shl_bd hn hs
 rw[IntWalk.i64_in _ (by omega)] at e
 simp only[execOp,ho,hx,hy,eqGuard_shl,binOp_shl,e]
 simp
end
section
variable {P:Program} {fn:Func} {R:Ending→World→Prop} {w:World} {s:Zs}
theorem xbot(q:Zq){b:BinOp}{t t2:TypeId}{u1 u2 v:Value}(hv:∀ (a:Act) (o:Oper) (x y:Operand),o.op=.binOp b t x y t2→a.eval x=u1→a.eval y=u2→∀ V,True→(execOp a.eval o).run P V=.ok (.value v) V)(g:Go P fn R (znx (zq P q s) v) w)(h:zk (zq P q s)=some (.bn b t t2 u1 u2):=by kernel_rfl):Go P fn R s w:=by
 refine Zi q s ?_
 obtain⟨o,ho,h⟩:=Yt h
 exact Tn ho (fun V _=>by
  obtain⟨x,y,h1,h2,h3⟩:=Hj h
  exact hv _ o x y h1 h2 h3 V trivial) g
end
theorem u8_shl{n:Int}(h:0≤n∧n≤3){s:Nat}(hs:s≤6):IntKind.u8.wrap (n*2 ^ s)=n*2 ^ s:=by
 have hb:=shl_bd h hs
 generalize n*2 ^ s=m at *
 simp[IntKind.wrap,IntKind.bits,IntKind.signed];omega
theorem Oe(l:List Int)(i:Nat){k:Nat}(hk:k<240):(Ud l i).getD (4+k) 0=g4B l i k:=by
 unfold Ud
 rw[List.getD,List.getElem?_append_right (by rw[Zf];omega),Zf,Nat.add_sub_cancel_left]
 simp[hk]
theorem bits_or{l:List Int}(h:Kg l){i:Nat}(hi:i<960):IntKind.u8.wrap (↑(BitVec.ofInt 8 (↑((Ud l i).getD (4+(i/4)) 0).toNat:Int) ||| BitVec.ofInt 8 (l.getD i 0*2 ^ ((i%4)*2))).toNat:Int)=((g4B l (i+1) (i/4)).toNat:Int):=by
 rw[Oe l i (by omega)]
 obtain⟨h1,h2⟩:=g4B_at h (i:=i)
 rw[h1]
 obtain⟨n,hn⟩:∃ n:Nat,l.getD i 0=n:=⟨(l.getD i 0).toNat,by have:=(Vx h i).1;omega⟩
 have hb:=Vx h i
 rw[hn] at hb ⊢
 generalize (g4B l i (i/4)).toNat=o at *
 have hr:i%4<4:=by omega
 generalize i%4=r at *
 have ho:o<64:=Nat.lt_of_lt_of_le h2 (by
  obtain rfl|rfl|rfl|rfl:r=0∨r=1∨r=2∨r=3:=by omega
  all_goals decide)
 have hs:=or_step ⟨r,hr⟩ ⟨n,by omega⟩ ⟨o,ho⟩ h2
 simp only at hs
 have e4:(4:Nat) ^ r=2 ^ (r*2):=by rw[Nat.mul_comm,Nat.pow_mul]
 have e:((n:Int)*2 ^ (r*2))=((n*4 ^ r:Nat):Int):=by rw[e4];simp
 have e':((n:Int)*4 ^ r)=((n*4 ^ r:Nat):Int):=by simp
 have hm:n*4 ^ r≤192:=by
   have h3:4 ^ r≤64:=by
    obtain rfl|rfl|rfl|rfl:r=0∨r=1∨r=2∨r=3:=by omega
    all_goals decide
   calc n*4 ^ r≤3*64:=Nat.mul_le_mul (by omega) h3
     _=192:=rfl
 rw[e,e',BitVec.ofInt_natCast,BitVec.ofInt_natCast,BitVec.toNat_or,BitVec.toNat_ofNat,BitVec.toNat_ofNat,Nat.mod_eq_of_lt (by omega),Nat.mod_eq_of_lt (by omega),hs]
 generalize n*4 ^ r=m at *
 simp[IntKind.wrap,IntKind.bits,IntKind.signed];omega
theorem bits_set{l:List Int}{i:Nat}(hi:i<960):((Ud l i).map bv).set (4+(i/4)) (.int .u8 ((g4B l (i+1) (i/4)).toNat:Int))=(Ud l (i+1)).map bv:=by
 rw[show Value.int .u8 ((g4B l (i+1) (i/4)).toNat:Int)=bv (g4B l (i+1) (i/4)) from rfl,←List.map_set]
 congr 1
 unfold Ud
 rw[List.set_append_right _ _ (by rw[Zf];omega),Zf,Nat.add_sub_cancel_left]
 congr 1
 apply List.ext_getElem
 ·simp
 ·intro k h1 h2
  rw[List.getElem_set]
  split
  ·rename_i e;subst e;simp
  ·rename_i e;simp only[List.getElem_map,List.getElem_range];unfold g4B;rw[g4_ne (by omega)]
theorem bits0(l:List Int):((List.replicate 244 (0:UInt8)).map bv).take 0++(leB (l.length:Int) 4).map bv++((List.replicate 244 (0:UInt8)).map bv).drop (0+4)=(Ud l 0).map bv:=by
 unfold Ud
 rw[List.map_append,List.take_zero,List.nil_append]
 congr 1
theorem BysN.elem{w:World}{b:O0}{n c:Nat}{l:Bl}(h:Sl w (.slice b n c) n (l.map bv))(hl:l.length=n){k:Nat}(hk:k<n):b.isSome=true∧w.cell? (Zv b (k*1))=some (.int .u8 ((l.getD k 0).toNat:Int)):=by
 subst hl;exact Bys.elem (Yl h rfl) hk
theorem Zc6(n:Int)(w:World)(h0:0≤n)(h3:n≤3) :
 C0 165 #[V0 n] w (Ret (.bool false) w):=by
 refine zin 9 Tryz.func165 ?_
 refine xgk 10 [4,5] (show(decide (n<(0:Int)):Bool)=false from decide_eq_false (by omega)) ?_
 refine xe 7 (.bool (decide (n>(3:Int)))) ?_
 rw[show decide (n>(3:Int))=false from decide_eq_false (by omega)];exact⟨rfl,(B4 w)⟩
theorem Zbr(a:O0)(c:Nat)(l:List Int)(w:World)(hS:Kg l)(hl:l.length≤960)(h:Sl w (.slice a l.length c) l.length (l.map V0)) :
 C0 193 #[.slice a l.length c,.func (.func 165) #[] #[]] w (Ret (V0 (-1)) w):=by
 refine zin 19 Tryz.func193 ?_
 have hB:=Below.refl w.heap.size w
 refine zl 14 19 (fun zm a2 V=>∃ (i:Nat),a2=[(0,.slice a l.length c),(1,.func (.func 165) #[] #[]),(7,V0 (l.length:Int)),(8,V0 (i:Int))]∧zm=l.length-((i:Int)).toNat∧B3 w V∧i≤l.length) ⟨0,rfl,rfl,hB,Nat.zero_le _⟩ ?_
 rintro _ _ W1 ⟨i,rfl,rfl,a0,hi⟩ J1 a3 r1
 refine xid 6 ((i:Int)<(l.length:Int)) (fun a5=>?_) (fun a5=>?_)
 ·refine xx 15 _ l.length i 1 (Ints.elem h (k:=i) (by omega)).1 ?_
  refine xl 0 ((Ints.elem (h.below a0) (k:=i) (by omega)).2) ?_
  refine xr 0 (args:=#[V0 (l.getD i 0)]) (Zc6 (l.getD i 0) _ (Vx hS i).1 (Vx hS i).2) fun W3 a4=>?_
  refine xwm 7 ((i:Int)+1) (↑(i+1):Int) ?_
  have a1:=bln a0 a4
  exact ze 2 (a3 _ _ _ ⟨i+1,rfl,rfl,a1,by omega⟩ (by omega))
 exact xe 11 (V0 (-1)) ⟨rfl,a0⟩
theorem Dn(a:O0)(c:Nat)(l:List Int)(w:World)(hS:Kg l)(hl:l.length≤960)(h:Sl w (.slice a l.length c) l.length (l.map V0)) :
 C0 164 #[.slice a l.length c,.func (.func 165) #[] #[]] w (Ret (.bool false) w):=by
 refine zin 9 Tryz.func164 ?_
 refine xr 9 (args:=#[.slice a l.length c,.func (.func 165) #[] #[]]) (Zbr a c l _ hS hl (h.below (B4 w))) fun W1 a0=>?_
 exact xe 5 (.bool false) ⟨rfl,a0⟩
theorem Ft(a:O0)(c:Nat)(l:List Int)(w:World)(hl:l.length≤960)(h:Sl w (.slice a l.length c) l.length (l.map V0)) :
 C0 112 #[.slice a l.length c] w (Ret (.tuple #[V0 (↑(Xp l):Int),V0 (↑(Zy l):Int)]) w):=by
 refine zin 27 Tryz.func112 ?_
 have hB:=Below.refl w.heap.size w
 refine zl 23 27 (fun zm a4 V=>∃ (i f g:Nat),a4=[(2,V0 0),(3,V0 0),(4,V0 (f:Int)),(5,V0 (g:Int)),(10,.slice a l.length c),(11,V0 (l.length:Int)),(12,V0 (i:Int))]∧zm=l.length-((i:Int)).toNat∧B3 w V∧i≤l.length∧f=Zbn l i∧((f=0∧g=l.length∧∀ j,j<i→l.getD j 0≠0)∨(0<f∧g=Zy l))) ⟨0,0,l.length,rfl,rfl,hB,Nat.zero_le _,rfl,?_⟩ ?_
 ·exact .inl ⟨rfl,rfl,fun j hj=>absurd hj (by omega)⟩
 rintro _ _ W1 ⟨i,f,g,rfl,rfl,a0,hi,hf,hg⟩ J1 a3 r1
 have a2:=fun(q:i<l.length)=>Zak q
 have a8:=Wc l i
 refine xid 6 ((i:Int)<(l.length:Int)) (fun a7=>?_) (fun a7=>?_)
 ·refine xx 7 _ l.length i 1 (Ints.elem h (k:=i) (by omega)).1 ?_
  refine xl 0 ((Ints.elem (h.below a0) (k:=i) (by omega)).2) ?_
  refine xin 11 (l.getD i 0) (0:Int) (fun a6=>?_) (fun a6=>?_)
  ·refine xwm 5 ((i:Int)+1) (↑(i+1):Int) ?_
   exact ze 2 (a3 _ _ _ ⟨i+1,f,g,rfl,rfl,a0,by omega,by rw[a2 (by omega),if_neg (by assumption)];exact hf,hg.elim (fun⟨h1,h2,h3⟩=>.inl ⟨h1,h2,fun j hj=>(Nat.lt_or_ge j i).elim (fun q=>h3 j q) (fun q=>by obtain rfl:j=i:=(by omega);assumption)⟩) .inr⟩ (by omega))
  refine xie 9 (f:Int) (0:Int) (fun a5=>?_) (fun a5=>?_)
  ·refine xwm 7 ((f:Int)+1) (↑(f+1):Int) ?_
   refine xwm 5 ((i:Int)+1) (↑(i+1):Int) ?_
   exact ze 2 (a3 _ _ _ ⟨i+1,f+1,i,rfl,rfl,a0,by omega,by rw[a2 (by omega),if_pos (by assumption),hf],.inr ⟨by omega,hg.elim (fun⟨_,_,h3⟩=>(Zeg (by omega) (by assumption) h3).symm) (fun q=>absurd q.1 (by omega))⟩⟩ (by omega))
  refine xwm 4 ((f:Int)+1) (↑(f+1):Int) ?_
  refine xwm 5 ((i:Int)+1) (↑(i+1):Int) ?_
  exact ze 2 (a3 _ _ _ ⟨i+1,f+1,g,rfl,rfl,a0,by omega,by rw[a2 (by omega),if_pos (by assumption),hf],.inr ⟨by omega,hg.elim (fun⟨h1,_,_⟩=>absurd h1 (by omega)) (fun q=>q.2)⟩⟩ (by omega))
 refine xe 14 (.tuple #[V0 (f:Int),V0 (g:Int)]) ?_
 obtain rfl:i=l.length:=by omega
 have a1:f=Xp l:=hf
 rcases hg with ⟨h1,h2,h3⟩|⟨h1,h2⟩
 ·exact⟨by rw[a1,h2,Tg h3],a0⟩
 ·exact⟨by rw[a1,h2],a0⟩
theorem Aj(a:O0)(c:Nat)(l:List Int)(w:World)(hS:Kg l)(hl:l.length≤960)(h:Sl w (.slice a l.length c) l.length (l.map V0)) :
 C0 111 #[.slice a l.length c] w (Qi (fun w' r=>∃ g,r=.tuple #[.slice (S1 g) 244 244,V0 0]∧w'.ownsRow w.heap.size 5 1 (.slice (S1 g) 244 244) 244 ((Uz l).map bv)) w):=by
 refine zin 51 Tryz.func111 ?_
 refine xgk 13 [11,12] (show(decide ((l.length:Int)>(960:Int)):Bool)=false from decide_eq_false (by omega)) ?_
 refine xr 1 (args:=#[.slice a l.length c,.func (.func 165) #[] #[]]) (Dn a c l _ hS hl (h.below (B4 w))) fun W2 a6=>?_
 refine xbs 11 1 [V0 4,V0 (l.length:Int)] 229 fun b3 W3 n3=>?_
 refine xc 0 (args:=#[.slice (S1 b3) 1 1]) (Px b3 (l.length:Int) (by omega) (by omega) _ n3.blk) ?_
 rintro _ W4 ⟨_,rfl,b0,p2,c2,rfl,h2⟩
 have b9:=(bln a6 n3.below).size
 refine xmk 9 fun _ _ _ _ zJ zQ zo zx zy zK=>Vq 244 (.int .u8 0) 1 1 ((List.replicate 244 (0:UInt8)).map bv) zo zx zy Tryz.underlying22 (by kernel_rfl) rfl (by omega) (by omega) (Om 244) fun b5 W5 n5=>?_
 have a4:=Zd h2 b9
 have b2:=Zz a4 n5
 refine zK _ _ ?_
 have o5:=Xf (size:=1) (n:=244) n5.blk (n5.ge (bln (bln a6 n3.below) b0)) (by rw[List.length_map,List.length_replicate]) (by unfold maxLen;omega)
 have a9:=Zb a4 n5.below
 have hB:=bln (bln (bln a6 n3.below) b0) n5.below
 refine xbi 7 (t2:=22) fun _ _ _ _ zJ zQ zo zx zy zK=>Gx (dLen:=244) (dCap:=244) (off:=0) 4 ((leB (l.length:Int) 4).map bv) ((Ud l 0).map bv) zo Tryz.underlying22 (by kernel_rfl) zx zy (Ze a9) o5 (by simp[Zf]) (by omega) (by omega) (Yj _) hB.size (bits0 l) fun W6 o6 b8 c0=>?_
 refine zK _ _ ?_
 have a8:=hB.trans c0
 have a7:=((n3.blk.below b0).below n5.below).grown b8 o5 (by decide)
 refine zl 11 51 (fun zm b7 V=>∃ (i:Nat),b7=[(2,S0),(3,V0 0),(6,.slice (S1 b5) 244 244),(28,.slice a l.length c),(29,V0 (l.length:Int)),(30,V0 (i:Int))]∧zm=l.length-((i:Int)).toNat∧B3 w V∧Blk V b3 ([V0 4,V0 (l.length:Int)]) 229∧V.ownsRow w.heap.size 5 1 (.slice (S1 b5) 244 244) 244 ((Ud l i).map bv)∧i≤l.length) ⟨0,rfl,rfl,a8,a7,o6,Nat.zero_le _⟩ ?_
 rintro _ _ W7 ⟨i,rfl,rfl,a3,a5,ho,hi⟩ J7 b4 r7
 refine xid 6 ((i:Int)<(l.length:Int)) (fun b6=>?_) (fun b6=>?_)
 ·refine xx 7 _ l.length i 1 (Ints.elem h (k:=i) (by omega)).1 ?_
  refine xl 0 ((Ints.elem (h.below a3) (k:=i) (by omega)).2) ?_
  refine xd 4 (.t w.heap.size [5]) ?_
  refine xq (.e [0,1] 2) (congrArg V0 (show(IntKind.i64.wrap (Int.tdiv (i:Int) 4):Int)=(↑(i/4):Int) from Dz i 4 (by omega) (by decide))) ?_
  refine xwm (.e [] 3) (4+(↑(i/4):Int)) (↑(4+(i/4)):Int) ?_
  refine xx (.e [] 4) _ 244 (4+(i/4)) 1 (show(some (⟨b5,0,none⟩:Addr)).isSome=true from rfl) ?_
  refine xq (.e [6,7] 8) (congrArg V0 (show(Int.tmod (i:Int) 4:Int)=(↑(i%4):Int) from Fz i 4)) ?_
  refine xwm (.e [] 9) ((↑(i%4):Int)*2) (↑((i%4)*2):Int) ?_
  refine xbot (.e [] 10) (t:=3) (t2:=3) (fun _ _ _ _ zo zx zy V hV=>run_shlS (n:=(l.getD i 0)) (s:=((i%4)*2)) (kj:=.i64) (j:=(↑((i%4)*2):Int)) zo zx zy rfl (Vx hS i) (by omega) V) ?_
  refine xq (.e [] 11) (congrArg (Value.int .u8) (show(IntKind.u8.wrap (l.getD i 0*2 ^ ((i%4)*2)):Int)=l.getD i 0*2 ^ ((i%4)*2) from u8_shl (Vx hS i) (by omega))) ?_
  have a1:=Zb ho (Za W7)
  refine xl (.o [] 5) ((BysN.elem (Ze a1) (Qv l i) (k:=(4+(i/4))) (by omega)).2) ?_
  refine xq (.e [] 12) (congrArg (Value.int .u8) (show(IntKind.u8.wrap (↑(BitVec.ofInt 8 (↑((Ud l i).getD (4+(i/4)) 0).toNat:Int) ||| BitVec.ofInt 8 (l.getD i 0*2 ^ ((i%4)*2))).toNat:Int):Int)=(↑(g4B l (i+1) (i/4)).toNat:Int) from bits_or hS (by omega))) ?_
  refine xx (.e [] 13) _ 244 (4+(i/4)) 1 (show(some (⟨b5,0,none⟩:Addr)).isSome=true from rfl) ?_
  refine yst (.o [] 14) (.t w.heap.size [5]) fun _ _ _ _ zJ zQ zo zx zy zK=>Gr (t:=5) (k:=(4+(i/4))) (v:=.int .u8 (↑(g4B l (i+1) (i/4)).toNat:Int)) zo zx zy (by kernel_rfl) rfl a1 (by omega) fun W9 u9 o9=>?_
  rw[bits_set (l:=l) (i:=i) (by omega)] at o9
  have a0:=a5.below (Za W7)
  refine zK _ _ (sft_only (T:=[5]) (u9.below (Below.refl _ _) (Md a1)) (Zg.of_updRow u9 a1 (by decide))) ?_
  refine xwm 4 ((i:Int)+1) (↑(i+1):Int) ?_
  have b1:=u9.below (bln a3 (Za W7)) (Md a1)
  have a2:=u9.blk a0 (Cj a0 a1 (by decide))
  exact ze 2 (b4 _ _ _ ⟨i+1,rfl,rfl,b1,a2,o9,by omega⟩ (by omega))
 refine xe 13 (.tuple #[.slice (S1 b5) 244 244,V0 0]) ?_
 obtain rfl:i=l.length:=by omega
 exact⟨_,rfl,a3,_,rfl,ho⟩
theorem Ul(p:Addr)(N c:Nat)(xs:List Value)(w:World)(h:Sl w (.slice (some p) N c) N xs)(hl:xs.length=N)(h1:∀ u∈xs,u.oneCell'=true)(hn:N≤1000000) :
 C0 59 #[.slice (some p) N c] w (Qi (fun w' r=>∃ q c2,r=.slice q N c2∧w'.ownsRow w.heap.size 3 1 (.slice q N c2) N xs) w):=by
 refine zin 8 Tryz.func59 ?_
 refine xb0 17 3 fun b1 W1 n1=>?_
 have o1:=Xf (size:=1) (n:=0) n1.blk (n1.ge (B4 w)) rfl (by decide)
 refine xbi 1 fun _ _ _ _ zJ zQ zo zx zy zK=>Zx (m:=N) (news:=xs) (V0 0) 1 8 (N) (xs) zo Tryz.underlying28 (by kernel_rfl) rfl (by decide) zx o1 zy (h.below n1.below) (by rw[hl,Nat.mul_one]) h1 (by unfold maxLen;omega) (by omega) n1.below.size (by omega) (by rfl) fun a2 a1 W2 o2 a4 a3=>?_
 refine zK _ _ ?_
 have a0:=n1.below.trans a3
 exact xe 4 (.slice a2 N a1) ⟨_,rfl,a0,_,_,rfl,o2⟩
end Go.Proofs.YtgphgaehfdfjjaaGreatDoor
namespace Go.Proofs.YtgphgaehfdfjjaaGreatDoor
set_option maxHeartbeats 8000000
set_option maxRecDepth 100000
open Go.RowKit Go.Extern.Stop Go.Stop Go.Extern
set_option linter.unusedVariables false
attribute [local irreducible] wpList wpAnyH Code.wp Oper.wp Go
theorem Wl(no er:Int)(bl:List Int)(v:Value)(w:World)(hv:Vz w (bl.map some) (some er) v) :
 C0 65 #[V0 no,v] w (fun e w'=>∃ ty x,e=.returned (.iface ty x)∧B3 w w'∧Vz w' ((no::bl).map some) (some er) (.iface ty x)):=by
 refine(Ar no (some er) (bl.map some) v w hv).mono ?_
 rintro e W ⟨r,rfl,hb,hr⟩
 rw[show atL no (bl.map some) (some er)=(no::bl).map some from by unfold atL Pa;simp] at hr
 have a1:Vz W (some no::bl.map some) (some er) r:=hr
 obtain⟨a0,v',rfl,h1,h2⟩:=a1
 exact⟨_,_,rfl,hb,a0,v',rfl,h1,h2⟩
theorem Rv(B b:Nat)(p:O0)(n c:Nat)(l:Bl)(no:Int)(w:World)(hI:ImgR B b p n c l w) :
 C0 120 #[P0 b,V0 no] w (fun e w' =>
 (Xo l no≠0∧∃ ty x,e=.returned (.tuple #[S0,.iface ty x])∧B3 w w'∧Vz w' (([no]:List Int).map some) (some (Xo l no)) (.iface ty x)) ∨
 (Xo l no=0∧∃ p c,e=.returned (.tuple #[.slice p (bitR l no).length c,.nilIface])∧B3 w w'∧w'.ownsRow w.heap.size 3 1 (.slice p (bitR l no).length c) (bitR l no).length ((bitR l no).map V0))):=by
 refine(Za7 B b p n c l no w hI).mono ?_
 rintro e W q
 rcases q with ⟨h,b,rfl,hb,hv⟩|⟨h,p,c,rfl,hb,ho⟩
 ·exact .inl ⟨h,_,_,rfl,hb,hv⟩
 ·refine .inr ⟨h,p,c,by rw[(Th h).2],hb,?_⟩
  rw[(Th h).2,(Th h).1,bitI_map];exact ho
end Go.Proofs.YtgphgaehfdfjjaaGreatDoor
namespace Go.Proofs.YtgphgaehfdfjjaaGreatDoor
set_option maxHeartbeats 8000000
set_option maxRecDepth 100000
open Go.RowKit Go.Extern.Stop Go.Stop Go.Extern
set_option linter.unusedVariables false
attribute [local irreducible] wpList wpAnyH Code.wp Oper.wp Go
def SplitP(l:List Int)(w:World)(e:Ending)(w':World):Prop :=
 (Kl l≠0∧e=.returned (.tuple #[S0,S0,V0 2])∧B3 w w') ∨
 (Kl l=0∧∃ pb cb gs po co,e=.returned (.tuple #[.slice pb (bmN l.length) cb,.slice po (Zn l l.length).length co,V0 0])∧B3 w w'∧Lists w' w.heap.size (.slice pb (bmN l.length) cb) gs (Xh (Zj l) (bmN l.length))∧w'.ownsRow w.heap.size 100 3 (.slice po (Zn l l.length).length co) (Zn l l.length).length ((Zn l l.length).flatMap Je))
theorem Ck{l:List Int}{i:Nat}(hl:l.length≤65536)(hi:i<l.length)(h:¬ Ua (l.getD i 0)):Kl l≠0:=fun q=>h ((Ux q).2 i hi)
theorem Gs{l:List Int}(hl:l.length≤65536)(h:∀ k,k<l.length→Ua (l.getD k 0)):Kl l=0:=by
 unfold Kl;rw[if_neg (by omega),if_pos h]
attribute [local go_sem] Oper.semAt_some
theorem g_retM{P:Program}{fn:Func}{R:Ending→World→Prop}{a:Act}{w:World}(v:Value)(hd:a.defers=[])(hr:(results fn a.tmps).run P w=.ok v w)(h:R (.returned v) w):bodyPostM Fence.wide 4 P fn R .ret a w:=by
 show LeavesInM _ _ _ _ a.tmps R a.defers .returning w
 rw[hd]
 exact⟨v,hr,h⟩
theorem Lists.put{W U:World}{D base:Nat}{v:Value}{gs:List (Nat×Nat)}{L:List (List Int)}(h:Lists W base v gs L)(u:Upd W D U)(hK:Dfr D W):Lists U base v gs L:=⟨u.own3 h.row (hK.row h.row),fun i hi=>u.own3 (h.each i hi) (hK.row (h.each i hi))⟩
theorem mn3_if(n:Int):(if 3<n then 3 else n)=mn3 n:=by unfold mn3;split<;>split<;>omega
def Jc(s:List Int){n:Nat}(pre:List (Fin n)):List (List Int):=pre.map fun j=>Ja s j.val
theorem Kt(s:List Int){n:Nat}(pre:List (Fin n))(x:Fin n):Jc s (pre++[x])=Jc s pre++[Ja s x.val]:=by simp[Jc]
theorem preC_all(s:List Int)(n:Nat):Jc s (List.finRange n)=Xh s n:=by
 unfold Jc Xh
 apply List.ext_getElem
 ·simp
 ·intro i h1 h2;simp
theorem Tl(a:O0)(c:Nat)(l:List Int)(w:World)(h:Sl w (.slice a l.length c) l.length (l.map V0))(hl:l.length≤65536) :
 C0 54 #[.slice a l.length c] w (SplitP l w):=by
 refine Ls Tryz.func54 rfl ?_
 refine g_fr ⟨#[.slice a l.length c,undef,undef,undef,undef,undef,undef,undef,undef,undef,undef,undef,undef,undef,undef,undef,undef,undef,undef,undef,undef,undef,undef,undef,undef,undef,undef,undef,undef,undef,undef,undef,undef,undef,undef,undef,undef,undef,undef,undef,undef,undef,undef,undef,undef,undef,undef,undef,undef,undef,undef,undef],[]⟩ (by kernel_rfl) ?_
 refine wp_seq ?_
 refine wp_region_lit ?_
 refine Mm 3 [(2,S0),(3,S0),(4,V0 0)] (by kernel_rfl) ?_
 refine wpList_nil ?_
 refine wp_seq ?_
 refine wp_seq ?_
 refine wp_region_lit ?_
 refine Mm 3 [(11,.slice a l.length c),(12,V0 (l.length:Int)),(13,.bool (decide ((l.length:Int)>(65536:Int))))] (by kernel_rfl) ?_
 refine wpList_nil ?_
 refine wp_cond_split (t:=decide ((l.length:Int)>(65536:Int))) (by kernel_rfl) (fun hh=>absurd (hh.symm.trans (show(decide ((l.length:Int)>(65536:Int)):Bool)=false from decide_eq_false (by omega))) (by decide)) (fun _=>?_)
 refine wp_skip ?_
 refine wp_seq ?_
 refine wp_region_lit ?_
 refine Mm 1 [(5,S0)] (by kernel_rfl) ?_
 refine wpList_nil ?_
 refine wp_seq ?_
 refine wp_region_lit ?_
 refine Mm 1 [(6,S0)] (by kernel_rfl) ?_
 refine wpList_nil ?_
 refine wp_seq ?_
 refine wp_seq ?_
 refine wp_region_lit ?_
 refine Mm 3 [(14,.slice a l.length c),(15,V0 (l.length:Int)),(16,V0 0)] (by kernel_rfl) ?_
 refine wpList_nil ?_
 refine wp_block ?_
 refine g_fr ⟨#[.slice a l.length c,undef,S0,S0,V0 0,S0,S0,undef,undef,undef,undef,.slice a l.length c,V0 (l.length:Int),.bool (decide ((l.length:Int)>(65536:Int))),.slice a l.length c,V0 (l.length:Int),V0 0,undef,undef,undef,undef,undef,undef,undef,undef,undef,undef,undef,undef,undef,undef,undef,undef,undef,undef,undef,undef,undef,undef,undef,undef,undef,undef,undef,undef,undef,undef,undef,undef,undef,undef,undef],[]⟩ (by kernel_rfl) ?_
 have hB:=Below.refl w.heap.size w
 refine wp_loop (fun i8 V=>∃ (i:Nat) (ps:O0) (cs:Nat) (po:O0) (co:Nat) (x2:Nat→Value),i8=⟨#[.slice a l.length c,undef,(x2 0),(x2 1),(x2 2),.slice ps i cs,.slice po ((Zn l i).length) co,(x2 3),(x2 4),undef,undef,.slice a l.length c,V0 (l.length:Int),.bool (decide ((l.length:Int)>(65536:Int))),.slice a l.length c,V0 (l.length:Int),V0 (i:Int),(x2 5),(x2 6),(x2 7),(x2 8),(x2 9),(x2 10),(x2 11),(x2 12),(x2 13),(x2 14),(x2 15),(x2 16),(x2 17),(x2 18),(x2 19),(x2 20),(x2 21),(x2 22),(x2 23),(x2 24),(x2 25),(x2 26),(x2 27),(x2 28),(x2 29),undef,undef,undef,undef,undef,undef,undef,undef,undef,undef],[]⟩∧B3 w V∧V.ownsRow w.heap.size 3 1 (.slice ps i cs) i ((Zj (l.take i)).map V0)∧V.ownsRow w.heap.size 100 3 (.slice po (Zn l i).length co) (Zn l i).length ((Zn l i).flatMap Je)∧i≤l.length∧((∀ j,j<i→Ua (l.getD j 0)))) (fun i8 V=>l.length-((intOf (i8.tmps.getD 16 undef))).toNat) ⟨0,none,0,none,0,(pk [S0,S0,V0 0,undef,undef,undef,undef,undef,undef,undef,undef,undef,undef,undef,undef,undef,undef,undef,undef,undef,undef,undef,undef,undef,undef,undef,undef,undef,undef,undef]),rfl,hB,World.ownsRow_nil _ _ _ _,World.ownsRow_nil _ _ _ _,Nat.zero_le _,?_⟩ ?_
 ·exact fun j hj=>absurd hj (by omega)
 rintro _ W2 ⟨i,ps,cs,po,co,x2,rfl,hB,hs,ho,hi,hz⟩
 refine wp_seq ?_
 refine wp_region_lit ?_
 refine Mm 1 [(17,.bool (decide ((i:Int)<(l.length:Int))))] (by kernel_rfl) ?_
 refine wpList_nil ?_
 refine wp_seq ?_
 refine wp_cond_split (t:=decide ((i:Int)<(l.length:Int))) (by kernel_rfl) (fun f5=>?_) (fun f5=>?_)
 ·have f5:=of_decide_eq_true f5
  refine wp_skip ?_
  refine wp_seq ?_
  refine wp_block ?_
  refine wp_seq ?_
  refine wp_region_lit ?_
  refine Mm 1 [(18,V0 (i:Int))] (by kernel_rfl) ?_
  refine Zbt (by kernel_rfl) (Kx (Bc (size:=1) (k:=i) (b:=a) (n:=l.length) (c:=c) (i:=(i:Int)) (ki:=.i64) rfl (by kernel_rfl) (by kernel_rfl) rfl (by omega) (Ints.elem h (k:=i) (by omega)).1 Tryz.underlying28 (by kernel_rfl) W2) ?_)
  refine Zbt (by kernel_rfl) (Ms (Zv a (i*1)) (V0 (l.getD i 0)) rfl (by kernel_rfl) (by kernel_rfl) (Ints.elem (h.below hB) (k:=i) (by omega)).2 ?_)
  refine Mm 2 [(7,V0 (i:Int)),(8,V0 (l.getD i 0))] (by kernel_rfl) ?_
  refine wpList_nil ?_
  refine wp_seq ?_
  refine wp_seq ?_
  refine wp_region_lit ?_
  refine Mm 3 [(21,V0 (l.getD i 0)),(22,.bool (decide ((l.getD i 0)<(0:Int)))),(23,.bool (decide ((l.getD i 0)<(0:Int))))] (by kernel_rfl) ?_
  rcases Bool.eq_false_or_eq_true (decide ((l.getD i 0)<(0:Int))) with e1|e1
  ·refine g_b [22,23] _ _ e1 (by kernel_rfl) ?_
   have e1:=of_decide_eq_true e1
   refine Mm 3 [(24,undef),(25,undef),(26,.bool true)] (by kernel_rfl) ?_
   refine wpList_nil ?_
   refine wp_cond_true (by kernel_rfl) ?_
   refine wp_seq ?_
   refine wp_region_lit ?_
   refine Mm 3 [(2,S0),(3,S0),(4,V0 2)] (by kernel_rfl) ?_
   refine wpList_nil ?_
   refine wp_ret (Kn (Jg (Kn (Kn (Jg (Kn ?_))))))
   exact g_retM (.tuple #[S0,S0,V0 2]) (by kernel_rfl) (by kernel_rfl) (.inl ⟨Ck (i:=i) hl (by omega) (fun q=>by unfold Ua at q;omega),rfl,hB⟩)
  ·refine g_b [22,23] _ _ e1 (by kernel_rfl) ?_
   have e1:=of_decide_eq_false e1
   refine Mm 3 [(24,V0 (l.getD i 0)),(25,.bool (decide ((l.getD i 0)>(2147483647:Int)))),(26,.bool (decide ((l.getD i 0)>(2147483647:Int))))] (by kernel_rfl) ?_
   refine wpList_nil ?_
   refine wp_cond_split (t:=decide ((l.getD i 0)>(2147483647:Int))) (by kernel_rfl) (fun f0=>?_) (fun f0=>?_)
   ·have f0:=of_decide_eq_true f0
    refine wp_seq ?_
    refine wp_region_lit ?_
    refine Mm 3 [(2,S0),(3,S0),(4,V0 2)] (by kernel_rfl) ?_
    refine wpList_nil ?_
    refine wp_ret (Kn (Jg (Kn (Kn (Jg (Kn ?_))))))
    exact g_retM (.tuple #[S0,S0,V0 2]) (by kernel_rfl) (by kernel_rfl) (.inl ⟨Ck (i:=i) hl (by omega) (fun q=>by unfold Ua at q;omega),rfl,hB⟩)
   ·have f0:=of_decide_eq_false f0
    refine wp_skip ?_
    refine wp_seq ?_
    refine wp_region_lit ?_
    refine Mm 3 [(27,.slice ps i cs),(28,V0 (l.getD i 0)),(29,V0 (if(3:Int)<(l.getD i 0) then(3:Int) else(l.getD i 0)))] (by kernel_rfl) ?_
    refine Zbt (by kernel_rfl) (Yn 3 [V0 (if(3:Int)<(l.getD i 0) then(3:Int) else(l.getD i 0))] rfl (by kernel_rfl) ?_)
    intro b6 W6 n6
    have g6:=n6.ge hB
    have j6:=Zz hs n6
    replace hB:=bln hB n6.below
    replace hs:=Zb hs n6.below
    replace ho:=Zb ho n6.below
    have k6:=n6.blk
    refine Zbt (by kernel_rfl) (Zx (e:=3) (n:=i) (xs:=(Zj (l.take i)).map V0) (m:=1) (news:=[V0 (if(3:Int)<(l.getD i 0) then(3:Int) else(l.getD i 0))]) (V0 0) 1 8 (i+1) ((Zj (l.take (i+1))).map V0) rfl Tryz.underlying28 (by kernel_rfl) rfl (by decide) (by kernel_rfl) hs (by kernel_rfl) (k6.sl 1 1 (by decide) (by decide)) rfl (by simp[Value.oneCell']) (by unfold maxLen;omega) (by omega) hB.size (by rfl) (by rw[mn3_if,Zbe (by omega),List.map_append];rfl) ?_)
    intro p7 c7 W7 o7 m1 l8
    replace ho:=Xn ho m1 hs (by decide)
    replace hB:=hB.trans l8
    refine Mm 1 [(5,.slice p7 (i+1) c7)] (by kernel_rfl) ?_
    refine wpList_nil ?_
    refine wp_seq ?_
    refine wp_region_lit ?_
    refine Mm 2 [(32,V0 (l.getD i 0)),(33,.bool (decide ((l.getD i 0)≥(3:Int))))] (by kernel_rfl) ?_
    refine wpList_nil ?_
    refine wp_cond_split (t:=decide ((l.getD i 0)≥(3:Int))) (by kernel_rfl) (fun e9=>?_) (fun e9=>?_)
    ·have e9:=of_decide_eq_true e9
     refine wp_region_lit ?_
     refine Mm 3 [(34,.slice po ((Zn l i).length) co),(35,V0 (i:Int)),(36,V0 (l.getD i 0))] (by kernel_rfl) ?_
     refine Zbt (by kernel_rfl) (Ln (lb:=#[]) 109 #[V0 (l.getD i 0)] rfl (by kernel_rfl) (fun _ _=>by kernel_rfl) (by kernel_rfl) ((Se (l.getD i 0) (by omega) (by omega) _).mono ?_))
     rintro e W9 ⟨rfl,c0⟩
     refine⟨_,rfl,?_⟩
     replace hB:=bln hB c0
     replace ho:=Zb ho c0
     replace o7:=Zb o7 c0
     refine Mm 1 [(38,.agg #[V0 (i:Int),.string ⟨(leB (l.getD i 0) 4).toArray⟩,V0 0])] (by kernel_rfl) ?_
     refine Zbt (by kernel_rfl) (Yn 100 [V0 (i:Int),.string ⟨(leB (l.getD i 0) 4).toArray⟩,V0 0] rfl (by kernel_rfl) ?_)
     intro j2 n3 e5
     have n8:=e5.ge hB
     have i7:=Zz ho e5
     replace hB:=bln hB e5.below
     replace ho:=Zb ho e5.below
     replace o7:=Zb o7 e5.below
     have l9:=e5.blk
     refine Zbt (by kernel_rfl) (Zx (e:=100) (n:=(Zn l i).length) (xs:=(Zn l i).flatMap Je) (m:=1) (news:=[V0 (i:Int),.string ⟨(leB (l.getD i 0) 4).toArray⟩,V0 0]) (.agg #[V0 0,.string ⟨#[]⟩,V0 0]) 3 32 ((Zn l (i+1)).length) ((Zn l (i+1)).flatMap Je) rfl Tryz.underlying101 (by kernel_rfl) rfl (by decide) (by kernel_rfl) ho (by kernel_rfl) (l9.sl 1 1 (by decide) (by decide)) rfl (by simp[Value.oneCell']) (by have:=Hm l i;unfold maxLen;omega) (by have:=Hm l i;omega) hB.size (by rw[Uh (by omega)];simp) (by rw[Uh (by omega)];simp[Je]) ?_)
     intro f6 g5 o4 m0 h3 h5
     replace o7:=Xn o7 h3 ho (by decide)
     replace hB:=hB.trans h5
     refine Mm 1 [(6,.slice f6 ((Zn l (i+1)).length) g5)] (by kernel_rfl) ?_
     refine wpList_nil ?_
     refine wp_region_lit ?_
     refine Zbt (by kernel_rfl) (Zdg .i64 ((i:Int)+1) (↑(i+1):Int) (by kernel_rfl) ((show IntKind.i64.wrap ((i:Int)+1)=((i:Int)+1) from by first|exact IntWalk.i64_in _ (by omega)|(simp only[IntKind.wrap];omega)).trans (by omega)) ?_)
     refine Mm 1 [(16,V0 (↑(i+1):Int))] (by kernel_rfl) ?_
     refine wpList_nil ?_
     refine g_nfr ⟨#[.slice a l.length c,undef,(x2 0),(x2 1),(x2 2),.slice p7 (i+1) c7,.slice f6 ((Zn l (i+1)).length) g5,V0 (i:Int),V0 (l.getD i 0),undef,undef,.slice a l.length c,V0 (l.length:Int),.bool (decide ((l.length:Int)>(65536:Int))),.slice a l.length c,V0 (l.length:Int),V0 (↑(i+1):Int),.bool (decide ((i:Int)<(l.length:Int))),V0 (i:Int),.pointer (some (Zv a (i*1))),V0 (l.getD i 0),V0 (l.getD i 0),.bool false,.bool false,V0 (l.getD i 0),.bool (decide ((l.getD i 0)>(2147483647:Int))),.bool (decide ((l.getD i 0)>(2147483647:Int))),.slice ps i cs,V0 (l.getD i 0),V0 (if(3:Int)<(l.getD i 0) then(3:Int) else(l.getD i 0)),.slice (S1 b6) 1 1,.slice p7 (i+1) c7,V0 (l.getD i 0),.bool (decide ((l.getD i 0)≥(3:Int))),.slice po ((Zn l i).length) co,V0 (i:Int),V0 (l.getD i 0),.string ⟨(leB (l.getD i 0) 4).toArray⟩,.agg #[V0 (i:Int),.string ⟨(leB (l.getD i 0) 4).toArray⟩,V0 0],.slice (S1 j2) 1 1,.slice f6 ((Zn l (i+1)).length) g5,V0 (↑(i+1):Int),undef,undef,undef,undef,undef,undef,undef,undef,undef,undef],[]⟩ (by kernel_rfl) ?_
     refine⟨⟨i+1,_,_,_,_,(pk [(x2 0),(x2 1),(x2 2),V0 (i:Int),V0 (l.getD i 0),.bool (decide ((i:Int)<(l.length:Int))),V0 (i:Int),.pointer (some (Zv a (i*1))),V0 (l.getD i 0),V0 (l.getD i 0),.bool false,.bool false,V0 (l.getD i 0),.bool (decide ((l.getD i 0)>(2147483647:Int))),.bool (decide ((l.getD i 0)>(2147483647:Int))),.slice ps i cs,V0 (l.getD i 0),V0 (if(3:Int)<(l.getD i 0) then(3:Int) else(l.getD i 0)),.slice (S1 b6) 1 1,.slice p7 (i+1) c7,V0 (l.getD i 0),.bool (decide ((l.getD i 0)≥(3:Int))),.slice po ((Zn l i).length) co,V0 (i:Int),V0 (l.getD i 0),.string ⟨(leB (l.getD i 0) 4).toArray⟩,.agg #[V0 (i:Int),.string ⟨(leB (l.getD i 0) 4).toArray⟩,V0 0],.slice (S1 j2) 1 1,.slice f6 ((Zn l (i+1)).length) g5,V0 (↑(i+1):Int)]),rfl,hB,o7,m0,by omega,fun j hj=>(Nat.lt_or_ge j i).elim (hz j) (fun q=>by obtain rfl:j=i:=(by omega);exact⟨by omega,by omega⟩)⟩,?_⟩
     show l.length-((↑(i+1):Int)).toNat<l.length-((i:Int)).toNat
     omega
    ·have e9:=of_decide_eq_false e9
     refine wp_skip ?_
     refine wp_region_lit ?_
     refine Zbt (by kernel_rfl) (Zdg .i64 ((i:Int)+1) (↑(i+1):Int) (by kernel_rfl) ((show IntKind.i64.wrap ((i:Int)+1)=((i:Int)+1) from by first|exact IntWalk.i64_in _ (by omega)|(simp only[IntKind.wrap];omega)).trans (by omega)) ?_)
     refine Mm 1 [(16,V0 (↑(i+1):Int))] (by kernel_rfl) ?_
     refine wpList_nil ?_
     refine g_nfr ⟨#[.slice a l.length c,undef,(x2 0),(x2 1),(x2 2),.slice p7 (i+1) c7,.slice po ((Zn l i).length) co,V0 (i:Int),V0 (l.getD i 0),undef,undef,.slice a l.length c,V0 (l.length:Int),.bool (decide ((l.length:Int)>(65536:Int))),.slice a l.length c,V0 (l.length:Int),V0 (↑(i+1):Int),.bool (decide ((i:Int)<(l.length:Int))),V0 (i:Int),.pointer (some (Zv a (i*1))),V0 (l.getD i 0),V0 (l.getD i 0),.bool false,.bool false,V0 (l.getD i 0),.bool (decide ((l.getD i 0)>(2147483647:Int))),.bool (decide ((l.getD i 0)>(2147483647:Int))),.slice ps i cs,V0 (l.getD i 0),V0 (if(3:Int)<(l.getD i 0) then(3:Int) else(l.getD i 0)),.slice (S1 b6) 1 1,.slice p7 (i+1) c7,V0 (l.getD i 0),.bool (decide ((l.getD i 0)≥(3:Int))),(x2 22),(x2 23),(x2 24),(x2 25),(x2 26),(x2 27),(x2 28),V0 (↑(i+1):Int),undef,undef,undef,undef,undef,undef,undef,undef,undef,undef],[]⟩ (by kernel_rfl) ?_
     refine g_nfr ⟨#[.slice a l.length c,undef,(x2 0),(x2 1),(x2 2),.slice p7 (i+1) c7,.slice po ((Zn l (i+1)).length) co,V0 (i:Int),V0 (l.getD i 0),undef,undef,.slice a l.length c,V0 (l.length:Int),.bool (decide ((l.length:Int)>(65536:Int))),.slice a l.length c,V0 (l.length:Int),V0 (↑(i+1):Int),.bool (decide ((i:Int)<(l.length:Int))),V0 (i:Int),.pointer (some (Zv a (i*1))),V0 (l.getD i 0),V0 (l.getD i 0),.bool false,.bool false,V0 (l.getD i 0),.bool (decide ((l.getD i 0)>(2147483647:Int))),.bool (decide ((l.getD i 0)>(2147483647:Int))),.slice ps i cs,V0 (l.getD i 0),V0 (if(3:Int)<(l.getD i 0) then(3:Int) else(l.getD i 0)),.slice (S1 b6) 1 1,.slice p7 (i+1) c7,V0 (l.getD i 0),.bool (decide ((l.getD i 0)≥(3:Int))),(x2 22),(x2 23),(x2 24),(x2 25),(x2 26),(x2 27),(x2 28),V0 (↑(i+1):Int),undef,undef,undef,undef,undef,undef,undef,undef,undef,undef],[]⟩ (by rw[Nj (by omega)]) ?_
     refine⟨⟨i+1,_,_,_,_,(pk [(x2 0),(x2 1),(x2 2),V0 (i:Int),V0 (l.getD i 0),.bool (decide ((i:Int)<(l.length:Int))),V0 (i:Int),.pointer (some (Zv a (i*1))),V0 (l.getD i 0),V0 (l.getD i 0),.bool false,.bool false,V0 (l.getD i 0),.bool (decide ((l.getD i 0)>(2147483647:Int))),.bool (decide ((l.getD i 0)>(2147483647:Int))),.slice ps i cs,V0 (l.getD i 0),V0 (if(3:Int)<(l.getD i 0) then(3:Int) else(l.getD i 0)),.slice (S1 b6) 1 1,.slice p7 (i+1) c7,V0 (l.getD i 0),.bool (decide ((l.getD i 0)≥(3:Int))),(x2 22),(x2 23),(x2 24),(x2 25),(x2 26),(x2 27),(x2 28),V0 (↑(i+1):Int)]),rfl,hB,o7,(by rw[Nj (by omega)];exact ho),by omega,fun j hj=>(Nat.lt_or_ge j i).elim (hz j) (fun q=>by obtain rfl:j=i:=(by omega);exact⟨by omega,by omega⟩)⟩,?_⟩
     show l.length-((↑(i+1):Int)).toNat<l.length-((i:Int)).toNat
     omega
 ·have f5:=of_decide_eq_false f5
  refine wp_exit ?_
  refine Fg ?_
  refine Fg ?_
  refine St ?_
  refine wp_seq ?_
  refine wp_region_lit ?_
  refine Zbt (by kernel_rfl) (Au [S0] rfl (by kernel_rfl) ?_)
  intro b8 n7 e6
  have l7:=e6.ge hB
  replace hB:=bln hB e6.below
  replace hs:=Zb hs e6.below
  replace ho:=Zb ho e6.below
  have c6:=e6.blk
  refine wpList_nil ?_
  refine wp_seq ?_
  refine wp_seq ?_
  refine wp_region_lit ?_
  refine Mm 1 [(42,.slice ps i cs)] (by kernel_rfl) ?_
  refine Zbt (by kernel_rfl) (Ln (lb:=#[]) 110 #[.slice ps i cs,V0 960] rfl (by kernel_rfl) (fun _ _=>by kernel_rfl) (by kernel_rfl) ((Fb ps i cs _).mono ?_))
  rintro e d1 ⟨b1,b2,rfl,c4,n5,o5,m8,d4,e0⟩
  refine⟨_,rfl,?_⟩
  replace hB:=bln hB c4
  replace c6:=c6.below c4
  replace hs:=Zb hs c4
  replace ho:=Zb ho c4
  refine wpList_nil ?_
  refine wp_block ?_
  have l0:i=l.length:=by omega
  obtain⟨g,hv⟩:=row_or hs
  have n0:=Tp b1 b2 (fun b=>b<d1.heap.size∧b≠b8) g 0 i cs (.slice ps i cs) d1 (fun b h=>h.1) ⟨d4.lt,(by rintro rfl;exact absurd (d4.ty c6) (by decide))⟩ ⟨e0.lt,(by rintro rfl;exact absurd (e0.ty c6) (by decide))⟩ (by omega) hv (d4.cell (i:=0) rfl) (e0.cell (i:=0) rfl)
  refine g_fr ⟨#[.slice a l.length c,undef,(x2 0),(x2 1),(x2 2),.slice ps i cs,.slice po ((Zn l i).length) co,(x2 3),(x2 4),P0 b8,undef,.slice a l.length c,V0 (l.length:Int),.bool (decide ((l.length:Int)>(65536:Int))),.slice a l.length c,V0 (l.length:Int),V0 (i:Int),.bool (decide ((i:Int)<(l.length:Int))),(x2 6),(x2 7),(x2 8),(x2 9),(x2 10),(x2 11),(x2 12),(x2 13),(x2 14),(x2 15),(x2 16),(x2 17),(x2 18),(x2 19),(x2 20),(x2 21),(x2 22),(x2 23),(x2 24),(x2 25),(x2 26),(x2 27),(x2 28),(x2 29),.slice ps i cs,.func (.func 163) #[] #[P0 b1,P0 b2],undef,undef,undef,undef,undef,undef,undef,undef],[]⟩ (by kernel_rfl) ?_
  refine wp_range (g:=.tmp 43) (gf:=163) (lb:=#[P0 b1,P0 b2]) rfl (enters_of Tryz.func163 (by kernel_rfl) rfl) _ (fun b h=>h.1) n0 (fun _=>rfl)
   (fun a0 W=>(∃ pb cb gs,gs.length=a0.length∧Blk W b8 [.slice pb (Jc (Zj (l.take i)) a0).length cb] 131∧Lists W d1.heap.size (.slice pb (Jc (Zj (l.take i)) a0).length cb) gs (Jc (Zj (l.take i)) a0))∧BelowBut d1 b8 W)
   (fun _ _ _=>False) ?own (fun _ _ _ _ _ h _ _=>h) ⟨⟨none,0,[],rfl,c6,⟨World.ownsRow_nil _ _ _ _,fun i hi=>absurd hi (Nat.not_lt_zero _)⟩⟩,(Below.refl _ _).but _⟩
   (fun x a' _=>a'={ tmps:=#[.slice a l.length c,undef,(x2 0),(x2 1),(x2 2),.slice ps i cs,.slice po ((Zn l i).length) co,(x2 3),(x2 4),P0 b8,.slice (some ⟨g,0+x.val*960,none⟩) (min 960 (i-x.val*960)) (min 960 (i-x.val*960)),.slice a l.length c,V0 (l.length:Int),.bool (decide ((l.length:Int)>(65536:Int))),.slice a l.length c,V0 (l.length:Int),V0 (i:Int),.bool (decide ((i:Int)<(l.length:Int))),(x2 6),(x2 7),(x2 8),(x2 9),(x2 10),(x2 11),(x2 12),(x2 13),(x2 14),(x2 15),(x2 16),(x2 17),(x2 18),(x2 19),(x2 20),(x2 21),(x2 22),(x2 23),(x2 24),(x2 25),(x2 26),(x2 27),(x2 28),(x2 29),.slice ps i cs,.func (.func 163) #[] #[P0 b1,P0 b2],.slice (some ⟨g,0+x.val*960,none⟩) (min 960 (i-x.val*960)) (min 960 (i-x.val*960)),undef,undef,undef,undef,undef,undef,undef],defers:=[] }) (fun _ _ _ _ _ _ h _ _=>h) ?assign ?body ?done (fun _ _ _ _ _ _ h _=>h.elim)
  case own=>exact OwnFrom.and (Own.from (fun s A B n4 hs hg hr=>by obtain⟨pb,cb,gs,h0,h1,h2⟩:=hs;exact⟨pb,cb,gs,h0,h1.turn hg hr,h2.turn hg hr⟩) _) (Sv (Nat.le_refl _))
  case assign =>
   rintro lr a0 x W K hI hK
   unfold encK
   gi_wp2
   refine hK _ _ (KeepsFrom.refl _ _) (Keeps.refl _ _) hI ?_
   simp only[l0,Nat.zero_add,decide_eq_false (show ¬ ((l.length:Int)>65536) by omega),Int.lt_irrefl,decide_false]
  case body =>
   rintro lr a0 x a' W o3 ⟨⟨pb,cb,gs,d7,m9,hL⟩,e4⟩ rfl o6
   have hx:=bmN_lt x.isLt
   have m2:=hv.resolve_left (fun q=>by omega)
   have a2:=e4.own2 hs c6 (by decide)
   rw[m2.1] at a2
   obtain⟨m,hm⟩:∃ m,min 960 (i-x.val*960)=m:=⟨_,rfl⟩
   rw[hm]
   have f1:0<m:=by omega
   have j0:x.val*960+m≤i:=by omega
   have g9:(Zj (l.take i)).length=i:=by simp[Zj];omega
   have c8:(Ja (Zj (l.take i)) x.val).length=m:=by rw[Pg,g9];exact hm
   have j3:(((Zj (l.take i)).map V0).drop (x.val*960)).take m=(Ja (Zj (l.take i)) x.val).map V0:=by rw[←List.map_drop,←List.map_take];unfold Ja;rw[show((Zj (l.take i)).drop (x.val*960)).take m=((Zj (l.take i)).drop (x.val*960)).take 960 from by rw[List.take_eq_take_iff,List.length_drop,g9];omega]
   have i2:(Jc (Zj (l.take i)) a0).length=a0.length:=by simp[Jc]
   have n9:a0.length≤69:=by have:bmN i≤69:=(by unfold bmN;omega);omega
   have a1:=hL.row
   have hE:Each W d1.heap.size gs (Jc (Zj (l.take i)) a0):=hL.each
   have hZ:RdZ d1 b8 W W:=RdZ.refl e4
   have a8:d1.heap.size≤W.heap.size:=e4.size
   have a3:w.heap.size≤d1.heap.size:=hB.size
   have c0:=l7
   refine wpIn_block ?_
   have hB:=blB (Below.refl w.heap.size W) (Nat.le_trans a3 a8) (Za W)
   replace m9:=m9.below (Za W)
   replace a2:=Zb a2 (Za W)
   replace a1:=Zb a1 (Za W)
   replace hE:=hE.below (Za W)
   replace hZ:=hZ.below (Za W)
   refine h_regIn (fun V=>Below w.heap.size (W.drew) V∧Zg [131,28] (W.drew) V) 6 rfl #[false,false,false,false,false,false] rfl (by kernel_rfl) (fun⟨_,_,q⟩=>q) (by simp) ⟨Below.refl _ _,Zg.refl _ _⟩ ?_
   intro c1
   have a7:=hB
   have f4:=m9
   have i9:=a1
   refine h_pv [1] 5 rfl #[false,true,false,false,false,false] [(46,.slice (some ⟨g,0+x.val*960,none⟩) m m)] (by kernel_rfl) (fun _ _ _ _ _ h=>h) (by kernel_rfl) c1 ?_
   refine h_two 0 2 4 rfl (by kernel_rfl) rfl rfl (by kernel_rfl) (by kernel_rfl) ?_ ?_
   ·refine Ms ⟨b8,0,none⟩ (.slice pb ((Jc (Zj (l.take i)) a0).length) cb) rfl (by kernel_rfl) (by kernel_rfl) (m9.cell (i:=0) rfl) ?_
    have d6:Below w.heap.size (W.drew) (W.drew)∧Zg [131,28] (W.drew) (W.drew):=c1
    refine⟨d6,?_⟩
    have i6:W.heap.size≤(W.drew).heap.size:=hB.size
    refine Ly 2 3 rfl (by kernel_rfl) rfl (by kernel_rfl) (Ln (lb:=#[]) 59 #[.slice (some ⟨g,0+x.val*960,none⟩) m m] rfl (by kernel_rfl) (fun _ _=>by kernel_rfl) (by kernel_rfl) ((Ul ⟨g,0+x.val*960,none⟩ m m ((Ja (Zj (l.take i)) x.val).map V0) _ (j3▸Sl.midI (Ze a2) (by rw[List.length_map];exact g9) (x.val*960) m f1 j0) (by rw[List.length_map];exact c8) (fun u hu=>by obtain⟨y,_,rfl⟩:=List.mem_map.1 hu;rfl) (by omega)).mono ?_))
    rintro e l1 ⟨_,rfl,a4,q,c2,rfl,hq⟩
    refine⟨_,rfl,?_⟩
    replace hB:=blB hB (Nat.le_trans a3 a8) a4
    replace m9:=m9.below a4
    replace a2:=Zb a2 a4
    replace a1:=Zb a1 a4
    replace hE:=hE.below a4
    replace hZ:=hZ.below a4
    replace hq:=Zd hq i6
    have c3:Below w.heap.size (W.drew) (l1)∧Zg [131,28] (W.drew) (l1):=⟨blB d6.1 (Nat.le_trans (Nat.le_trans a3 a8) a7.size) a4,d6.2.trans (Zg.of_below a4)⟩
    refine⟨c3,?_⟩
    refine Ly 3 2 rfl (by kernel_rfl) rfl (by kernel_rfl) (Yn 28 [.slice q m c2] rfl (by kernel_rfl) ?_)
    intro m5 j4 a9
    have g0:=a9.ne m9
    have o2:=a9.ge0 hB
    have f7:=Zz a1 a9
    have h6:(W.drew).heap.size≤m5:=by have:=c3.1.size;have:=a9.at_;omega
    replace hB:=blB hB (Nat.le_trans a3 a8) a9.below
    replace m9:=m9.below a9.below
    replace a2:=Zb a2 a9.below
    replace a1:=Zb a1 a9.below
    replace hE:=hE.below a9.below
    replace hZ:=hZ.below a9.below
    replace hq:=Zb hq a9.below
    have m4:=a9.blk
    have d5:Below w.heap.size (W.drew) (j4)∧Zg [131,28] (W.drew) (j4):=⟨blB c3.1 (Nat.le_trans (Nat.le_trans a3 a8) a7.size) a9.below,c3.2.trans (Zg.of_below a9.below)⟩
    refine⟨d5,?_⟩
    refine Ly 4 1 rfl (by kernel_rfl) rfl (by kernel_rfl) (Zx (e:=28) (n:=(Jc (Zj (l.take i)) a0).length) (xs:=(List.range (Jc (Zj (l.take i)) a0).length).map (Em gs (Jc (Zj (l.take i)) a0))) (m:=1) (news:=[.slice q m c2]) (S0) 1 24 ((Jc (Zj (l.take i)) a0).length+1) ((List.range (Jc (Zj (l.take i)) a0).length).map (Em gs (Jc (Zj (l.take i)) a0))++[.slice q m c2]) rfl Tryz.underlying131 (by kernel_rfl) rfl (by decide) (by kernel_rfl) a1 (by kernel_rfl) (m4.sl 1 1 (by decide) (by decide)) rfl (by simp[Value.oneCell']) (by unfold maxLen;omega) (by omega) (Nat.le_trans a8 hZ.le) (by simp) (by simp) ?_)
    intro k4 l5 l6 i5 b7 e7
    replace m9:=m9.grown b7 a1 (by decide)
    replace a2:=Xn a2 b7 a1 (by decide)
    replace hE:=hE.only (Zg.of_grown (T:=[28]) b7 a1 (by decide)) (by decide)
    replace hZ:=hZ.grown b7 a1
    replace hq:=Xn hq b7 a1 (by decide)
    replace hB:=hB.trans (e7.mono a3)
    have e3:Below w.heap.size (W.drew) (l6)∧Zg [131,28] (W.drew) (l6):=⟨d5.1.trans (e7.mono a3),d5.2.trans (Zg.of_grown b7 a1 (by decide))⟩
    refine⟨e3,?_⟩
    refine Ly 5 0 rfl (by kernel_rfl) rfl (by kernel_rfl) (Uu (v:=.slice k4 ((Jc (Zj (l.take i)) a0).length+1) l5) (b:=b8) (off:=0) rfl (by kernel_rfl) (by kernel_rfl) (by kernel_rfl) rfl m9 (by first|decide|simp) ?_)
    intro j1 d0 k8
    change Blk _ _ [.slice k4 ((Jc (Zj (l.take i)) a0).length+1) l5] _ at k8
    replace hB:=d0.below hB c0
    replace a2:=d0.own2 a2 m9 (by decide)
    replace hE:=hE.only (Zg.of_upd (T:=[131]) d0 m9 (by decide)) (by decide)
    replace hZ:=hZ.upd d0 m9
    replace hq:=d0.own2 hq m9 (by decide)
    replace i5:=d0.own2 i5 m9 (by decide)
    have h9:Below w.heap.size (W.drew) (j1)∧Zg [131,28] (W.drew) (j1):=⟨d0.below e3.1 c0,e3.2.trans (Zg.of_upd d0 m9 (by decide))⟩
    refine⟨h9,?_⟩
    refine Zdk _ (by kernel_rfl) ?_
    obtain⟨g2,rfl,k9⟩:=Hg hq f1
    rw[←c8] at hq
    have a5:=i5
    rw[←c8] at a5
    have hS:=Lists.snoc (n:=(Jc (Zj (l.take i)) a0).length+1) rfl a5 hE (Zd hq a8) (by rw[d7,i2])
    exact⟨hZ.ko.from _,⟨hZ.le,fun b hb=>hZ.fr b hb.1 hb.2⟩,⟨_,_,gs++[(g2,_)],by simp[d7],by rw[Kt,List.length_append];exact k8,by rw[Kt,List.length_append];exact hS⟩,hZ.bb⟩
   ·have h8:W.heap.size≤(W.drew).heap.size:=hB.size
    refine Ln (lb:=#[]) 59 #[.slice (some ⟨g,0+x.val*960,none⟩) m m] rfl (by kernel_rfl) (fun _ _=>by kernel_rfl) (by kernel_rfl) ((Ul ⟨g,0+x.val*960,none⟩ m m ((Ja (Zj (l.take i)) x.val).map V0) _ (j3▸Sl.midI (Ze a2) (by rw[List.length_map];exact g9) (x.val*960) m f1 j0) (by rw[List.length_map];exact c8) (fun u hu=>by obtain⟨y,_,rfl⟩:=List.mem_map.1 hu;rfl) (by omega)).mono ?_)
    rintro e g1 ⟨_,rfl,a6,q,c2,rfl,hq⟩
    refine⟨_,rfl,?_⟩
    replace hB:=blB hB (Nat.le_trans a3 a8) a6
    replace m9:=m9.below a6
    replace a2:=Zb a2 a6
    replace a1:=Zb a1 a6
    replace hE:=hE.below a6
    replace hZ:=hZ.below a6
    replace hq:=Zd hq h8
    have b9:Below w.heap.size (W.drew) (g1)∧Zg [131,28] (W.drew) (g1):=⟨blB c1.1 (Nat.le_trans (Nat.le_trans a3 a8) a7.size) a6,c1.2.trans (Zg.of_below a6)⟩
    refine⟨b9,?_⟩
    refine h_two 0 3 3 rfl (by kernel_rfl) rfl rfl (by kernel_rfl) (by kernel_rfl) ?_ ?_
    ·refine Ms ⟨b8,0,none⟩ (.slice pb ((Jc (Zj (l.take i)) a0).length) cb) rfl (by kernel_rfl) (by kernel_rfl) (m9.cell (i:=0) rfl) ?_
     have c5:Below w.heap.size (W.drew) (g1)∧Zg [131,28] (W.drew) (g1):=b9
     refine⟨c5,?_⟩
     refine Ly 3 2 rfl (by kernel_rfl) rfl (by kernel_rfl) (Yn 28 [.slice q m c2] rfl (by kernel_rfl) ?_)
     intro m7 j5 b3
     have g8:=b3.ne m9
     have o0:=b3.ge0 hB
     have f8:=Zz a1 b3
     have i0:(W.drew).heap.size≤m7:=by have:=c5.1.size;have:=b3.at_;omega
     replace hB:=blB hB (Nat.le_trans a3 a8) b3.below
     replace m9:=m9.below b3.below
     replace a2:=Zb a2 b3.below
     replace a1:=Zb a1 b3.below
     replace hE:=hE.below b3.below
     replace hZ:=hZ.below b3.below
     replace hq:=Zb hq b3.below
     have m6:=b3.blk
     have d9:Below w.heap.size (W.drew) (j5)∧Zg [131,28] (W.drew) (j5):=⟨blB c5.1 (Nat.le_trans (Nat.le_trans a3 a8) a7.size) b3.below,c5.2.trans (Zg.of_below b3.below)⟩
     refine⟨d9,?_⟩
     refine Ly 4 1 rfl (by kernel_rfl) rfl (by kernel_rfl) (Zx (e:=28) (n:=(Jc (Zj (l.take i)) a0).length) (xs:=(List.range (Jc (Zj (l.take i)) a0).length).map (Em gs (Jc (Zj (l.take i)) a0))) (m:=1) (news:=[.slice q m c2]) (S0) 1 24 ((Jc (Zj (l.take i)) a0).length+1) ((List.range (Jc (Zj (l.take i)) a0).length).map (Em gs (Jc (Zj (l.take i)) a0))++[.slice q m c2]) rfl Tryz.underlying131 (by kernel_rfl) rfl (by decide) (by kernel_rfl) a1 (by kernel_rfl) (m6.sl 1 1 (by decide) (by decide)) rfl (by simp[Value.oneCell']) (by unfold maxLen;omega) (by omega) (Nat.le_trans a8 hZ.le) (by simp) (by simp) ?_)
     intro j8 k1 k3 h4 b5 e8
     replace m9:=m9.grown b5 a1 (by decide)
     replace a2:=Xn a2 b5 a1 (by decide)
     replace hE:=hE.only (Zg.of_grown (T:=[28]) b5 a1 (by decide)) (by decide)
     replace hZ:=hZ.grown b5 a1
     replace hq:=Xn hq b5 a1 (by decide)
     replace hB:=hB.trans (e8.mono a3)
     have e2:Below w.heap.size (W.drew) (k3)∧Zg [131,28] (W.drew) (k3):=⟨d9.1.trans (e8.mono a3),d9.2.trans (Zg.of_grown b5 a1 (by decide))⟩
     refine⟨e2,?_⟩
     refine Ly 5 0 rfl (by kernel_rfl) rfl (by kernel_rfl) (Uu (v:=.slice j8 ((Jc (Zj (l.take i)) a0).length+1) k1) (b:=b8) (off:=0) rfl (by kernel_rfl) (by kernel_rfl) (by kernel_rfl) rfl m9 (by first|decide|simp) ?_)
     intro k2 d2 j7
     change Blk _ _ [.slice j8 ((Jc (Zj (l.take i)) a0).length+1) k1] _ at j7
     replace hB:=d2.below hB c0
     replace a2:=d2.own2 a2 m9 (by decide)
     replace hE:=hE.only (Zg.of_upd (T:=[131]) d2 m9 (by decide)) (by decide)
     replace hZ:=hZ.upd d2 m9
     replace hq:=d2.own2 hq m9 (by decide)
     replace h4:=d2.own2 h4 m9 (by decide)
     have i3:Below w.heap.size (W.drew) (k2)∧Zg [131,28] (W.drew) (k2):=⟨d2.below e2.1 c0,e2.2.trans (Zg.of_upd d2 m9 (by decide))⟩
     refine⟨i3,?_⟩
     refine Zdk _ (by kernel_rfl) ?_
     obtain⟨g2,rfl,k9⟩:=Hg hq f1
     rw[←c8] at hq
     have a5:=h4
     rw[←c8] at a5
     have hS:=Lists.snoc (n:=(Jc (Zj (l.take i)) a0).length+1) rfl a5 hE (Zd hq a8) (by rw[d7,i2])
     exact⟨hZ.ko.from _,⟨hZ.le,fun b hb=>hZ.fr b hb.1 hb.2⟩,⟨_,_,gs++[(g2,_)],by simp[d7],by rw[Kt,List.length_append];exact j7,by rw[Kt,List.length_append];exact hS⟩,hZ.bb⟩
    ·refine Yn 28 [.slice q m c2] rfl (by kernel_rfl) ?_
     intro m3 g3 b0
     have f9:=b0.ne m9
     have o1:=b0.ge0 hB
     have g7:=Zz a1 b0
     have h7:(W.drew).heap.size≤m3:=by have:=b9.1.size;have:=b0.at_;omega
     replace hB:=blB hB (Nat.le_trans a3 a8) b0.below
     replace m9:=m9.below b0.below
     replace a2:=Zb a2 b0.below
     replace a1:=Zb a1 b0.below
     replace hE:=hE.below b0.below
     replace hZ:=hZ.below b0.below
     replace hq:=Zb hq b0.below
     have n2:=b0.blk
     have f2:Below w.heap.size (W.drew) (g3)∧Zg [131,28] (W.drew) (g3):=⟨blB b9.1 (Nat.le_trans (Nat.le_trans a3 a8) a7.size) b0.below,b9.2.trans (Zg.of_below b0.below)⟩
     refine⟨f2,?_⟩
     refine Ly 0 2 rfl (by kernel_rfl) rfl (by kernel_rfl) (Ms ⟨b8,0,none⟩ (.slice pb ((Jc (Zj (l.take i)) a0).length) cb) rfl (by kernel_rfl) (by kernel_rfl) (m9.cell (i:=0) rfl) ?_)
     have d3:Below w.heap.size (W.drew) (g3)∧Zg [131,28] (W.drew) (g3):=f2
     refine⟨d3,?_⟩
     refine Ly 4 1 rfl (by kernel_rfl) rfl (by kernel_rfl) (Zx (e:=28) (n:=(Jc (Zj (l.take i)) a0).length) (xs:=(List.range (Jc (Zj (l.take i)) a0).length).map (Em gs (Jc (Zj (l.take i)) a0))) (m:=1) (news:=[.slice q m c2]) (S0) 1 24 ((Jc (Zj (l.take i)) a0).length+1) ((List.range (Jc (Zj (l.take i)) a0).length).map (Em gs (Jc (Zj (l.take i)) a0))++[.slice q m c2]) rfl Tryz.underlying131 (by kernel_rfl) rfl (by decide) (by kernel_rfl) a1 (by kernel_rfl) (n2.sl 1 1 (by decide) (by decide)) rfl (by simp[Value.oneCell']) (by unfold maxLen;omega) (by omega) (Nat.le_trans a8 hZ.le) (by simp) (by simp) ?_)
     intro k7 l3 j9 i1 b4 f3
     replace m9:=m9.grown b4 a1 (by decide)
     replace a2:=Xn a2 b4 a1 (by decide)
     replace hE:=hE.only (Zg.of_grown (T:=[28]) b4 a1 (by decide)) (by decide)
     replace hZ:=hZ.grown b4 a1
     replace hq:=Xn hq b4 a1 (by decide)
     replace hB:=hB.trans (f3.mono a3)
     have d8:Below w.heap.size (W.drew) (j9)∧Zg [131,28] (W.drew) (j9):=⟨d3.1.trans (f3.mono a3),d3.2.trans (Zg.of_grown b4 a1 (by decide))⟩
     refine⟨d8,?_⟩
     refine Ly 5 0 rfl (by kernel_rfl) rfl (by kernel_rfl) (Uu (v:=.slice k7 ((Jc (Zj (l.take i)) a0).length+1) l3) (b:=b8) (off:=0) rfl (by kernel_rfl) (by kernel_rfl) (by kernel_rfl) rfl m9 (by first|decide|simp) ?_)
     intro l2 c9 k5
     change Blk _ _ [.slice k7 ((Jc (Zj (l.take i)) a0).length+1) l3] _ at k5
     replace hB:=c9.below hB c0
     replace a2:=c9.own2 a2 m9 (by decide)
     replace hE:=hE.only (Zg.of_upd (T:=[131]) c9 m9 (by decide)) (by decide)
     replace hZ:=hZ.upd c9 m9
     replace hq:=c9.own2 hq m9 (by decide)
     replace i1:=c9.own2 i1 m9 (by decide)
     have i4:Below w.heap.size (W.drew) (l2)∧Zg [131,28] (W.drew) (l2):=⟨c9.below d8.1 c0,d8.2.trans (Zg.of_upd c9 m9 (by decide))⟩
     refine⟨i4,?_⟩
     refine Zdk _ (by kernel_rfl) ?_
     obtain⟨g2,rfl,k9⟩:=Hg hq f1
     rw[←c8] at hq
     have a5:=i1
     rw[←c8] at a5
     have hS:=Lists.snoc (n:=(Jc (Zj (l.take i)) a0).length+1) rfl a5 hE (Zd hq a8) (by rw[d7,i2])
     exact⟨hZ.ko.from _,⟨hZ.le,fun b hb=>hZ.fr b hb.1 hb.2⟩,⟨_,_,gs++[(g2,_)],by simp[d7],by rw[Kt,List.length_append];exact k5,by rw[Kt,List.length_append];exact hS⟩,hZ.bb⟩
  case done =>
   rintro D xs W hD rfl ⟨⟨pb,cb,gs,d7,m9,hL⟩,e4⟩ k0
   rw[preC_all] at m9 hL
   have hK:Dfr D W:=k0;clear k0
   subst l0
   rw[List.take_length] at m9 hL
   rw[Kc] at m9 hL
   refine g_nopan ?_
   have n1:=hB
   replace hB:=e4.below hB l7 hB.size
   have l4:=e4.own2 ho c6 (by decide)
   have a3:=n1.size
   replace c6:=m9
   refine wp_seq ?_
   refine wp_region_lit ?_
   refine Zbt (by kernel_rfl) (Ms ⟨b8,0,none⟩ (.slice pb (bmN l.length) cb) rfl (by kernel_rfl) (by kernel_rfl) (c6.cell (i:=0) rfl) ?_)
   refine Mm 4 [(51,.slice po ((Zn l l.length).length) co),(2,.slice pb (bmN l.length) cb),(3,.slice po ((Zn l l.length).length) co),(4,V0 0)] (by kernel_rfl) ?_
   refine wpList_nil ?_
   refine wp_ret ?_
   exact g_endM hK (.tuple #[.slice pb (bmN l.length) cb,.slice po ((Zn l l.length).length) co,V0 0]) (by kernel_rfl) (by kernel_rfl) (.inr ⟨Gs hl (fun k hk=>hz k (by omega)),_,_,gs,_,_,rfl,(Upd.of_put _ _ _).below hB (Nat.le_trans a3 hD),(hL.mono a3).put (Upd.of_put _ _ _) hK,(Upd.of_put _ _ _).own3 l4 (hK.row l4)⟩)
end Go.Proofs.YtgphgaehfdfjjaaGreatDoor
namespace Go.Proofs.YtgphgaehfdfjjaaGreatDoor
set_option maxHeartbeats 8000000
set_option maxRecDepth 100000
open Go.RowKit Go.Extern.Stop Go.Stop Go.Extern
set_option linter.unusedVariables false
attribute [local irreducible] wpList wpAnyH Code.wp Oper.wp Go
theorem Ex(B b:Nat)(p:O0)(n c:Nat)(l:Bl)(no:Int)(w:World)(hI:ImgR B b p n c l w) :
 C0 11 #[P0 b,V0 no] w (fun e w' =>
 (Xx l no≠0∧∃ ty x,e=.returned (.tuple #[S0,.iface ty x])∧B3 w w'∧Vz w' (([no]:List Int).map some) (some (Xx l no)) (.iface ty x)) ∨
 (Xx l no=0∧∃ p c,e=.returned (.tuple #[.slice p (Eo l no).length c,.nilIface])∧B3 w w'∧w'.ownsRow w.heap.size 136 3 (.slice p (Eo l no).length c) (Eo l no).length ((Eo l no).flatMap sltC))):=by
 refine(Qp B b p n c l no w hI).mono ?_
 rintro e W q
 rcases q with ⟨h,b,rfl,hb,hv⟩|⟨h,p,c,rfl,hb,ho⟩
 ·exact .inl ⟨h,_,_,rfl,hb,hv⟩
 ·refine .inr ⟨h,p,c,by rw[(Wu h).2],hb,?_⟩
  rw[(Wu h).2,(Wu h).1];exact ho
theorem nat_map(cs:List Nat):(cs.map fun c:Nat=>(c:Int)).map V0=cs.map nv:=by simp[nv]
theorem nv_get{cs:List Nat}{k:Nat}(h:k<cs.length):(cs.map nv)[k]? = some (V0 ((cs.getD k 0:Nat):Int)):=by simp[List.getD,h,nv]
theorem nv_bump(cs:List Nat)(k:Nat):(cs.map nv).set k (V0 ((cs.getD k 0+1:Nat):Int))=(Vf cs (k:Int)).map nv:=by
 unfold Vf;rw[Int.toNat_natCast,List.map_set];rfl
theorem bump_get{cs:List Nat}{k:Nat}(h:k<cs.length):(Vf cs (k:Int)).getD k 0=cs.getD k 0+1:=by
 unfold Vf;rw[Int.toNat_natCast];simp[List.getD,h]
def AddP(B g n:Nat)(cs:List Nat)(no:Int)(w:World)(e:Ending)(w':World):Prop :=
 (¬ (0≤no∧no<cs.length)∧e=.returned (.tuple #[V0 0,V0 3])∧Below B w w'∧Zg [3] w w'∧w'.ownsRow B 3 1 (.slice (S1 g) n n) n (cs.map nv)) ∨
 ((0≤no∧no<cs.length)∧e=.returned (.tuple #[V0 ((cs.getD no.toNat 0+1:Nat):Int),V0 0])∧Below B w w'∧Zg [3] w w'∧w'.ownsRow B 3 1 (.slice (S1 g) n n) n ((Vf cs no).map nv))
theorem Qg{w:World}{pc:O0}{n m:Nat}{cs:List Nat}(h:Sl w (.slice pc n m) n (cs.map nv)){k:Nat}(hk:k<cs.length):pc.isSome=true∧w.cell? (Zv pc (k*1))=some (V0 ((cs.getD k 0:Nat):Int)):=by
 rcases h with ⟨a,c,h1,h2,h3⟩|⟨b,a0,a1,h1,h2,h3,h4⟩
 ·simp only[Value.slice.injEq] at h1
  have:(cs.map nv).length=0:=by rw[h3];rfl
  rw[List.length_map] at this;omega
 ·simp only[Value.slice.injEq] at h1
  obtain⟨rfl,_,_⟩:=h1
  refine⟨rfl,?_⟩
  have:=h4 k _ (nv_get hk)
  simpa [Zv,Addr.add_mid] using this
theorem Zc2(br g n:Nat)(no:Int)(w:World)(kr:Blk w br [.slice (S1 g) n n] 146)(ho:¬ (0≤no∧no<n)) :
 C0 28 #[P0 br,V0 no] w (Ret (.tuple #[V0 0,V0 3]) w):=by
 refine zin 37 Tryz.func28 ?_
 refine xg 21 [11,12] (decide (no<(0:Int))) (fun a0=>?_) (fun a0=>?_)
 ·have a0:=of_decide_eq_true a0
  exact xe 21 (.tuple #[V0 0,V0 3]) ⟨rfl,(B4 w)⟩
 have a0:=of_decide_eq_false a0
 refine xb 4 0 kr ?_
 refine xk 6 (show(decide (no≥(n:Int)):Bool)=true from decide_eq_true (by omega)) ?_
 exact xe 9 (.tuple #[V0 0,V0 3]) ⟨rfl,(B4 w)⟩
theorem Fn(B br g n k:Nat)(cs:List Nat)(w:World)(kr:Blk w br [.slice (S1 g) n n] 146)(hBw:B≤w.heap.size)(hc:w.ownsRow B 3 1 (.slice (S1 g) n n) n (cs.map nv))(hn:cs.length=n)(hk:k<n)(hb:cs.getD k 0≤4000000000000000000) :
 C0 28 #[P0 br,V0 (k:Int)] w ((fun e w'=>e=.returned (.tuple #[V0 ((cs.getD k 0+1:Nat):Int),V0 0])∧Below B w w'∧Zg [3] w w'∧w'.ownsRow B 3 1 (.slice (S1 g) n n) n ((Vf cs (k:Int)).map nv))):=by
 have a3:=Vi cs (k:Int)
 refine zin 37 Tryz.func28 ?_
 refine xg 21 [11,12] (decide ((k:Int)<(0:Int))) (fun a0=>?_) (fun a0=>?_)
 ·have a0:=of_decide_eq_true a0
  exact xe 21 (.tuple #[V0 0,V0 3]) (by exfalso;omega)
 have a0:=of_decide_eq_false a0
 refine xb 4 0 kr ?_
 refine xid 6 ((k:Int)≥(n:Int)) (fun a2=>?_) (fun a2=>?_)
 ·exact xe 9 (.tuple #[V0 0,V0 3]) (by exfalso;omega)
 refine xb 8 0 kr ?_
 refine xx 1 _ n k 1 (Qg (Ze hc) (k:=k) (by omega)).1 ?_
 refine xl 0 ((Qg (Ze hc) (k:=k) (by omega)).2) ?_
 refine xwm 0 ((↑(cs.getD k 0):Int)+1) (↑((cs.getD k 0)+1):Int) ?_
 refine xx 0 _ n k 1 (Qg (Ze hc) (k:=k) (by omega)).1 ?_
 refine xst 0 fun _ _ _ _ zJ zQ zo zx zy zK=>Gr (t:=3) (k:=k) (v:=V0 (↑((cs.getD k 0)+1):Int)) zo zx zy (by kernel_rfl) rfl hc (by omega) fun W3 u3 o3=>?_
 rw[nv_bump cs k] at o3
 refine zK _ _ ?_
 have a1:=u3.blk kr (Cj kr hc (by decide))
 refine xb 7 0 a1 ?_
 refine xx 1 _ n k 1 (Qg (Ze o3) (k:=k) (by omega)).1 ?_
 refine xl 0 ((Qg (Ze o3) (k:=k) (by omega)).2) ?_
 have hB:=u3.below (Below.refl B w) (Md hc)
 have hO:=(show Zg [3] w _ from(Zg.of_updRow u3 hc (by decide)))
 exact xe 5 (.tuple #[V0 (↑((Vf cs (k:Int)).getD k 0):Int),V0 0]) ⟨by rw[bump_get (by omega)],hB,hO,o3⟩
theorem refs_Add(B br g n:Nat)(cs:List Nat)(no:Int)(w:World)(kr:Blk w br [.slice (S1 g) n n] 146)(hBw:B≤w.heap.size)(hc:w.ownsRow B 3 1 (.slice (S1 g) n n) n (cs.map nv))(hn:cs.length=n)(hb:phi cs≤1000000000000):C0 28 #[P0 br,V0 no] w (AddP B g n cs no w):=by
 by_cases ho:0≤no∧no<cs.length
 ·obtain⟨k,rfl⟩:∃ k:Nat,no=(k:Int):=⟨no.toNat,by omega⟩
  have h1:=getD_phi cs k
  refine(Fn B br g n k cs w kr hBw hc hn (by omega) (by omega)).mono ?_
  rintro e W ⟨rfl,a0,hO,a1⟩
  exact .inr ⟨ho,by rw[Int.toNat_natCast],a0,hO,a1⟩
 ·refine(Zc2 br g n no w kr (by rw[←hn];exact ho)).mono ?_
  rintro e W ⟨rfl,a0⟩
  exact .inl ⟨ho,rfl,a0.mono hBw,Zg.of_below a0,Zb hc a0⟩
def asP (ak:Int):Int:=if ak=6 then -1 else if ak=7 then -2 else ak
structure RcM(B Bi b bx br:Nat)(pi:Option Addr)(ni ci:Nat)(l:List UInt8)(g n:Nat)(cs:List Nat)(w:World):Prop where
 hI:ImgR Bi b pi ni ci l w
 kx:Blk w bx [.pointer (some ⟨b,0,none⟩),.pointer (some ⟨br,0,none⟩)] 80
 kr:Blk w br [.slice (some ⟨g,0,none⟩) n n] 146
 hc:w.ownsRow B 3 1 (.slice (some ⟨g,0,none⟩) n n) n (cs.map nv)
 hn:cs.length=n
 hB:B≤w.heap.size
theorem RcM.move{B Bi b bx br:Nat}{pi:O0}{ni ci:Nat}{l:Bl}{g n:Nat}{cs cs':List Nat}{w W:World}(h:RcM B Bi b bx br pi ni ci l g n cs w)(hb:Below B w W)(hO:Zg [3] w W)(hI:ImgR Bi b pi ni ci l W)(hc:W.ownsRow B 3 1 (.slice (S1 g) n n) n (cs'.map nv))(hn:cs'.length=n):RcM B Bi b bx br pi ni ci l g n cs' W:=⟨hI,h.kx.only hO (by decide),h.kr.only hO (by decide),hc,hn,Nat.le_trans h.hB hb.size⟩
def Hb(B g n:Nat)(o:Cx)(w:World)(e:Ending)(w':World):Prop :=
 (o.2.2≠0∧∃ ty v,e=.returned (.iface ty v)∧Below B w w'∧Zg [3] w w'∧Vz w' (o.2.1.map some) (some o.2.2) (.iface ty v)) ∨
 (o.2.2=0∧e=.returned .nilIface∧Below B w w'∧Zg [3] w w'∧w'.ownsRow B 3 1 (.slice (S1 g) n n) n (o.1.map nv))
theorem Xe{B g n:Nat}{o:Cx}{c:List Nat}{bl:List Int}{er:Int}{w W:World}{ty:TypeId}{v:Value}(h:o=(c,bl,er))(her:er≠0)(hb:Below B w W)(hO:Zg [3] w W)(hv:Vz W (bl.map some) (some er) (.iface ty v)):Hb B g n o w (.returned (.iface ty v)) W:=by
 subst h;exact .inl ⟨her,ty,v,rfl,hb,hO,hv⟩
theorem Ys{B g n:Nat}{o:Cx}{c:List Nat}{w W:World}(h:o.2.2=0)(h1:o.1=c)(hb:Below B w W)(hO:Zg [3] w W)(hc:W.ownsRow B 3 1 (.slice (S1 g) n n) n (c.map nv)):Hb B g n o w (.returned .nilIface) W:=by
 subst h1;exact .inr ⟨h,rfl,hb,hO,hc⟩
def Hi(d:Nat)(B Bi b bx br:Nat)(pi:O0)(ni ci:Nat)(l:Bl)(g n:Nat):Prop:=∀ (cs:List Nat) (no ak:Int) (w:World),RcM B Bi b bx br pi ni ci l g n cs w→zer cs<d→phi cs≤1000000000000→1≤ak→ak≤7 →
 C0 29 #[P0 bx,V0 no,V0 (asP ak)] w (Hb B g n (Zp l d cs (no,ak,0)) w)
def Xt(f:List Nat→Rx→Cx)(cs:List Nat)(L:List Rx)(c:List Nat):Prop:=(Qc f cs L).2.2=0∧(Qc f cs L).1=c
theorem Xt.nil(f:List Nat→Rx→Cx)(cs:List Nat):Xt f cs [] cs:=⟨rfl,rfl⟩
theorem Xt.next{f:List Nat→Rx→Cx}{cs c:List Nat}{L:List Rx}(h:Xt f cs L c){x:Rx}(h2:(f c x).2.2=0):Xt f cs (L++[x]) (f c x).1:=by
 have e:Qc f cs (L++[x])=Qc f (Qc f cs L).1 [x]:=by rw[Km,if_neg (fun q=>q h.1)]
 rw[h.2,Xq,if_neg (fun q=>q h2)] at e
 unfold Xt
 rw[e];exact⟨rfl,rfl⟩
theorem Xt.bad{f:List Nat→Rx→Cx}{cs c:List Nat}{L:List Rx}(h:Xt f cs L c){x:Rx}(h2:(f c x).2.2≠0)(r:List Rx):Qc f cs (L++x::r)=f c x:=by
 rw[Km,if_neg (fun q=>q h.1),h.2,Xq,if_pos h2]
theorem Xt.well{l:Bl}{d:Nat}{cs c:List Nat}{L:List Rx}(h:Xt (Zp l d) cs L c):c.length=cs.length∧zer c≤zer cs∧phi c≤phi cs+L.length:=by
 have hw:=Hr (Vu l d) L cs
 rw[←h.2]
 exact⟨hw.len,hw.zer,hw.phi⟩
theorem slt_take{L:List (Nat×Nat×Nat)}{i:Nat}(hi:i<L.length):(L.take (i+1)).map Jy=(L.take i).map Jy++[Jy (L.getD i (0,0,0))]:=by
 rw[List.take_succ_eq_append_getElem hi,List.map_append,show L.getD i (0,0,0)=L[i] from by simp[List.getD,hi]];rfl
theorem Ze2{L:List (Nat×Nat×Nat)}{i:Nat}(hi:i<L.length):L.map Jy=(L.take i).map Jy++Jy (L.getD i (0,0,0))::(L.drop (i+1)).map Jy:=by
 rw[show L.getD i (0,0,0)=L[i] from by simp[List.getD,hi]]
 rw[←List.map_cons,←List.map_append,←List.drop_eq_getElem_cons hi,List.take_append_drop]
theorem Li(d:Nat)(B Bi b bx br:Nat)(pi:O0)(ni ci:Nat)(l:Bl)(g n:Nat)(hR:Hi d B Bi b bx br pi ni ci l g n)(cs:List Nat)(B0:Nat)(pl:O0)(cl:Nat)(L:List (Nat×Nat×Nat))(w:World)(hM:RcM B Bi b bx br pi ni ci l g n cs w)(hz:zer cs<d)(hph:phi cs≤999999998000)(hs:w.ownsRow B0 136 3 (.slice pl L.length cl) L.length (L.flatMap sltC))(hm2:L.length≤255) :
 C0 119 #[P0 bx,.slice pl L.length cl] w (Hb B g n (Qc (Zp l d) cs (L.map Jy)) w):=by
 have hc:=hM.hc
 have kx:=hM.kx
 have kr:=hM.kr
 have hI:=hM.hI
 have hBw:=hM.hB
 have hn:=hM.hn
 refine zin 22 Tryz.func119 ?_
 have hB:=Below.refl B w
 refine zl 14 22 (fun zm zkv V=>∃ (i:Nat) (c:List Nat),zkv=[(0,P0 bx),(8,.slice pl L.length cl),(9,V0 (L.length:Int)),(10,V0 (i:Int))]∧zm=L.length-((i:Int)).toNat∧Below B w V∧Zg [3] w V∧Blk V bx ([P0 b,P0 br]) 80∧Blk V br ([.slice (S1 g) n n]) 146∧V.ownsRow B0 136 3 (.slice pl L.length cl) L.length (L.flatMap sltC)∧V.ownsRow B 3 1 (.slice (S1 g) n n) n (c.map nv)∧ImgR Bi b pi ni ci l V∧i≤L.length∧Xt (Zp l d) cs ((L.take i).map Jy) c) ⟨0,cs,rfl,rfl,hB,(Zg.refl _ _),kx,kr,hs,hc,hI,Nat.zero_le _,Xt.nil _ _⟩ ?_
 rintro _ _ W1 ⟨i,c,rfl,rfl,hB_1,hO_1,k1_bx,k1_br,hs,hc,hI,hi,hf⟩ J1 hJ1 r1
 obtain⟨hw1,hw2,hw3⟩:=hf.well
 rw[List.length_map,List.length_take] at hw3
 have hw4:=Nat.min_le_left i L.length
 refine xid 6 ((i:Int)<(L.length:Int)) (fun hc2=>?_) (fun hc2=>?_)
 ·refine xx 6 _ L.length i 3 (Sts.cell (f:=sltC) (Ze hs) Ty (0,0,0) (k:=i) (i:=0) (by omega) rfl).1 ?_
  refine xlv 0 (Sts.rp (k:=i) (Ze hs) Ty (0,0,0) (by omega) (by decide)) ?_
  refine xa 0 [V0 0,V0 0,V0 0] 136 fun b3 W3 n3=>?_
  have g3:=n3.ge0 hB_1
  have r3_hs:=Zz hs n3
  refine xsv 0 n3.blk [V0 (↑(L.getD i (0,0,0)).1:Int),V0 (↑(L.getD i (0,0,0)).2.1:Int),V0 (↑(L.getD i (0,0,0)).2.2:Int)] fun W4 u4 k4=>?_
  refine xb 6 0 k4 ?_
  have hI'1:=(hI.below n3.below).only (Zg.of_upd (T:=[136]) u4 n3.blk (by decide)) (by decide)
  have hc'1:=u4.own2 (Zb hc n3.below) n3.blk (by decide)
  have hB'1:=u4.below (blB hB_1 hBw n3.below) (Nat.le_trans hBw g3)
  have hO'1:=(Zg.upd_new (hO_1.trans (Zg.of_below n3.below)) u4 g3)
  refine xc 0 (args:=#[P0 bx,V0 (↑(L.getD i (0,0,0)).1:Int),V0 (-2)]) (hR c (↑(L.getD i (0,0,0)).1:Int) 7 _ (hM.move hB'1 hO'1 hI'1 hc'1 (by omega)) (by omega) (by omega) (by decide) (by decide)) ?_
  rintro e W5 hq5
  rcases hq5 with ⟨hre,tyr,vr,rfl,hb5,hO5,hv9⟩|⟨hre,rfl,hb5,hO5,hc⟩
  ·have hB'2:=hB'1.trans hb5
   have hO'2:=hO'1.trans hO5
   refine xe 22 (.iface tyr (vr)) ?_
   have e9:=hf.bad (x:=Jy (L.getD i (0,0,0))) hre ((L.drop (i+1)).map Jy)
   rw[←Ze2 (by omega)] at e9
   exact Xe (c:=(Zp l d c (Jy (L.getD i (0,0,0)))).1) e9 hre hB'2 hO'2 hv9
  refine xwm 14 ((i:Int)+1) (↑(i+1):Int) ?_
  have hB'3:=hB'1.trans hb5
  have hO'3:=hO'1.trans hO5
  have k1_bx'1:=(u4.blkT (k1_bx.below n3.below) n3.blk (by decide)).only hO5 (by decide)
  have k1_br'1:=(u4.blkT (k1_br.below n3.below) n3.blk (by decide)).only hO5 (by decide)
  have hs'1:=Zo (u4.own3 (Zb hs n3.below) r3_hs) hO5 (by decide)
  have hI'2:=hI'1.only hO5 (by decide)
  exact ze 2 (hJ1 _ _ _ ⟨i+1,_,rfl,rfl,hB'3,hO'3,k1_bx'1,k1_br'1,hs'1,hc,hI'2,by omega,(by have q:=hf.next (x:=Jy (L.getD i (0,0,0))) hre;rwa [←slt_take (by omega)] at q)⟩ (by omega))
 refine xe 11 .nilIface ?_
 obtain rfl:i=L.length:=by omega
 rw[List.take_length] at hf
 exact Ys hf.1 hf.2 hB_1 hO_1 hc
theorem asP_id{t:Int}(h5:t≤5):asP t=t:=by unfold asP;rw[if_neg (by omega),if_neg (by omega)]
theorem Hi.node{d B Bi b bx br:Nat}{pi:O0}{ni ci:Nat}{l:Bl}{g n:Nat}(hR:Hi d B Bi b bx br pi ni ci l g n){cs:List Nat}{no t:Int}{w:World}(hM:RcM B Bi b bx br pi ni ci l g n cs w)(hz:zer cs<d)(hph:phi cs≤1000000000000)(h1:1≤t)(h5:t≤5) :
 C0 29 #[P0 bx,V0 no,V0 t] w (Hb B g n (Zp l d cs (no,t,0)) w):=by
 have:=hR cs no t w hM hz hph h1 (by omega)
 rwa [asP_id h5] at this
def Gl(l:Bl)(d:Nat)(cs:List Nat)(no t:Int)(leaf:Bool)(v:Bl):Cx:=if Rf t leaf then(cs,[],0) else Zp l d cs (valX no t leaf v)
theorem Zei{l:Bl}{d:Nat}{cs:List Nat}{no t:Int}{leaf:Bool}{v:Bl}(h:leaf=true)(h1:t≠1)(h4:t≠4):Gl l d cs no t leaf v=(cs,[],0):=if_pos ⟨h,h1,h4⟩
theorem Ev{l:Bl}{d:Nat}{cs:List Nat}{no t:Int}{leaf:Bool}{v:Bl}(h:leaf=true)(h4:t=4)(he:Yd Xi v=0):Gl l d cs no t leaf v=Zp l d cs ((((Yp Xi v).getD 0 0):Nat),7,0):=by
 unfold Gl
 rw[if_neg (fun q=>q.2.2 h4)]
 unfold valX
 rw[if_pos ⟨h,h4⟩,if_neg (fun q=>q he)]
theorem Wq{l:Bl}{d:Nat}{cs:List Nat}{no t:Int}{leaf:Bool}{v:Bl}(hd:0<d)(h:leaf=true)(h4:t=4)(he:Yd Xi v≠0):Gl l d cs no t leaf v=(cs,[no],Yd Xi v):=by
 obtain⟨d,rfl⟩:∃ d',d=d'+1:=⟨d-1,by omega⟩
 unfold Gl
 rw[if_neg (fun q=>q.2.2 h4)]
 unfold valX
 rw[if_pos ⟨h,h4⟩,if_pos he]
 exact if_pos he
theorem Wn{l:Bl}{d:Nat}{cs:List Nat}{no t:Int}{leaf:Bool}{v:Bl}(h:leaf=true→t=1)(he:Vv v=0):Gl l d cs no t leaf v=Zp l d cs ((Wh v:Nat),(if leaf then 2 else t),0):=by
 unfold Gl
 rw[if_neg (fun q=>q.2.1 (h q.1))]
 unfold valX
 rw[if_neg (fun q=>by have:=h q.1;omega),if_neg (fun q=>q he)]
theorem Pb{l:Bl}{d:Nat}{cs:List Nat}{no t:Int}{leaf:Bool}{v:Bl}(hd:0<d)(h:leaf=true→t=1)(he:Vv v≠0):Gl l d cs no t leaf v=(cs,[no],Vv v):=by
 obtain⟨d,rfl⟩:∃ d',d=d'+1:=⟨d-1,by omega⟩
 unfold Gl
 rw[if_neg (fun q=>q.2.1 (h q.1))]
 unfold valX
 rw[if_neg (fun q=>by have:=h q.1;omega),if_pos he]
 exact if_pos he
theorem Zfa(d:Nat)(B Bi b bx br:Nat)(pi:O0)(ni ci:Nat)(l:Bl)(g n:Nat)(hR:Hi d B Bi b bx br pi ni ci l g n)(cs:List Nat)(no t:Int)(leaf:Bool)(kp vp:O0)(kn kc vn vc:Nat)(v:Bl)(w:World)(hM:RcM B Bi b bx br pi ni ci l g n cs w)(hz:zer cs<d)(hph:phi cs≤999999999000)(ht1:1≤t)(ht5:t≤5)(hv:v.length≤1000) :
 C0 121 #[P0 bx,V0 no,.agg #[V0 t,.bool leaf,.slice kp kn kc,.slice vp vn vc],.string ⟨v.toArray⟩] w (Hb B g n (Gl l d cs no t leaf v) w):=by
 have hc:=hM.hc
 have kx:=hM.kx
 have kr:=hM.kr
 have hI:=hM.hI
 have a0:=hM.hB
 have hn:=hM.hn
 refine zin 59 Tryz.func121 ?_
 refine xa 2 [V0 t,.bool leaf,.slice kp kn kc,.slice vp vn vc] 38 fun b1 W1 n1=>?_
 refine xb 12 0 n1.blk ?_
 refine xb 18 1 n1.blk ?_
 refine xg 1 [18,19] leaf (fun b3=>?_) (fun b3=>?_)
 ·refine xb 1 0 n1.blk ?_
  refine xie 5 t (4:Int) (fun e8=>?_) (fun e8=>?_)
  ·refine xr 9 (args:=#[.string ⟨v.toArray⟩]) (Gj v _ hv) fun W4 a9=>?_
   refine xa 3 [V0 0,V0 0,V0 0] 136 fun b5 W5 n5=>?_
   refine xsv 0 n5.blk [V0 (↑((Yp Xi v).getD 0 0):Int),V0 (↑((Yp Xi v).getD 1 0):Int),V0 (↑((Yp Xi v).getD 2 0):Int)] fun W6 u6 k6=>?_
   have g5:=n5.ge0 (blB (blB (Below.refl B w) a0 n1.below) a0 a9)
   refine xb 5 0 k6 ?_
   refine xin 22 (Yd Xi v) (0:Int) (fun e7=>?_) (fun e7=>?_)
   ·refine xc 5 (args:=#[V0 no,.iface 33 (V0 (Yd Xi v))]) (Wl no (Yd Xi v) [] _ _ rfl) ?_
    rintro _ W8 ⟨e6,v8,rfl,e5,a4⟩
    have hB:=blB (u6.below (blB (blB (blB (Below.refl B w) a0 n1.below) a0 a9) a0 n5.below) (Nat.le_trans a0 g5)) a0 e5
    have hO:=(Zg.upd_new (((show Zg [3] w _ from(Zg.of_below n1.below)).trans (Zg.of_below a9)).trans (Zg.of_below n5.below)) u6 g5).trans (Zg.of_below e5)
    refine xe 5 (.iface e6 (v8)) ?_
    first|exact Xe (Wq (by omega) (by assumption) (by omega) (by assumption)) (by assumption) hB hO a4|exact Xe (Pb (by omega) (fun q=>by first|omega|exact absurd (q.symm.trans (show leaf=false by assumption)) (by decide)) (by assumption)) (by assumption) hB hO a4
   have c0:=(((hI.below n1.below).below a9).below n5.below).only (Zg.of_upd (T:=[136]) u6 n5.blk (by decide)) (by decide)
   have b7:=u6.own2 (Zb (Zb (Zb hc n1.below) a9) n5.below) n5.blk (by decide)
   have hB:=u6.below (blB (blB (blB (Below.refl B w) a0 n1.below) a0 a9) a0 n5.below) (Nat.le_trans a0 g5)
   have hO:=(Zg.upd_new (((show Zg [3] w _ from(Zg.of_below n1.below)).trans (Zg.of_below a9)).trans (Zg.of_below n5.below)) u6 g5)
   refine xc 7 (args:=#[P0 bx,V0 (↑((Yp Xi v).getD 0 0):Int),V0 (-2)]) (hR cs (↑((Yp Xi v).getD 0 0):Int) 7 _ (hM.move hB hO c0 b7 (by omega)) hz (by omega) (by decide) (by decide)) ?_
   rintro e W9 f0
   rcases f0 with ⟨a3,b0,vr,rfl,e4,d6,b4⟩|⟨a3,rfl,e4,d6,hc⟩
   ·have c4:=hB.trans e4
    have d1:=hO.trans d6
    refine xe 4 (.iface b0 (vr)) ?_
    have e9:=(show Gl l d cs no t leaf v=_ from Ev (by assumption) (by omega) (by omega))
    exact Xe (c:=(Gl l d cs no t leaf v).1) (bl:=(Gl l d cs no t leaf v).2.1) (er:=(Gl l d cs no t leaf v).2.2) rfl (by rw[e9];exact a3) c4 d1 (by rw[e9];exact b4)
   have c2:=hB.trans e4
   have c8:=hO.trans d6
   refine xe 4 .nilIface ?_
   have e9:=(show Gl l d cs no t leaf v=_ from Ev (by assumption) (by omega) (by omega))
   exact Ys (by rw[e9];exact a3) (by rw[e9]) c2 c8 hc
  refine xb 6 1 n1.blk ?_
  refine xgk 1 [26,27] (show(leaf:Bool)=true from b3) ?_
  refine xb 1 0 n1.blk ?_
  refine xie 5 t (1:Int) (fun d3=>?_) (fun d3=>?_)
  ·refine xr 15 (args:=#[.string ⟨v.toArray⟩]) (Gi v _ hv) fun f8 a2=>?_
   refine xin 19 (Vv v) (0:Int) (fun c6=>?_) (fun c6=>?_)
   ·refine xc 5 (args:=#[V0 no,.iface 33 (V0 (Vv v))]) (Wl no (Vv v) [] _ _ rfl) ?_
    rintro _ f5 ⟨d7,f1,rfl,b2,a4⟩
    have hB:=blB (blB (blB (Below.refl B w) a0 n1.below) a0 a2) a0 b2
    have hO:=((show Zg [3] w _ from(Zg.of_below n1.below)).trans (Zg.of_below a2)).trans (Zg.of_below b2)
    refine xe 5 (.iface d7 (f1)) ?_
    first|exact Xe (Wq (by omega) (by assumption) (by omega) (by assumption)) (by assumption) hB hO a4|exact Xe (Pb (by omega) (fun q=>by first|omega|exact absurd (q.symm.trans (show leaf=false by assumption)) (by decide)) (by assumption)) (by assumption) hB hO a4
   have d5:=(hI.below n1.below).below a2
   have c9:=Zb (Zb hc n1.below) a2
   have hB:=blB (blB (Below.refl B w) a0 n1.below) a0 a2
   have hO:=(show Zg [3] w _ from(Zg.of_below n1.below)).trans (Zg.of_below a2)
   refine xc 7 (args:=#[P0 bx,V0 (↑(Wh v):Int),V0 2]) (hR.node (cs:=cs) (no:=(↑(Wh v):Int)) (t:=2) (hM.move hB hO d5 c9 (by omega)) hz (by omega) (by omega) (by omega)) ?_
   rintro e f4 c1
   rcases c1 with ⟨a3,b0,vr,rfl,a8,a7,b4⟩|⟨a3,rfl,a8,a7,hc⟩
   ·have c7:=hB.trans a8
    have c5:=hO.trans a7
    refine xe 4 (.iface b0 (vr)) ?_
    have e9:=(show Gl l d cs no t leaf v=_ from(Wn (fun _=>by omega) (by omega)).trans (by rw[if_pos (by assumption)]))
    exact Xe (c:=(Gl l d cs no t leaf v).1) (bl:=(Gl l d cs no t leaf v).2.1) (er:=(Gl l d cs no t leaf v).2.2) rfl (by rw[e9];exact a3) c7 c5 (by rw[e9];exact b4)
   have e3:=hB.trans a8
   have e2:=hO.trans a7
   refine xe 4 .nilIface ?_
   have e9:=(show Gl l d cs no t leaf v=_ from(Wn (fun _=>by omega) (by omega)).trans (by rw[if_pos (by assumption)]))
   exact Ys (by rw[e9];exact a3) (by rw[e9]) e3 e2 hc
  refine xb 5 1 n1.blk ?_
  refine xk 4 (show(!leaf:Bool)=false from by rw[b3];rfl) ?_
  have d2:=Zb hc n1.below
  have hB:=blB (Below.refl B w) a0 n1.below
  have hO:=(show Zg [3] w _ from(Zg.of_below n1.below))
  refine xe 21 .nilIface ?_
  have e9:Gl l d cs no t leaf v=(cs,[],0):=Zei (by assumption) (by omega) (by omega)
  exact Ys (by rw[e9]) (by rw[e9]) hB hO d2
 refine xb 14 1 n1.blk ?_
 refine xgk 1 [26,27] (show(leaf:Bool)=false from b3) ?_
 refine xb 13 1 n1.blk ?_
 refine xk 4 (show(!leaf:Bool)=true from by rw[b3];rfl) ?_
 refine xr 11 (args:=#[.string ⟨v.toArray⟩]) (Gi v _ hv) fun f6 a1=>?_
 refine xin 19 (Vv v) (0:Int) (fun e1=>?_) (fun e1=>?_)
 ·refine xc 5 (args:=#[V0 no,.iface 33 (V0 (Vv v))]) (Wl no (Vv v) [] _ _ rfl) ?_
  rintro _ f3 ⟨d8,f2,rfl,b6,a4⟩
  have hB:=blB (blB (blB (Below.refl B w) a0 n1.below) a0 a1) a0 b6
  have hO:=((show Zg [3] w _ from(Zg.of_below n1.below)).trans (Zg.of_below a1)).trans (Zg.of_below b6)
  refine xe 5 (.iface d8 (f2)) ?_
  first|exact Xe (Wq (by omega) (by assumption) (by omega) (by assumption)) (by assumption) hB hO a4|exact Xe (Pb (by omega) (fun q=>by first|omega|exact absurd (q.symm.trans (show leaf=false by assumption)) (by decide)) (by assumption)) (by assumption) hB hO a4
 have d9:=(hI.below n1.below).below a1
 have d0:=Zb (Zb hc n1.below) a1
 have hB:=blB (blB (Below.refl B w) a0 n1.below) a0 a1
 have hO:=(show Zg [3] w _ from(Zg.of_below n1.below)).trans (Zg.of_below a1)
 refine xc 7 (args:=#[P0 bx,V0 (↑(Wh v):Int),V0 t]) (hR.node (cs:=cs) (no:=(↑(Wh v):Int)) (t:=t) (hM.move hB hO d9 d0 (by omega)) hz (by omega) (by omega) (by omega)) ?_
 rintro e f7 b8
 rcases b8 with ⟨a3,b0,vr,rfl,a6,a5,b4⟩|⟨a3,rfl,a6,a5,hc⟩
 ·have b9:=hB.trans a6
  have c3:=hO.trans a5
  refine xe 4 (.iface b0 (vr)) ?_
  have e9:=(show Gl l d cs no t leaf v=_ from(Wn (fun q=>absurd (q.symm.trans (show leaf=false by assumption)) (by decide)) (by omega)).trans (by rw[if_neg (fun q=>absurd (q.symm.trans (show leaf=false by assumption)) (by decide))]))
  exact Xe (c:=(Gl l d cs no t leaf v).1) (bl:=(Gl l d cs no t leaf v).2.1) (er:=(Gl l d cs no t leaf v).2.2) rfl (by rw[e9];exact a3) b9 c3 (by rw[e9];exact b4)
 have e0:=hB.trans a6
 have d4:=hO.trans a5
 refine xe 4 .nilIface ?_
 have e9:=(show Gl l d cs no t leaf v=_ from(Wn (fun q=>absurd (q.symm.trans (show leaf=false by assumption)) (by decide)) (by omega)).trans (by rw[if_neg (fun q=>absurd (q.symm.trans (show leaf=false by assumption)) (by decide))]))
 exact Ys (by rw[e9];exact a3) (by rw[e9]) e0 d4 hc
end Go.Proofs.YtgphgaehfdfjjaaGreatDoor
