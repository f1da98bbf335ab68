/- value.ReadSlot, slots.Read and block.Index, whatever the bytes. -/
import Derived.Lib.AppendZerosOnto
import Derived.RangeFuncNested
import Derived.RangeFuncBound
import Derived.RangeFuncCalls
import Derived.RangeFuncLeaves
import Derived.OwnWalkIn
import Derived.OrdersIn
import Derived.Test.YtceeiinepijokaaGreatDoorRows
import Derived.Shelf.Abstract
import Derived.Shelf.RegionOpen
import Derived.TacticsInMore
import Derived.LoopNIn
import Derived.LoopIn
import Derived.Sort.BigQuietIn
import Derived.Test.YtceeiinepijokaaGreatDoorMg2
namespace Go.Proofs.YtceeiinepijokaaGreatDoor
set_option maxHeartbeats 8000000
set_option maxRecDepth 100000
open Go.RowKit Go.Extern.Stop Go.Stop Go.Extern
set_option linter.unusedVariables false
attribute [local irreducible] wpList wpAnyH Code.wp Oper.wp Go
def Ya:List Ln:=[(8,1,14399),(4,0,960),(4,0,960)]
theorem slotP_ok:Gj Ya:=by
 refine⟨by decide,fun i hi=>?_⟩
 have a0:i<3:=hi
 obtain rfl|rfl|rfl:i=0∨i=1∨i=2:=by omega
 all_goals simp[Ya,List.getD]
def Pj(l:Bl)(i:Nat):Bl:=(l.drop (4+i*16)).take 16
def Pn(l:Bl)(i k:Nat):Nat:=(Xs Ya (Pj l i)).getD k 0
def Zxl(x:Nat×Nat×Nat):List Value:=[V0 (x.1:Int),V0 (x.2.1:Int),V0 (x.2.2:Int)]
theorem Au(x:Nat×Nat×Nat):(Zxl x).length=3:=rfl
def sltX(l:Bl)(i:Nat):Nat×Nat×Nat:=(Pn l i 0,Pn l i 1,Pn l i 2)
def Sk(l:Bl)(n:Nat):List (Nat×Nat×Nat):=(List.range n).map (sltX l)
theorem Zpj(l:Bl)(n:Nat):Sk l (n+1)=Sk l n++[sltX l n]:=by simp[Sk,C3]
theorem Zhy(l:Bl)(n:Nat):(Sk l n).length=n:=by simp[Sk]
def Da(l:Bl):Nat→Int
 | 0=>0
 | i+1=>if Da l i≠0 then Da l i else Xn Ya (Pj l i)
theorem Zda{l:Bl}{i:Nat}(h:Da l i≠0):∀ n,i≤n→Da l n=Da l i
 | 0,h2=>by
  obtain rfl:i=0:=by omega
  rfl
 | n+1,h2=>by
   by_cases e:i=n+1
   ·rw[e]
   ·have ih:=Zda h n M0
    rw[Da,if_pos (by rw[ih];exact h),ih]
theorem sltsE_at{l:Bl}{i n:Nat}(h:Da l i=0)(he:Xn Ya (Pj l i)≠0)(hi:i<n):Da l n=Xn Ya (Pj l i):=by
 have e:Da l (i+1)=Xn Ya (Pj l i):=by rw[Da,if_neg (by rw[h];decide)]
 rw[Zda (by rw[e];exact he) n hi,e]
theorem Zcr{l:Bl}{i:Nat}(h:Da l i=0)(he:Xn Ya (Pj l i)=0):Da l (i+1)=0:=by rw[Da,if_neg (by rw[h];decide),he]
theorem Zuh{l:Bl}{i:Nat}(hl:l.length=244)(hi:i<15):(Pj l i).length=16:=by simp[Pj];omega
def Ze4(l:Bl):Bool:=decide (Zn l 0 4≤15)&&Hf (l.drop (4+Zn l 0 4*16))
def Zf5(l:Bl):Int:=if Ze4 l then Da l (Zn l 0 4) else 7
def SlotsP(l:Bl)(w:World)(e:Ending)(w':World):Prop :=
 (Zf5 l≠0∧e=.returned (.tuple #[S0,V0 (Zf5 l)])∧B3 w w') ∨
 (Zf5 l=0∧∃ p c,e=.returned (.tuple #[.slice p (Zn l 0 4) c,V0 0])∧B3 w w'∧w'.ownsRow w.heap.size 134 3 (.slice p (Zn l 0 4) c) (Zn l 0 4) ((Sk l (Zn l 0 4)).flatMap Zxl))
theorem Zj1(w:World) :
 C0 112 #[] w (Kc (fun w' r=>∃ b,r=.slice (S1 b) 3 3∧w.heap.size≤b∧Blk w' b [V0 8,V0 1,V0 14399,V0 4,V0 0,V0 960,V0 4,V0 0,V0 960] 312) w):=by
 refine zin 5 Tryz.func112 ?_
 refine xbs 10 3 [V0 8,V0 1,V0 14399,V0 4,V0 0,V0 960,V0 4,V0 0,V0 960] 312 fun b1 W1 n1=>?_
 have g1:=n1.ge (B4 w)
 exact xe 4 (.slice (S1 b1) 3 3) ⟨_,rfl,n1.below,_,rfl,g1,n1.blk⟩
theorem Pz(s:Bl)(w:World)(hs:s.length≤1000) :
 C0 62 #[.string ⟨s.toArray⟩] w (Ret (.tuple #[.agg #[V0 (↑((Xs Ya s).getD 0 0):Int),V0 (↑((Xs Ya s).getD 1 0):Int),V0 (↑((Xs Ya s).getD 2 0):Int)],V0 (Xn Ya s)]) w):=by
 refine zin 23 Tryz.func62 ?_
 refine xa 2 [V0 0,V0 0,V0 0] 134 fun b1 W1 n1=>?_
 refine xc 5 (Zj1 _) ?_
 rintro _ W2 ⟨_,rfl,a1,gl,rfl,gg,kl⟩
 refine xc 1 (Lb Ya s (S1 gl) 3 _ slotP_ok Do M0 (kl.sl 3 3 Do Do)) ?_
 rintro _ W3 ⟨_,rfl,a2,p5,c5,rfl,h5⟩
 have a3:=(bln n1.below a1).size
 refine xd 8 (.t w.heap.size [134]) ?_
 have a0:=Zb (Zf h5 a3) (Za W3)
 refine xx (.e [0] 1) _ 3 0 1 (Xc (l:=Xs Ya s) (Zg a0) (Ym _ _) (k:=0) Do).1 ?_
 refine xlt (.e [] 2) (.t w.heap.size [134]) (fun V hV=>(Xc (l:=Xs Ya s) (Zg (Zi a0 hV.2 Do)) (Ym _ _) (k:=0) Do).2) ?_
 refine xx (.e [3] 4) _ 3 1 1 (Xc (l:=Xs Ya s) (Zg a0) (Ym _ _) (k:=1) Do).1 ?_
 refine xlt (.e [] 5) (.t w.heap.size [134]) (fun V hV=>(Xc (l:=Xs Ya s) (Zg (Zi a0 hV.2 Do)) (Ym _ _) (k:=1) Do).2) ?_
 refine xx (.e [6] 7) _ 3 2 1 (Xc (l:=Xs Ya s) (Zg a0) (Ym _ _) (k:=2) Do).1 ?_
 refine xlt (.e [] 8) (.t w.heap.size [134]) (fun V hV=>(Xc (l:=Xs Ya s) (Zg (Zi a0 hV.2 Do)) (Ym _ _) (k:=2) Do).2) ?_
 have k1:=((n1.blk.below a1).below a2).below (Za W3)
 have g1:=n1.ge (B4 w)
 refine ysv (.o [9,10] 11) k1 [V0 (↑((Xs Ya s).getD 0 0):Int),V0 (↑((Xs Ya s).getD 1 0):Int),V0 (↑((Xs Ya s).getD 2 0):Int)] (.t w.heap.size [134]) fun W4 u4 k4=>⟨(Zt u4 k1 g1 Do),?_⟩
 have hB:=u4.below (bln (bln (bln n1.below a1) a2) (Za W3)) g1
 exact xec (.r [12] 3) k4 (.tuple #[.agg #[V0 (↑((Xs Ya s).getD 0 0):Int),V0 (↑((Xs Ya s).getD 1 0):Int),V0 (↑((Xs Ya s).getD 2 0):Int)],V0 (Xn Ya s)]) ⟨rfl,hB⟩
theorem Zo3(B bt:Nat)(x:Bl)(w:World)(hBw:B≤w.heap.size)(hBt:B≤bt)(kt:Blk w bt [.string ⟨x.toArray⟩] 9)(hx:16≤x.length) :
 C0 186 #[P0 bt] w ((fun e w'=>e=.returned (.string ⟨(x.take 16).toArray⟩)∧Below B w w'∧Ze [9] w w'∧Blk w' bt [.string ⟨(x.drop 16).toArray⟩] 9)):=by
 refine zin 8 Tryz.func186 ?_
 refine xb 7 0 kt ?_
 refine xsH 0 (fun _ _ _ _ zo zx zy V=>run_strH (k:=16) (j:=16) (kj:=.i64) zo zx zy rfl hx Tryz.underlying9 V) ?_
 refine xb 5 0 kt ?_
 refine xsL 0 (fun _ _ _ _ zo zx zy V=>run_strL (k:=16) (j:=16) (kj:=.i64) zo zx zy rfl hx Tryz.underlying9 V) ?_
 refine xs 0 kt [.string ⟨(x.drop 16).toArray⟩] fun W1 u1 k1=>?_
 have hB:=u1.below (Below.refl B w) hBt
 have hO:=(show Ze [9] w _ from(Q1 u1 kt Do))
 exact xe 9 (.string ⟨(x.take 16).toArray⟩) ⟨rfl,hB,hO,k1⟩
theorem Ok(l:Bl)(i:Nat)(w:World)(hs:(Pj l i).length≤1000):C0 62 #[.string ⟨(Pj l i).toArray⟩] w (fun e w' =>
 (Xn Ya (Pj l i)=0∧e=.returned (.tuple #[.agg #[V0 (Pn l i 0:Int),V0 (Pn l i 1:Int),V0 (Pn l i 2:Int)],V0 0])∧B3 w w') ∨
 (Xn Ya (Pj l i)≠0∧e=.returned (.tuple #[.agg #[V0 (Pn l i 0:Int),V0 (Pn l i 1:Int),V0 (Pn l i 2:Int)],V0 (Xn Ya (Pj l i))])∧B3 w w')):=by
 refine(Pz (Pj l i) w hs).mono ?_
 rintro e W ⟨rfl,hb⟩
 by_cases h:Xn Ya (Pj l i)=0
 ·exact .inl ⟨h,by rw[h];rfl,hb⟩
 ·exact .inr ⟨h,rfl,hb⟩
theorem bysK{w:World}{a:O0}{c k:Nat}{l:Bl}(h:Bys w (.slice a 244 c) l)(hl:l.length=244)(hk:k≤244):Bys w (.slice (Mw a k c 1) (244-k) (c-k)) (l.drop k):=by
 have:=Bys.cut h hl k 244 hk Do
 rwa [C1 (by simp;omega)] at this
theorem Zny(a:O0)(c:Nat)(l:Bl)(w:World)(hl:l.length=244)(h:Bys w (.slice a 244 c) l) :
 C0 116 #[.slice a 244 c] w (SlotsP l w):=by
 have e8:=Bys.cap h hl
 refine zin 52 Tryz.func116 ?_
 refine xr 20 (Zkg a 244 c 0 4 0 4 l _ hl rfl rfl Do Do Do (h.below (B4 w))) fun W1 b8=>?_
 refine xg 13 [20,21] (decide ((↑(Zn l 0 4):Int)>(15:Int))) (fun a9=>?_) (fun a9=>?_)
 ·have a9:=of_decide_eq_true a9
  refine xe 19 (.tuple #[S0,V0 7]) ?_
  have he:Zf5 l=7:=by unfold Zf5 Ze4;rw[decide_eq_false M0,Bool.false_and,if_neg Do]
  exact .inl ⟨by rw[he];decide,by rw[he],b8⟩
 have a9:=of_decide_eq_false a9
 refine xwm 2 ((↑(Zn l 0 4):Int)*16) (↑((Zn l 0 4)*16):Int) ?_
 refine xwm 0 (4+(↑((Zn l 0 4)*16):Int)) (↑(4+((Zn l 0 4)*16)):Int) ?_
 refine xsL 0 (fun _ _ _ _ zo zx zy V=>Wi (k:=(4+((Zn l 0 4)*16))) (b:=a) (n:=244) (c:=c) (i:=(↑(4+((Zn l 0 4)*16)):Int)) (ki:=.i64) 1 zo zx zy rfl M0 Tryz.underlying22 K0 V) ?_
 refine xr 0 (Rj (Mw a (4+((Zn l 0 4)*16)) c 1) (244-(4+((Zn l 0 4)*16))) (c-(4+((Zn l 0 4)*16))) (l.drop (4+Zn l 0 4*16)) _ (by simp;omega) M0 ((bysK (k:=4+Zn l 0 4*16) h hl M0).below b8)) fun W3 d6=>?_
 refine xi 4 (!(Hf (l.drop (4+Zn l 0 4*16)))) (fun c2=>?_) (fun c2=>?_)
 ·have c0:Hf (l.drop (4+Zn l 0 4*16))=false:=Zb9 c2
  have c5:=bln b8 d6
  refine xe 8 (.tuple #[S0,V0 7]) ?_
  have he:Zf5 l=7:=by unfold Zf5 Ze4;rw[c0,O8,if_neg Do]
  exact .inl ⟨by rw[he];decide,by rw[he],c5⟩
 have c0:Hf (l.drop (4+Zn l 0 4*16))=true:=Zb8 c2
 refine xsL 5 (fun _ _ _ _ zo zx zy V=>Wi (k:=4) (b:=a) (n:=244) (c:=c) (i:=4) (ki:=.i64) 1 zo zx zy rfl M0 Tryz.underlying22 K0 V) ?_
 have a2:=bln b8 d6
 refine xcv0 0 (fun _ _ _ zo zx=>Mx zo zx ((bysK (k:=4) h hl Do).below a2) (by simp;omega) Tryz.underlying22 Tryz.underlying5 Tryz.underlying9) ?_
 refine xa 0 [.string ⟨#[]⟩] 9 fun b5 W5 n5=>?_
 have g5:=n5.ge a2
 refine xs 0 n5.blk [.string ⟨(l.drop 4).toArray⟩] fun W6 u6 k6=>?_
 have e0:Blk _ _ [.string ⟨((l.drop (4+0*16))).toArray⟩] _:=k6
 have c4:=u6.below (bln a2 n5.below) g5
 refine zl 21 52 (fun zm f0 V=>∃ (i:Nat) (q:O0) (d:Nat),f0=[(7,.func (.func 186) #[] #[P0 b5]),(8,.slice q i d),(34,V0 (↑(Zn l 0 4):Int)),(35,V0 (i:Int))]∧zm=(Zn l 0 4)-((i:Int)).toNat∧B3 w V∧Blk V b5 ([.string ⟨(l.drop (4+i*16)).toArray⟩]) 9∧V.ownsRow w.heap.size 134 3 (.slice q i d) i ((Sk l i).flatMap Zxl)∧i≤(Zn l 0 4)∧Da l i=0) ⟨0,_,_,rfl,rfl,c4,e0,A5 _ _ _ _,A3 _,rfl⟩ ?_
 rintro _ _ W7 ⟨i,q,d,rfl,rfl,a1,a6,ho,hi,hz⟩ J7 e6 r7
 refine xid 6 ((i:Int)<(↑(Zn l 0 4):Int)) (fun e1=>?_) (fun e1=>?_)
 ·refine xc 7 (Zo3 w.heap.size b5 (l.drop (4+i*16)) _ a1.size g5 a6 (by simp;omega)) ?_
  rintro _ W9 ⟨rfl,d8,d7,d5⟩
  rw[M9,show 4+i*16+16=4+(i+1)*16 by omega] at d5
  refine xc 0 (Ok l i _ (by rw[Zuh hl M0];decide)) ?_
  rintro e f8 d1
  rcases d1 with ⟨a7,rfl,a0⟩|⟨a7,rfl,a0⟩
  ·refine xa 3 [V0 0,V0 0,V0 0] 134 fun f5 f4 a4=>?_
   have b7:=bln (a1.trans d8) a0
   have e3:=a4.ge b7
   have a8:=Zb (Zi ho d7 Do) a0
   have a5:=Zu a8 a4
   refine xsv 0 a4.blk [V0 (↑(Pn l i 0):Int),V0 (↑(Pn l i 1):Int),V0 (↑(Pn l i 2):Int)] fun g2 c7 d9=>?_
   refine xlv 15 d9.rp ?_
   refine xbs 0 1 [V0 (↑(Pn l i 0):Int),V0 (↑(Pn l i 1):Int),V0 (↑(Pn l i 2):Int)] 134 fun g1 g0 a3=>?_
   have b9:=a3.ne d9
   have b1:=c7.below (bln b7 a4.below) e3
   have f9:=a3.ge b1
   have b6:=c7.own3 (Zb a8 a4.below) a5
   have d3:=Zu b6 a3
   have b3:=Zb b6 a3.below
   have b0:=bln b1 a3.below
   refine xbi 0 fun _ _ _ _ zJ zQ zo zx zy zK=>Xi (m:=1) (news:=[V0 (↑(Pn l i 0):Int),V0 (↑(Pn l i 1):Int),V0 (↑(Pn l i 2):Int)]) (.agg #[V0 0,V0 0,V0 0]) 3 24 (i+1) (((Sk l (i+1)).flatMap Zxl)) zo Tryz.underlying140 K0 rfl Do zx b3 zy (a3.blk.sl 1 1 Do Do) rfl (by simp[Value.oneCell']) (by unfold maxLen;omega) M0 b0.size (by rfl) (by rw[Zpj,C8];rfl) fun e5 e2 f3 e4 c6 c3=>?_
   refine zK _ _ ?_
   refine xwm 5 ((i:Int)+1) (↑(i+1):Int) ?_
   have d2:=b0.trans c3
   have b2:=((c7.blkT ((d5.below a0).below a4.below) a4.blk Do).below a3.below).grown c6 b3 Do
   exact ze 2 (e6 _ _ _ ⟨i+1,_,_,rfl,rfl,d2,b2,e4,by omega,Zcr hz a7⟩ M0)
  refine xa 3 [V0 0,V0 0,V0 0] 134 fun f2 f7 c1=>?_
  have b4:=bln (a1.trans d8) a0
  have e9:=c1.ge b4
  have c9:=Zb (Zi ho d7 Do) a0
  have d4:=Zu c9 c1
  refine xsv 0 c1.blk [V0 (↑(Pn l i 0):Int),V0 (↑(Pn l i 1):Int),V0 (↑(Pn l i 2):Int)] fun f1 e7 f6=>?_
  refine xk 10 (show(((Xn Ya (Pj l i)) != (0:Int)):Bool)=true from bne_iff_ne.2 a7) ?_
  have c8:=e7.below (bln b4 c1.below) e9
  refine xe 14 (.tuple #[S0,V0 (Xn Ya (Pj l i))]) ?_
  have d0:Ze4 l=true:=by unfold Ze4;rw[c0,decide_eq_true M0];rfl
  have he:Zf5 l=Xn Ya (Pj l i):=by unfold Zf5;rw[if_pos d0,sltsE_at hz a7 M0]
  exact .inl ⟨by rw[he];exact a7,by rw[he],c8⟩
 refine xe 13 (.tuple #[.slice q i d,V0 0]) ?_
 have d0:Ze4 l=true:=by unfold Ze4;rw[c0,decide_eq_true M0];rfl
 obtain rfl:i=Zn l 0 4:=by omega
 exact .inr ⟨by unfold Zf5;rw[if_pos d0,hz],_,_,rfl,a1,ho⟩
def Qw(l:Bl)(no:Int):Int:=if inE l 4 no=0 then Zf5 (inB l no) else inE l 4 no
def Zvs(l:Bl)(no:Int)(w:World)(e:Ending)(w':World):Prop :=
 (Qw l no≠0∧∃ b,e=.returned (.tuple #[S0,.iface 188 (P0 b)])∧B3 w w'∧Kr w' [some no] (some (Qw l no)) (.iface 188 (P0 b))) ∨
 (Qw l no=0∧∃ p c,e=.returned (.tuple #[.slice p (Zn (inB l no) 0 4) c,.nilIface])∧B3 w w'∧w'.ownsRow w.heap.size 134 3 (.slice p (Zn (inB l no) 0 4) c) (Zn (inB l no) 0 4) ((Sk (inB l no) (Zn (inB l no) 0 4)).flatMap Zxl))
theorem readIdx(B b:Nat)(p:O0)(n c:Nat)(l:Bl)(no:Int)(w:World)(hI:ImgR B b p n c l w) :
 C0 115 #[P0 b,V0 no,V0 4,.func (.func 116) #[] #[]] w (Zvs l no w):=by
 refine zin 56 Tryz.func115 ?_
 refine xc 15 (Co B b p n c l no _ (hI.below (B4 w))) ?_
 rintro e W1 c9
 rcases c9 with ⟨ho,vr,rfl,a0⟩|⟨j,hk,hj,p2,c2,rfl,a0,ho⟩
 ·refine xc 21 (Yc no 3 _) ?_
  rintro _ W2 ⟨_,rfl,b8,a5⟩
  rw[if_neg Do,if_neg Do] at a5
  have c7:=a5
  obtain⟨c6,d3,rfl,_,_⟩:=c7
  have hB:=bln a0 b8
  refine xe 6 (.tuple #[S0,.iface 188 (P0 c6)]) ?_
  have he:Qw l no=3:=by unfold Qw;rw[Rq hI.len ho];rfl
  exact .inl ⟨by rw[he];decide,_,rfl,hB,by rw[he];exact a5⟩
 have b2:=At w.heap.size
 have d0:j<l.length/256:=by rw[hI.len];exact hj
 have b0:=Jj d0
 have a7:=Zc8 (l:=l) (kind:=4) hI.len hk hj
 have a4:=Zf ho b2
 refine xc 22 (Se 4 no p2 256 c2 (Vv l j) _ b0 (Vc (Zg a4) b0)) ?_
 rintro e W3 c8
 rcases c8 with ⟨hs,rfl,a2⟩|⟨hs,p3,c3,rfl,a2,h3⟩
 ·refine xk 14 (show(((Qv 4 no (Vv l j)) != (0:Int)):Bool)=true from bne_iff_ne.2 hs) ?_
  refine xc 6 (Yc no (Qv 4 no (Vv l j)) _) ?_
  rintro _ W4 ⟨_,rfl,c5,a8⟩
  rw[if_neg hs,if_neg hs] at a8
  have b4:=a8
  obtain⟨b9,d1,rfl,_,_⟩:=b4
  have hB:=bln (bln a0 a2) c5
  refine xe 6 (.tuple #[S0,.iface 188 (P0 b9)]) ?_
  have he:Qw l no=Qv 4 no (Vv l j):=by unfold Qw;rw[a7,if_neg hs]
  exact .inl ⟨by rw[he];exact hs,_,rfl,hB,by rw[he];exact a8⟩
 have a1:=Zf h3 a0.size
 have b6:((Vv l j).drop 8).take 244=inB l no:=(Zdy hk).symm
 have b1:=Zfq hI.len hk hj
 rw[b6] at a1
 refine xc 21 (Zny p3 c3 (inB l no) _ b1 (Vc (Zg a1) b1)) ?_
 rintro e W5 b3
 rcases b3 with ⟨hz,rfl,a9⟩|⟨hz,p4,c4,rfl,a9,h4⟩
 ·refine xk 14 (show(((Zf5 (inB l no)) != (0:Int)):Bool)=true from bne_iff_ne.2 hz) ?_
  refine xc 6 (Yc no (Zf5 (inB l no)) _) ?_
  rintro _ W6 ⟨_,rfl,b5,a6⟩
  rw[if_neg hz,if_neg hz] at a6
  have b7:=a6
  obtain⟨c0,d2,rfl,_,_⟩:=b7
  have hB:=bln (bln (bln a0 a2) a9) b5
  refine xe 6 (.tuple #[S0,.iface 188 (P0 c0)]) ?_
  have he:Qw l no=Zf5 (inB l no):=by unfold Qw;rw[a7,if_pos hs]
  exact .inl ⟨by rw[he];exact hz,_,rfl,hB,by rw[he];exact a6⟩
 have c1:=(bln a0 a2).size
 have hB:=bln (bln a0 a2) a9
 have a3:=Zf h4 c1
 exact xe 25 (.tuple #[.slice p4 (Zn (inB l no) 0 4) c4,.nilIface]) (.inr ⟨by unfold Qw;rw[a7,if_pos hs,hz],_,_,rfl,hB,a3⟩)
theorem Zj0(B b:Nat)(p:O0)(n c:Nat)(l:Bl)(no:Int)(w:World)(hI:ImgR B b p n c l w) :
 C0 64 #[P0 b,V0 no] w (Zvs l no w):=by
 refine zin 11 Tryz.func64 ?_
 refine xc 10 (readIdx B b p n c l no _ (hI.below (B4 w))) ?_
 rintro e W1 a3
 rcases a3 with ⟨he,bf,rfl,a1,hv⟩|⟨he,p4,c4,rfl,a1,h4⟩
 ·exact xe 7 (.tuple #[S0,.iface 188 (P0 bf)]) (.inl ⟨he,_,rfl,a1,hv⟩)
 have a2:=At w.heap.size
 have a0:=Zf h4 a2
 exact xe 7 (.tuple #[.slice p4 (Zn (inB l no) 0 4) c4,.nilIface]) (.inr ⟨he,_,_,rfl,a1,a0⟩)
theorem Am{l l':Bl}(h:l.length=l'.length)(h2:∀ j,j<l.length→l.getD j 0=l'.getD j 0):l=l':=by
 apply F4 h
 intro j h3 h4
 have:=h2 j h3
 simpa [List.getD,h3,h4] using this
theorem Jk{l:Bl}{k:Nat}{x:Bl}(h:k+x.length≤l.length)(j:Nat):(Qh l k x).getD j 0=if k≤j∧j<k+x.length then x.getD (j-k) 0 else l.getD j 0:=by
 unfold Qh
 simp only[List.getD]
 rw[A1,N5,N5]
 have e:(l.take k).length=k:=by simp;omega
 rw[e]
 by_cases h1:j<k
 ·rw[if_pos h1,if_neg M0,G9,if_pos h1]
 ·rw[if_neg h1]
  by_cases h2:j-k<x.length
  ·rw[if_pos h2,if_pos M0]
  ·rw[if_neg h2,if_neg M0,F7,show k+x.length+(j-k-x.length)=j by omega]
theorem Zdm{l l':Bl}:∀ (w k:Nat),(∀ j,k≤j→j<k+w→l.getD j 0=l'.getD j 0)→Zn l k w=Zn l' k w
 | 0,k,h=>rfl
 | w+1,k,h=>by rw[Zn,Zn,h k M0 M0,Zdm w (k+1) fun j h1 h2=>h j M0 M0]
theorem Nq{l:Bl}:∀ (w k m:Nat),(∀ i,i<w→l.getD (k+i) 0=UInt8.ofNat (m/256 ^ i))→Zn l k w=m%256 ^ w
 | 0,k,m,h=>by simp[Zn,Nat.mod_one]
 | w+1,k,m,h=>by
  have h0:=h 0 M0
  simp only[G3,Nat.pow_zero,Nat.div_one] at h0
  have h1:=Nq (l:=l) w (k+1) (m/256) fun i hi=>by
   have:=h (i+1) M0
   rw[L3,N1,←M4] at this
   rw[show k+1+i=k+(i+1) by omega];exact this
  rw[Zn,h0,h1,L3,N1 (256 ^ w) 256,Nat.mod_mul]
  congr 1
theorem Rb{l:Bl}{k w:Nat}{n:Int}(h:k+w≤l.length)(h0:0≤n)(hb:n.toNat<256 ^ w):(Zn (Qh l k (leB n w)) k w:Int)=n:=by
 rw[Nq w k n.toNat,E2 hb]
 ·omega
 ·intro i hi
  rw[Jk (by rw[Zj];exact h),if_pos (by rw[Zj];omega),show k+i-k=i by omega]
  simp[leB,Xh,List.getD,B8 hi]
theorem Yp{l x:Bl}{k j w:Nat}(h:k+x.length≤l.length)(hd:j+w≤k∨k+x.length≤j):Zn (Qh l k x) j w=Zn l j w :=
 Zdm w j fun i h1 h2=>by rw[Jk h,if_neg M0]
theorem Zs6{l:Bl}{k w:Nat}(h:∀ j,k≤j→j<k+w→l.getD j 0=0):Zn l k w=0:=by
 have:=Nq (l:=l) w k 0 fun i hi=>by rw[h (k+i) M0 M0];simp
 simpa using this
theorem sumB_put{l x:Bl}{kind:Int}(h:252≤l.length):Ziw (Qh l 252 x) kind=Ziw l kind:=by
 unfold Ziw Qh
 rw[A1,List.take_append_of_le_length (by simp;omega),O7];rfl
theorem Fc(n j:Nat):(List.replicate n (0:UInt8)).getD j 0=0:=by
 simp[List.getD,O9];split<;>rfl
def Zhv(li:Bl):Bl:=li++List.replicate (244-li.length) 0
theorem Zak{kind no:Int}{li:Bl}(h1:1≤kind)(h2:kind≤4)(h3:0≤no)(h4:no<14400)(hl:li.length≤244):Qv kind no (Xu kind no li)=0:=by
 have l1:=Wr hl
 have l2:=Wt (no:=no) hl
 have l3:=Ho (kind:=kind) (no:=no) hl
 have l4:=Yn (kind:=kind) (no:=no) hl
 have a0:Dz kind no (Xu kind no li) 0=false:=by simp only[Dz];rw[show Ss kind no=true from decide_eq_true M0];rfl
 have a1:Dz kind no (Xu kind no li) 1=false:=by simp only[Dz,l4];rfl
 have a2:Dz kind no (Xu kind no li) 2=false:=by
  have hs:Ziw (Xu kind no li) kind=Ziw (Lm kind no li) kind:=by unfold Xu;exact sumB_put M0
  have hr:(Zn (Xu kind no li) 252 4:Int)=(Ziw (Lm kind no li) kind:Int):=by
   unfold Xu
   exact Rb M0 M0 (by have:=Zvl (Lm kind no li) kind;simpa using this)
  simp only[Dz,hr,hs];simp
 have a3:Dz kind no (Xu kind no li) 3=false:=by
  have hr:(Zn (Xu kind no li) 0 4:Int)=no:=by
   unfold Xu
   rw[Yp (by rw[Zj];omega) (.inl M0)]
   unfold Lm
   rw[Yp (by rw[Zj];omega) (.inl M0)]
   unfold Zhm
   exact Rb M0 M0 M0
  simp only[Dz,hr];simp
 have a4:Dz kind no (Xu kind no li) 4=false:=by
  have hr:(Zn (Xu kind no li) 4 2:Int)=kind:=by
   unfold Xu
   rw[Yp (by rw[Zj];omega) (.inl M0)]
   unfold Lm
   exact Rb M0 M0 M0
  simp only[Dz,hr];simp
 have a5:Dz kind no (Xu kind no li) 5=false:=by
  have hr:Zn (Xu kind no li) 6 2=0:=by
   unfold Xu
   rw[Yp (by rw[Zj];omega) (.inl M0)]
   unfold Lm
   rw[Yp (by rw[Zj];omega) (.inr (by rw[Zj];omega))]
   unfold Zhm
   rw[Yp (by rw[Zj];omega) (.inr (by rw[Zj];omega))]
   unfold Zh3
   rw[Yp (by rw[B6];omega) (.inl M0)]
   exact Zs6 fun j _ _=>Fc 256 j
  simp only[Dz,hr];rfl
 simp[Qv,a0,a1,a2,a3,a4,a5]
theorem Zv9{kind no:Int}{li:Bl}(hl:li.length≤244):((Xu kind no li).drop 8).take 244=Zhv li:=by
 have l1:=Wr hl
 have l2:=Wt (no:=no) hl
 have l3:=Ho (kind:=kind) (no:=no) hl
 have l4:=Yn (kind:=kind) (no:=no) hl
 apply Am
 ·simp[Zhv,l4];omega
 ·intro j hj
  have a0:j<244:=by simp[l4] at hj;omega
  have e:(((Xu kind no li).drop 8).take 244).getD j 0=(Xu kind no li).getD (8+j) 0:=by
   simp only[List.getD];rw[G9,if_pos a0,F7]
  rw[e]
  unfold Xu
  rw[Jk (by rw[Zj];omega),if_neg (by rw[Zj];omega)]
  unfold Lm
  rw[Jk (by rw[Zj];omega),if_neg (by rw[Zj];omega)]
  unfold Zhm
  rw[Jk (by rw[Zj];omega),if_neg (by rw[Zj];omega)]
  unfold Zh3
  rw[Jk (by rw[B6];omega),Fc]
  unfold Zhv
  simp only[List.getD]
  rw[N5]
  by_cases h:j<li.length
  ·rw[if_pos ⟨by omega,by omega⟩,if_pos h,show 8+j-8=j by omega]
  ·rw[if_neg M0,if_neg h]
   have:=Fc (244-li.length) (j-li.length)
   simp only[List.getD] at this
   exact this.symm
theorem Ci{l x:Bl}{k:Nat}(hx:x.length=256)(hk:k<l.length/256):Vv (Qh l (k*256) x) k=x:=by
 have a0:k*256+256≤l.length:=by omega
 have hp:=Yg (l:=l) (k:=k*256) (x:=x) M0
 apply Am
 ·rw[Jj (by rw[hp];exact hk),hx]
 ·intro j hj
  rw[Jj (by rw[hp];exact hk)] at hj
  have e:(Vv (Qh l (k*256) x) k).getD j 0=(Qh l (k*256) x).getD (k*256+j) 0:=by
   simp only[Vv,List.getD];rw[G9,if_pos hj,F7]
  rw[e,Jk M0,if_pos M0,show k*256+j-k*256=j by omega]
theorem Yv{l x:Bl}{k i:Nat}(hx:x.length=256)(hk:k<l.length/256)(hne:i≠k)(hi:i<l.length/256):Vv (Qh l (k*256) x) i=Vv l i:=by
 have a0:k*256+256≤l.length:=by omega
 have hp:=Yg (l:=l) (k:=k*256) (x:=x) M0
 apply Am
 ·rw[Jj (by rw[hp];exact hi),Jj hi]
 ·intro j hj
  rw[Jj (by rw[hp];exact hi)] at hj
  have e:∀ l:Bl,(Vv l i).getD j 0=l.getD (i*256+j) 0:=fun l=>by
   simp only[Vv,List.getD];rw[G9,if_pos hj,F7]
  rw[e,e,Jk M0,if_neg M0]
theorem Zk0(kind no:Int)(a:O0)(n c:Nat)(l:Bl)(w:World)(hn:l.length=n)(h:Bys w (.slice a n c) l):C0 92 #[.slice a n c,V0 kind,V0 no] w (OpenP kind no l w):=by
 subst hn;exact Zbt kind no a c l w h
theorem Zol(a:O0)(n c:Nat)(l:Bl)(w:World)(hn:l.length=n)(hl:n≤100000000)(h:Bys w (.slice a n c) l):C0 133 #[.slice a n c] w (BitsP l w):=by
 subst hn;exact Zuq a c l w hl h
def Zaq(l:Bl):Bool:=decide (l.length=244)&&decide (Zn l 0 4≤960)&&(List.range 960).all fun i=>decide (i<Zn l 0 4)||Zrt l i==0
theorem Ld(l:Bl):Zaq l=true↔Zl1 l:=by
 unfold Zaq Zl1
 simp only[D9,decide_eq_true_eq,H7,B9,Bool.or_eq_true,beq_iff_eq]
 constructor
 ·rintro⟨⟨h1,h2⟩,h3⟩
  exact⟨h1,h2,fun i hi hc=>(h3 i hi).resolve_left M0⟩
 ·rintro⟨h1,h2,h3⟩
  exact⟨⟨h1,h2⟩,fun i hi=>by by_cases h:i<Zn l 0 4;exact .inl h;exact .inr (h3 i hi M0)⟩
def Yi(l:Bl)(no:Int):Int:=if inE l 3 no=0 then(if Zaq (inB l no) then 0 else 7) else inE l 3 no
def Zm0(l:Bl)(no:Int)(w:World)(e:Ending)(w':World):Prop :=
 (Yi l no≠0∧∃ b,e=.returned (.tuple #[S0,.iface 188 (P0 b)])∧B3 w w'∧Kr w' [some no] (some (Yi l no)) (.iface 188 (P0 b))) ∨
 (Yi l no=0∧∃ p c,e=.returned (.tuple #[.slice p (Zn (inB l no) 0 4) c,.nilIface])∧B3 w w'∧w'.ownsRow w.heap.size 3 1 (.slice p (Zn (inB l no) 0 4) c) (Zn (inB l no) 0 4) ((Zbi (inB l no) (Zn (inB l no) 0 4)).map nv))
theorem readB(B b:Nat)(p:O0)(n c:Nat)(l:Bl)(no:Int)(w:World)(hI:ImgR B b p n c l w) :
 C0 132 #[P0 b,V0 no,V0 3,.func (.func 133) #[] #[]] w (Zm0 l no w):=by
 refine zin 56 Tryz.func132 ?_
 refine xc 15 (Co B b p n c l no _ (hI.below (B4 w))) ?_
 rintro e W1 d0
 rcases d0 with ⟨ho,vr,rfl,a0⟩|⟨j,hk,hj,p2,c2,rfl,a0,ho⟩
 ·refine xc 21 (Yc no 3 _) ?_
  rintro _ W2 ⟨_,rfl,b9,a6⟩
  rw[if_neg Do,if_neg Do] at a6
  have c8:=a6
  obtain⟨c7,d4,rfl,_,_⟩:=c8
  have hB:=bln a0 b9
  refine xe 6 (.tuple #[S0,.iface 188 (P0 c7)]) ?_
  have he:Yi l no=3:=by unfold Yi;rw[Rq hI.len ho];rfl
  exact .inl ⟨by rw[he];decide,_,rfl,hB,by rw[he];exact a6⟩
 have b3:=At w.heap.size
 have d1:j<l.length/256:=by rw[hI.len];exact hj
 have b1:=Jj d1
 have a8:=Zc8 (l:=l) (kind:=3) hI.len hk hj
 have a4:=Zf ho b3
 refine xc 22 (Zk0 3 no p2 256 c2 (Vv l j) _ b1 (Vc (Zg a4) b1)) ?_
 rintro e W3 c9
 rcases c9 with ⟨hs,rfl,a2⟩|⟨hs,p3,c3,rfl,a2,h3⟩
 ·refine xk 14 (show(((Qv 3 no (Vv l j)) != (0:Int)):Bool)=true from bne_iff_ne.2 hs) ?_
  refine xc 6 (Yc no (Qv 3 no (Vv l j)) _) ?_
  rintro _ W4 ⟨_,rfl,c6,a9⟩
  rw[if_neg hs,if_neg hs] at a9
  have b5:=a9
  obtain⟨c0,d2,rfl,_,_⟩:=b5
  have hB:=bln (bln a0 a2) c6
  refine xe 6 (.tuple #[S0,.iface 188 (P0 c0)]) ?_
  have he:Yi l no=Qv 3 no (Vv l j):=by unfold Yi;rw[a8,if_neg hs]
  exact .inl ⟨by rw[he];exact hs,_,rfl,hB,by rw[he];exact a9⟩
 have a1:=Zf h3 a0.size
 have b7:((Vv l j).drop 8).take 244=inB l no:=(Zdy hk).symm
 have b2:=Zfq hI.len hk hj
 rw[b7] at a1
 refine xc 21 (Zol p3 244 c3 (inB l no) _ b2 Do (Vc (Zg a1) b2)) ?_
 rintro e W5 b4
 rcases b4 with ⟨a5,rfl,b0⟩|⟨a5,p4,c4,rfl,b0,h4⟩
 ·refine xc 21 (Yc no 7 _) ?_
  rintro _ W6 ⟨_,rfl,b6,a7⟩
  rw[if_neg Do,if_neg Do] at a7
  have b8:=a7
  obtain⟨c1,d3,rfl,_,_⟩:=b8
  have hB:=bln (bln (bln a0 a2) b0) b6
  refine xe 6 (.tuple #[S0,.iface 188 (P0 c1)]) ?_
  have he:Yi l no=7:=by unfold Yi;rw[a8,if_pos hs,if_neg (by rw[Ld];exact a5)]
  exact .inl ⟨by rw[he];decide,_,rfl,hB,by rw[he];exact a7⟩
 have c5:=(bln a0 a2).size
 have hB:=bln (bln a0 a2) b0
 have a3:=Zf h4 c5
 exact xe 25 (.tuple #[.slice p4 (Zn (inB l no) 0 4) c4,.nilIface]) (.inr ⟨by unfold Yi;rw[a8,if_pos hs,if_pos ((Ld _).2 a5)],_,_,rfl,hB,a3⟩)
theorem Zo7(B b:Nat)(p:O0)(n c:Nat)(l:Bl)(no:Int)(w:World)(hI:ImgR B b p n c l w) :
 C0 80 #[P0 b,V0 no] w (Zm0 l no w):=by
 refine zin 11 Tryz.func80 ?_
 refine xc 10 (readB B b p n c l no _ (hI.below (B4 w))) ?_
 rintro e W1 a3
 rcases a3 with ⟨he,bf,rfl,a1,hv⟩|⟨he,p4,c4,rfl,a1,h4⟩
 ·exact xe 7 (.tuple #[S0,.iface 188 (P0 bf)]) (.inl ⟨he,_,rfl,a1,hv⟩)
 have a2:=At w.heap.size
 have a0:=Zf h4 a2
 exact xe 7 (.tuple #[.slice p4 (Zn (inB l no) 0 4) c4,.nilIface]) (.inr ⟨he,_,_,rfl,a1,a0⟩)
def Hu(t:Int)(leaf:Bool)(n m v:Nat):Bl:=leB (Mt leaf) 1++leB t 1++leB (n:Int) 2++leB (v:Int) 2++leB (m:Int) 2++leB 0 4
theorem Hl(t:Int)(leaf:Bool)(n m v:Nat):(Hu t leaf n m v).length=12:=by simp[Hu,Zj]
def Pi(m v:Nat)(H:Bl)(K:List Int)(Vs:List Bl):Nat→Bl
 | 0=>Qh (List.replicate 244 0) 0 H
 | i+1=>Qh (Qh (Pi m v H K Vs i) (12+i*8) (leB (K.getD i 0) 8)) (12+m*8+i*v) (Vs.getD i [])
theorem It{m v:Nat}{H:Bl}{K:List Int}{Vs:List Bl}(hH:H.length=12)(hf:12+m*8+m*v≤244):∀ {i:Nat},i≤m→(∀ j,j<i→(Vs.getD j []).length=v)→(Pi m v H K Vs i).length=244
 | 0,_,_=>by rw[Pi,Yg (by rw[B6];omega),B6]
 | i+1,hi,hV=>by
  have ih:=It (K:=K) hH hf (i:=i) M0 (fun j hj=>hV j M0)
  have h1:=hV i M0
  have h2:(i+1)*v≤m*v:=E7 v hi
  rw[G8,I6] at h2
  have h3:(Qh (Pi m v H K Vs i) (12+i*8) (leB (K.getD i 0) 8)).length=244:=by rw[Yg (by rw[Zj,ih];omega),ih]
  rw[Pi,Yg (by rw[h1,h3];omega),h3]
theorem node_Put(t:Int)(leaf:Bool)(n m v:Nat)(K:List Int)(Vs:List Bl)(ak av:O0)(ck cv:Nat)(w:World)(N:NodeOk t leaf n m v K Vs)(hKs:Sl w (.slice ak n ck) n (K.map V0))(hVs:Sl w (.slice av n cv) n (Vs.map sv)) :
 C0 260 #[.agg #[V0 t,.bool leaf,.slice ak n ck,.slice av n cv]] w (Kc (fun w' r=>∃ p c,r=.tuple #[.slice p 244 c,V0 0]∧w'.ownsRow w.heap.size 5 1 (.slice p 244 c) 244 ((Pi m v (Hu t leaf n m v) K Vs n).map bv)) w):=by
 have e0:=N.ht1
 have e3:=N.ht2
 have g1:=N.hn
 have f6:=Om t leaf
 rw[N.hv] at f6
 have f4:=Qi t leaf
 rw[N.hm] at f4
 have d3:=fitN t leaf
 rw[N.hm,N.hv] at d3
 have f5:=Sl.cap hKs
 refine zin 90 Tryz.func260 ?_
 refine xa 2 [V0 t,.bool leaf,.slice ak n ck,.slice av n cv] 181 fun b1 W1 n1=>?_
 refine xlv 7 n1.blk.rp ?_
 refine xr 0 (Zra t leaf n m v K Vs ak av ck cv _ N (hKs.below n1.below) (hVs.below n1.below)) fun W2 e1=>?_
 refine xd 7 .z ?_
 have a3:=(n1.blk.below e1).below (Za W2)
 refine xb (.e [0] 1) 0 a3 ?_
 refine xb (.e [2] 3) 1 a3 ?_
 refine xb (.e [5] 6) 0 a3 ?_
 refine xb (.e [7] 8) 1 a3 ?_
 refine xr (.o [] 4) (Ec t leaf v N.hv e0 e3 _) fun W3 e6=>?_
 refine xr (.o [] 9) (Zbm t leaf m N.hm e0 e3 _) fun W4 e4=>?_
 refine xd (.r [10,11] 3) .z ?_
 have a8:=((a3.below e6).below e4).below (Za W4)
 refine xb (.e [0] 1) 1 a8 ?_
 refine xb (.e [4] 5) 0 a8 ?_
 refine xb (.e [6,7] 8) 2 a8 ?_
 refine xr (.o [9,10,11,12,13,14,15] 2) (Ztc leaf _) fun W5 e8=>?_
 refine xbs (.o [3] 16) 6 [V0 1,V0 (Mt leaf),V0 1,V0 t,V0 2,V0 (n:Int),V0 2,V0 (v:Int),V0 2,V0 (m:Int),V0 4,V0 0] 292 fun b6 W6 n6=>?_
 have b4:=bln (bln (bln (bln (bln (bln n1.below e1) (Za W2)) e6) e4) (Za W4)) e8
 have g6:=n6.ge b4
 refine yc (.o [] 17) (args:=#[.slice (S1 b6) 6 6]) .z (Zug b6 (Mt leaf) t (n:Int) (v:Int) (m:Int) (Zfm leaf).1 (Zfm leaf).2 M0 M0 M0 M0 M0 M0 M0 M0 _ n6.blk) ?_
 rintro _ W7 ⟨_,rfl,c8,p2,c2,rfl,h2⟩
 have f0:=(bln b4 n6.below).size
 refine⟨c8,?_⟩
 refine xmk (.r [18,19,20,21,22] 4) fun _ _ _ _ zJ zQ zo zx zy zK=>Gl 244 (.int .u8 0) 1 1 ((List.replicate 244 (0:UInt8)).map bv) zo zx zy Tryz.underlying22 K0 rfl M0 M0 (Zg5 244) fun b8 W8 n8=>?_
 have c0:=bln (bln b4 n6.below) c8
 have g8:=n8.ge c0
 have c4:=Zf h2 f0
 have e7:=Zu c4 n8
 refine zK _ _ ?_
 have o8:=Yd (size:=1) (n:=244) n8.blk g8 (by rw[A6,B6]) (by unfold maxLen;omega)
 have d1:=Zb c4 n8.below
 have c1:=bln c0 n8.below
 refine xbi 7 (t2:=22) fun _ _ _ _ zJ zQ zo zx zy zK=>Bv (dLen:=244) (dCap:=244) (off:=0) 12 ((Hu t leaf n m v).map bv) ((Pi m v (Hu t leaf n m v) K Vs 0).map bv) zo Tryz.underlying22 K0 zx zy (Zg d1) o8 (by simp[Hl]) M0 M0 (Vy _) c1.size (by simp[Pi,Qh,Hl]) fun W9 o9 e5 e9=>?_
 refine zK _ _ ?_
 have b7:=((((a8.below e8).below n6.below).below c8).below n8.below).grown e5 o8 Do
 refine xb 6 2 b7 ?_
 have d4:=c1.trans e9
 have d9:=((n6.blk.below c8).below n8.below).grown e5 o8 Do
 refine zl 5 90 (fun zm f2 V=>∃ (i:Nat),f2=[(1,P0 b1),(2,S0),(3,V0 0),(4,V0 (v:Int)),(5,V0 (m:Int)),(8,.slice (S1 b8) 244 244),(52,.slice ak n ck),(53,V0 (n:Int)),(54,V0 (i:Int))]∧zm=n-((i:Int)).toNat∧B3 w V∧Blk V b1 ([V0 t,.bool leaf,.slice ak n ck,.slice av n cv]) 181∧Blk V b6 ([V0 1,V0 (Mt leaf),V0 1,V0 t,V0 2,V0 (n:Int),V0 2,V0 (v:Int),V0 2,V0 (m:Int),V0 4,V0 0]) 292∧V.ownsRow w.heap.size 5 1 (.slice (S1 b8) 244 244) 244 ((Pi m v (Hu t leaf n m v) K Vs i).map bv)∧i≤n) ⟨0,rfl,rfl,d4,b7,d9,o9,A3 _⟩ ?_
 rintro _ _ g5 ⟨i,rfl,rfl,a0,b2,a5,ho,hi⟩ f7 d5 g0
 have e9:i<n→i*v+v≤m*v:=fun h=>by have h9:(i+1)*v≤m*v:=E7 v M0;rw[G8,I6] at h9;exact h9
 refine xid 6 ((i:Int)<(n:Int)) (fun d7=>?_) (fun d7=>?_)
 ·refine xx 7 _ n i 1 (IntsN.elem hKs N.hK (k:=i) M0).1 ?_
  refine xl 0 ((IntsN.elem (hKs.below a0) N.hK (k:=i) M0).2) ?_
  refine xbs 8 1 [V0 8,V0 (K.getD i 0)] 292 fun e2 f9 a9=>?_
  have d6:=a9.ne a5
  have f8:=a9.ge a0
  refine xc 0 (Zv2 e2 (K.getD i 0) (N.hk0 i M0).1 _ a9.blk) ?_
  rintro _ g3 ⟨_,rfl,a7,p3,c3,rfl,h3⟩
  have c9:=(bln a0 a9.below).size
  refine xwm 11 ((i:Int)*8) (↑(i*8):Int) ?_
  refine xwm 0 (12+(↑(i*8):Int)) (↑(12+(i*8)):Int) ?_
  refine xsL 0 (fun _ _ _ _ zo zx zy V=>Cj (k:=(12+(i*8))) (b:=b8) (off:=0) (n:=244) (c:=244) (i:=(↑(12+(i*8)):Int)) (ki:=.i64) 1 zo zx zy rfl M0 M0 Tryz.underlying22 K0 V) ?_
  have b0:=Zb (Zb ho a9.below) a7
  have d0:=Zf h3 c9
  have b9:=bln (bln a0 a9.below) a7
  refine xbi 1 (t2:=22) fun _ _ _ _ zJ zQ zo zx zy zK=>Bv (dLen:=(244-(12+(i*8)))) (dCap:=(244-(12+(i*8)))) (off:=(0+(12+(i*8))*1)) 8 ((leB (K.getD i 0) 8).map bv) ((Qh (Pi m v (Hu t leaf n m v) K Vs i) (12+i*8) (leB (K.getD i 0) 8)).map bv) zo Tryz.underlying22 K0 zx zy (Zg d0) b0 (by simp[Zj]) M0 M0 (Vy _) b9.size (by simp[Qh,Zj,I4,Lt]) fun c7 f3 c5 d2=>?_
  refine zK _ _ ?_
  refine xd 2 (.t w.heap.size [5]) ?_
  refine xwm (.e [0,1] 2) ((m:Int)*8) (↑(m*8):Int) ?_
  refine xwm (.e [] 3) (12+(↑(m*8):Int)) (↑(12+(m*8)):Int) ?_
  refine xwm (.e [4,5] 6) ((i:Int)*(v:Int)) (↑(i*v):Int) ?_
  refine xwm (.e [] 7) ((↑(12+(m*8)):Int)+(↑(i*v):Int)) (↑((12+(m*8))+(i*v)):Int) ?_
  refine xsL (.e [] 8) (fun _ _ _ _ zo zx zy V=>Cj (k:=((12+(m*8))+(i*v))) (b:=b8) (off:=0) (n:=244) (c:=244) (i:=(↑((12+(m*8))+(i*v)):Int)) (ki:=.i64) 1 zo zx zy rfl M0 M0 Tryz.underlying22 K0 V) ?_
  have a1:=(((b2.below a9.below).below a7).grown c5 b0 Do).below (Za c7)
  refine xbt (.e [9] 10) 3 w.heap.size [5] a1 ?_
  refine xx (.e [11] 12) _ n i 1 (Strs.elem hVs N.hV (k:=i) M0).1 ?_
  have b3:=bln (b9.trans d2) (Za c7)
  refine xlt (.e [] 13) (.t w.heap.size [5]) (fun V hV=>(Strs.elem (hVs.below (Zd7 b3 hV (At _))) N.hV (k:=i) M0).2) ?_
  have a2:=Zb f3 (Za c7)
  refine ybi (.o [] 14) (t2:=9) (.t w.heap.size [5]) fun _ _ _ _ zJ zQ zo zx zy zK=>Zk9 (dLen:=(244-((12+(m*8))+(i*v)))) (dCap:=(244-((12+(m*8))+(i*v)))) (off:=(0+((12+(m*8))+(i*v))*1)) (Vs.getD i []) ((Pi m v (Hu t leaf n m v) K Vs (i+1)).map bv) zo Tryz.underlying22 K0 zx zy a2 (by rw[N.hw i M0];omega) (by rw[N.hw i M0];omega) b3.size (by simp[Pi,Qh,I4,Lt]) fun g2 f1 b5 c6=>?_
  refine zK _ _ (Yk c6 b5 a2 Do) ?_
  refine xwm 4 ((i:Int)+1) (↑(i+1):Int) ?_
  have d8:=b3.trans c6
  have a6:=a1.grown b5 a2 Do
  have a4:=((((a5.below a9.below).below a7).grown c5 b0 Do).below (Za c7)).grown b5 a2 Do
  exact ze 2 (d5 _ _ _ ⟨i+1,rfl,rfl,d8,a6,a4,f1,by omega⟩ M0)
 refine xe 13 (.tuple #[.slice (S1 b8) 244 244,V0 0]) ?_
 have e:i=n:=by omega
 subst e
 exact⟨_,rfl,a0,_,_,rfl,ho⟩
theorem Vt(ba b:Nat)(v x:Value)(w:World)(hk:Blk w ba [v,x,P0 b] 200) :
 C0 95 #[P0 ba] w (Ret (P0 b) w):=by
 refine zin 9 Tryz.func95 ?_
 refine xr 9 (args:=#[P0 ba]) (Uc ba b _ _ _ hk) fun W1 a1=>?_
 have a0:=hk.below a1
 refine xb 10 2 a0 ?_
 exact xe 4 (P0 b) ⟨rfl,a1⟩
abbrev Ent:=Int×Bl×Int
def Zo:Ent:=(0,[],0)
def Kd(x:Ent):List Value:=[V0 x.1,.string ⟨x.2.1.toArray⟩,V0 x.2.2]
theorem Ql(x:Ent):(Kd x).length=3:=rfl
def Zs3(l:List Ent):Nat→Int
 | 0=>-1
 | i+1=>(l.getD i Zo).1
structure EntsOk(v:Nat)(l:List Ent):Prop where
 hk:∀ i,i<l.length→0≤(l.getD i Zo).1∧(l.getD i Zo).1≤281474976710655
 hs:∀ j,j+1<l.length→(l.getD j Zo).1<(l.getD (j+1) Zo).1
 hw:∀ i,i<l.length→(l.getD i Zo).2.1.length=v
theorem EntsOk.last{v:Nat}{l:List Ent}(E:EntsOk v l){i:Nat}(h:i<l.length):Zs3 l i<(l.getD i Zo).1:=by
 cases i with
 | zero=>have:=(E.hk 0 h).1;simp only[Zs3];omega
 | succ j=>exact E.hs j h
theorem Kl(x:Nat):x≤(Jy x).sum:=by
 by_cases h:x≤1
 ·rw[Jm h];simp
 ·rw[Vx h];simp
theorem Mi(t:Int)(n:Nat):1≤Xk t n:=by
 have h1:=Kl (ovN n (Kh t true));have h2:=Qp n (Kh t true);unfold Xk Uh;omega
theorem Zk3(t:Int)(v:Nat)(a:O0)(c:Nat)(l:List Ent)(w:World)(ht1:1≤t)(ht2:t≤5)(hv:Jd t true=v)(E:EntsOk v l)(h:Sts Kd w (.slice a l.length c) l)(hn:l.length≤32768) :
 C0 220 #[V0 t,.slice a l.length c] w (Ret (.bool true) w):=by
 have a6:=Om t true
 rw[hv] at a6
 have a8:=Mi t l.length
 refine zin 45 Tryz.func220 ?_
 refine xr 8 (Ec t true v hv ht1 ht2 _) fun W1 a2=>?_
 refine xgk 9 [12,13] (show(((v:Int)==(0:Int)):Bool)=false from by simp;omega) ?_
 refine xr 3 (Ka t l.length _ ht1 ht2 hn) fun W3 a5=>?_
 refine xk 4 (show(((↑(Xk t l.length):Int)==(0:Int)):Bool)=false from by simp;omega) ?_
 have hB:=bln a2 a5
 refine zl 16 45 (fun zm a7 V=>∃ (i:Nat),a7=[(5,V0 (v:Int)),(6,V0 (Zs3 l i)),(20,.slice a l.length c),(21,V0 (l.length:Int)),(22,V0 (i:Int))]∧zm=l.length-((i:Int)).toNat∧B3 w V∧i≤l.length) ⟨0,rfl,rfl,hB,A3 _⟩ ?_
 rintro _ _ W4 ⟨i,rfl,rfl,a0,hi⟩ J4 a3 r4
 refine xid 6 ((i:Int)<(l.length:Int)) (fun a4=>?_) (fun a4=>?_)
 ·refine xx 6 _ l.length i 3 (Sts.cell h Ql Zo (k:=i) (i:=0) M0 rfl).1 ?_
  refine xlv 0 (Sts.rp (k:=i) (h.below a0) Ql Zo M0 Do) ?_
  refine xa 0 [V0 0,.string ⟨#[]⟩,V0 0] 132 fun b6 W6 n6=>?_
  have g6:=n6.ge a0
  refine xsv 0 n6.blk [V0 ((l.getD i Zo).1),.string ⟨((l.getD i Zo).2.1).toArray⟩,V0 ((l.getD i Zo).2.2)] fun W7 u7 k7=>?_
  refine xb 6 0 k7 ?_
  refine xgk 3 [29,30] (show(decide ((l.getD i Zo).1≤(Zs3 l i)):Bool)=false from decide_eq_false (by have:=E.last (i:=i) M0;omega)) ?_
  refine xb 1 0 k7 ?_
  refine xgk 3 [33,34,35] (show(decide ((l.getD i Zo).1>(281474976710655:Int)):Bool)=false from decide_eq_false (by have:=(E.hk i M0).2;omega)) ?_
  refine xb 1 1 k7 ?_
  refine xk 6 (show(((↑((l.getD i Zo).2.1).length:Int) != (v:Int)):Bool)=false from by rw[E.hw i M0];simp) ?_
  refine xb 4 0 k7 ?_
  refine xw 5 ((i:Int)+1) ?_
  have a1:=u7.below (bln a0 n6.below) g6
  exact ze 2 (a3 _ _ _ ⟨i+1,rfl,rfl,a1,by omega⟩ M0)
 exact xe 11 (.bool true) ⟨rfl,a0⟩
theorem Zql(w:World) :
 C0 214 #[] w (Kc (fun w' r=>∃ b,r=.slice (S1 b) 1 1∧w.heap.size≤b∧Blk w' b [V0 4,V0 1,V0 14399] 312) w):=by
 refine zin 3 Tryz.func214 ?_
 refine xbs 8 1 [V0 4,V0 1,V0 14399] 312 fun b1 W1 n1=>?_
 have g1:=n1.ge (B4 w)
 exact xe 4 (.slice (S1 b1) 1 1) ⟨_,rfl,n1.below,_,rfl,g1,n1.blk⟩
theorem Znn(gl gn:Nat)(n:Int)(h1:1≤n)(h2:n≤14399)(w:World)(hl:Blk w gl [V0 4,V0 1,V0 14399] 312)(hn:Blk w gn [V0 n] 3) :
 C0 181 #[.slice (S1 gl) 1 1,.slice (S1 gn) 1 1] w (Ret (.string ⟨(leB n 4).toArray⟩) w):=by
 have b5:=h1
 have b2:=h2
 clear h2
 refine zin 51 Tryz.func181 ?_
 refine xu 19 2 ?_
 refine xlv 15 hl.rp ?_
 refine xa 0 [V0 0,V0 0,V0 0] 312 fun b1 W1 n1=>?_
 have a6:=n1.ne hl
 refine xsv 1 n1.blk [V0 4,V0 1,V0 14399] fun W2 u2 k2=>?_
 have g1:=n1.ge (B4 w)
 refine xd 4 .z ?_
 have a1:=(u2.blkT (hn.below n1.below) n1.blk Do).below (Za W2)
 refine xb (.e [0,1,2] 3) 0 a1 ?_
 have a0:=k2.below (Za W2)
 refine xb (.e [4] 5) 1 a0 ?_
 refine xgk (.b [6,7]) [23,24] (show(decide (n<(1:Int)):Bool)=false from decide_eq_false M0) ?_
 refine xb (.e [8,9,10] 11) 0 a1 ?_
 refine xb (.e [12] 13) 2 a0 ?_
 refine xk (.r [14,15] 2) (show(decide (n>(14399:Int)):Bool)=false from decide_eq_false M0) ?_
 refine xd 3 .z ?_
 have a3:=a0.below (Za W2.drew)
 refine xb (.e [0] 1) 0 a3 ?_
 have a2:=a1.below (Za W2.drew)
 refine xb (.e [2,3,4] 5) 0 a2 ?_
 refine xbs (.o [6] 7) 1 [V0 4,V0 n] 292 fun b4 W4 n4=>?_
 refine yc (.o [] 8) (args:=#[.slice (S1 b4) 1 1]) .z (Tu b4 n M0 M0 _ n4.blk) ?_
 rintro _ W5 ⟨_,rfl,a7,p2,c2,rfl,h2⟩
 have a9:=(bln (bln (bln (u2.below n1.below g1) (Za W2)) (Za W2.drew)) n4.below).size
 refine⟨a7,?_⟩
 have o6:=A5 W5 w.heap.size 5 1
 have a5:=Zf h2 a9
 have hB:=bln (bln (bln (bln (u2.below n1.below g1) (Za W2)) (Za W2.drew)) n4.below) a7
 refine xbi (.r [9,10,11,12,13] 5) fun _ _ _ _ zJ zQ zo zx zy zK=>Xi (m:=4) (news:=(leB n 4).map bv) (.int .u8 0) 1 1 (4) ((leB n 4).map bv) zo Tryz.underlying22 K0 rfl Do zx o6 zy (Zg a5) (by simp[Zj]) (Vy _) (by unfold maxLen;omega) M0 hB.size (by rfl) (by simp) fun b6 b0 W7 o7 b3 a8=>?_
 refine zK _ _ ?_
 refine xcv0 24 (fun _ _ _ zo zx=>Mx zo zx (Vc (Zg o7) (Zj _ _)) (Zj _ _) Tryz.underlying22 Tryz.underlying5 Tryz.underlying9) ?_
 have a4:=hB.trans a8
 exact xe 4 (.string ⟨(leB n 4).toArray⟩) ⟨rfl,a4⟩
theorem Zdw(n:Int)(h1:1≤n)(h2:n≤14399)(w:World) :
 C0 154 #[V0 n] w (Ret (.string ⟨(leB n 4).toArray⟩) w):=by
 refine zin 7 Tryz.func154 ?_
 refine xc 7 (Zql _) ?_
 rintro _ W1 ⟨_,rfl,a1,gl,rfl,gg,kl⟩
 refine xbs 1 1 [V0 n] 3 fun b2 W2 n2=>?_
 have a0:=kl.below n2.below
 refine xr 0 (Znn gl b2 n h1 h2 _ a0 n2.blk) fun W3 a2=>?_
 have hB:=bln (bln a1 n2.below) a2
 exact xe 4 (.string ⟨(leB n 4).toArray⟩) ⟨rfl,hB⟩
theorem Sts.cut{α:Type}{f:α→List Value}{m:Nat}{w:World}{b:O0}{c:Nat}{l:List α}(hm:∀ x,(f x).length=m)(h:Sts f w (.slice b l.length c) l)(k:Nat)(hk:k≤l.length):Sts f w (.slice (Mw b k c m) (l.drop k).length (c-k)) (l.drop k):=by
 have a2:(l.drop k).length=l.length-k:=by simp
 have a1:=Sl.cap h
 by_cases hkn:k=l.length
 ·refine .inl ⟨Mw b k c m,c-k,by rw[show(l.drop k).length=0 by omega],by omega,?_⟩
  rw[E0 M0];rfl
 rcases h with ⟨a',c',h1,h2,h3⟩|⟨g,a3,a4,h1,h2,h3,h4⟩
 ·omega
 ·simp only[C2] at h1
  obtain⟨rfl,_,rfl⟩:=h1
  refine .inr ⟨g,a3+k*m,c-k,?_,by omega,by omega,fun j x hj=>?_⟩
  ·rw[Mw,if_neg M0];simp[Addr.add]
  ·have a0:(l.drop k).flatMap f=(l.flatMap f).drop (k*m):=by
    conv=>rhs;rw[←F9 k l,C8]
    rw[L7 (by rw[Oq hm,E3,H3 hk])]
   rw[a0,F7] at hj
   have:=h4 _ _ hj
   rwa [←E9] at this
theorem Al.only{B ba b g n c:Nat}{pa:O0}{ca f N k:Nat}{l:Bl}{w W:World}{T:List TypeId}(h:Al B ba b g n c pa ca f N k l w)(hO:Ze T w W)(hT:(T.contains 200||T.contains 80||T.contains 5||T.contains 3)=false):Al B ba b g n c pa ca f N k l W:=by
 simp only[K7] at hT
 exact⟨h.blkA.only hO hT.1.1.1,h.blkI.only hO hT.1.1.2,Zi h.data hO hT.1.2,Zi h.nums hO hT.2⟩
def Zy(l:List Ent)(m i:Nat):List Ent:=(l.drop (i*m)).take m
def Vr(c:List Ent):List Int:=c.map (·.1)
def Jq(c:List Ent):List Bl:=c.map (·.2.1)
def Zoq(t:Int)(leaf:Bool)(m v:Nat)(c:List Ent):Bl:=Pi m v (Hu t leaf c.length m v) (Vr c) (Jq c) c.length
def Mg(t:Int)(leaf:Bool)(m v:Nat)(l:List Ent)(q:Nat)(bs:Bl):Nat→Bl
 | 0=>bs
 | i+1=>Qh (Mg t leaf m v l q bs i) ((q+i)*256) (Xu 2 ((q+i:Nat):Int) (Zoq t leaf m v (Zy l m i)))
def upX (l:List Ent)(m q i:Nat):Ent:=(((Zy l m i).getD 0 Zo).1,leB ((q+i:Nat):Int) 4,((q+i:Nat):Int))
def upE (l:List Ent)(m q j:Nat):List Ent:=(List.range j).map (upX l m q)
theorem upE_succ(l:List Ent)(m q j:Nat):upE l m q (j+1)=upE l m q j++[upX l m q j]:=by simp[upE,C3]
theorem Xr(l:List Ent)(m q j:Nat):(upE l m q j).length=j:=by simp[upE]
theorem Jp{l:List Ent}{m q j i:Nat}(h:i<j):(upE l m q j).getD i Zo=upX l m q i:=by simp[upE,List.getD,B8 h]
theorem Hr(l:List Ent)(m i:Nat):(Zy l m i).length=Qj l.length m i:=by simp[Zy,Qj]
theorem Hp{l:List Ent}{m i j:Nat}(h:j<Qj l.length m i):(Zy l m i).getD j Zo=l.getD (i*m+j) Zo:=by
 unfold Qj at h
 simp[Zy,List.getD,I0 (show j<m by omega),F7]
theorem Zay{c:List Ent}{j:Nat}(h:j<c.length):(Vr c).getD j 0=(c.getD j Zo).1:=by simp[Vr,List.getD,h]
theorem Zac{c:List Ent}{j:Nat}(h:j<c.length):(Jq c).getD j []=(c.getD j Zo).2.1:=by simp[Jq,List.getD,h]
theorem Bj(c:List Ent):(Vr c).length=c.length:=by simp[Vr]
theorem Bu(c:List Ent):(Jq c).length=c.length:=by simp[Jq]
theorem Zmi{n m i:Nat}(hm:1≤m)(hn:1≤n)(h:i<ovN n m):i*m<n:=by
 unfold ovN at h
 rcases M1 i with rfl|hi
 ·omega
 have h2:i<(n+m-1)/m:=by omega
 have h3:=(Nat.lt_div_iff_mul_lt M0).1 h2
 omega
theorem Pv{t:Int}{leaf:Bool}{m v:Nat}{l:List Ent}(E:EntsOk v l)(h1:1≤t)(h2:t≤5)(hm:Kh t leaf=m)(hv:Jd t leaf=v)(hl:leaf=false→1≤l.length){i:Nat}(hi:i<ovN l.length m):NodeOk t leaf (Zy l m i).length m v (Vr (Zy l m i)) (Jq (Zy l m i)):=by
 have a5:=(Qi t leaf).1
 rw[hm] at a5
 have a0:=Hr l m i
 have a6:=Zil a5 hi
 have a7:(Zy l m i).length≤l.length-i*m:=by rw[a0];unfold Qj;omega
 have a4:∀ j,j<(Zy l m i).length→i*m+j<l.length∧(Vr (Zy l m i)).getD j 0=(l.getD (i*m+j) Zo).1∧(Jq (Zy l m i)).getD j []=(l.getD (i*m+j) Zo).2.1:=fun j hj=>by
  refine⟨by omega,?_,?_⟩
  ·rw[Zay hj,Hp M0]
  ·rw[Zac hj,Hp M0]
 refine⟨h1,h2,hm,hv,Bj _,Bu _,by rw[a0];unfold Qj;omega,fun h=>?_,fun j hj=>?_,fun j hj=>?_,fun j hj=>?_⟩
 ·have:=Zmi a5 (hl h) hi
  rw[a0];unfold Qj;omega
 ·obtain⟨a1,a2,_⟩:=a4 j hj
  rw[a2];exact E.hk _ a1
 ·obtain⟨a1,a2,_⟩:=a4 j M0
  obtain⟨b1,b2,_⟩:=a4 (j+1) hj
  rw[a2,b2];exact E.hs _ M0
 ·obtain⟨a1,_,a3⟩:=a4 j hj
  rw[a3];exact E.hw _ a1
theorem Re{t:Int}{leaf:Bool}{m v:Nat}{c:List Ent}(N:NodeOk t leaf c.length m v (Vr c) (Jq c)):(Zoq t leaf m v c).length=244:=by
 have hf:=fitN t leaf
 rw[N.hm,N.hv] at hf
 exact It (Hl _ _ _ _ _) hf N.hn (fun j hj=>N.hw j hj)
theorem Zly{w:World}{b:O0}{n m c:Nat}(h:Sl w (.slice b (ovN n m) c) (ovN n m) ((sizL n m).map nv)){k:Nat}(hk:k<ovN n m):b.isSome=true∧w.cell? (Zx b (k*1))=some (V0 ((Qj n m k:Nat):Int)):=by
 have:=Xc h (sizL_len n m) hk
 rwa [show(sizL n m).getD k 0=Qj n m k from by simp[sizL,List.getD,B8 hk]] at this
theorem Zss{l:List Ent}{j:Nat}(h:j<l.length):((Vr l).take (j+1)).map V0=((Vr l).take j).map V0++[V0 (l.getD j Zo).1]:=by
 rw[A7 (by rw[Bj];exact h)]
 simp[Vr,List.getD,h]
theorem Zt3{l:List Ent}{j:Nat}(h:j<l.length):((Jq l).take (j+1)).map sv=((Jq l).take j).map sv++[.string ⟨(l.getD j Zo).2.1.toArray⟩]:=by
 rw[A7 (by rw[Bu];exact h)]
 simp[Jq,List.getD,h,sv]
theorem Zre{l:List Ent}{m i s:Nat}(hs:Qj l.length m i=s):(Vr (l.drop (i*m))).take s=Vr (Zy l m i):=by
 subst hs
 unfold Vr Zy Qj
 rw[←I4]
 congr 1
 rw[P4];simp
theorem Zrj{l:List Ent}{m i s:Nat}(hs:Qj l.length m i=s):(Jq (l.drop (i*m))).take s=Jq (Zy l m i):=by
 subst hs
 unfold Jq Zy Qj
 rw[←I4]
 congr 1
 rw[P4];simp
theorem EntsOk.mono{v:Nat}{l:List Ent}(E:EntsOk v l):∀ {a b:Nat},a<b→b<l.length→(l.getD a Zo).1<(l.getD b Zo).1:=by
 intro a b h hb
 induction b with
 | zero=>omega
 | succ b ih =>
  have h1:=E.hs b M0
  rcases G2 a b with h2|h2
  ·have:=ih h2 M0;omega
  ·obtain rfl:a=b:=by omega
   exact h1
theorem Zgp{v:Nat}{l:List Ent}{m:Nat}(hm:1≤m)(hl:1≤l.length){i q:Nat}(hi:i<ovN l.length m):(upX l m q i).1=(l.getD (i*m) Zo).1∧i*m<l.length:=by
 have h:=Zmi hm hl hi
 refine⟨?_,h⟩
 unfold upX
 rw[Hp (by unfold Qj;omega)];rfl
theorem Cy{v:Nat}{l:List Ent}(E:EntsOk v l){m q:Nat}(hm:1≤m):EntsOk 4 (upE l m q (ovN l.length m)):=by
 rcases M1 l.length with h0|hl
 ·have h1:ovN l.length m=1:=by
   rw[h0];unfold ovN
   have:(0+m-1)/m=0:=Nat.div_eq_of_lt M0
   omega
  have a0:l=[]:=H8 h0
  subst a0
  constructor
  ·intro i hi;rw[Xr,h1] at hi;rw[Jp M0];simp[upX,Zy,Zo]
  ·intro j hj;rw[Xr,h1] at hj;omega
  ·intro i hi;rw[Xr,h1] at hi;rw[Jp M0];simp[upX,Zj]
 constructor
 ·intro i hi
  rw[Xr] at hi
  obtain⟨h1,h2⟩:=Zgp (v:=v) (q:=q) hm hl hi
  rw[Jp hi,h1];exact E.hk _ h2
 ·intro j hj
  rw[Xr] at hj
  obtain⟨h1,h2⟩:=Zgp (v:=v) (q:=q) hm hl hj
  obtain⟨h3,h4⟩:=Zgp (v:=v) (q:=q) hm hl (show j<ovN l.length m by omega)
  rw[Jp hj,Jp M0,h1,h3]
  refine E.mono ?_ h2
  rw[G8];omega
 ·intro i hi
  rw[Xr] at hi
  rw[Jp hi];simp[upX,Zj]
def Vi(t:Int)(u:List Ent)(q:Nat)(bs:Bl):Int×Bl :=
 if h:u.length≤1 then((u.getD 0 Zo).2.2,bs)
 else Vi t (upE u 18 q (ovN u.length 18)) (q+ovN u.length 18) (Mg t false 18 4 u q bs (ovN u.length 18))
termination_by u.length
decreasing_by rw[Xr];have:=Zru (x:=u.length) M0;omega
theorem Vz{t:Int}{u:List Ent}{q:Nat}{bs:Bl}(h:u.length≤1):Vi t u q bs=((u.getD 0 Zo).2.2,bs):=by rw[Vi];simp[h]
theorem Vd{t:Int}{u:List Ent}{q:Nat}{bs:Bl}(h:¬ u.length≤1):Vi t u q bs=Vi t (upE u 18 q (ovN u.length 18)) (q+ovN u.length 18) (Mg t false 18 4 u q bs (ovN u.length 18)):=by rw[Vi];simp[h]
def Zz(t:Int)(l:List Ent)(q:Nat)(bs:Bl):Int×Bl :=
 Vi t (upE l (Kh t true) q (ovN l.length (Kh t true))) (q+ovN l.length (Kh t true)) (Mg t true (Kh t true) (Jd t true) l q bs (ovN l.length (Kh t true)))
theorem Zas{t:Int}{u:List Ent}{q:Nat}{bs:Bl}(h1:1≤u.length)(hu:(u.getD (u.length-1) Zo).2.2=((q-1:Nat):Int))(hq:1≤q):(Vi t u q bs).1=((q-1+((Jy u.length).sum-u.length):Nat):Int):=by
 induction hx:u.length using Nat.strongRecOn generalizing u q bs with
 | _ x ih =>
  subst hx
  by_cases h:u.length≤1
  ·rw[Vz h,Jm h]
   rw[show u.length-1=0 by omega] at hu
   show(u.getD 0 Zo).2.2=_
   rw[hu];simp
  ·have a1:=Zru (x:=u.length) M0
   have hp:=Qp u.length 18
   rw[Vd h,ih (ovN u.length 18) M0 (u:=upE u 18 q (ovN u.length 18)) (q:=q+ovN u.length 18) (by rw[Xr];exact hp) ?_ M0 (Xr _ _ _ _),Vx h]
   ·have a0:=Kl (ovN u.length 18)
    simp only[G5]
    congr 1
    omega
   ·rw[Xr,Jp M0]
    simp only[upX]
    congr 1
    omega
def LaidQ(B ba b g n c:Nat)(pa:O0)(ca f N k:Nat)(l:Bl)(kind:Int)(li:Bl)(q:Nat)(w:World)(e:Ending)(w':World):Prop :=
 e=.returned (.tuple #[V0 (q:Int),.nilIface])∧Below B w w'∧Ze [200,5] w w'∧Fr [ba,g] w w'∧Al B ba b g n c pa ca f N (k+1) (Qh l (q*256) (Xu kind (q:Int) li)) w'
theorem Cs(B ba b g n c:Nat)(p:O0)(ca f N k:Nat)(l:Bl)(kind:Int)(a:O0)(ci:Nat)(li:Bl)(q n':Nat)(w:World)(hq:f+k=q)(hn':li.length=n')(hC:AlC B ba n c ca f N)(hA:Al B ba b g n c p ca f N k l w)(hkN:k<N)(h1:1≤kind)(h2:kind≤4)(hin:∀ W,Below B w W→Ze [200] w W→Bys W (.slice a n' ci) li)(hl:n'≤244)(hBw:B≤w.heap.size) :
 C0 165 #[P0 ba,V0 kind,.slice a n' ci] w (LaidQ B ba b g n c p ca f N k l kind li q w):=by
 subst hq hn';exact Zs2 B ba b g n c p ca f N k l kind a ci li w hC hA hkN h1 h2 hin hl hBw
theorem up_row{l:List Ent}{m q i:Nat}{key:Int}(hk:key=((Zy l m i).getD 0 Zo).1):(upE l m q i).flatMap Kd++[V0 key,.string ⟨(leB ((q+i:Nat):Int) 4).toArray⟩,V0 ((q+i:Nat):Int)]=(upE l m q (i+1)).flatMap Kd:=by
 subst hk;rw[upE_succ];simp[Kd,upX]
theorem Zve{l:List Ent}{m i j:Nat}(hs:Qj l.length m i=j)(hj:0<j):((Vr (Zy l m i))).getD 0 0=((Zy l m i).getD 0 Zo).1:=Zay (by rw[Hr];omega)
theorem Zi6{l:List Ent}{m i j:Nat}(hs:Qj l.length m i=j)(hj:j=0):(0:Int)=((Zy l m i).getD 0 Zo).1:=by
 have:Zy l m i=[]:=H8 (by rw[Hr];omega)
 rw[this];rfl
def bmN (n:Nat):Nat:=(n+959)/960
theorem bmN_lt{n i:Nat}(h:i<bmN n):i*960<n:=by unfold bmN at h;omega
theorem bmN_done{n i:Nat}(h:i=bmN n):n≤i*960:=by subst h;unfold bmN;omega
def mn3 (n:Int):Int:=if n<3 then n else 3
def Zl(l:List Int):List Int:=l.map mn3
theorem Wh(l:List Int):(Zl l).length=l.length:=by simp[Zl]
theorem Zp5{l:List Int}{k:Nat}(h:k<l.length):Zl (l.take (k+1))=Zl (l.take k)++[mn3 (l.getD k 0)]:=by
 unfold Zl
 rw[A7 h,B5,show l.getD k 0=l[k] from by simp[List.getD,h]]
 rfl
def ovX (l:List Int)(k:Nat):List Ent:=if 3≤l.getD k 0 then [((k:Int),leB (l.getD k 0) 4,0)] else []
def Zp(l:List Int)(k:Nat):List Ent:=(List.range k).flatMap (ovX l)
theorem Cn(l:List Int)(k:Nat):Zp l (k+1)=Zp l k++ovX l k:=by simp[Zp,C3]
theorem Bc{l:List Int}{k:Nat}(h:3≤l.getD k 0):Zp l (k+1)=Zp l k++[((k:Int),leB (l.getD k 0) 4,0)]:=by rw[Cn];unfold ovX;rw[if_pos h]
theorem Cv{l:List Int}{k:Nat}(h:¬ 3≤l.getD k 0):Zp l (k+1)=Zp l k:=by rw[Cn];unfold ovX;rw[if_neg h];simp
theorem Zmx(l:List Int)(k:Nat):(Zp l k).Pairwise (fun a b=>a.1<b.1)∧∀ x∈Zp l k,0≤x.1∧x.1<k∧x.2.1.length=4:=by
 induction k with
 | zero=>simp[Zp]
 | succ k ih =>
  by_cases h3:3≤l.getD k 0
  ·rw[Bc h3]
   refine⟨List.pairwise_append.2 ⟨ih.1,by simp,fun a ha b hb=>?_⟩,fun x hx=>?_⟩
   ·simp only[D3] at hb;subst hb;exact(ih.2 a ha).2.1
   ·rcases List.mem_append.1 hx with h|h
    ·have:=ih.2 x h;exact⟨this.1,by have:=this.2.1;omega,this.2.2⟩
    ·simp only[D3] at h;subst h;exact⟨K1 _,by show(k:Int)<((k+1:Nat):Int);omega,Zj _ _⟩
  ·rw[Cv h3]
   exact⟨ih.1,fun x hx=>by have:=ih.2 x hx;exact⟨this.1,by have:=this.2.1;omega,this.2.2⟩⟩
theorem Pf(l:List Int)(k:Nat):(Zp l k).length≤k:=by
 induction k with
 | zero=>simp[Zp]
 | succ k ih =>
  by_cases h3:3≤l.getD k 0
  ·rw[Bc h3];simp;exact ih
  ·rw[Cv h3];omega
theorem Hn{l:List Ent}{i:Nat}(h:i<l.length):l.getD i Zo=l[i]:=by simp[List.getD,h]
theorem Vl(l:List Int)(k:Nat)(hk:k≤65536):EntsOk 4 (Zp l k):=by
 have h:=Zmx l k
 refine⟨fun i hi=>?_,fun j hj=>?_,fun i hi=>?_⟩
 ·rw[Hn hi];have:=h.2 _ (G6 hi);omega
 ·rw[Hn hj,Hn M0];exact List.pairwise_iff_getElem.1 h.1 j (j+1) M0 hj M0
 ·rw[Hn hi];exact(h.2 _ (G6 hi)).2.2
def Wn(n:Int):Prop:=0≤n∧n≤2147483647
instance (n:Int):Decidable (Wn n):=by unfold Wn;infer_instance
def Jr(l:List Int):Int:=if 65536<l.length then 1 else if ∀ k,k<l.length→Wn (l.getD k 0) then 0 else 2
theorem Pe{l:List Int}(h:Jr l=0):l.length≤65536∧∀ k,k<l.length→Wn (l.getD k 0):=by
 unfold Jr at h
 split at h
 ·simp at h
 ·split at h
  ·exact⟨by omega,by assumption⟩
  ·simp at h
def Yy(l:List Int)(i:Nat):List Int:=(l.drop (i*960)).take 960
def Xa(l:List Int)(n:Nat):List (List Int):=(List.range n).map (Yy l)
theorem Wq(l:List Int)(n:Nat):(Xa l n).length=n:=by simp[Xa]
theorem Kq{l:List Int}{n i:Nat}(h:i<n):(Xa l n).getD i []=Yy l i:=by simp[Xa,List.getD,h]
theorem Zhp(l:List Int)(n:Nat):Xa l (n+1)=Xa l n++[Yy l n]:=by simp[Xa,C3]
theorem Nx(l:List Int)(i:Nat):(Yy l i).length=min 960 (l.length-i*960):=by simp[Yy]
def Ui(l:List Int):Prop:=∀ n∈l,0≤n∧n≤3
theorem Zlc{l:List Int}(h:∀ k,k<l.length→Wn (l.getD k 0)):Ui (Zl l):=by
 intro n hn
 obtain⟨m,hm,rfl⟩:=List.mem_map.1 hn
 obtain⟨k,hk,rfl⟩:=O1 hm
 have:=h k hk
 rw[show l.getD k 0=l[k] from by simp[List.getD,hk]] at this
 unfold Wn at this
 unfold mn3;split<;>omega
theorem Iu{l:List Int}(h:Ui l)(i:Nat):Ui (Yy l i):=fun n hn=>h n (List.mem_of_mem_drop (Q5 hn))
def atI (l:List Int)(i j:Nat):Int:=if j<i then l.getD j 0 else 0
def g4 (l:List Int)(i k:Nat):Int:=atI l i (4*k)+4*atI l i (4*k+1)+16*atI l i (4*k+2)+64*atI l i (4*k+3)
def g4B (l:List Int)(i k:Nat):UInt8:=UInt8.ofNat (g4 l i k).toNat
def Dr(l:List Int)(i:Nat):Bl:=leB l.length 4++(List.range 240).map (g4B l i)
theorem Vb(l:List Int)(i:Nat):(Dr l i).length=244:=by simp[Dr,Zj]
def Kt(l:List Int):Bl:=Dr l l.length
def Zn7(l:List Int)(k:Nat):Nat:=((l.take k).filter fun n=>n==0).length
def Yo(l:List Int):Nat:=Zn7 l l.length
def Xl(l:List Int):Nat:=l.findIdx fun n=>n==0
theorem Zrm{l:List Int}{k:Nat}(h:k<l.length):Zn7 l (k+1)=Zn7 l k+(if l.getD k 0=0 then 1 else 0):=by
 unfold Zn7
 rw[A7 h,List.filter_append,A8]
 simp only[List.getD,A4 h,J0]
 by_cases e:l[k]=0<;>simp[e]
theorem Pw(l:List Int)(k:Nat):Zn7 l k≤k:=N0 (P5 _ _) (by simp;omega)
theorem Ph(l:List Int):Xl l≤l.length:=List.findIdx_le_length
theorem Zw3{l:List Int}{i:Nat}(h:i<l.length)(h0:l.getD i 0=0)(hp:∀ j,j<i→l.getD j 0≠0):Xl l=i:=by
 unfold Xl
 refine(List.findIdx_eq h).2 ⟨?_,fun j hj=>?_⟩
 ·rw[List.getD,A4 h] at h0;simpa using h0
 ·have:=hp j hj
  rw[List.getD,A4 M0] at this;simpa using this
theorem Zkv{l:List Int}(hp:∀ j,j<l.length→l.getD j 0≠0):Xl l=l.length:=by
 unfold Xl
 rw[List.findIdx_eq_length]
 intro n hn
 obtain⟨k,hk,rfl⟩:=O1 hn
 have:=hp k hk
 rw[List.getD,A4 hk] at this;simpa using this
def slotB(n f g:Int):Bl:=leB n 8++leB f 4++leB g 4
theorem Zsz(n f g:Int):(slotB n f g).length=16:=by simp[slotB,Zj]
def Xy(L:List (List Int))(q:Nat)(bs:Bl):Nat→Bl
 | 0=>bs
 | i+1=>Qh (Xy L q bs i) ((q+i)*256) (Xu 3 ((q+i:Nat):Int) (Kt (L.getD i [])))
def Ze5(L:List (List Int))(q i:Nat):Ent:=((i:Int),slotB ((q+i:Nat):Int) (Yo (L.getD i []):Int) (Xl (L.getD i []):Int),0)
def Xm(L:List (List Int))(q j:Nat):List Ent:=(List.range j).map (Ze5 L q)
theorem Xg(L:List (List Int))(q j:Nat):(Xm L q j).length=j:=by simp[Xm]
theorem Zjc(L:List (List Int))(q j:Nat):Xm L q (j+1)=Xm L q j++[Ze5 L q j]:=by simp[Xm,C3]
theorem Gb{L:List (List Int)}{q j i:Nat}(h:i<j):(Xm L q j).getD i Zo=Ze5 L q i:=by simp[Xm,List.getD,h]
theorem Ga(L:List (List Int))(q j:Nat)(hj:j≤65536):EntsOk 16 (Xm L q j):=by
 refine⟨fun i hi=>?_,fun i hi=>?_,fun i hi=>?_⟩<;>rw[Xg] at hi
 ·rw[Gb hi];simp only[Ze5];omega
 ·rw[Gb hi,Gb M0];simp only[Ze5];omega
 ·rw[Gb hi];exact Zsz _ _ _
def Vk(l:List Int)(q:Nat)(bs:Bl):Int×Int×Bl :=
 let L:=Xa (Zl l) (bmN l.length)
 let x:=Zz 4 (Xm L q (bmN l.length)) (q+bmN l.length) (Xy L q bs (bmN l.length))
 let y:=Zz 5 (Zp l l.length) (q+bmN l.length+Xk 4 (bmN l.length)) x.2
 (x.1,y.1,y.2)
def Qr(l:List Int):Nat:=bmN l.length+Xk 4 (bmN l.length)+Xk 5 (Zp l l.length).length
theorem Zgj{l:List Int}(h:Ui l)(i j:Nat):0≤atI l i j∧atI l i j≤3:=by
 unfold atI
 split
 ·by_cases hj:j<l.length
  ·rw[show l.getD j 0=l[j] from by simp[List.getD,hj]];exact h _ (G6 hj)
  ·rw[show l.getD j 0=0 from by simp[List.getD,N6 hj]];omega
 ·omega
theorem Gi{l:List Int}(h:Ui l)(j:Nat):0≤l.getD j 0∧l.getD j 0≤3:=by
 have:=Zgj h (j+1) j
 unfold atI at this
 rwa [if_pos M0] at this
theorem Un{l:List Int}{i j:Nat}(h:j≠i):atI l (i+1) j=atI l i j:=by
 unfold atI
 by_cases q:j<i
 ·rw[if_pos q,if_pos M0]
 ·rw[if_neg q,if_neg M0]
theorem Zld(l:List Int)(i:Nat):atI l (i+1) i=l.getD i 0:=by unfold atI;rw[if_pos M0]
theorem Dd{l:List Int}{i j:Nat}(h:i≤j):atI l i j=0:=by unfold atI;rw[if_neg M0]
theorem g4_ne{l:List Int}{i k:Nat}(h:k≠i/4):g4 l (i+1) k=g4 l i k:=by
 unfold g4
 rw[Un M0,Un M0,Un M0,Un M0]
theorem g4_at{l:List Int}(h:Ui l){i q r:Nat}(hi:i=4*q+r)(hr:r<4):g4 l (i+1) q=g4 l i q+l.getD i 0*4 ^ r∧0≤g4 l i q∧g4 l i q<4 ^ r:=by
 have b0:=Zgj h i (4*q)
 have b1:=Zgj h i (4*q+1)
 have b2:=Zgj h i (4*q+2)
 have b3:=Zgj h i (4*q+3)
 unfold g4
 obtain rfl|rfl|rfl|rfl:r=0∨r=1∨r=2∨r=3:=by omega
 ·rw[show 4*q=i from by omega,Zld,Un M0,Un M0,Un M0,Dd (At i),Dd (L4 i 1),Dd (L4 i 2),Dd (L4 i 3)]
  omega
 ·have e2:atI l i (4*q+2)=0:=Dd M0
  have e3:atI l i (4*q+3)=0:=Dd M0
  have e1:atI l i (4*q+1)=0:=Dd M0
  rw[Un (j:=4*q) M0,Un (j:=4*q+2) M0,Un (j:=4*q+3) M0,e1,e2,e3,←hi,Zld]
  omega
 ·have e2:atI l i (4*q+2)=0:=Dd M0
  have e3:atI l i (4*q+3)=0:=Dd M0
  rw[Un (j:=4*q) M0,Un (j:=4*q+1) M0,Un (j:=4*q+3) M0,e2,e3,←hi,Zld]
  omega
 ·have e3:atI l i (4*q+3)=0:=Dd M0
  rw[Un (j:=4*q) M0,Un (j:=4*q+1) M0,Un (j:=4*q+2) M0,e3,←hi,Zld]
  omega
theorem g4B_at{l:List Int}(h:Ui l){i:Nat}:((g4B l (i+1) (i/4)).toNat:Int)=((g4B l i (i/4)).toNat:Int)+l.getD i 0*4 ^ (i%4)∧(g4B l i (i/4)).toNat<4 ^ (i%4):=by
 obtain⟨h1,h2,h3⟩:=g4_at h (show i=4*(i/4)+i%4 by omega) M0
 have hn:=Gi h i
 have hp:(4:Int) ^ (i%4)≤64:=by
  have:i%4<4:=by omega
  obtain e|e|e|e:i%4=0∨i%4=1∨i%4=2∨i%4=3:=by omega
  all_goals rw[e];decide
 have a2:(0:Int)<4 ^ (i%4):=Int.pow_pos Do
 generalize hP:(4:Int) ^ (i%4)=Pq at *
 have hq:l.getD i 0*Pq≤3*Pq:=Int.mul_le_mul_of_nonneg_right hn.2 M0
 have a1:0≤l.getD i 0*Pq:=Int.mul_nonneg hn.1 M0
 generalize l.getD i 0*Pq=M at *
 have a0:((4 ^ (i%4):Nat):Int)=Pq:=by rw[←hP];simp
 unfold g4B
 rw[UInt8.toNat_ofNat',UInt8.toNat_ofNat',h1]
 omega
def Of(gs:List (Nat×Nat))(L:List (List Int))(i:Nat):Value:=.slice (some ⟨(gs.getD i (0,0)).1,0,none⟩) (L.getD i []).length (gs.getD i (0,0)).2
structure Lists(w:World)(base:Nat)(v:Value)(gs:List (Nat×Nat))(L:List (List Int)):Prop where
 row:w.ownsRow base 34 1 v L.length ((List.range L.length).map (Of gs L))
 each:∀ i,i<L.length→w.ownsRow base 3 1 (Of gs L i) (L.getD i []).length ((L.getD i []).map (Value.int .i64))
theorem Lists.below{w W:World}{base:Nat}{v:Value}{gs:List (Nat×Nat)}{L:List (List Int)}(h:Lists w base v gs L)(hb:B3 w W):Lists W base v gs L:=⟨Zb h.row hb,fun i hi=>Zb (h.each i hi) hb⟩
theorem Lists.only{T:List TypeId}{w W:World}{base:Nat}{v:Value}{gs:List (Nat×Nat)}{L:List (List Int)}(h:Lists w base v gs L)(hO:Ze T w W)(hT:T.contains 34=false∧T.contains 3=false):Lists W base v gs L:=⟨Zi h.row hO hT.1,fun i hi=>Zi (h.each i hi) hO hT.2⟩
theorem Lists.elem{w:World}{base:Nat}{p:O0}{n c:Nat}{gs:List (Nat×Nat)}{L:List (List Int)}(h:Lists w base (.slice p n c) gs L)(hn:L.length=n){k:Nat}(hk:k<n):p.isSome=true∧w.cell? (Zx p (k*1))=some (Of gs L k):=by
 subst hn
 rw[G4]
 exact Sl.elem (Zg h.row) (by simp[hk])
theorem Lists.mono{w:World}{base base':Nat}{v:Value}{gs:List (Nat×Nat)}{L:List (List Int)}(h:Lists w base' v gs L)(hb:base≤base'):Lists w base v gs L:=⟨Zf h.row hb,fun i hi=>Zf (h.each i hi) hb⟩
def FrB (B:Nat)(S:List Nat)(w W:World):Prop:=w.heap.size≤W.heap.size∧∀ k,k<B→k∉S→W.heap[k]? = w.heap[k]?
theorem Fr.trans_B{S S':List Nat}{a w W:World}(h:Fr S a w)(k:FrB a.heap.size S' w W)(hs:∀ k∈S',k∈S):Fr S a W:=⟨N0 h.size k.1,fun i hi hn=>(k.2 i hi fun q=>hn (hs i q)).trans (h.block i hi hn)⟩
theorem or_step:∀ r:Fin 4,∀ n:Fin 4,∀ o:Fin 64,o.val<4 ^ r.val→o.val ||| (n.val*4 ^ r.val)=o.val+n.val*4 ^ r.val:=by decide
theorem Va(k:Nat):Builtin.zeroCells #[Value.int .u8 0] k=(List.replicate k (Value.int .u8 0)).toArray:=by
 apply Array.ext'
 unfold Builtin.zeroCells
 simp only[F6,C7,D6,F3,G4,Nat.mod_one]
 rw[Array.toList_map]
 simp only[Array.toList_range]
 apply If
 intro i
 simp only[C4,O9]
 by_cases h:i<k
 ·rw[B8 h,if_pos h];rfl
 ·rw[if_neg h,C6 (by simpa using h)];rfl
theorem Br{P:Program}(w:World)(t tn ty e:TypeId)(i:TypeInfo)(kq kn:IntKind)(ht:P.underlying t=some (.slice e))(htn:P.underlying tn=some (.int kn))(hi:P.info? e=some i)(hz:i.zero=some (.int .u8 0))(hs1:i.size=1)(hb1:i.bytes=1)
 (g n c k:Nat) (cur:Array Value) (hg:w.heap[g]? = some (.cells cur e (0,0))) (h0:0<k) (hroom:n+k≤c) (hfit:n+k≤cur.size) (hk:n+k≤1000000) :
 (Builtin.append_ #[t,tn] ty #[.slice (S1 g) n c,.int kq k]).run P w =
 .ok (.slice (S1 g) (n+k) c) (w.setRow g (cur.toList.take n++List.replicate k (Value.int .u8 0)++cur.toList.drop (n+k)).toArray):=by
 have a3:k≠0:=by omega
 have hw:IntKind.i64.wrap (k:Int)=k:=by rw[IntKind.wrap_i64];omega
 have a1:¬ (281474976710656<(k:Int)):=by omega
 have a0:¬ ((k:Int)<0):=by omega
 have a2:=run_storeCells_at P g n e (List.replicate k (.int .u8 0)) 0 cur w hg (by simpa using hfit) (by intro u hu;rw[(List.mem_replicate.1 hu).2];rfl)
 simp only[G3,B6] at a2
 simp[Builtin.append_,run_underlying ht,run_underlying htn,sizeOf,typeInfo,zeroValue,hi,hz,hs1,hb1,asInt,asIntOf,hw,a0,a1,a3,hroom,Addr.add_lit,show(Value.int IntKind.u8 0).cells=#[Value.int .u8 0] from rfl,Va,a2]
theorem op_appZo{P:Program}{a:Act}{w:World}{K:Act→World→Prop}{Q:Exit→Act→World→Prop}{o:Oper}{s x:Operand}{t tn e:TypeId}{kq kn:IntKind}{base:Nat}{v:Value}{n:Nat}{xs:List Value}(k n':Nat)(xs':List Value)
 (ho:o.op=.call { callee:=.builtin .append,args:=#[s,x],argTypes:=#[t,tn] }) (ht:P.underlying t=some (.slice e)) (htn:P.underlying tn=some (.int kn)) (hi:(P.info? e).map (fun i=>(i.zero,i.size,i.bytes))=some (some (.int .u8 0),1,1))
 (hs:a.eval s=v) (hown:w.ownsRow base e 1 v n xs) (hx:a.eval x=.int kq (k:Int)) (h0:0<k) (hk:n+k≤1000000) (hbase:base≤w.heap.size) (hn:n+k=n') (hxs:xs++List.replicate k (.int .u8 0)=xs')
 (h:∀ b c' W,W.ownsRow base e 1 (.slice b n' c') n' xs'→w.grownBy W v.ownBlock→Below base w W→K (a.put o.dst (.slice b n' c')) W):o.wp P a w K Q:=by
 subst hn hxs
 cases hq:P.info? e with
 | none=>simp[hq] at hi
 | some i =>
  simp only[hq,D5,A0,D8] at hi
  obtain⟨hz,h1,h2⟩:=hi
  have a5:xs.length=n:=by simpa using hown.1
  have a0:(xs++List.replicate k (Value.int .u8 0)).length=(n+k)*1:=by simp[a5]
  rcases hown.2 with ⟨rfl,rfl⟩|⟨g,c,a1,rfl,b2,hg,b4,a2,b0,a3⟩
  ·obtain rfl:xs=[]:=H8 a5
   have hr:=Lib.run_append_nil_zeros (P:=P) w t tn o.type e i (.int .u8 0) kq kn ht htn hq hz k h0 M0 M0 (by rw[h2];omega)
   unfold Oper.wp execOp
   simp only[ho,resolve,invoke,builtin,C9,H2,E1,L0,D7,H0,hs,hx,hr]
   have a7:=grownCap_ge w k 0 e
   have a2:grownCap w k 0 e≤maxLen:=grownCap_le_maxLen w k 0 e (by unfold maxLen;omega)
   simp only[F3,Gt] at h
   refine h _ _ _ ⟨by simp,.inr ⟨w.heap.size,_,_,rfl,hbase,heap_alloc_new w.drew _,a7,a2,?_,?_⟩⟩ ⟨rfl,rfl,rfl,by simp,fun k hk _=>by first|exact heap_alloc_old w.drew _ k hk|exact heap_alloc_old w.drew _ hk⟩ (((Za w).trans (show Below w.drew.heap.size w.drew _ from blx w.drew _)).mono hbase)
   ·rw[show(Value.int .u8 0).cells=#[Value.int .u8 0] from rfl,Va,Va];simp;omega
   ·rw[show(Value.int .u8 0).cells=#[Value.int .u8 0] from rfl,Va,Va]
    simp only[Array.toList_append,G4]
    exact L6 (by simp)
  by_cases hroom:n+k≤c
  ·have b1:a1.size=c:=by simpa using b0
   have hr:=Br (P:=P) w t tn o.type e i kq kn ht htn hq hz h1 h2 g n c k a1 hg h0 hroom M0 hk
   unfold Oper.wp execOp
   simp only[ho,resolve,invoke,builtin,C9,H2,E1,L0,D7,H0,hs,hx,hr]
   have a8:w.grownBy (w.setRow g (a1.toList.take n++List.replicate k (Value.int .u8 0)++a1.toList.drop (n+k)).toArray) (Value.ownBlock (.slice (S1 g) n c)):=⟨rfl,rfl,rfl,by simp,fun k' _ b3=>setRow_other w g k' _ (fun e=>b3 (by simp[Value.ownBlock,e]))⟩
   refine h _ _ _ ⟨a0,.inr ⟨g,c,_,rfl,b2,setRow_heap w g a1 _ e _ hg,hroom,a2,?_,?_⟩⟩ a8 (Gn a8 hown (At _) hbase)
   ·simp only[F6,A8,E3,K9,N9,B6]
    omega
   ·have a9:a1.toList.take n=xs:=by simpa using a3
    rw[a9,←a0]
    exact List.take_left
  ·have a4:∀ j u,xs[j]? = some u→w.cell? ((⟨g,0,none⟩:Addr).add j)=some u:=hown.cells (g:=g) rfl
   have a6:=run_firstCells_some (P:=P) (w:=w.drew) i.size n ⟨g,0,none⟩ n c xs (by rw[a5,h1,G4]) (by simpa using a4)
   have hr:=Lib.run_append_grow_zeros (P:=P) w t tn o.type e i (.int .u8 0) kq kn ht htn hq hz (S1 g) n c xs a6 k h0 M0 M0 M0 (by rw[h2];omega) (by rw[h2];exact growslice_fits M0 M0)
   unfold Oper.wp execOp
   simp only[ho,resolve,invoke,builtin,C9,H2,E1,L0,D7,H0,hs,hx,hr]
   have a7:=grownCap_ge w (n+k) c e
   have a2:grownCap w (n+k) c e≤maxLen:=grownCap_le_maxLen w (n+k) c e (by unfold maxLen;omega)
   refine h _ _ _ ⟨a0,.inr ⟨w.heap.size,_,_,rfl,hbase,heap_alloc_new w.drew _,a7,a2,?_,?_⟩⟩ ⟨rfl,rfl,rfl,by simp,fun k hk _=>by first|exact heap_alloc_old w.drew _ k hk|exact heap_alloc_old w.drew _ hk⟩ (((Za w).trans (show Below w.drew.heap.size w.drew _ from blx w.drew _)).mono hbase)
   ·rw[show(Value.int .u8 0).cells=#[Value.int .u8 0] from rfl,Va,Va];simp[a5];omega
   ·rw[show(Value.int .u8 0).cells=#[Value.int .u8 0] from rfl,Va,Va]
    simp only[Array.toList_append,A1]
    rw[←A1,←a0]
    exact List.take_left
theorem BysM.elem{w:World}{a:O0}{n c:Nat}{l:Bl}(h:Bys w (.slice a n c) l)(hl:l.length=n){k:Nat}(hk:k<n):a.isSome=true∧w.cell? (Zx a (k*1))=some (.int .u8 (↑(l.getD k 0).toNat:Int)):=by
 subst hl;exact Bys.elem h hk
def Zu6(B ba b g nn cc:Nat)(pa:O0)(ca f N k0:Nat)(bs:Bl)(t:Int)(leaf:Bool)(m v:Nat)(l:List Ent)(w:World)(e:Ending)(w':World):Prop :=
 ∃ p c,e=.returned (.tuple #[.slice p (ovN l.length m) c,.nilIface])∧Below B w w'∧Ze [200,5] w w'∧Fr [ba,g] w w'∧Al B ba b g nn cc pa ca f N (k0+ovN l.length m) (Mg t leaf m v l (f+k0) bs (ovN l.length m)) w'∧w'.ownsRow w.heap.size 132 3 (.slice p (ovN l.length m) c) (ovN l.length m) ((upE l m (f+k0) (ovN l.length m)).flatMap Kd)
theorem Zkr(B ba b g nn cc:Nat)(pa:O0)(ca f N k0:Nat)(bs:Bl)(t:Int)(leaf:Bool)(m v:Nat)(a:O0)(c:Nat)(l:List Ent)(w:World)(hC:AlC B ba nn cc ca f N)(hA:Al B ba b g nn cc pa ca f N k0 bs w)(ht1:1≤t)(ht2:t≤5)(hm:Kh t leaf=m)(hv:Jd t leaf=v)(E:EntsOk v l)(hl:leaf=false→1≤l.length)(hn:l.length≤32768)(hf1:1≤f)(hk:k0+ovN l.length m≤N)(hin:∀ W,Below B w W→Ze [200,5] w W→Sts Kd W (.slice a l.length c) l)(hBw:B≤w.heap.size) :
 C0 222 #[P0 ba,V0 t,.bool leaf,.slice a l.length c] w (Zu6 B ba b g nn cc pa ca f N k0 bs t leaf m v l w):=by
 have o0:=Qi t leaf
 rw[hm] at o0
 have p2:=hC.hf
 have p8:=hC.hn
 refine zin 96 Tryz.func222 ?_
 refine xr 18 (Zbm t leaf m hm ht1 ht2 _) fun W1 h3=>?_
 refine xc 0 (Zoz l.length m _ hn M0 M0) ?_
 rintro _ W2 ⟨_,rfl,i3,ps,cs,rfl,e5⟩
 have n9:=(blB (Below.refl B w) hBw h3).size
 have i2:=Zf e5 n9
 have j8:=(hA.below h3).below i3
 have hB:=blB (blB (Below.refl B w) hBw h3) hBw i3
 have hX:=(show Fr [ba,g] w _ from(Q2 h3)).trans (Q2 i3)
 have hO:=(show Ze [200,5] w _ from(Q0 h3)).trans (Q0 i3)
 refine zl 5 96 (fun zm k5 V=>∃ (i:Nat) (a2:O0) (c2:Nat) (l2:List Ent) (p4:O0) (c4:Nat),k5=[(0,P0 ba),(1,V0 t),(2,.bool leaf),(3,.slice a2 l2.length c2),(10,.slice p4 i c4),(26,.slice ps (ovN l.length m) cs),(27,V0 (↑(ovN l.length m):Int)),(28,V0 (i:Int))]∧zm=ovN l.length m-((i:Int)).toNat∧Below B w V∧Fr [ba,g] w V∧Ze [200,5] w V∧V.ownsRow w.heap.size 3 1 (.slice ps (ovN l.length m) cs) (ovN l.length m) ((sizL l.length m).map nv)∧V.ownsRow w.heap.size 132 3 (.slice p4 i c4) i ((upE l m (f+k0) i).flatMap Kd)∧Al B ba b g nn cc pa ca f N (k0+i) (Mg t leaf m v l (f+k0) bs i) V∧(∀ W,Below B w W→Ze [200,5] w W→Sts Kd W (.slice a2 l2.length c2) l2)∧i≤ovN l.length m∧l2=l.drop (i*m)) ⟨0,a,c,l,none,0,rfl,rfl,hB,hX,hO,i2,A5 _ _ _ _,j8,?_,A3 _,by simp⟩ ?_
 ·exact hin
 rintro _ _ W3 ⟨i,a2,c2,l2,p4,c4,rfl,rfl,e0,h9,e2,e5,m2,hA,j2,hi,g7⟩ J3 m1 r3
 have m6:=Sl.cap (j2 _ e0 e2)
 have p5:i<ovN l.length m→i*m≤l.length:=Zil M0
 have l1:l2.length=l.length-i*m:=by rw[g7];simp
 have f4:Qj l.length m i≤l2.length:=by rw[l1];unfold Qj;omega
 refine xid 6 ((i:Int)<(↑(ovN l.length m):Int)) (fun m7=>?_) (fun m7=>?_)
 ·refine xx 6 _ (ovN l.length m) i 1 (Zly (Zg e5) (k:=i) M0).1 ?_
  refine xl 0 ((Zly (Zg e5) (k:=i) M0).2) ?_
  have i8:=e0
  have c9:=e2
  have d0:=h9
  refine xa 8 [V0 0,.bool false,S0,S0] 181 fun b6 W6 n6=>?_
  refine xsv 0 n6.blk [V0 t,.bool leaf,S0,S0] fun W7 u7 k7=>?_
  have g6:=n6.ge (B4 W3)
  refine xsH 7 (fun _ _ _ _ zo zx zy V=>Kb (k:=(Qj l.length m i)) (b:=a2) (n:=l2.length) (c:=c2) (i:=(↑(Qj l.length m i):Int)) (ki:=.i64) zo zx zy rfl M0 Tryz.underlying123 K0 V) ?_
  have hB:=u7.below n6.below g6
  refine zl 5 96 (fun zm k5 V=>∃ (j:Nat) (kp:O0) (kc:Nat) (vp:O0) (vc:Nat),k5=[(0,P0 ba),(1,V0 t),(2,.bool leaf),(3,.slice a2 l2.length c2),(10,.slice p4 i c4),(12,V0 (↑(Qj l.length m i):Int)),(13,P0 b6),(26,.slice ps (ovN l.length m) cs),(27,V0 (↑(ovN l.length m):Int)),(28,V0 (i:Int)),(37,.slice a2 (Qj l.length m i) c2),(38,V0 (↑(Qj l.length m i):Int)),(39,V0 (j:Int))]∧zm=Qj l.length m i-((j:Int)).toNat∧B3 W3 V∧Blk V b6 ([V0 t,.bool leaf,.slice kp j kc,.slice vp j vc]) 181∧V.ownsRow W3.heap.size 3 1 (.slice kp j kc) j (((Vr l2).take j).map V0)∧V.ownsRow W3.heap.size 9 1 (.slice vp j vc) j (((Jq l2).take j).map sv)∧j≤Qj l.length m i) ⟨0,none,0,none,0,rfl,rfl,hB,k7,A5 _ _ _ _,A5 _ _ _ _,A3 _⟩ ?_
  rintro _ _ W8 ⟨j,kp,kc,vp,vc,rfl,rfl,c0,b4,hK,hV,hj⟩ J8 m4 r8
  refine xid 6 ((j:Int)<(↑(Qj l.length m i):Int)) (fun n5=>?_) (fun n5=>?_)
  ·have b1:=j2 _ i8 c9
   refine xx 6 _ (Qj l.length m i) j 3 (Sts.cell b1 Ql Zo (k:=j) (i:=0) M0 rfl).1 ?_
   refine xlv 0 (Sts.rp (k:=j) (b1.below c0) Ql Zo M0 Do) ?_
   refine xa 0 [V0 0,.string ⟨#[]⟩,V0 0] 132 fun p9 q7 c1=>?_
   have n3:=c1.ge c0
   refine xsv 0 c1.blk [V0 ((l2.getD j Zo).1),.string ⟨((l2.getD j Zo).2.1).toArray⟩,V0 ((l2.getD j Zo).2.2)] fun q4 j1 m0=>?_
   have b0:=j1.blkT (b4.below c1.below) c1.blk Do
   refine xb 5 2 b0 ?_
   refine xb 1 0 m0 ?_
   refine xbs 0 1 [V0 ((l2.getD j Zo).1)] 3 fun o5 p0 d5=>?_
   have f0:=j1.below (bln c0 c1.below) n3
   have r1:=d5.ge f0
   have g0:=j1.own2 (Zb hK c1.below) c1.blk Do
   have k4:=Zu g0 d5
   have b9:=Zb g0 d5.below
   have f5:=bln f0 d5.below
   refine xbi 0 fun _ _ _ _ zJ zQ zo zx zy zK=>Xi (m:=1) (news:=[V0 ((l2.getD j Zo).1)]) (V0 0) 1 8 (j+1) (((Vr l2).take (j+1)).map V0) zo Tryz.underlying34 K0 rfl Do zx b9 zy (d5.blk.sl 1 1 Do Do) rfl (by simp[Value.oneCell']) (by unfold maxLen;omega) M0 f5.size (by rfl) ((Zss M0).symm) fun h5 f1 o7 n7 d9 k8=>?_
   refine zK _ _ ?_
   have a1:=(b0.below d5.below).grown d9 b9 Do
   refine xs 1 a1 [V0 t,.bool leaf,.slice h5 (j+1) f1,.slice vp j vc] fun r0 i4 l8=>?_
   refine xb 4 3 l8 ?_
   have f2:=i4.blkT ((m0.below d5.below).grown d9 b9 Do) a1 Do
   refine xb 1 1 f2 ?_
   refine xbs 0 1 [.string ⟨((l2.getD j Zo).2.1).toArray⟩] 9 fun o4 q1 d7=>?_
   have i0:=i4.below (f5.trans k8) g6
   have o6:=d7.ge i0
   have h4:=i4.own2 (Xe (Zb (j1.own2 (Zb hV c1.below) c1.blk Do) d5.below) d9 b9 Do) a1 Do
   have k2:=Zu h4 d7
   have e3:=Zb h4 d7.below
   have h0:=bln i0 d7.below
   refine xbi 0 fun _ _ _ _ zJ zQ zo zx zy zK=>Xi (m:=1) (news:=[.string ⟨((l2.getD j Zo).2.1).toArray⟩]) (.string ⟨#[]⟩) 1 16 (j+1) (((Jq l2).take (j+1)).map sv) zo Tryz.underlying89 K0 rfl Do zx e3 zy (d7.blk.sl 1 1 Do Do) rfl (by simp[Value.oneCell']) (by unfold maxLen;omega) M0 h0.size (by rfl) ((Zt3 M0).symm) fun j6 j3 o3 o1 f6 l4=>?_
   refine zK _ _ ?_
   have b3:=(l8.below d7.below).grown f6 e3 Do
   refine xs 1 b3 [V0 t,.bool leaf,.slice h5 (j+1) f1,.slice j6 (j+1) j3] fun q9 j7 n8=>?_
   refine xwm 4 ((j:Int)+1) (↑(j+1):Int) ?_
   have l5:=j7.below (h0.trans l4) g6
   have g5:=j7.own2 (Xe (Zb (i4.own2 n7 a1 Do) d7.below) f6 e3 Do) b3 Do
   have f9:=j7.own2 o1 b3 Do
   exact ze 2 (m4 _ _ _ ⟨j+1,_,_,_,_,rfl,rfl,l5,n8,g5,f9,by omega⟩ M0)
  refine xsL 9 (fun _ _ _ _ zo zx zy V=>Wi (k:=(Qj l.length m i)) (b:=a2) (n:=l2.length) (c:=c2) (i:=(↑(Qj l.length m i):Int)) (ki:=.i64) 3 zo zx zy rfl M0 Tryz.underlying123 K0 V) ?_
  refine xlv 5 b4.rp ?_
  have a6:B3 W3 W8:=c0
  have g9:w.heap.size≤W3.heap.size:=i8.size
  have e9:Qj l.length m i=j:=by omega
  have o2:(Vr l2).take j=Vr (Zy l m i):=by rw[g7];exact Zre e9
  have n4:(Jq l2).take j=Jq (Zy l m i):=by rw[g7];exact Zrj e9
  have i7:(Zy l m i).length=j:=by rw[Hr,e9]
  have e4:=Zf hK g9
  rw[o2] at e4
  have f8:=Zf hV g9
  rw[n4] at f8
  have hN:=Pv E ht1 ht2 hm hv hl (show i<ovN l.length m by omega)
  have g2:=Re hN
  rw[i7] at hN
  have n2:Pi m v (Hu t leaf j m v) (Vr (Zy l m i)) (Jq (Zy l m i)) j=Zoq t leaf m v (Zy l m i):=by rw[←i7];rfl
  refine xc 0 (node_Put t leaf j m v (Vr (Zy l m i)) (Jq (Zy l m i)) kp vp kc vc _ hN (Zg e4) (Zg f8)) ?_
  rintro _ p1 ⟨_,rfl,a4,p6,c6,rfl,h6⟩
  have j4:=(blB i8 hBw a6).size
  have h7:=Zf h6 j4
  rw[n2] at h7
  have k3:=(hA.below a6).below a4
  have hO:=(c9.trans (Q0 a6)).trans (Q0 a4)
  have hB:=blB (blB i8 hBw a6) hBw a4
  refine xc 21 (args:=#[P0 ba,V0 2,.slice p6 244 c6]) (Cs B ba b g nn cc pa ca f N (k0+i) (Mg t leaf m v l (f+k0) bs i) 2 p6 c6 (Zoq t leaf m v (Zy l m i)) (f+k0+i) 244 _ (E9 _ _ _).symm g2 hC k3 M0 Do Do (fun W _ hO=>Vc (Zg (Zi h7 hO Do)) g2) Do (N0 hBw hB.size)) ?_
  rintro _ q3 ⟨rfl,l7,a9,g3,hA⟩
  refine xr 20 (Zdw ((f+k0+i:Nat):Int) M0 M0 _) fun r6 a0=>?_
  refine xa 2 [V0 0,.string ⟨#[]⟩,V0 0] 132 fun q8 p3 a3=>?_
  have d8:=blB (hB.trans l7) hBw a0
  have c5:=a3.ge0 d8
  have b5:=Zb (Zi (Zb (Zb m2 a6) a4) a9 Do) a0
  have a5:=Zu b5 a3
  refine xsv 0 a3.blk [V0 0,.string ⟨(leB (↑(f+k0+i):Int) 4).toArray⟩,V0 (↑(f+k0+i):Int)] fun o9 b2 e8=>?_
  refine xid 9 ((↑(Qj l.length m i):Int)>(0:Int)) (fun l3=>?_) (fun l3=>?_)
  ·have g8:((Vr (Zy l m i))).getD 0 0=((Zy l m i).getD 0 Zo).1:=Zve e9 M0
   have c8:=b2.blkT ((((b4.below a4).only a9 Do).below a0).below a3.below) a3.blk Do
   refine xb 2 2 c8 ?_
   have h8:=b2.own2 (Zb (Zb (Zi (Zb e4 a4) a9 Do) a0) a3.below) a3.blk Do
   refine xx 0 _ j 0 1 (IntsN.elem (Zg h8) (by rw[Bj,i7]) (k:=0) M0).1 ?_
   refine xl 0 ((IntsN.elem (Zg h8) (by rw[Bj,i7]) (k:=0) M0).2) ?_
   refine xs 1 e8 [V0 ((Vr (Zy l m i)).getD 0 0),.string ⟨(leB (↑(f+k0+i):Int) 4).toArray⟩,V0 (↑(f+k0+i):Int)] fun r2 e6 l9=>?_
   refine xlv 4 l9.rp ?_
   refine xbs 0 1 [V0 ((Vr (Zy l m i)).getD 0 0),.string ⟨(leB (↑(f+k0+i):Int) 4).toArray⟩,V0 (↑(f+k0+i):Int)] 132 fun q6 q0 b7=>?_
   have i9:=b7.ne l9
   have g1:=e6.below (b2.below (blB d8 hBw a3.below) (N0 hBw c5)) (N0 hBw c5)
   have r5:=b7.ge0 g1
   have d4:=e6.own3 (b2.own3 (Zb b5 a3.below) a5) a5
   have i5:=Zu d4 b7
   have a7:=Zb d4 b7.below
   have i1:=blB g1 hBw b7.below
   refine xbi 0 fun _ _ _ _ zJ zQ zo zx zy zK=>Xi (m:=1) (news:=[V0 ((Vr (Zy l m i)).getD 0 0),.string ⟨(leB (↑(f+k0+i):Int) 4).toArray⟩,V0 (↑(f+k0+i):Int)]) (.agg #[V0 0,.string ⟨#[]⟩,V0 0]) 3 32 (i+1) ((upE l m (f+k0) (i+1)).flatMap Kd) zo Tryz.underlying123 K0 rfl Do zx a7 zy (b7.blk.sl 1 1 Do Do) rfl (by simp[Value.oneCell']) (by unfold maxLen;omega) M0 i1.size (by rfl) (up_row (by first|exact g8|exact d1)) fun m3 n0 p7 n1 c7 k1=>?_
   refine zK _ _ ?_
   refine xwm 5 ((i:Int)+1) (↑(i+1):Int) ?_
   refine xv1 2 3 (show(.slice (Mw a2 (Qj l.length m i) c2 3) (l2.length-(Qj l.length m i)) (c2-(Qj l.length m i)):Value)=.slice (Mw a2 (Qj l.length m i) c2 3) ((l2.drop (Qj l.length m i)).length) (c2-Qj l.length m i) from by rw[K9]) ?_
   have k9:=(((((hA.below a0).below a3.below).only (Q1 (T:=[132]) b2 a3.blk Do) Do).only (Q1 (T:=[132]) e6 e8 Do) Do).below b7.below).only (Q4 (T:=[132]) c7 a7 Do) Do
   have e1:l2.drop (Qj l.length m i)=l.drop ((i+1)*m):=by
    rw[g7,M9,G8,I6]
    unfold Qj
    rcases Nat.le_total m (l.length-i*m) with q|q
    ·rw[H3 q]
    ·rw[Nat.min_eq_right q,E0 M0,E0 M0]
   have l0:=i1.trans (k1.mono hBw)
   have hX:=(Fr.grown_new ((Fr.upd_new (Fr.upd_new (((((d0.trans (Q2 a6)).trans (Q2 a4)).trans (g3.mono (by simp))).trans (Q2 a0)).trans (Q2 a3.below)) b2 c5) e6 c5).trans (Q2 b7.below)) c7 a7)
   have k6:=(Ze.grown_new ((Ze.upd_new (Ze.upd_new (((hO.trans a9).trans (Q0 a0)).trans (Q0 a3.below)) b2 c5) e6 c5).trans (Q0 b7.below)) c7 a7)
   have f3:=Xe (Zb (e6.own2 (b2.own2 (Zb (Zb (Zi (Zb (Zb e5 a6) a4) a9 Do) a0) a3.below) a3.blk Do) e8 Do) b7.below) c7 a7 Do
   exact ze 0 (m1 _ _ _ ⟨i+1,_,_,(l2.drop (Qj l.length m i)),_,_,rfl,rfl,l0,hX,k6,f3,n1,k9,fun W h1 h2=>Sts.cut Ql (j2 W h1 h2) _ f4,by omega,e1⟩ M0)
  have d1:(0:Int)=((Zy l m i).getD 0 Zo).1:=Zi6 e9 M0
  refine xlv 4 e8.rp ?_
  refine xbs 0 1 [V0 0,.string ⟨(leB (↑(f+k0+i):Int) 4).toArray⟩,V0 (↑(f+k0+i):Int)] 132 fun o8 q2 b8=>?_
  have j0:=b8.ne e8
  have d6:=b2.below (blB d8 hBw a3.below) (N0 hBw c5)
  have q5:=b8.ge0 d6
  have d2:=b2.own3 (Zb b5 a3.below) a5
  have i6:=Zu d2 b8
  have a8:=Zb d2 b8.below
  have d3:=blB d6 hBw b8.below
  refine xbi 0 fun _ _ _ _ zJ zQ zo zx zy zK=>Xi (m:=1) (news:=[V0 0,.string ⟨(leB (↑(f+k0+i):Int) 4).toArray⟩,V0 (↑(f+k0+i):Int)]) (.agg #[V0 0,.string ⟨#[]⟩,V0 0]) 3 32 (i+1) ((upE l m (f+k0) (i+1)).flatMap Kd) zo Tryz.underlying123 K0 rfl Do zx a8 zy (b8.blk.sl 1 1 Do Do) rfl (by simp[Value.oneCell']) (by unfold maxLen;omega) M0 d3.size (by rfl) (up_row (by first|exact g8|exact d1)) fun m9 m8 r4 m5 c3 j9=>?_
  refine zK _ _ ?_
  refine xwm 5 ((i:Int)+1) (↑(i+1):Int) ?_
  refine xv1 2 3 (show(.slice (Mw a2 (Qj l.length m i) c2 3) (l2.length-(Qj l.length m i)) (c2-(Qj l.length m i)):Value)=.slice (Mw a2 (Qj l.length m i) c2 3) ((l2.drop (Qj l.length m i)).length) (c2-Qj l.length m i) from by rw[K9]) ?_
  have j5:=((((hA.below a0).below a3.below).only (Q1 (T:=[132]) b2 a3.blk Do) Do).below b8.below).only (Q4 (T:=[132]) c3 a8 Do) Do
  have e1:l2.drop (Qj l.length m i)=l.drop ((i+1)*m):=by
   rw[g7,M9,G8,I6]
   unfold Qj
   rcases Nat.le_total m (l.length-i*m) with q|q
   ·rw[H3 q]
   ·rw[Nat.min_eq_right q,E0 M0,E0 M0]
  have f7:=d3.trans (j9.mono hBw)
  have hX:=(Fr.grown_new ((Fr.upd_new (((((d0.trans (Q2 a6)).trans (Q2 a4)).trans (g3.mono (by simp))).trans (Q2 a0)).trans (Q2 a3.below)) b2 c5).trans (Q2 b8.below)) c3 a8)
  have l6:=(Ze.grown_new ((Ze.upd_new (((hO.trans a9).trans (Q0 a0)).trans (Q0 a3.below)) b2 c5).trans (Q0 b8.below)) c3 a8)
  have e7:=Xe (Zb (b2.own2 (Zb (Zb (Zi (Zb (Zb e5 a6) a4) a9 Do) a0) a3.below) a3.blk Do) b8.below) c3 a8 Do
  exact ze 0 (m1 _ _ _ ⟨i+1,_,_,(l2.drop (Qj l.length m i)),_,_,rfl,rfl,f7,hX,l6,e7,m5,j5,fun W h1 h2=>Sts.cut Ql (j2 W h1 h2) _ f4,by omega,e1⟩ M0)
 refine xe 13 (.tuple #[.slice p4 i c4,.nilIface]) ?_
 obtain rfl:i=ovN l.length m:=by omega
 exact⟨_,_,rfl,e0,e2,h9,hA,m2⟩
theorem Zsv{w w':World}(h:Ze [200,5] w w'):Ze [200,5,28] w w':=h.mono fun t ht=>by simp at ht ⊢;exact⟨ht.1,ht.2.1⟩
def Zxo(B ba b g nn cc:Nat)(pa:O0)(ca f N k0:Nat)(bs:Bl)(t:Int)(leaf:Bool)(m v:Nat)(l:List Ent)(b8:Nat)(w:World)(e:Ending)(w':World):Prop :=
 ∃ p c,e=.returned (.slice p (ovN l.length m) c)∧Below B w w'∧Ze [200,5,28] w w'∧Fr [ba,g,b8] w w'∧Blk w' b8 [.nilIface] 28∧Al B ba b g nn cc pa ca f N (k0+ovN l.length m) (Mg t leaf m v l (f+k0) bs (ovN l.length m)) w'∧w'.ownsRow w.heap.size 132 3 (.slice p (ovN l.length m) c) (ovN l.length m) ((upE l m (f+k0) (ovN l.length m)).flatMap Kd)
theorem Im(B ba b g nn cc:Nat)(pa:O0)(ca f N k0:Nat)(bs:Bl)(t:Int)(leaf:Bool)(m v:Nat)(a:O0)(c:Nat)(l:List Ent)(b3 b4 b8:Nat)(w:World)(k3:Blk w b3 [P0 ba] 110)(k4:Blk w b4 [V0 t] 3)(k8:Blk w b8 [.nilIface] 28)(h38:b3≠b8)(h48:b4≠b8)(hB8:B≤b8)(hC:AlC B ba nn cc ca f N)(hA:Al B ba b g nn cc pa ca f N k0 bs w)(ht1:1≤t)(ht2:t≤5)(hm:Kh t leaf=m)(hv:Jd t leaf=v)(E:EntsOk v l)(hl:leaf=false→1≤l.length)(hn:l.length≤32768)(hf1:1≤f)(hk:k0+ovN l.length m≤N)(hin:∀ W,Below B w W→Ze [200,5,28] w W→Sts Kd W (.slice a l.length c) l)(hBw:B≤w.heap.size) :
 C0 221 #[.bool leaf,.slice a l.length c,P0 b3,P0 b4,P0 b8] w (Zxo B ba b g nn cc pa ca f N k0 bs t leaf m v l b8 w):=by
 refine zin 20 Tryz.func221 ?_
 refine xb 7 0 k3 ?_
 refine xb 0 0 k4 ?_
 refine xc 2 (args:=#[P0 ba,V0 t,.bool leaf,.slice a l.length c]) (Zkr B ba b g nn cc pa ca f N k0 bs t leaf m v a c l _ hC hA ht1 ht2 hm hv E hl hn hf1 hk (fun W h1 h2=>hin W ((Below.refl B _).trans h1) ((Ze.refl _ _).trans (Zsv h2))) (N0 hBw (Below.refl B _).size)) ?_
 rintro _ W1 ⟨p4,c4,rfl,a5,a3,a7,hA,a6⟩
 have a4:=At w.heap.size
 have a0:=k8.only a3 Do
 refine xs 10 a0 [.nilIface] fun W2 u2 k2=>?_
 have hB:=u2.below a5 hB8
 have hO:=(show Ze [200,5,28] w _ from(Zsv a3)).trans (Q1 u2 a0 Do)
 have hX:=(show Fr [ba,g,b8] w _ from(a7.mono (by simp))).trans (Fr.of_upd u2 (by simp))
 have a2:=hA.only (Q1 (T:=[28]) u2 a0 Do) Do
 have a1:=u2.own2 (Zf a6 a4) a0 Do
 exact xe 9 (.slice p4 (ovN l.length m) c4) ⟨_,_,rfl,hB,hO,hX,k2,a2,a1⟩
def Zli(B ba b g nn cc:Nat)(pa:O0)(ca f N k0:Nat)(bs:Bl)(t:Int)(l:List Ent)(w:World)(e:Ending)(w':World):Prop :=
 e=.returned (.tuple #[V0 (Zz t l (f+k0) bs).1,.nilIface])∧Below B w w'∧Ze [200,5,28] w w'∧Fr [ba,g] w w'∧Al B ba b g nn cc pa ca f N (k0+Xk t l.length) (Zz t l (f+k0) bs).2 w'
theorem Znx(B ba b g nn cc:Nat)(pa:O0)(ca f N k0:Nat)(bs:Bl)(t:Int)(a:O0)(c:Nat)(l:List Ent)(w:World)(hC:AlC B ba nn cc ca f N)(hA:Al B ba b g nn cc pa ca f N k0 bs w)(ht1:1≤t)(ht2:t≤5)(E:EntsOk (Jd t true) l)(hn:l.length≤32768)(hf1:1≤f)(hkN:k0≤N)(hk:k0+Xk t l.length≤N)(hin:∀ W,Below B w W→Ze [200,5,28] w W→Sts Kd W (.slice a l.length c) l)(hBw:B≤w.heap.size) :
 C0 161 #[P0 ba,V0 t,.slice a l.length c] w (Zli B ba b g nn cc pa ca f N k0 bs t l w):=by
 have g6:=Mi t l.length
 have f7:(ovN l.length (Kh t true))≤Xk t l.length:=Kl _
 have g0:=Zhx l.length (Kh t true) (Qi t true).1
 have f0:=Qp l.length (Kh t true)
 have f8:=hC.hf
 have g1:=hC.hn
 refine zin 52 Tryz.func161 ?_
 refine xa 2 [P0 ba] 110 fun b1 W1 n1=>?_
 refine xa 0 [V0 t] 3 fun b2 W2 n2=>?_
 have k1:=n1.blk.below n2.below
 refine xb 8 0 k1 ?_
 have c7:=(hA.below n1.below).below n2.below
 refine xr 0 (args:=#[P0 ba]) (Vt ba b _ _ _ c7.blkA) fun W3 b6=>?_
 have k2:=n2.blk.below b6
 refine xb 7 0 k2 ?_
 have hB:=blB (blB (blB (Below.refl B w) hBw n1.below) hBw n2.below) hBw b6
 have hO:=((show Ze [200,5,28] w _ from(Q0 n1.below)).trans (Q0 n2.below)).trans (Q0 b6)
 refine xr 1 (args:=#[V0 t,.slice a l.length c]) (Zk3 t (Jd t true) a c l _ ht1 ht2 rfl E (hin _ hB hO) hn) fun W4 b5=>?_
 refine xd 6 .z ?_
 have c0:=((k1.below b6).below b5).below (Za W4)
 refine xb (.e [] 0) 0 c0 ?_
 have c1:=(k2.below b5).below (Za W4)
 refine xb (.e [] 2) 0 c1 ?_
 have c6:=((c7.below b6).below b5).below (Za W4)
 refine xr (.o [3,4] 1) (Ro ba b pa N ca k0 _ c6.blkA hkN) fun W5 b8=>?_
 refine xr (.o [] 5) (Ka t l.length _ ht1 ht2 hn) fun W6 b4=>?_
 refine xk (.r [6,7] 2) (show(decide ((↑(N-k0):Int)<(↑(Xk t l.length):Int)):Bool)=false from decide_eq_false M0) ?_
 refine xa 5 [.nilIface] 28 fun b7 W7 n7=>?_
 have b0:=blB (blB (blB (blB hB hBw b5) hBw (Za W4)) hBw b8) hBw b4
 have g7:=n7.ge0 b0
 have b3:=((c0.below b8).below b4).below n7.below
 have a6:=((c1.below b8).below b4).below n7.below
 have d3:=((c6.below b8).below b4).below n7.below
 have a8:=blB b0 hBw n7.below
 have b9:=((((hO.trans (Q0 b5)).trans (Q0 (Za W4))).trans (Q0 b8)).trans (Q0 b4)).trans (Q0 n7.below)
 refine xc 12 (Im B ba b g nn cc pa ca f N k0 bs t true (Kh t true) (Jd t true) a c l b1 b2 b7 _ b3 a6 n7.blk (Blk.tne b3 n7.blk Do) (Blk.tne a6 n7.blk Do) (N0 hBw g7) hC d3 ht1 ht2 rfl rfl E (by simp) hn hf1 M0 (fun W h1 h2=>hin W (a8.trans h1) (b9.trans h2)) (N0 hBw a8.size)) ?_
 rintro _ W8 ⟨d1,e0,rfl,f3,d6,f4,e4,hA,a9⟩
 have f2:=(blB b0 hBw n7.below).size
 refine xv1 5 10 (show(.slice d1 (ovN l.length (Kh t true)) e0:Value)=.slice d1 ((upE l (Kh t true) (f+k0) (ovN l.length (Kh t true))).length) e0 from by rw[Xr]) ?_
 have c3:=Zf a9 f2
 have d8:=a8.trans f3
 have hX:=(Fr.trans_new ((((((((show Fr [ba,g] w _ from(Q2 n1.below)).trans (Q2 n2.below)).trans (Q2 b6)).trans (Q2 b5)).trans (Q2 (Za W4))).trans (Q2 b8)).trans (Q2 b4)).trans (Q2 n7.below)) f4 g7)
 have d9:=b9.trans d6
 have d4:=b3.only d6 Do
 have e5:=a6.only d6 Do
 refine zl 0 52 (fun zm f5 V=>∃ (u:List Ent) (K:Nat) (d0:Bl) (p:O0) (c2:Nat),f5=[(6,V0 0),(7,.nilIface),(8,P0 b7),(9,.func (.func 221) #[] #[P0 b1,P0 b2,P0 b7]),(10,.slice p u.length c2)]∧zm=u.length∧Below B w V∧Fr [ba,g] w V∧Ze [200,5,28] w V∧Blk V b1 ([P0 ba]) 110∧Blk V b2 ([V0 t]) 3∧Blk V b7 ([.nilIface]) 28∧V.ownsRow w.heap.size 132 3 (.slice p u.length c2) u.length (u.flatMap Kd)∧Al B ba b g nn cc pa ca f N K d0 V∧K+(Jy u.length).sum=k0+Xk t l.length+u.length∧1≤u.length∧u.length≤32768∧EntsOk 4 u∧Vi t u (f+K) d0=Zz t l (f+k0) bs) ⟨(upE l (Kh t true) (f+k0) (ovN l.length (Kh t true))),(k0+(ovN l.length (Kh t true))),(Mg t true (Kh t true) (Jd t true) l (f+k0) bs (ovN l.length (Kh t true))),d1,e0,rfl,rfl,d8,hX,d9,d4,e5,e4,(by rw[Xr];exact c3),hA,(by rw[Xr];unfold Xk Uh;omega),(by rw[Xr];exact f0),(by rw[Xr];omega),Cy E (Qi t true).1,(by rw[←E9];rfl)⟩ ?_
 rintro _ _ W9 ⟨u,K,d0,p,c2,rfl,rfl,a4,c4,c8,a1,a2,a0,a9,hA,hK,e9,g3,hE,c9⟩ J9 f1 r9
 have f6:¬ u.length≤1→(Jy u.length).sum=u.length+(Jy (ovN u.length 18)).sum:=fun h=>by rw[Vx h];rfl
 have g5:=Kl (ovN u.length 18)
 have f9:2≤u.length→ovN u.length 18≤u.length/2:=Zru
 have e3:=Qp u.length 18
 refine xb 3 0 a0 ?_
 refine xid 8 ((u.length:Int)>(1:Int)) (fun e6=>?_) (fun e6=>?_)
 ·refine xc 6 (args:=#[.bool false,.slice p u.length c2,P0 b1,P0 b2,P0 b7]) (Im B ba b g nn cc pa ca f N K d0 t false 18 4 p c2 u b1 b2 b7 _ a1 a2 a0 (Blk.tne a1 a0 Do) (Blk.tne a2 a0 Do) (N0 hBw g7) hC hA ht1 ht2 rfl rfl hE (fun _=>e9) M0 hf1 M0 (fun W _ h2=>Zg (Zi a9 h2 Do)) (N0 hBw a4.size)) ?_
  rintro _ g2 ⟨e7,e8,rfl,d7,a7,e1,e4,hA,a9⟩
  refine xv1 3 10 (show(.slice e7 (ovN u.length 18) e8:Value)=.slice e7 ((upE u 18 (f+K) (ovN u.length 18)).length) e8 from by rw[Xr]) ?_
  have c5:=Zf a9 a4.size
  have e2:=a4.trans d7
  have d2:=(Fr.trans_new c4 e1 g7)
  have d5:=c8.trans a7
  have a5:=a1.only a7 Do
  have a3:=a2.only a7 Do
  refine ze 0 (f1 _ _ _ ⟨(upE u 18 (f+K) (ovN u.length 18)),(K+ovN u.length 18),_,_,_,rfl,rfl,e2,d2,d5,a5,a3,e4,(by rw[Xr];exact c5),hA,(by rw[Xr];omega),(by rw[Xr];exact e3),(by rw[Xr];omega),Cy hE Do,(by rw[←c9,←E9];exact(Vd M0).symm)⟩ ?_)
  show((upE u 18 (f+K) (ovN u.length 18)).length)<u.length
  rw[Xr];omega
 refine xb 8 0 a0 ?_
 refine xx 9 _ u.length 0 3 (Sts.cell (Zg a9) Ql Zo (k:=0) (i:=0) M0 rfl).1 ?_
 refine xl 1 ((Sts.cell (Zg a9) Ql Zo (k:=0) (i:=2) M0 rfl).2) ?_
 refine xe 5 (.tuple #[V0 ((u.getD 0 Zo).2.2),.nilIface]) ?_
 have h1:u.length≤1:=by omega
 rw[Vz h1] at c9
 rw[Jm h1] at hK
 simp only[G5,N3] at hK
 obtain rfl:K=k0+Xk t l.length:=by omega
 refine⟨by rw[←c9],a4,c8,c4,by rw[←c9];exact hA⟩
def entE(v:Nat)(l:List Ent)(i:Nat):Prop:=Zs3 l i<(l.getD i Zo).1∧(l.getD i Zo).1≤281474976710655∧(l.getD i Zo).2.1.length=v
instance (v:Nat) (l:List Ent) (i:Nat):Decidable (entE v l i):=by unfold entE;infer_instance
def Vp(K:List Int)(n:Nat)(i:Nat):Bl:=(List.range i).flatMap fun j=>if j<n then leB (K.getD j 0) 8 else List.replicate 8 0
theorem Jn(K:List Int)(n i:Nat):Vp K n (i+1)=Vp K n i++(if i<n then leB (K.getD i 0) 8 else List.replicate 8 0):=by
 unfold Vp;rw[C3,C8];simp
theorem Wd(K:List Int)(n i:Nat):(Vp K n i).length=i*8:=by
 induction i with
 | zero=>rfl
 | succ i ih=>rw[Jn,A8,ih];split<;>simp[Zj]<;>omega
def Ja(Vs:List Bl)(i:Nat):Bl:=(List.range i).flatMap fun j=>Vs.getD j []
theorem Mh(Vs:List Bl)(i:Nat):Ja Vs (i+1)=Ja Vs i++Vs.getD i []:=by
 unfold Ja;rw[C3,C8];simp
theorem Cl{Vs:List Bl}{v:Nat}:∀ {i:Nat},(∀ j,j<i→(Vs.getD j []).length=v)→(Ja Vs i).length=i*v
 | 0,_=>by simp[Ja]
 | i+1,h=>by rw[Mh,A8,Cl fun j hj=>h j M0,h i M0,G8,I6]
theorem Zep{P z Q x:Bl}{k:Nat}(hk:P.length=k)(hz:z.length=x.length):Qh (P++z++Q) k x=P++x++Q:=by
 unfold Qh
 subst hk
 rw[A1 P z Q,L6 rfl,←hz]
 have e:P++(z++Q)=(P++z)++Q:=(A1 _ _ _).symm
 rw[e,L7 (by simp)]
theorem Wj(K:List Int)(i:Nat):∀ d,Vp K i (i+d)=Vp K i i++List.replicate (d*8) 0
 | 0=>by simp
 | d+1=>by
  rw[←E9,Jn,Wj K i d,if_neg M0,A1,List.replicate_append_replicate,G8,I6]
theorem Sb(K:List Int)(n:Nat):∀ i,i≤n→Vp K n i=Vp K i i
 | 0,_=>rfl
 | i+1,h=>by
  rw[Jn,Jn,if_pos M0,if_pos M0,Sb K n i M0,Sb K (i+1) i M0]
theorem Zed(a b:Nat):List.replicate (a+b) (0:UInt8)=List.replicate a 0++List.replicate b 0:=List.replicate_append_replicate.symm
theorem Zc6{m v:Nat}{H:Bl}{K:List Int}{Vs:List Bl}(hH:H.length=12)(hf:12+m*8+m*v≤244):∀ {i:Nat},i≤m→(∀ j,j<i→(Vs.getD j []).length=v) →
  Pi m v H K Vs i=H++Vp K i m++Ja Vs i++List.replicate (232-m*8-i*v) 0
 | 0,_,_=>by
  have e1:=Wj K 0 m
  rw[F3] at e1
  rw[Pi,e1]
  have h1:(232-m*8-0*v)=232-m*8:=by omega
  rw[h1,show(244:Nat)=12+(m*8+(232-m*8)) by omega,Zed,Zed]
  have:=Zep (P:=[]) (z:=List.replicate 12 (0:UInt8)) (Q:=List.replicate (m*8) 0++List.replicate (232-m*8) 0) (x:=H) (k:=0) rfl (by simp[hH])
  rw[Gt,Gt] at this
  rw[this]
  simp[Vp,Ja]
 | i+1,hi,hV=>by
  have ih:=Zc6 (K:=K) hH hf (i:=i) M0 (fun j hj=>hV j M0)
  have a3:=hV i M0
  have h2:(i+1)*v≤m*v:=E7 v hi
  rw[G8,I6] at h2
  obtain⟨d,hd⟩:∃ d,m=i+(d+1):=⟨m-i-1,by omega⟩
  have ek:Vp K i m=Vp K i i++List.replicate 8 0++List.replicate (d*8) 0:=by
   rw[hd,Wj,show(d+1)*8=8+d*8 by omega,Zed,A1]
  have a4:Vp K (i+1) m=Vp K i i++leB (K.getD i 0) 8++List.replicate (d*8) 0:=by
   rw[show m=(i+1)+d by omega,Wj,Jn,if_pos M0,Sb K (i+1) i M0]
  have er:List.replicate (232-m*8-i*v) (0:UInt8)=List.replicate v 0++List.replicate (232-m*8-(i*v+v)) 0:=by
   rw[←Zed];congr 1;omega
  have a0:(Ja Vs i).length=i*v:=Cl fun j hj=>hV j M0
  rw[Pi,ih,ek,er]
  have s1:=Zep (P:=H++Vp K i i) (z:=List.replicate 8 (0:UInt8)) (Q:=List.replicate (d*8) 0++(Ja Vs i++(List.replicate v 0++List.replicate (232-m*8-(i*v+v)) 0))) (x:=leB (K.getD i 0) 8) (k:=12+i*8) (by rw[A8,hH,Wd]) (by simp[Zj])
  have a1:H++(Vp K i i++List.replicate 8 0++List.replicate (d*8) 0)++Ja Vs i++(List.replicate v 0++List.replicate (232-m*8-(i*v+v)) 0)=H++Vp K i i++List.replicate 8 0++(List.replicate (d*8) 0++(Ja Vs i++(List.replicate v 0++List.replicate (232-m*8-(i*v+v)) 0))):=by simp only[A1]
  rw[a1,s1]
  have s2:=Zep (P:=H++Vp K (i+1) m++Ja Vs i) (z:=List.replicate v (0:UInt8)) (Q:=List.replicate (232-m*8-(i*v+v)) 0) (x:=Vs.getD i []) (k:=12+m*8+i*v) (by rw[A8,A8,hH,Wd,a0]) (by rw[B6,a3])
  have a2:H++Vp K i i++leB (K.getD i 0) 8++(List.replicate (d*8) 0++(Ja Vs i++(List.replicate v 0++List.replicate (232-m*8-(i*v+v)) 0)))=H++Vp K (i+1) m++Ja Vs i++List.replicate v 0++List.replicate (232-m*8-(i*v+v)) 0:=by rw[a4];simp only[A1]
  rw[a2,s2,Mh,G8,I6]
  simp only[A1]
theorem ImgR.mono{B B' b:Nat}{p:O0}{n c:Nat}{l:Bl}{w:World}(h:ImgR B b p n c l w)(hB:B'≤B):ImgR B' b p n c l w:=⟨h.blk,Zf h.row hB,h.hn⟩
def WroteR(B b:Nat)(p:O0)(n c:Nat)(l:Bl)(w:World)(e:Ending)(w':World):Prop :=
 e=.returned .nilIface∧Below B w w'∧Ze [5] w w'∧ImgR B b p n c l w'
theorem Bd(B b:Nat)(p:O0)(n c k:Nat)(ki:Int)(l:Bl)(kind:Int)(a:O0)(ca m:Nat)(li:Bl)(w:World)(hki:ki=(k:Int))(hm:li.length=m)(hI:ImgR B b p n c l w)(hk:k<n/256)(h1:1≤kind)(h2:kind≤4)(hin:Bys w (.slice a m ca) li)(hl:m≤244)(hBw:B≤w.heap.size) :
 C0 101 #[P0 b,V0 ki,V0 kind,.slice a m ca] w (WroteR B b p n c (Qh l (k*256) (Xu kind k li)) w):=by
 subst hki hm
 obtain⟨g,rfl,hc⟩:=hI.base M0
 refine(Za2 B b g n c k l kind a ca li w hI.blk hI.row hI.hn hc hk h1 h2 hin hl hBw).mono ?_
 rintro e W ⟨rfl,hb,hO,_,ho⟩
 exact⟨rfl,hb,hO,hI.blk.only hO Do,ho,hI.hn⟩
structure AlG(B ba b:Nat)(pa:Option Addr)(N ca k:Nat)(L:List Int)(w:World):Prop where
 blk:Blk w ba [.slice pa N ca,.int .i64 (k:Int),.pointer (some ⟨b,0,none⟩)] 200
 nums:w.ownsRow B 3 1 (.slice pa N ca) N (L.map (Value.int .i64))
 hL:L.length=N
 hB:B≤ba
 hN:N≤1000000
 hk:k≤N
theorem AlG.below{B ba b:Nat}{pa:O0}{N ca k:Nat}{L:List Int}{w W:World}(h:AlG B ba b pa N ca k L w)(hb:B3 w W):AlG B ba b pa N ca k L W:=⟨h.blk.below hb,Zb h.nums hb,h.hL,h.hB,h.hN,h.hk⟩
theorem AlG.only{B ba b:Nat}{pa:O0}{N ca k:Nat}{L:List Int}{w W:World}{T:List TypeId}(h:AlG B ba b pa N ca k L w)(hO:Ze T w W)(hT:T.contains 200=false∧T.contains 3=false):AlG B ba b pa N ca k L W:=⟨h.blk.only hO hT.1,Zi h.nums hO hT.2,h.hL,h.hB,h.hN,h.hk⟩
theorem AlG.mono{B B' ba b:Nat}{pa:O0}{N ca k:Nat}{L:List Int}{w:World}(h:AlG B ba b pa N ca k L w)(hB:B'≤B):AlG B' ba b pa N ca k L w:=⟨h.blk,Zf h.nums hB,h.hL,N0 hB h.hB,h.hN,h.hk⟩
theorem Zlk(l:List Int):∀ u∈l.map V0,u.oneCell'=true:=by
 intro u hu
 obtain⟨x,_,rfl⟩:=List.mem_map.1 hu
 rfl
theorem Zpm(p:Addr)(N c:Nat)(xs:List Value)(w:World)(h:Sl w (.slice (some p) N c) N xs)(hl:xs.length=N)(h1:∀ u∈xs,u.oneCell'=true)(hn:N≤1000000) :
 C0 118 #[.slice (some p) N c] w (Kc (fun w' r=>∃ q c2,r=.slice q N c2∧w'.ownsRow w.heap.size 3 1 (.slice q N c2) N xs) w):=by
 refine zin 8 Tryz.func118 ?_
 refine xb0 17 3 fun b1 W1 n1=>?_
 have o1:=Yd (size:=1) (n:=0) n1.blk (n1.ge (B4 w)) rfl Do
 refine xbi 1 fun _ _ _ _ zJ zQ zo zx zy zK=>Xi (m:=N) (news:=xs) (V0 0) 1 8 (N) (xs) zo Tryz.underlying34 K0 rfl Do zx o1 zy (h.below n1.below) (by rw[hl,G4]) h1 (by unfold maxLen;omega) M0 n1.below.size M0 (by rfl) fun a2 a1 W2 o2 a4 a3=>?_
 refine zK _ _ ?_
 have a0:=n1.below.trans a3
 exact xe 4 (.slice a2 N a1) ⟨_,rfl,a0,_,_,rfl,o2⟩
theorem Zcf(w:World) :
 C0 118 #[S0] w (Ret (S0) w):=by
 refine zin 8 Tryz.func118 ?_
 exact xe 20 (S0) ⟨rfl,(B4 w)⟩
theorem Zjz(a:O0)(N c:Nat)(xs:List Value)(w:World)(h:Sl w (.slice a N c) N xs)(hc:a=none→c=0)(hl:xs.length=N)(h1:∀ u∈xs,u.oneCell'=true)(hn:N≤1000000) :
 C0 118 #[.slice a N c] w (Kc (fun w' r=>∃ q c2,r=.slice q N c2∧w'.ownsRow w.heap.size 3 1 (.slice q N c2) N xs) w):=by
 cases a with
 | some p=>exact Zpm p N c xs w h hl h1 hn
 | none =>
  have hN:N=0∧xs=[]:=by
   rcases h with ⟨a',c',h2,h3,h4⟩|⟨b',a1,a0,h2,_⟩
   ·simp only[C2] at h2;exact⟨h2.2.1,h4⟩
   ·cases h2
  obtain⟨rfl,rfl⟩:=hN
  obtain rfl:=hc rfl
  refine(Zcf w).mono ?_
  rintro e W ⟨rfl,hb⟩
  exact⟨_,rfl,hb,none,0,rfl,A5 _ _ _ _⟩
theorem sl_cut{w:World}{b:O0}{n c:Nat}{xs:List Value}(h:Sl w (.slice b n c) n xs)(hl:xs.length=n)(k:Nat)(hk:k≤n):Sl w (.slice (Mw b k c 1) (n-k) (c-k)) (n-k) (xs.drop k):=by
 rcases h with ⟨a',c',h1,h2,h3⟩|⟨g,a0,a1,h1,h2,h3,h4⟩
 ·obtain rfl:k=0:=by omega
  subst h3 h2
  exact .inl ⟨Mw b 0 c 1,c-0,rfl,rfl,rfl⟩
 ·simp only[C2] at h1
  obtain⟨rfl,_,rfl⟩:=h1
  by_cases hz:n-k=0
  ·refine .inl ⟨Mw (some ⟨g,a0,none⟩) k c 1,c-k,by rw[hz],by omega,?_⟩
   exact E0 M0
  ·refine .inr ⟨g,a0+k*1,c-k,?_,by omega,by omega,fun j x hj=>?_⟩
   ·rw[Mw,if_neg M0];simp[Addr.add]
   ·rw[F7] at hj
    have:=h4 (k+j) x hj
    rwa [G4,E9]
theorem sl_take{w:World}{b:O0}{n c:Nat}{xs:List Value}(h:Sl w (.slice b n c) n xs)(hl:xs.length=n)(m:Nat)(hm:m≤n):Sl w (.slice b m c) m (xs.take m):=Sl.head h hl m hm
theorem aheadSl{w:World}{b:O0}{n c k i:Nat}{L:List Int}(h:Sl w (.slice b n c) n (L.map V0))(hl:L.length=n)(hk:k≤n):Sl w (.slice (Mw b k c 1) (min i (n-k)) (c-k)) (min i (n-k)) (((L.drop k).take i).map V0):=by
 have h1:=sl_cut h (by simpa using hl) k hk
 have h2:=sl_take h1 (by simp[hl]) (min i (n-k)) M0
 rw[←Lt,←I4] at h2
 have e:(L.drop k).take (min i (n-k))=(L.drop k).take i:=by
  rcases Nat.le_total i (n-k) with q|q
  ·rw[H3 q]
  ·rw[Nat.min_eq_right q,C1 (by simp[hl]),C1 (by simp[hl];omega)]
 rw[e] at h2
 exact h2
theorem aheadN{w:World}{B:Nat}{b:O0}{n c k:Nat}{xs:List Value}{e size:Nat}(h:w.ownsRow B e size (.slice b n c) n xs):Mw b k c 1=none→c-k=0:=by
 intro hn
 have hb:b=none:=by
  unfold Mw at hn
  split at hn
  ·exact hn
  ·simpa using hn
 subst hb
 rcases h.2 with ⟨h2,_⟩|⟨g,a0,a1,h2,_⟩
 ·simp only[C2] at h2;omega
 ·cases h2
theorem Zjf(B ba b:Nat)(p0:O0)(N ca k i:Nat)(L:List Int)(w:World)(hA:AlG B ba b p0 N ca k L w)(hi:i≤1000000) :
 C0 162 #[P0 ba,V0 (i:Int)] w (Kc (fun w' r=>∃ q c2,r=.slice q (min i (N-k)) c2∧w'.ownsRow w.heap.size 3 1 (.slice q (min i (N-k)) c2) (min i (N-k)) (((L.drop k).take i).map V0)) w):=by
 have hk:=hA.blk
 have a4:=hA.hk
 have hL:=hA.hL
 have hN:=hA.hN
 have a9:N≤ca:=by
  rcases M1 N with q|q
  ·omega
  ·exact Zjy hA.nums q
 refine zin 23 Tryz.func162 ?_
 refine xr 9 (args:=#[P0 ba]) (Uc ba b _ _ _ hk) fun W1 a0=>?_
 refine xid 6 ((i:Int)<(1:Int)) (fun a6=>?_) (fun a6=>?_)
 ·refine xe 7 (S0) ?_
  obtain rfl:i=0:=by omega
  exact⟨_,rfl,a0,none,0,by rw[Nat.zero_min],by rw[Nat.zero_min,N4];exact A5 _ _ _ _⟩
 have a1:=hk.below a0
 refine xr 7 (args:=#[P0 ba]) (Zdv ba p0 N ca k _ _ a1 a4) fun W3 a5=>?_
 refine xq 9 (congrArg V0 (show(if(↑(N-k):Int)<(i:Int) then(↑(N-k):Int) else(i:Int):Int)=(↑(min i (N-k)):Int) from Zme i (N-k))) ?_
 refine xsH 0 (fun _ _ _ _ zo zx zy V=>Kb (k:=(min i (N-k))) (b:=(Mw p0 k ca 1)) (n:=(N-k)) (c:=(ca-k)) (i:=(↑(min i (N-k)):Int)) (ki:=.i64) zo zx zy rfl M0 Tryz.underlying34 K0 V) ?_
 have hB:=bln a0 a5
 refine xc 0 (args:=#[.slice (Mw p0 k ca 1) (min i (N-k)) (ca-k)]) (Zjz (Mw p0 k ca 1) (min i (N-k)) (ca-k) (((L.drop k).take i).map V0) _ (aheadSl (Zg (Zb hA.nums hB)) hL a4) (aheadN hA.nums) (by simp;omega) (Zlk _) M0) ?_
 rintro _ W4 ⟨_,rfl,a7,pq,cq,rfl,hq⟩
 have a8:=(bln a0 a5).size
 have a2:=bln hB a7
 have a3:=Zf hq a8
 exact xe 4 (.slice pq (min i (N-k)) cq) ⟨_,rfl,a2,_,_,rfl,a3⟩
def rsV (L:List (List Int))(q i:Nat):List Value:=[V0 ((q+i:Nat):Int),V0 (Yo (L.getD i []):Int),V0 (Xl (L.getD i []):Int)]
def rsL (L:List (List Int))(q n:Nat):List Value:=(List.range n).flatMap (rsV L q)
theorem rsL_succ(L:List (List Int))(q n:Nat):rsL L q (n+1)=rsL L q n++rsV L q n:=by simp[rsL,C3]
end Go.Proofs.YtceeiinepijokaaGreatDoor
namespace Go.Proofs.YtceeiinepijokaaGreatDoor
set_option maxHeartbeats 8000000
set_option maxRecDepth 100000
open Go.RowKit
set_option linter.unusedVariables false
theorem rows_in{n:Nat}{P:Program}{row:String}{args:Array Value}{w:World}{R:Value→World→Prop}(h:Rows P row args w R):RowsIn Fence.wide n P row args w R :=
 fun c cs _=>let ⟨v,w',r,q⟩:=h c cs;⟨v,w',r,stepsIn_wide.2 q⟩
theorem Zv4{P:Program}{l n:Nat}{o:Oper}{a:Act}{w:World}{K:Act→World→Prop}{Q:Exit→Act→World→Prop}(hd:∀ c,o.op≠.defer c)(h:o.wp P a w K Q):o.wpIn (Fence.wide.inRound l) n P a w K Q:=by
 unfold Oper.wpIn
 refine⟨fun f _=>trivial,?_⟩
 rw[Oper.semAt_plain _ _ _ hd]
 unfold Oper.wp at h
 generalize (execOp a.eval o).run P w=r at *
 cases r with
 | ok nx w' =>
  cases nx with
  | value v=>exact h
  | skip=>exact h
  | defer d=>exact h
  | enter f args=>exact⟨(fun q=>by cases q),callsIn_wide.2 h⟩
  | row r args=>exact⟨(fun q=>by cases q),rows_in h⟩
  | _=>exact h.elim
 | halt hh w' =>
  cases hh with
  | panic v=>exact h
  | _=>exact h.elim
theorem op_in{P:Program}{l n i:Nat}{ops:Array Oper}{a:Act}{w:World}{K K':Act→World→Prop}{Q:Exit→Act→World→Prop}(hQ:¬ LetsOut Q)(hd:∀ o∈ops.toList,∀ c,o.op≠.defer c)(hK:∀ a w,K a w→K' a w)(h:wpOp P ops Q i K a w):wpOpIn (Fence.wide.inRound l) n P ops Q i K' a w:=by
 unfold wpOp at h
 unfold wpOpIn
 cases ho:ops[i]? with
 | none=>rw[ho] at h;exact hK _ _ h
 | some o =>
  rw[ho] at h
  dsimp only at h ⊢
  split at h
  ·rename_i hw
   rw[if_pos hw]
   have a0:o∈ops.toList:=by
    obtain⟨hi,e⟩:=Array.getElem?_eq_some_iff.1 ho
    rw[←e];exact Array.mem_toList_iff.2 (Array.getElem_mem hi)
   exact Oper.wpIn_mono hK (Zv4 (hd o a0) (h.resolve_right fun q=>hQ q.2))
  ·rename_i hw
   rw[if_neg hw]
   exact⟨fun f _=>trivial,hK _ _ h⟩
theorem any_in{P:Program}{l n:Nat}{md:Region.Mode}{ops:Array Oper}{Q:Exit→Act→World→Prop}(hQ:¬ LetsOut Q)(hd:∀ o∈ops.toList,∀ c,o.op≠.defer c):∀ (fuel:Nat) (L:Array Bool) (a:Act) (w:World),wpAny P md ops Q fuel L a w→wpAnyIn (Fence.wide.inRound l) n P md ops Q fuel L a w
 | 0,_,_,_,h=>h
 | fuel+1,L,a,w,h=>⟨h.1,fun i hi=>op_in hQ hd (fun a w=>any_in hQ hd fuel _ a w) (h.2 i hi)⟩
theorem Zst{P:Program}{l0 n0 id:Nat}{l:List Oper}{Q:Exit→Act→World→Prop}{a:Act}{w:World}(S:World→Prop)(n:Nat)(hn:l.toArray.size=n)(L:Array Bool)(hL:Array.replicate n false=L)(hm:P.follows .mixedOrders=true)(hQ:¬ LetsOut Q)(hd:∀ o∈l,∀ c,o.op≠.defer c)(hS:S w.drew)(h:S w.drew→wpAnyH P .any l.toArray Q S n L a w.drew):(Code.region id l.toArray true).wpIn (Fence.wide.inRound l0) n0 P Q a w :=
 wpIn_region_any hm (any_in hQ (by simpa using hd) _ _ _ _ (wpAny_of_held _ _ _ _ (by rw[hn,hL];exact h hS)))
def Zxk(lo hi k:Int):Bool:=decide (lo≤k∧k<hi)
def Wx(lo hi:Int):Bool:=decide (0≤lo∧lo≤hi∧hi≤281474976710656)
def Ul(l:List Int):Prop:=∀ k,k<l.length→1≤k→l[k-1]?.getD 0<l[k]?.getD 0
instance (l:List Int):Decidable (Ul l):=by unfold Ul;infer_instance
def Jz(lo hi:Int)(l:List Int):Int :=
 if Wx lo hi then if Ul l then if ∀ k∈l,lo≤k∧k<hi then 0 else 9 else 8 else 1
@[go_sem] def spanV (lo hi:Int):Value:=.agg #[V0 lo,V0 hi]
theorem Ul.lt{l:List Int}(h:Ul l):∀ (j i:Nat),i<j→j<l.length→l[i]?.getD 0<l[j]?.getD 0:=by
 intro j
 induction j with
 | zero=>intro i h1;omega
 | succ j ih =>
  intro i h1 h2
  have h3:=h (j+1) h2 M0
  simp only[M2] at h3
  by_cases hij:i=j
  ·subst hij;exact h3
  ·exact Int.lt_trans (ih i M0 M0) h3
theorem Ul.one(l:List Int):Ul (l.take 1):=by
 intro k h1 h2;simp at h1;omega
theorem Ul.succ{l:List Int}{k:Nat}{x y:Int}(h:Ul (l.take k))(hx:l[k-1]? = some x)(hy:l[k]? = some y)(hxy:x<y):Ul (l.take (k+1)):=by
 intro j h1 h2
 have a0:j<k+1:=by simp at h1;omega
 rw[G9,G9,if_pos M0,if_pos a0]
 by_cases hj:j=k
 ·subst hj;rw[hx,hy];exact hxy
 ·have:=h j (by simp at h1 ⊢;omega) h2
  rw[G9,G9,if_pos M0,if_pos M0] at this
  exact this
theorem Zq1{lo hi:Int}{l:List Int}(h:Wx lo hi=false):Jz lo hi l=1:=by simp[Jz,h]
theorem Zq4{lo hi:Int}{l:List Int}{k:Nat}{x y:Int}(h:Wx lo hi=true)(hk:1≤k)(hx:l[k-1]? = some x)(hy:l[k]? = some y)(hxy:y≤x):Jz lo hi l=8:=by
 have hn:¬ Ul l:=fun hs=>by
  have a0:k<l.length:=by rcases List.getElem?_eq_some_iff.1 hy with ⟨h,_⟩;exact h
  have:=hs k a0 hk
  rw[hx,hy] at this
  simp at this;omega
 simp[Jz,h,hn]
theorem Zni{lo hi:Int}(h:Wx lo hi=true):Jz lo hi []=0:=by
 have hs:Ul []:=fun k h1=>by simp at h1
 simp[Jz,h,hs]
theorem Ul.all{l:List Int}{k:Nat}(h:Ul (l.take k))(hk:l.length≤k):Ul l:=by rwa [C1 hk] at h
theorem Zlb{lo hi k:Int}:Zxk lo hi k=true↔lo≤k∧k<hi:=by simp[Zxk]
theorem fits_in{lo hi:Int}{l:List Int}{x y:Int}(h:Wx lo hi=true)(hs:Ul l)(hx:l[0]? = some x)(hy:l[l.length-1]? = some y)(ha:Zxk lo hi x=true)(hb:Zxk lo hi y=true):Jz lo hi l=0:=by
 have a0:∀ k∈l,lo≤k∧k<hi:=by
  intro k hk
  obtain⟨i,a1,rfl⟩:=List.mem_iff_getElem.1 hk
  rw[Zlb] at ha hb
  have e:l[i]? = some l[i]:=by simp
  have h1:x≤l[i]:=by
   by_cases h0:i=0
   ·subst h0;rw[hx] at e;injection e with e;omega
   ·have:=hs.lt i 0 M0 a1
    rw[hx,e] at this;simp at this;omega
  have h2:l[i]≤y:=by
   by_cases h0:i=l.length-1
   ·subst h0;rw[hy] at e;injection e with e;omega
   ·have:=hs.lt (l.length-1) i M0 M0
    rw[hy,e] at this;simp at this;omega
  omega
 simp only[Jz,h,if_true,hs]
 rw[if_pos a0]
theorem Zln{lo hi:Int}{l:List Int}{i:Nat}{x:Int}(h:Wx lo hi=true)(hs:Ul l)(hx:l[i]? = some x)(ha:Zxk lo hi x=false):Jz lo hi l=9:=by
 have hn:¬ ∀ k∈l,lo≤k∧k<hi:=fun a0=>by
  have:=Zlb.2 (a0 x (List.mem_of_getElem? hx))
  rw[ha] at this;cases this
 simp only[Jz,h,if_true,hs]
 rw[if_neg hn]
theorem Zmy(w:World):C0 179 #[] w (Ret (spanV 0 281474976710656) w):=by
 go_enter Tryz.func179,Tryz.ntmps179
 go_wp2
 exact bodyPost_ret (v:=spanV 0 281474976710656) (by simp[results,Tryz.results179,go_sem,spanV]) rfl ⟨rfl,blx _ _⟩
theorem Ze6(lo hi k:Int)(w:World):C0 283 #[spanV lo hi,V0 k] w (Ret (.bool (Zxk lo hi k)) w):=by
 unfold spanV
 go_enter Tryz.func283,Tryz.ntmps283
 go_wp2
 all_goals go_ret
 all_goals refine⟨?_,blx _ _⟩
 all_goals (unfold Zxk;congr 2;simp;omega)
theorem Sq(lo hi:Int)(w:World):C0 282 #[spanV lo hi] w (Ret (.bool (Wx lo hi)) w):=by
 unfold spanV
 go_enter Tryz.func282,Tryz.ntmps282
 go_wp2_with fail
 refine(Zmy _).mono ?_
 rintro e w' ⟨rfl,hb⟩
 have hz:w.heap.size<w'.heap.size:=ltB hb (by simp)
 have h0:=Fh hb (p:=⟨w.heap.size,0,none⟩) (v:=V0 lo) (by simp[go_sem])
 have h1:=Fh hb (p:=⟨w.heap.size,1,none⟩) (v:=V0 hi) (by simp[go_sem])
 unfold spanV
 go_wp2_with fail
 all_goals go_ret
 all_goals refine⟨?_,bln (bln (blx w _) hb) (blx _ _)⟩
 all_goals (unfold Wx;congr 2;simp[*];try omega)
theorem Zaz(lo hi:Int)(v:Value)(l:List Int)(w:World)(hl:Ints w v l) :
 C0 266 #[spanV lo hi,v] w (Ret (V0 (Jz lo hi l)) w):=by
 by_cases hr:Wx lo hi=true
 case neg =>
  have a7:Wx lo hi=false:=by simpa using hr
  unfold spanV
  rcases hl with ⟨a0,c0,rfl,b0,hl⟩|⟨b,a6,a9,rfl,a5,a2,hc⟩
  all_goals
   go_enter Tryz.func266,Tryz.ntmps266
   go_wp2_with fail
   refine(Sq _ _ _).mono ?_
   rintro e w' ⟨rfl,hb⟩
   go_wp2_with fail
   go_ret
   exact⟨by rw[Zq1 a7];rfl,bln (blx w _) hb⟩
 rcases hl with ⟨a0,c0,rfl,b0,hl⟩|⟨b,a6,a9,rfl,a5,a2,hc⟩
 ·obtain rfl:l=[]:=by simpa using hl
  unfold spanV
  go_enter Tryz.func266,Tryz.ntmps266
  go_wp2_with fail
  refine(Sq _ _ _).mono ?_
  rintro e w' ⟨rfl,hb⟩
  go_wp2_with fail
  go_loop [5] (fun i=>i=V0 1) (fun _=>0)
  case atStart=>exact rfl
  case round =>
   obtain rfl:=hrel
   go_wp2_with fail
   refine Uy K0 K0 ?_
   repeat (go_big_quiet_step (fail))
   refine wpQuiet_nil ?_
   intro wx
   go_wp2_with fail
   go_ret
   exact⟨by rw[Zni hr];rfl,bln (bln (blx w _) hb) wx.below⟩
 ·unfold maxLen at a2
  unfold spanV
  go_enter Tryz.func266,Tryz.ntmps266
  go_wp2_with fail
  refine(Sq _ _ _).mono ?_
  rintro e w' ⟨rfl,hb⟩
  have hz:w.heap.size<w'.heap.size:=ltB hb (by simp)
  have h0:=Fh hb (p:=⟨w.heap.size,0,none⟩) (v:=V0 lo) (by simp[go_sem])
  have h1:=Fh hb (p:=⟨w.heap.size,1,none⟩) (v:=V0 hi) (by simp[go_sem])
  have hB:=bln (blx w _) hb
  have HC:=Lib.hid (fun j x (hj:l[j]? = some x)=>Fh hb (getA _ (hc j (V0 x) (by simp[hj]))))
  clear hc hb
  go_wp2_with fail
  go_loopw [5] (fun i wr=>∃ k:Nat,1≤k∧i=V0 k∧Ul (l.take k)∧Below w'.heap.size w' wr) (fun i _=>l.length-(intOf i).toNat)
  case atStart=>exact⟨1,by omega,rfl,Ul.one l,Below.refl _ _⟩
  case round =>
   obtain⟨k,b1,rfl,hs,a1⟩:=hrel
   have HS:=Lib.hid hs;clear hs
   by_cases hlt:k<l.length
   ·obtain⟨x,hx⟩:∃ x,l[k-1]? = some x:=⟨l[k-1],by simp⟩
    obtain⟨y,hy⟩:∃ y,l[k]? = some y:=⟨l[k],by simp⟩
    have b3:=Fh a1 (HC.out _ _ hx)
    have b2:=Fh a1 (HC.out _ _ hy)
    have HX:=Lib.hid hx;clear hx
    have HY:=Lib.hid hy;clear hy
    go_wp2_with fail
    go_quiet (fail)
    go_wp2_with fail
    ·go_ret
     exact⟨by rw[Zq4 hr b1 HX.out HY.out (by assumption)];rfl,bln hB (blD a1 _)⟩
    ·go_roundw
     case rel=>exact⟨k+1,by omega,by go_num,HS.out.succ HX.out HY.out (by assumption),blD a1 _⟩
     case measure=>simp[intOf];omega
   ·have a4:l.length≤k:=by omega
    by_cases h0l:l.length=0
    ·obtain rfl:l=[]:=List.length_eq_zero_iff.mp h0l
     clear h0l
     go_wp2_with fail
     go_quiet (fail)
     go_wp2_with fail
     go_ret
     exact⟨by rw[Zni hr];rfl,bln hB (blD a1 _)⟩
    ·obtain⟨x,hx⟩:∃ x,l[0]? = some x:=⟨l[0],by simp⟩
     obtain⟨y,hy⟩:∃ y,l[l.length-1]? = some y:=⟨l[l.length-1],by simp⟩
     have a8:0<l.length:=by omega
     have e0:∀ z:Ext wr,z.val.cell? ⟨w.heap.size,0,none⟩=some (V0 lo):=fun z=>z.get (Fh a1 h0)
     have e1:∀ z:Ext wr,z.val.cell? ⟨w.heap.size,1,none⟩=some (V0 hi):=fun z=>z.get (Fh a1 h1)
     have e2:∀ z:Ext wr,z.val.cell? ⟨b,a6,none⟩=some (V0 x):=fun z=>z.get (Fh a1 (HC.out 0 _ hx))
     have e3:∀ z:Ext wr,z.val.cell? ⟨b,a6+(l.length-1),none⟩=some (V0 y):=fun z=>z.get (Fh a1 (HC.out _ _ hy))
     have HX:=Lib.hid hx;clear hx
     have HY:=Lib.hid hy;clear hy
     by_cases ha:Zxk lo hi x=true
     ·by_cases a3:Zxk lo hi y=true
      ·go_wp2_with fail
       refine Uy K0 K0 ?_
       repeat (go_big_quiet_step (exact Ret.ext (Ze6 _ _ _ _)))
       refine wpQuiet_nil ?_
       intro wx
       go_wp2_with fail
       go_ret
       exact⟨by rw[fits_in hr (HS.out.all a4) HX.out HY.out ha a3];rfl,bln (bln hB a1) wx.below⟩
      ·have a3:Zxk lo hi y=false:=by simpa using a3
       go_wp2_with fail
       refine Uy K0 K0 ?_
       repeat (go_big_quiet_step (exact Ret.ext (Ze6 _ _ _ _)))
       refine wpQuiet_nil ?_
       intro wx
       go_wp2_with fail
       go_ret
       exact⟨by rw[Zln hr (HS.out.all a4) HY.out a3];rfl,bln (bln hB a1) wx.below⟩
     ·have ha:Zxk lo hi x=false:=by simpa using ha
      go_wp2_with fail
      refine Uy K0 K0 ?_
      repeat (go_big_quiet_step (exact Ret.ext (Ze6 _ _ _ _)))
      refine wpQuiet_nil ?_
      intro wx
      go_wp2_with fail
      go_ret
      exact⟨by rw[Zln hr (HS.out.all a4) HX.out ha];rfl,bln (bln hB a1) wx.below⟩
end Go.Proofs.YtceeiinepijokaaGreatDoor
namespace Go.Proofs.YtceeiinepijokaaGreatDoor
set_option maxHeartbeats 8000000
set_option maxRecDepth 100000
open Go.RowKit
set_option linter.unusedVariables false
attribute [local go_sem] Oper.semAt_some
def Ye(hi:Int)(l:List Int)(i:Nat):Int×Int:=(l[i]?.getD 0,l[i+1]?.getD hi)
def qOf {n:Nat}(j:Fin n):Nat:=n-1-j.val
def encE(hi:Int)(l:List Int)(j:Fin l.length):Array Value:=#[V0 (qOf j:Int),spanV (Ye hi l (qOf j)).1 (Ye hi l (qOf j)).2]
theorem Kz{n k:Nat}(h:k<n):(List.finRange n).take (k+1)=(List.finRange n).take k++[⟨k,h⟩]:=by
 rw[A7 (by simpa using h)];simp
theorem Lw(n:Nat):(List.finRange n).take n=List.finRange n:=C1 (by simp)
theorem Wm{n k:Nat}(h:k≤n):((List.finRange n).take k).length=k:=by simp[h]
theorem each1_in(l Bs Bk:Nat)(p:Nat→Prop)(hi:Int)(b off cap:Nat)(zs:List Int)(hlen:zs.length≤9223372036854775807)(hb':zs.length=0∨p b)(hBk:p Bk)(J Jx:List (Fin zs.length)→World→Prop)
  (hY:∀ pre x W,J pre W→pre.length<zs.length→YieldAt Fence.wide 2 Tryz.prog l (encE hi zs x) W fun e W' =>
   (e=.returned (.bool true)∧J (pre++[x]) W'∧Keeps p W W')∨(e=.returned (.bool false)∧Jx (pre++[x]) W'))
  (W:World) (hc1:W.cell? ⟨Bs,1,none⟩=some (V0 hi)) (hck:W.cell? ⟨Bk,0,none⟩=some (.slice (some ⟨b,off,none⟩) zs.length cap))
  (hc:∀ j x,zs[j]? = some x→W.cell? ⟨b,off+j,none⟩=some (V0 x)) (h0:J [] W) :
  CallsIn Fence.wide 3 Tryz.prog 284 #[.func (.yield l) #[] #[],P0 Bs,P0 Bk] W fun e W'=>(∃ v,e=.returned v) ∧
   ((∃ ys,ys=List.finRange zs.length∧J ys W')∨(∃ pre,(∃ k,k≤zs.length∧pre=(List.finRange zs.length).take k)∧Jx pre W')):=by
 refine callsIn_of_wp Tryz.func284 rfl trivial ?_ rfl
 simp only[Tryz.ntmps284,F6,C7,D6,Nat.reduceAdd,Nat.reduceSub,H5,H6,I7,Id,Gt,F5]
 gi_wp2
 gi_loopw [4,5] (fun h i wr=>∃ k:Nat,k≤zs.length∧i=V0 ((zs.length:Int)-1-k)∧h=V0 (zs[zs.length-k]?.getD hi)∧J ((List.finRange zs.length).take k) wr∧Keeps p W wr)
  (fun _ i _=>((intOf i)+1).toNat)
 case atStart=>exact⟨0,A3 _,by simp,by simp,h0,Keeps.refl _ _⟩
 case round =>
  obtain⟨k,hk,rfl,rfl,a1,a5⟩:=hrel
  generalize hhv:zs[zs.length-k]?.getD hi=hv
  by_cases hlt:k<zs.length
  ·have hb:p b:=hb'.resolve_left M0
   obtain⟨x,hx⟩:∃ x,zs[zs.length-1-k]? = some x:=⟨zs[zs.length-1-k],by simp⟩
   have a7:=(a5.cell (a:=⟨Bk,0,none⟩) hBk).trans hck
   have a8:=(a5.cell (a:=⟨b,off+(zs.length-1-k),none⟩) hb).trans (hc _ _ hx)
   obtain⟨q,hq⟩:∃ q:Nat,q=zs.length-1-k:=⟨_,rfl⟩
   have a2:((zs.length:Int)-1-k)=(q:Int):=by omega
   have b4:q<zs.length:=by omega
   obtain⟨fn,b1,a4,b2,hy,hR⟩:=hY _ ⟨k,hlt⟩ wr a1 (by rw[Wm hk];exact hlt)
   have hE:encE hi zs ⟨k,hlt⟩=#[V0 (q:Int),.agg #[V0 x,V0 hv]]:=by
    have e0:zs[q]? = some x:=by rw[hq];exact hx
    have e1:q+1=zs.length-k:=by omega
    have e2:qOf (⟨k,hlt⟩:Fin zs.length)=q:=hq.symm
    simp only[encE,Ye,spanV,e2,e0,e1,hhv,J0]
   rw[hE] at hy
   rw[←hq] at a8
   rw[a2]
   have HQ:=Lib.hid hq;clear hq
   have HI:=Lib.hid a2;clear a2
   have HX:=Lib.hid hx;clear hx
   have HV:=Lib.hid hhv;clear hhv
   have HE:=Lib.hid hE;clear hE
   gi_wp2
   refine hR.mono ?_
   rintro e W3 (⟨rfl,b3,a6⟩|⟨rfl,a3⟩)
   ·have b0:=(a6.cell (a:=⟨Bk,0,none⟩) hBk).trans a7
    have a9:=(a6.cell (a:=⟨b,off+q,none⟩) hb).trans a8
    gi_wp2
    go_roundw
    case rel =>
     refine⟨k+1,by omega,?_,?_,by rw[Kz hlt];exact b3,a5.trans a6⟩
     ·exact congrArg V0 (by have:=HI.out;omega)
     ·have h1:zs.length-(k+1)=q:=by have:=HQ.out;omega
      have:=HX.out
      rw[←HQ.out] at this
      rw[h1,this];rfl
    case measure=>simp[intOf]
   ·gi_wp2
    refine bodyPost_ret (results_none rfl _ _ _) rfl ?_
    exact⟨⟨_,rfl⟩,.inr ⟨_,⟨k+1,by omega,by rw[Kz hlt]⟩,a3⟩⟩
  ·obtain rfl:k=zs.length:=by omega
   have a0:((zs.length:Int)-1-zs.length) = -1:=by omega
   rw[a0]
   clear a0 hhv
   rw[Lw] at a1
   have HJ:=Lib.hid a1;clear a1
   gi_wp2
   go_end0
   exact⟨⟨_,rfl⟩,.inl ⟨_,rfl,HJ.out⟩⟩
theorem Zg0{α:Type}(l Bs Bk:Nat)(hi:Int)(J:List α→World→Prop)(W:World)(hc1:W.cell? ⟨Bs,1,none⟩=some (V0 hi)){a0:O0}{c0:Nat}(hck:W.cell? ⟨Bk,0,none⟩=some (.slice a0 0 c0))(h0:J [] W) :
 CallsIn Fence.wide 3 Tryz.prog 284 #[.func (.yield l) #[] #[],P0 Bs,P0 Bk] W fun e W'=>(∃ v,e=.returned v)∧J [] W':=by
 refine callsIn_of_wp Tryz.func284 rfl trivial ?_ rfl
 simp only[Tryz.ntmps284,F6,C7,D6,Nat.reduceAdd,Nat.reduceSub,H5,H6,I7,Id,Gt,F5]
 gi_wp2
 gi_loopw [4,5] (fun _ i wr=>i=V0 (-1)∧J [] wr) (fun _ _ _=>0)
 case atStart=>exact⟨rfl,h0⟩
 case round =>
  obtain⟨rfl,a1⟩:=hrel
  gi_wp2
  go_end0
  exact⟨⟨_,rfl⟩,a1⟩
theorem Zob(Bs Bk:Nat)(p:Nat→Prop)(hi:Int)(v:Value)(zs:List Int)(w:World)(hp:∀ b,p b→b<w.heap.size)(hk:p Bk)(hs:p Bs)(hlen:zs.length≤9223372036854775807)(hv:Ints w v zs)
  (hvp:zs.length≠0→∀ b off n cap,v=.slice (some ⟨b,off,none⟩) n cap→p b)
  (hc1:w.cell? ⟨Bs,1,none⟩=some (V0 hi)) (hck:w.cell? ⟨Bk,0,none⟩=some v) :
  SeqStopsK Fence.wide 3 Tryz.prog 284 #[P0 Bs,P0 Bk] (encE hi zs) (Keeps p)
   (fun ys=>ys=List.finRange zs.length) (fun pre=>∃ k,k≤zs.length∧pre=(List.finRange zs.length).take k) zs.length w:=fun l J Jx W hW _ _ hY h0=>by
 have a1:=Fh hW hc1
 have a2:=Fh hW hck
 rcases hv with ⟨a0,c0,rfl,h1,h2⟩|⟨b,off,cap,rfl,a4,a5,a3⟩
 ·obtain rfl:zs=[]:=by simpa using h2
  exact(Zg0 l Bs Bk hi J W a1 a2 h0).mono fun e W' ⟨he,hj⟩=>⟨he,.inl ⟨_,rfl,hj⟩⟩
 ·refine each1_in l Bs Bk p hi b off cap zs hlen ?_ hk J Jx hY W a1 a2 (fun j x hj=>Fh hW (a3 j _ (by simp[hj]))) h0
  by_cases h:zs.length=0
  ·exact .inl h
  ·exact .inr (hvp h _ _ _ _ rfl)
theorem Zvq(lo hi:Int)(a:O0)(n c:Nat)(w:World):C0 267 #[spanV lo hi,.slice a n c] w fun e w' =>
 e=.returned (.func (.func 284) #[] #[.pointer (some ⟨w.heap.size,0,none⟩),.pointer (some ⟨w.heap.size+1,0,none⟩)]) ∧
 w'=(w.alloc (.cells #[V0 lo,V0 hi] 309)).alloc (.cells #[.slice a n c] 34):=by
 unfold spanV
 go_enter Tryz.func267,Tryz.ntmps267
 go_wp2
 go_ret
 exact⟨rfl,rfl⟩
def encK(b off n:Nat)(j:Fin (bmN n)):Array Value:=#[.slice (some ⟨b,off+j.val*960,none⟩) (min 960 (n-j.val*960)) (min 960 (n-j.val*960))]
theorem Zvg(l B1 B2:Nat)(p:Nat→Prop)(b off n cap:Nat)(hlen:n≤1000000)(hcap:n≤cap)(hB1:p B1)(hB2:p B2)(J Jx:List (Fin (bmN n))→World→Prop)
  (hY:∀ pre x W,J pre W→pre.length<bmN n→YieldAt Fence.wide 2 Tryz.prog l (encK b off n x) W fun e W' =>
   (e=.returned (.bool true)∧J (pre++[x]) W'∧Keeps p W W')∨(e=.returned (.bool false)∧Jx (pre++[x]) W'))
  (W:World) (hck:W.cell? ⟨B1,0,none⟩=some (.slice (some ⟨b,off,none⟩) n cap)) (hcn:W.cell? ⟨B2,0,none⟩=some (V0 960)) (hJa:AbidesFrom W.heap.size J) (h0:J [] W) :
  CallsIn Fence.wide 3 Tryz.prog 257 #[.func (.yield l) #[] #[],P0 B1,P0 B2] W fun e W'=>(∃ v,e=.returned v) ∧
   ((∃ ys,ys=List.finRange (bmN n)∧J ys W')∨(∃ pre,(∃ k,k≤bmN n∧pre=(List.finRange (bmN n)).take k)∧Jx pre W')):=by
 refine callsIn_of_wp Tryz.func257 rfl trivial ?_ rfl
 simp only[Tryz.ntmps257,F6,C7,D6,Nat.reduceAdd,Nat.reduceSub,H5,H6,I7,Id,Gt,F5]
 gi_wp2
 gi_loopw [4] (fun i wr=>∃ k:Nat,k≤bmN n∧i=V0 ((k*960:Nat):Int)∧J ((List.finRange (bmN n)).take k) wr∧Keeps p W wr)
  (fun i _=>(n-(intOf i)).toNat)
 case atStart=>exact⟨0,A3 _,by simp,h0,Keeps.refl _ _⟩
 case round =>
  obtain⟨k,hk,rfl,a0,a3⟩:=hrel
  have b0:=(a3.cell (a:=⟨B1,0,none⟩) hB1).trans hck
  have a2:=(a3.cell (a:=⟨B2,0,none⟩) hB2).trans hcn
  by_cases hlt:k<bmN n
  ·have b3:=bmN_lt hlt
   gi_wp2
   gi_big_quiet_th (fail)
   obtain⟨fn,a7,a4,a8,hy,hR⟩:=hY _ ⟨k,hlt⟩ (wr.drewN nq) (hJa _ wr _ none a0 ⟨rfl,rfl,rfl,At _,fun _ _ _=>rfl⟩ (fun _ e=>by cases e)) (by rw[Wm hk];exact hlt)
   have hE:encK b off n ⟨k,hlt⟩=#[.slice (some ⟨b,off+k*960,none⟩) (min 960 (n-k*960)) (min 960 (n-k*960))]:=rfl
   rw[hE] at hy
   have HE:=Lib.hid hE;clear hE
   first|rw[show(if((n-k*960:Nat):Int)<960 then((n-k*960:Nat):Int) else 960)=((min 960 (n-k*960):Nat):Int) from by split<;>omega]|rw[show(min 960 ((n-k*960:Nat):Int):Int)=((min 960 (n-k*960):Nat):Int) from by omega]
   obtain⟨m,hm⟩:∃ m,min 960 (n-k*960)=m:=⟨_,rfl⟩
   rw[hm] at hy ⊢
   have b4:k*960+m≤n:=by omega
   have b5:k*960+m≤cap:=by omega
   have b2:k*960+m-k*960=m:=by omega
   gi_wp2
   refine hR.mono ?_
   rintro e W3 (⟨rfl,a9,a5⟩|⟨rfl,a1⟩)
   ·have a6:W3.cell? ⟨B2,0,none⟩=some (V0 960):=(a5.cell (a:=⟨B2,0,none⟩) hB2).trans a2
    gi_wp2
    go_roundw
    case rel =>
     refine⟨k+1,by omega,?_,by rw[Kz hlt];exact a9,(a3.trans (show Keeps p wr (wr.drewN nq) from⟨At _,fun _ _=>rfl⟩)).trans a5⟩
     exact congrArg V0 M0
    case measure=>simp only[intOf];omega
   ·gi_wp2
    refine bodyPost_ret (results_none rfl _ _ _) rfl ?_
    exact⟨⟨_,rfl⟩,.inr ⟨_,⟨k+1,by omega,by rw[Kz hlt]⟩,a1⟩⟩
  ·obtain rfl:k=bmN n:=by omega
   have b6:=bmN_done (n:=n) rfl
   have b1:¬ (((bmN n*960:Nat):Int)<(n:Int)):=by omega
   rw[Lw] at a0
   have HJ:=Lib.hid a0;clear a0
   gi_wp2
   go_end0
   exact⟨⟨_,rfl⟩,.inl HJ.out⟩
theorem Zeu{α:Type}(l B1 B2:Nat)(J:List α→World→Prop)(W:World){a0:O0}{c0:Nat}(hck:W.cell? ⟨B1,0,none⟩=some (.slice a0 0 c0))(h0:J [] W) :
 CallsIn Fence.wide 3 Tryz.prog 257 #[.func (.yield l) #[] #[],P0 B1,P0 B2] W fun e W'=>(∃ v,e=.returned v)∧J [] W':=by
 refine callsIn_of_wp Tryz.func257 rfl trivial ?_ rfl
 simp only[Tryz.ntmps257,F6,C7,D6,Nat.reduceAdd,Nat.reduceSub,H5,H6,I7,Id,Gt,F5]
 gi_wp2
 gi_loopw [4] (fun i wr=>i=V0 0∧J [] wr∧wr.cell? ⟨B1,0,none⟩=some (.slice a0 0 c0)) (fun _ _=>0)
 case atStart=>exact⟨rfl,h0,hck⟩
 case round =>
  obtain⟨rfl,a1,a2⟩:=hrel
  have HJ:=Lib.hid a1;clear a1
  gi_wp2
  go_end0
  exact⟨⟨_,rfl⟩,HJ.out⟩
theorem Zj8(B1 B2:Nat)(p:Nat→Prop)(b off n cap:Nat)(v:Value)(w:World)(hp:∀ b,p b→b<w.heap.size)(h1:p B1)(h2:p B2)(hlen:n≤1000000)(hv:(n=0∧∃ a c,v=.slice a 0 c)∨v=.slice (some ⟨b,off,none⟩) n cap∧n≤cap)(hck:w.cell? ⟨B1,0,none⟩=some v)(hcn:w.cell? ⟨B2,0,none⟩=some (V0 960)) :
  SeqStopsK Fence.wide 3 Tryz.prog 257 #[P0 B1,P0 B2] (encK b off n) (Keeps p)
   (fun ys=>ys=List.finRange (bmN n)) (fun pre=>∃ k,k≤bmN n∧pre=(List.finRange (bmN n)).take k) (bmN n) w:=fun l J Jx W hW a3 _ hY h0=>by
 have a0:=Fh hW hck
 have a1:=Fh hW hcn
 rcases hv with ⟨rfl,a,c,rfl⟩|⟨rfl,a2⟩
 ·exact(Zeu l B1 B2 J W a0 h0).mono fun e W' ⟨he,hj⟩=>⟨he,.inl ⟨_,rfl,hj⟩⟩
 ·exact Zvg l B1 B2 p b off n cap hlen a2 h1 h2 J Jx hY W a0 a1 a3 h0
end Go.Proofs.YtceeiinepijokaaGreatDoor
namespace Go.Proofs.YtceeiinepijokaaGreatDoor
set_option maxHeartbeats 8000000
set_option maxRecDepth 100000
open Go.RowKit Go.Extern.Stop Go.Stop Go.Extern
set_option linter.unusedVariables false
attribute [local irreducible] wpList wpAnyH Code.wp Oper.wp Go
theorem Zh9(p:O0)(n c:Nat)(w:World) :
 C0 217 #[.slice p n c,V0 960] w (fun e w'=>∃ b1 b2,e=.returned (.func (.func 257) #[] #[P0 b1,P0 b2])∧B3 w w'∧w.heap.size≤b1∧w.heap.size≤b2∧b1≠b2∧Blk w' b1 [.slice p n c] 34∧Blk w' b2 [V0 960] 3):=by
 refine zin 9 Tryz.func217 ?_
 refine xa 2 [.slice p n c] 34 fun b1 W1 n1=>?_
 refine xa 0 [V0 960] 3 fun b2 W2 n2=>?_
 refine xb 6 0 n2.blk ?_
 have k1:=n1.blk.below n2.below
 have hB:=bln n1.below n2.below
 have g1:=n1.ge (B4 w)
 have g2:=n2.ge n1.below
 exact xe 13 (.func (.func 257) #[] #[P0 b1,P0 b2]) ⟨_,_,rfl,hB,g1,g2,(Blk.tne k1 n2.blk Do),k1,n2.blk⟩
end Go.Proofs.YtceeiinepijokaaGreatDoor
namespace Go.Proofs.YtceeiinepijokaaGreatDoor
set_option maxHeartbeats 8000000
set_option maxRecDepth 100000
open Go.RowKit
set_option linter.unusedVariables false
attribute [local go_sem] Oper.semAt_some
def encB(l:List Int)(j:Fin l.length):Array Value:=#[V0 (qOf j:Int),V0 (l[qOf j]?.getD 0)]
theorem back1_in(l Bk:Nat)(p:Nat→Prop)(b off cap:Nat)(zs:List Int)(hlen:zs.length≤9223372036854775807)(hb':zs.length=0∨p b)(hBk:p Bk)(J Jx:List (Fin zs.length)→World→Prop)
  (hY:∀ pre x W,J pre W→pre.length<zs.length→YieldAt Fence.wide 2 Tryz.prog l (encB zs x) W fun e W' =>
   (e=.returned (.bool true)∧J (pre++[x]) W'∧Keeps p W W')∨(e=.returned (.bool false)∧Jx (pre++[x]) W'))
  (W:World) (hck:W.cell? ⟨Bk,0,none⟩=some (.slice (some ⟨b,off,none⟩) zs.length cap))
  (hc:∀ j x,zs[j]? = some x→W.cell? ⟨b,off+j,none⟩=some (V0 x)) (h0:J [] W) :
  CallsIn Fence.wide 3 Tryz.prog 280 #[.func (.yield l) #[] #[],P0 Bk] W fun e W'=>(∃ v,e=.returned v) ∧
   ((∃ ys,ys=List.finRange zs.length∧J ys W')∨(∃ pre,(∃ k,k≤zs.length∧pre=(List.finRange zs.length).take k)∧Jx pre W')):=by
 refine callsIn_of_wp Tryz.func280 rfl trivial ?_ rfl
 simp only[Tryz.ntmps280,F6,C7,D6,Nat.reduceAdd,Nat.reduceSub,H5,H6,I7,Id,Gt,F5]
 gi_wp2
 gi_loopw [3] (fun i wr=>∃ k:Nat,k≤zs.length∧i=V0 ((zs.length:Int)-1-k)∧J ((List.finRange zs.length).take k) wr∧Keeps p W wr)
  (fun i _=>((intOf i)+1).toNat)
 case atStart=>exact⟨0,A3 _,by simp,h0,Keeps.refl _ _⟩
 case round =>
  obtain⟨k,hk,rfl,a1,a5⟩:=hrel
  by_cases hlt:k<zs.length
  ·have hb:p b:=hb'.resolve_left M0
   obtain⟨x,hx⟩:∃ x,zs[zs.length-1-k]? = some x:=⟨zs[zs.length-1-k],by simp⟩
   have b1:=(a5.cell (a:=⟨Bk,0,none⟩) hBk).trans hck
   have b0:=(a5.cell (a:=⟨b,off+(zs.length-1-k),none⟩) hb).trans (hc _ _ hx)
   obtain⟨q,hq⟩:∃ q:Nat,q=zs.length-1-k:=⟨_,rfl⟩
   have a2:((zs.length:Int)-1-k)=(q:Int):=by omega
   have b2:q<zs.length:=by omega
   obtain⟨fn,a6,a4,a8,hy,hR⟩:=hY _ ⟨k,hlt⟩ wr a1 (by rw[Wm hk];exact hlt)
   have hE:encB zs ⟨k,hlt⟩=#[V0 (q:Int),V0 x]:=by
    have e0:zs[q]? = some x:=by rw[hq];exact hx
    have e2:qOf (⟨k,hlt⟩:Fin zs.length)=q:=hq.symm
    simp only[encB,e2,e0,J0]
   rw[hE] at hy
   rw[←hq] at b0
   rw[a2]
   have HQ:=Lib.hid hq;clear hq
   have HI:=Lib.hid a2;clear a2
   have HX:=Lib.hid hx;clear hx
   have HE:=Lib.hid hE;clear hE
   gi_wp2
   refine hR.mono ?_
   rintro e W3 (⟨rfl,a9,a7⟩|⟨rfl,a3⟩)
   ·gi_wp2
    go_roundw
    case rel =>
     refine⟨k+1,by omega,?_,by rw[Kz hlt];exact a9,a5.trans a7⟩
     exact congrArg V0 (by have:=HI.out;omega)
    case measure=>simp[intOf]
   ·gi_wp2
    refine bodyPost_ret (results_none rfl _ _ _) rfl ?_
    exact⟨⟨_,rfl⟩,.inr ⟨_,⟨k+1,by omega,by rw[Kz hlt]⟩,a3⟩⟩
  ·obtain rfl:k=zs.length:=by omega
   have a0:((zs.length:Int)-1-zs.length) = -1:=by omega
   rw[a0]
   clear a0
   rw[Lw] at a1
   have HJ:=Lib.hid a1;clear a1
   gi_wp2
   go_end0
   exact⟨⟨_,rfl⟩,.inl ⟨_,rfl,HJ.out⟩⟩
theorem Zh0{α:Type}(l Bk:Nat)(J:List α→World→Prop)(W:World){a0:O0}{c0:Nat}(hck:W.cell? ⟨Bk,0,none⟩=some (.slice a0 0 c0))(h0:J [] W) :
 CallsIn Fence.wide 3 Tryz.prog 280 #[.func (.yield l) #[] #[],P0 Bk] W fun e W'=>(∃ v,e=.returned v)∧J [] W':=by
 refine callsIn_of_wp Tryz.func280 rfl trivial ?_ rfl
 simp only[Tryz.ntmps280,F6,C7,D6,Nat.reduceAdd,Nat.reduceSub,H5,H6,I7,Id,Gt,F5]
 gi_wp2
 gi_loopw [3] (fun i wr=>i=V0 (-1)∧J [] wr) (fun _ _=>0)
 case atStart=>exact⟨rfl,h0⟩
 case round =>
  obtain⟨rfl,a1⟩:=hrel
  gi_wp2
  go_end0
  exact⟨⟨_,rfl⟩,a1⟩
theorem Zof(Bk:Nat)(p:Nat→Prop)(v:Value)(zs:List Int)(w:World)(hp:∀ b,p b→b<w.heap.size)(hk:p Bk)(hlen:zs.length≤9223372036854775807)(hv:Ints w v zs)
  (hvp:zs.length≠0→∀ b off n cap,v=.slice (some ⟨b,off,none⟩) n cap→p b) (hck:w.cell? ⟨Bk,0,none⟩=some v) :
  SeqStopsK Fence.wide 3 Tryz.prog 280 #[P0 Bk] (encB zs) (Keeps p)
   (fun ys=>ys=List.finRange zs.length) (fun pre=>∃ k,k≤zs.length∧pre=(List.finRange zs.length).take k) zs.length w:=fun l J Jx W hW _ _ hY h0=>by
 have a1:=Fh hW hck
 rcases hv with ⟨a0,c0,rfl,h1,h2⟩|⟨b,off,cap,rfl,a4,a2,a3⟩
 ·obtain rfl:zs=[]:=by simpa using h2
  exact(Zh0 l Bk J W a1 h0).mono fun e W' ⟨he,hj⟩=>⟨he,.inl ⟨_,rfl,hj⟩⟩
 ·refine back1_in l Bk p b off cap zs hlen ?_ hk J Jx hY W a1 (fun j x hj=>Fh hW (a3 j _ (by simp[hj]))) h0
  by_cases h:zs.length=0
  ·exact .inl h
  ·exact .inr (hvp h _ _ _ _ rfl)
end Go.Proofs.YtceeiinepijokaaGreatDoor
namespace Go.Proofs.YtceeiinepijokaaGreatDoor
set_option maxHeartbeats 8000000
set_option maxRecDepth 100000
open Go.RowKit Go.Extern.Stop Go.Stop Go.Extern
set_option linter.unusedVariables false
attribute [local irreducible] wpList wpAnyH Code.wp Oper.wp Go
theorem Zbj(p:O0)(n c:Nat)(w:World) :
 C0 264 #[.slice p n c] w (fun e w'=>∃ b,e=.returned (.func (.func 280) #[] #[P0 b])∧B3 w w'∧w.heap.size≤b∧Blk w' b [.slice p n c] 34):=by
 refine zin 4 Tryz.func264 ?_
 refine xa 2 [.slice p n c] 34 fun b1 W1 n1=>?_
 have g1:=n1.ge (B4 w)
 exact xe 10 (.func (.func 280) #[] #[P0 b1]) ⟨_,rfl,n1.below,g1,n1.blk⟩
end Go.Proofs.YtceeiinepijokaaGreatDoor
namespace Go.Proofs.YtceeiinepijokaaGreatDoor
set_option maxHeartbeats 8000000
set_option maxRecDepth 100000
open Go.RowKit Go.Extern.Stop Go.Stop Go.Extern
set_option linter.unusedVariables false
attribute [local irreducible] wpList wpAnyH Code.wp Oper.wp Go
attribute [local go_sem] Oper.semAt_some
theorem Upd.of_put(w:World)(D:Nat)(o:Obj):Upd w D (w.putObj D o):=⟨rfl,rfl,rfl,by simp[World.putObj],fun k hk=>H1 hk⟩
def Dfr (D:Nat)(w:World):Prop:=w.heap[D]? = some (.deferred (some []))
theorem Dfr.below{D:Nat}{w W:World}(h:Dfr D w)(hb:B3 w W):Dfr D W:=(hb.block D (Array.getElem?_eq_some_iff.1 h).1).trans h
theorem Dfr.ne{D b:Nat}{w:World}{cs:List Value}{t:TypeId}(h:Dfr D w)(k:Blk w b cs t):b≠D:=by
 rintro rfl
 have h':w.heap[b]? = _:=h
 rw[show w.heap[b]? = _ from k] at h'
 cases h'
theorem Dfr.upd{D b:Nat}{w W:World}{cs:List Value}{t:TypeId}(h:Dfr D w)(u:Upd w b W)(k:Blk w b cs t):Dfr D W:=(u.block D fun e=>h.ne k e.symm).trans h
theorem Dfr.row{D:Nat}{w:World}{base e size n:Nat}{v:Value}{xs:List Value}(h:Dfr D w)(k:w.ownsRow base e size v n xs):∀ g,v.ownBlock=some g→g≠D:=by
 rintro g hg rfl
 rcases k.2 with ⟨rfl,_⟩|⟨g',a0,a1,rfl,_,hh,_⟩
 ·cases hg
 ·simp only[Value.ownBlock,A0] at hg
  subst hg
  rw[show w.heap[g']? = _ from h] at hh
  cases hh
theorem Dfr.grown{D:Nat}{w W:World}{base e size n:Nat}{v:Value}{xs:List Value}(h:Dfr D w)(hg:w.grownBy W v.ownBlock)(k:w.ownsRow base e size v n xs):Dfr D W :=
 (hg.block D (Array.getElem?_eq_some_iff.1 h).1 fun q=>h.row k D q.symm rfl).trans h
theorem Zhq{P:Program}{fn:Func}{R:Ending→World→Prop}{a:Act}{w:World}{D:Nat}(hK:Dfr D w)(v:Value)(hd:a.defers=[{ target:=.collected D,args:=#[] }])(hr:(results fn a.tmps).run P (w.putObj D (.deferred none))=.ok v (w.putObj D (.deferred none)))(h:R (.returned v) (w.putObj D (.deferred none))):bodyPostM Fence.wide 4 P fn R .normal a w :=
 by
 show LeavesInM _ _ _ _ a.tmps R a.defers .returning w
 rw[hd]
 exact⟨by simp,.inl ⟨_,_,rfl,run_takeDeferred hK,_,hr,h⟩⟩
def noPan(Q:Exit→Act→World→Prop):Exit→Act→World→Prop
 | .normal,a,w=>Q .normal a w
 | .ret,a,w=>Q .ret a w
 | _,_,_=>False
theorem Zk5{P:Program}{c:Code}{Q:Exit→Act→World→Prop}{a:Act}{w:World}(h:c.wp P (noPan Q) a w):c.wp P Q a w:=wp_mono h fun e a w q=>by cases e<;>first|exact q|exact q.elim
theorem Xo{w:World}{base size n b:Nat}{e t:TypeId}{v:Value}{xs cs:List Value}(k:w.ownsRow base e size v n xs)(q:Blk w b cs t)(hne:e≠t):∀ g,v.ownBlock=some g→g≠b:=by
 rintro g hg rfl
 rcases k.2 with ⟨rfl,_⟩|⟨g',a0,a1,rfl,_,hh,_⟩
 ·cases hg
 ·simp only[Value.ownBlock,A0] at hg
  subst hg
  rw[show w.heap[g']? = _ from q] at hh
  simp only[A0,Obj.cells.injEq] at hh
  exact hne hh.2.1.symm
theorem Ly{w W:World}(h:B3 w W):KeepsOthers w W:=⟨h.size,fun b o hb _=>(h.block b (Array.getElem?_eq_some_iff.1 hb).1).trans hb⟩
theorem Zc5{w W:World}{b:Nat}{cs:List Value}{t:TypeId}(u:Upd w b W)(k:Blk w b cs t):KeepsOthers w W:=⟨M8 u.size.symm,fun d o hd ho=>(u.block d (by rintro rfl;rw[show w.heap[d]? = _ from k] at hd;cases hd;cases ho)).trans hd⟩
theorem Dfr.only_new{T:List TypeId}{a w W:World}{b:Nat}(h:Ze T a w)(hbb:BelowBut w b W)(hb:a.heap.size≤b):Ze T a W:=fun k cs t fr hk ht=>by
 have h0:=(Array.getElem?_eq_some_iff.1 hk).1
 have h1:=h k cs t fr hk ht
 rw[hbb.block k (Array.getElem?_eq_some_iff.1 h1).1 M0];exact h1
theorem BelowBut.own3{w W:World}{b base size n:Nat}{e:TypeId}{v:Value}{xs:List Value}(h:BelowBut w b W)(k:w.ownsRow base e size v n xs)(hs:∀ j,v.ownBlock=some j→j≠b):W.ownsRow base e size v n xs:=by
 obtain⟨h1,h2⟩:=k
 refine⟨h1,?_⟩
 rcases h2 with h2|⟨g,a0,a1,rfl,hg,hh,r⟩
 ·exact Or.inl h2
 ·exact Or.inr ⟨g,a0,a1,rfl,hg,by rw[h.block g (Array.getElem?_eq_some_iff.1 hh).1 (hs g rfl)];exact hh,r⟩
theorem Zaw{β:Type}{w:World}{b B:Nat}(hB:w.heap.size≤B):OwnFrom B (fun(_:β) W=>BelowBut w b W):=fun _ W W' a1 hs hg hr =>
 ⟨hg.os.trans hs.os,hg.tape.trans hs.tape,hg.output.trans hs.output,N0 hs.size hg.size,fun k hk a0=>(hg.block k (D4 hk hs.size) (fun e=>by have:=(hr k e.symm).1;omega)).trans (hs.block k hk a0)⟩
theorem Kr.turn{A B:World}{row:Option Nat}{l:List (Option Int)}{c:Option Int}{v:Value}(h:Kr A l c v)(hg:A.grownBy B row)(hr:∀ r,row=some r→∃ o:Obj,A.heap[r]? = some o∧o.isCells=false):Kr B l c v:=h.kept fun _ _ k=>k.turn hg hr
def atW (way:List Int)(pre:List (Fin way.length))(bs:List Int):List Int:=(pre.map fun j=>way[qOf j]?.getD 0).reverse++bs
theorem atW_snoc(way:List Int)(pre:List (Fin way.length))(x:Fin way.length)(bs:List Int):atW way (pre++[x]) bs=(way[qOf x]?.getD 0)::atW way pre bs:=by simp[atW]
theorem atW_all(way bs:List Int):atW way (List.finRange way.length) bs=way++bs:=by
 unfold atW
 congr 1
 apply F4
 ·simp
 ·intro i h1 h2
  simp only[List.length_reverse,A6,List.length_finRange] at h1
  rw[List.getElem_reverse,List.getElem_map]
  simp only[A6,List.length_finRange,List.getElem_finRange,qOf]
  have e:way.length-1-(way.length-1-i)=i:=by omega
  simp[e,h2]
theorem Kr.one{w:World}{l:List (Option Int)}{c:Option Int}{v:Value}(h:Kr w l c v):v.oneCell'=true:=by
 rcases h.nil_or with ⟨_,rfl⟩|⟨_,t,x,rfl⟩<;>rfl
theorem Kr.iface{w:World}{l:List (Option Int)}{c:Int}{v:Value}(h:Kr w l (some c) v):∃ t x,v=.iface t x:=by
 rcases h.nil_or with ⟨q,_⟩|⟨_,q⟩
 ·simp[Fy] at q
 ·exact q
theorem Ks{b c:Int}{l:List (Option Int)}:atL b l (some c)=some b::l:=by simp[atL,Fy]
theorem Zjb{v:Value}(h:v.oneCell'=true):∀ u∈[v],u.oneCell'=true:=by simpa using h
def NoteP(B bw:Nat)(c0 c1 c2 c3 c5 c6 c7 c8 c9:Value)(nf:Nat)(fs:List Value)(l:List Int)(ec:Int)(w:World)(e:Ending)(w':World):Prop :=
 ∃ u p c ty x,e=.returned u∧Below B w w'∧Ze [306,28] w w'∧Blk w' bw [c0,c1,c2,c3,.slice p (nf+1) c,c5,c6,c7,c8,c9] 306∧w'.ownsRow B 28 1 (.slice p (nf+1) c) (nf+1) (fs++[.iface ty x])∧Kr w' (l.map some) (some ec) (.iface ty x)
theorem Dw(B bw:Nat)(c0 c1 c2 c3 c5 c6 c7 c9:Value)(pf:O0)(nf cf:Nat)(fs:List Value)(pw:O0)(cw:Nat)(way bs:List Int)(ec:Int)(ty:TypeId)(ev:Value)(w:World)(hBb:B≤bw)(hBw:B≤w.heap.size)(kW:Blk w bw [c0,c1,c2,c3,.slice pf nf cf,c5,c6,c7,.slice pw way.length cw,c9] 306)(hF:w.ownsRow B 28 1 (.slice pf nf cf) nf fs)(hway:w.ownsRow B 3 1 (.slice pw way.length cw) way.length (way.map V0))(hE:Kr w (bs.map some) (some ec) (.iface ty ev))(hwl:way.length≤100000000)(hnf:nf≤100000000) :
 C0 231 #[P0 bw,.iface ty ev] w (NoteP B bw c0 c1 c2 c3 c5 c6 c7 (.slice pw way.length cw) c9 nf fs (way++bs) ec w):=by
 refine Jf Tryz.func231 rfl ?_
 refine Zls ⟨#[P0 bw,.iface ty ev,undef,undef,undef,undef,undef,undef,undef,undef,undef,undef,undef,undef,undef,undef,undef,undef,undef,undef,undef,undef,undef,undef,undef,undef,undef,undef],[]⟩ K0 ?_
 refine wp_seq ?_
 refine wp_region_lit ?_
 refine Yx K0 (Rf [.iface ty ev] rfl K0 ?_)
 intro b1 W1 n1
 have d1_bw:=n1.ne kW
 have g1:=n1.ge0 (Below.refl B _)
 have r1_hF:=Zu hF n1
 have hO:Ze [306,28] w _:=(Q0 n1.below)
 have hB:=blB (Below.refl B w) hBw n1.below
 replace kW:=kW.below n1.below
 replace hF:=Zb hF n1.below
 replace hway:=Zb hway n1.below
 replace hE:=hE.below n1.below
 have k1:=n1.blk
 refine wpList_nil ?_
 refine wp_seq ?_
 refine wp_seq ?_
 refine wp_region_lit ?_
 refine Vn 3 [(6,P0 bw),(7,P0 bw),(8,.pointer (some ⟨bw,8,none⟩))] K0 ?_
 refine Yx K0 (Ys ⟨bw,8,none⟩ (.slice pw way.length cw) rfl K0 K0 (kW.cell (i:=8) rfl) ?_)
 have lt2_bw:=kW.lt
 have lt2_b1:=k1.lt
 have hs2:w.heap.size≤(W1).heap.size:=hB.size
 refine Yx K0 (Yu (lb:=#[]) 264 #[.slice pw way.length cw] rfl K0 (fun _ _=>by kernel_rfl) K0 ((Zbj pw way.length cw _).mono ?_))
 rintro e W2 ⟨bk2,rfl,hb2,hg2,kk2⟩
 refine⟨_,rfl,?_⟩
 replace hO:=hO.trans (Q0 hb2)
 replace hB:=blB hB hBw hb2
 replace kW:=kW.below hb2
 replace k1:=k1.below hb2
 replace hF:=Zb hF hb2
 replace hway:=Zb hway hb2
 replace hE:=hE.below hb2
 have gb2:w.heap.size≤bk2:=N0 hs2 hg2
 have nb2_bw:bk2≠bw:=by omega
 have nb2_b1:bk2≠b1:=by omega
 refine wpList_nil ?_
 refine wp_block ?_
 have hzk:=kk2.lt
 have hz3:=k1.lt
 have hst:=Zof bk2 (fun b=>b<W2.heap.size∧b≠b1) (.slice pw way.length cw) way W2 (fun b h=>h.1) ⟨hzk,nb2_b1⟩ M0 (Zg hway) (fun _ b off n cap q=>by cases q;exact⟨(hway.lt b rfl).2,Xo hway k1 Do b rfl⟩) (kk2.cell (i:=0) rfl)
 refine Zls ⟨#[P0 bw,.iface ty ev,undef,P0 b1,undef,undef,P0 bw,P0 bw,.pointer (some ⟨bw,8,none⟩),.slice pw way.length cw,.func (.func 280) #[] #[P0 bk2],undef,undef,undef,undef,undef,undef,undef,undef,undef,undef,undef,undef,undef,undef,undef,undef,undef],[]⟩ K0 ?_
 refine Zeo (g:=.tmp 10) (gf:=280) (lb:=#[P0 bk2]) rfl (enters_of Tryz.func280 K0 rfl) _ (fun b h=>h.1) hst (fun _=>rfl)
  (fun pre W=>(∃ v',Blk W b1 [v'] 28∧Kr W ((atW way pre bs).map some) (some ec) v')∧BelowBut W2 b1 W)
  (fun _ _ _=>False) ?own (fun _ _ _ _ _ h _ _=>h) ⟨⟨_,k1,hE⟩,(Below.refl _ _).but _⟩
  (fun x a' _=>a'={ tmps:=#[P0 bw,.iface ty ev,undef,P0 b1,undef,V0 (way[qOf x]?.getD 0),P0 bw,P0 bw,.pointer (some ⟨bw,8,none⟩),.slice pw way.length cw,.func (.func 280) #[] #[P0 bk2],V0 (qOf x:Int),V0 (way[qOf x]?.getD 0),undef,undef,undef,undef,undef,undef,undef,undef,undef,undef,undef,undef,undef,undef,undef],defers:=[] }) (fun _ _ _ _ _ _ h _ _=>h) ?assign ?body ?done (fun _ _ _ _ _ _ h _=>h.elim)
 case own=>exact OwnFrom.and (Own.from (fun s A B row hs hg hr=>by obtain⟨v',h1,h2⟩:=hs;exact⟨v',h1.turn hg hr,h2.turn hg hr⟩) _) (Zaw (At _))
 case assign =>
  rintro lr pre x W K hI hK
  unfold encB
  gi_wp2
  exact hK _ _ (KeepsFrom.refl _ _) (Keeps.refl _ _) hI rfl
 case body =>
  rintro lr pre x a' W hlr ⟨⟨v',m3,hv'⟩,hbb⟩ rfl hlt
  have mc:=m3.cell (i:=0) rfl
  gi_wp2_with (refine⟨trivial,?_⟩;gi_at_call 61;refine(CallsIn.inRound lr (callsIn_wide.2 (Vu _ _ _ _ _ hv'))).mono ?_;rintro e w2 ⟨r2,rfl,hb2,hE2⟩;obtain⟨t2,x2,rfl⟩:=hE2.iface;have m4:=m3.below hb2;have mg:=m4.frozen 0;have md:=m4.cell (i:=0) rfl)
  have hb2s:=hb2.size
  have u2:=Upd.setCell w2 b1 0 (.iface t2 x2)
  exact⟨((Ly hb2).trans (KeepsOthers.setCell _ _ _)).from _,Keeps.setCell (Keeps.of_below hb2 (fun b hb=>by have:=hbb.size;have:=hb.1;omega)) (fun hb=>hb.2 rfl) _,⟨_,m4.set 0 _,by rw[atW_snoc,D7,←Ks (c:=ec)];exact(hE2.upd u2 m4 Do)⟩,(hbb.next hb2).upd u2⟩
 case done =>
 rintro D xs W hD rfl ⟨⟨v',m3,hv'⟩,hbb⟩ hK0
 rw[atW_all] at hv'
 have hK:Dfr D W:=hK0;clear hK0
 refine Zk5 ?_
 refine Zls ⟨#[P0 bw,.iface ty ev,undef,P0 b1,undef,undef,P0 bw,P0 bw,.pointer (some ⟨bw,8,none⟩),.slice pw way.length cw,.func (.func 280) #[] #[P0 bk2],undef,undef,undef,undef,undef,undef,undef,undef,undef,undef,undef,undef,undef,undef,undef,undef,undef],[{ target:=.collected D,args:=#[] }]⟩ K0 ?_
 have hv1:=hv'.one
 obtain⟨ty',x',rfl⟩:=hv'.iface
 have hDB:w.heap.size≤D:=N0 (N0 (by have:=hz3;have:=g1;omega) (At _)) hD
 replace kW:=hbb.blk kW d1_bw
 replace kk2:=hbb.blk kk2 nb2_b1
 replace hF:=hbb.own3 hF r1_hF
 replace hway:=hbb.own2 hway k1 Do
 have hB0:=hB
 replace hB:=hbb.below hB (N0 hBw g1) (N0 hBw hB0.size)
 replace hO:=Dfr.only_new hO hbb g1
 replace k1:=m3
 replace hO:=hO.trans (Q0 (Za W))
 replace hB:=blB hB hBw (Za W)
 replace kW:=kW.below (Za W)
 replace k1:=k1.below (Za W)
 replace kk2:=kk2.below (Za W)
 replace hF:=Zb hF (Za W)
 replace hway:=Zb hway (Za W)
 replace hv':=hv'.below (Za W)
 replace hK:=hK.below (Za W)
 refine h_reg (Below B (W.drew)) 13 rfl #[false,false,false,false,false,false,false,false,false,false,false,false,false] rfl K0 (Below.refl _ _) ?_
 intro hS3
 have hBd5:=hB
 have kd5_bw:=kW
 have kd5_b1:=k1
 have kd5_bk2:=kk2
 have hOd5:=hO
 refine Ztr [0,1,2,3,4] 8 rfl #[true,true,true,true,true,false,false,false,false,false,false,false,false] [(16,P0 bw),(17,P0 bw),(18,P0 bw),(19,P0 bw),(20,.pointer (some ⟨bw,4,none⟩))] K0 (fun _ _ _ _ _ h=>h) K0 hS3 ?_
 refine Ztg 5 6 7 rfl K0 rfl rfl K0 K0 ?_ ?_
 ·refine Ys ⟨bw,4,none⟩ (.slice pf nf cf) rfl K0 K0 (kW.cell (i:=4) rfl) ?_
  have hS6:Below B (W.drew) (W.drew):=hS3
  refine⟨hS6,?_⟩
  refine Ur 6 6 rfl K0 rfl K0 (Ys ⟨b1,0,none⟩ (.iface ty' x') rfl K0 K0 (k1.cell (i:=0) rfl) ?_)
  have hS7:Below B (W.drew) (W.drew):=hS6
  refine⟨hS7,?_⟩
  refine Ur 7 5 rfl K0 rfl K0 (Yq 28 [.iface ty' x'] rfl K0 ?_)
  intro b8 W8 n8
  have d8_bw:=n8.ne kW
  have d8_b1:=n8.ne k1
  have d8_bk2:=n8.ne kk2
  have g8:=n8.ge0 hB
  have r8_hF:=Zu hF n8
  replace hO:=hO.trans (Q0 n8.below)
  replace hB:=blB hB hBw n8.below
  replace kW:=kW.below n8.below
  replace k1:=k1.below n8.below
  replace kk2:=kk2.below n8.below
  replace hF:=Zb hF n8.below
  replace hway:=Zb hway n8.below
  replace hv':=hv'.below n8.below
  replace hK:=hK.below n8.below
  have k8:=n8.blk
  have hS9:Below B (W.drew) (W8):=blB hS7 (N0 hBw hBd5.size) n8.below
  refine⟨hS9,?_⟩
  refine Ur 8 4 rfl K0 rfl K0 (Xi (e:=28) (n:=nf) (xs:=fs) (m:=1) (news:=[.iface ty' x']) (.nilIface) 1 16 (nf+1) (fs++[.iface ty' x']) rfl Tryz.underlying124 K0 rfl Do K0 hF K0 (k8.sl 1 1 Do Do) rfl (Zjb hv1) (by unfold maxLen;omega) M0 (N0 hBw hB.size) (by simp) (by simp) ?_)
  intro p10 c10 W10 o10 hg10 hb10
  replace hO:=hO.trans (Q4 hg10 hF Do)
  replace kW:=kW.grown hg10 hF Do
  replace k1:=k1.grown3 hg10 r1_hF
  replace kk2:=kk2.grown hg10 hF Do
  replace hway:=Xe hway hg10 hF Do
  replace hv':=hv'.grown hg10 hF Do
  replace hK:=hK.grown hg10 hF
  replace hB:=hB.trans hb10
  have hS11:Below B (W.drew) (W10):=hS9.trans hb10
  refine⟨hS11,?_⟩
  refine Ztr [9,10,11] 1 rfl #[true,true,true,true,true,true,true,true,true,true,true,true,false] [(25,P0 bw),(26,P0 bw),(27,.pointer (some ⟨bw,4,none⟩))] K0 (fun _ _ _ _ _ h=>h) K0 hS11 ?_
  refine Ur 12 0 rfl K0 rfl K0 (Yr (v:=.slice p10 (nf+1) c10) (b:=bw) (off:=4) rfl K0 K0 K0 rfl kW (by first|decide|simp) ?_)
  intro W12 u12 k12
  change Blk _ _ [c0,c1,c2,c3,.slice p10 (nf+1) c10,c5,c6,c7,.slice pw way.length cw,c9] _ at k12
  replace hO:=hO.trans (Q1 u12 kW Do)
  replace hB:=u12.below hB hBb
  replace k1:=u12.blk k1 (S3 d1_bw)
  replace kk2:=u12.blk kk2 nb2_bw
  replace hway:=u12.own2 hway kW Do
  replace hv':=hv'.upd u12 kW Do
  replace hK:=hK.upd u12 kW
  replace o10:=u12.own2 o10 kW Do
  have hS13:Below B (W.drew) (W12):=u12.below hS11 hBb
  refine⟨hS13,?_⟩
  refine Th _ K0 ?_
  exact Zhq hK (.tuple #[]) K0 K0 ⟨_,_,_,_,_,rfl,(Upd.of_put _ _ _).below hB (N0 hBw hDB),Ze.upd_new hO (Upd.of_put _ _ _) hDB,(Upd.of_put _ _ _).blk k12 (hK.ne k12),(Upd.of_put _ _ _).own3 o10 (hK.row o10),hv'.kept fun _ _ q=>(Upd.of_put _ _ _).blk q (hK.ne q)⟩
 ·refine Ys ⟨b1,0,none⟩ (.iface ty' x') rfl K0 K0 (k1.cell (i:=0) rfl) ?_
  have hS14:Below B (W.drew) (W.drew):=hS3
  refine⟨hS14,?_⟩
  refine Ztg 5 7 6 rfl K0 rfl rfl K0 K0 ?_ ?_
  ·refine Ys ⟨bw,4,none⟩ (.slice pf nf cf) rfl K0 K0 (kW.cell (i:=4) rfl) ?_
   have hS15:Below B (W.drew) (W.drew):=hS14
   refine⟨hS15,?_⟩
   refine Ur 7 5 rfl K0 rfl K0 (Yq 28 [.iface ty' x'] rfl K0 ?_)
   intro b16 W16 n16
   have d16_bw:=n16.ne kW
   have d16_b1:=n16.ne k1
   have d16_bk2:=n16.ne kk2
   have g16:=n16.ge0 hB
   have r16_hF:=Zu hF n16
   replace hO:=hO.trans (Q0 n16.below)
   replace hB:=blB hB hBw n16.below
   replace kW:=kW.below n16.below
   replace k1:=k1.below n16.below
   replace kk2:=kk2.below n16.below
   replace hF:=Zb hF n16.below
   replace hway:=Zb hway n16.below
   replace hv':=hv'.below n16.below
   replace hK:=hK.below n16.below
   have k16:=n16.blk
   have hS17:Below B (W.drew) (W16):=blB hS15 (N0 hBw hBd5.size) n16.below
   refine⟨hS17,?_⟩
   refine Ur 8 4 rfl K0 rfl K0 (Xi (e:=28) (n:=nf) (xs:=fs) (m:=1) (news:=[.iface ty' x']) (.nilIface) 1 16 (nf+1) (fs++[.iface ty' x']) rfl Tryz.underlying124 K0 rfl Do K0 hF K0 (k16.sl 1 1 Do Do) rfl (Zjb hv1) (by unfold maxLen;omega) M0 (N0 hBw hB.size) (by simp) (by simp) ?_)
   intro p18 c18 W18 o18 hg18 hb18
   replace hO:=hO.trans (Q4 hg18 hF Do)
   replace kW:=kW.grown hg18 hF Do
   replace k1:=k1.grown3 hg18 r1_hF
   replace kk2:=kk2.grown hg18 hF Do
   replace hway:=Xe hway hg18 hF Do
   replace hv':=hv'.grown hg18 hF Do
   replace hK:=hK.grown hg18 hF
   replace hB:=hB.trans hb18
   have hS19:Below B (W.drew) (W18):=hS17.trans hb18
   refine⟨hS19,?_⟩
   refine Ztr [9,10,11] 1 rfl #[true,true,true,true,true,true,true,true,true,true,true,true,false] [(25,P0 bw),(26,P0 bw),(27,.pointer (some ⟨bw,4,none⟩))] K0 (fun _ _ _ _ _ h=>h) K0 hS19 ?_
   refine Ur 12 0 rfl K0 rfl K0 (Yr (v:=.slice p18 (nf+1) c18) (b:=bw) (off:=4) rfl K0 K0 K0 rfl kW (by first|decide|simp) ?_)
   intro W20 u20 k20
   change Blk _ _ [c0,c1,c2,c3,.slice p18 (nf+1) c18,c5,c6,c7,.slice pw way.length cw,c9] _ at k20
   replace hO:=hO.trans (Q1 u20 kW Do)
   replace hB:=u20.below hB hBb
   replace k1:=u20.blk k1 (S3 d1_bw)
   replace kk2:=u20.blk kk2 nb2_bw
   replace hway:=u20.own2 hway kW Do
   replace hv':=hv'.upd u20 kW Do
   replace hK:=hK.upd u20 kW
   replace o18:=u20.own2 o18 kW Do
   have hS21:Below B (W.drew) (W20):=u20.below hS19 hBb
   refine⟨hS21,?_⟩
   refine Th _ K0 ?_
   exact Zhq hK (.tuple #[]) K0 K0 ⟨_,_,_,_,_,rfl,(Upd.of_put _ _ _).below hB (N0 hBw hDB),Ze.upd_new hO (Upd.of_put _ _ _) hDB,(Upd.of_put _ _ _).blk k20 (hK.ne k20),(Upd.of_put _ _ _).own3 o18 (hK.row o18),hv'.kept fun _ _ q=>(Upd.of_put _ _ _).blk q (hK.ne q)⟩
  ·refine Yq 28 [.iface ty' x'] rfl K0 ?_
   intro b22 W22 n22
   have d22_bw:=n22.ne kW
   have d22_b1:=n22.ne k1
   have d22_bk2:=n22.ne kk2
   have g22:=n22.ge0 hB
   have r22_hF:=Zu hF n22
   replace hO:=hO.trans (Q0 n22.below)
   replace hB:=blB hB hBw n22.below
   replace kW:=kW.below n22.below
   replace k1:=k1.below n22.below
   replace kk2:=kk2.below n22.below
   replace hF:=Zb hF n22.below
   replace hway:=Zb hway n22.below
   replace hv':=hv'.below n22.below
   replace hK:=hK.below n22.below
   have k22:=n22.blk
   have hS23:Below B (W.drew) (W22):=blB hS14 (N0 hBw hBd5.size) n22.below
   refine⟨hS23,?_⟩
   refine Ur 5 5 rfl K0 rfl K0 (Ys ⟨bw,4,none⟩ (.slice pf nf cf) rfl K0 K0 (kW.cell (i:=4) rfl) ?_)
   have hS24:Below B (W.drew) (W22):=hS23
   refine⟨hS24,?_⟩
   refine Ur 8 4 rfl K0 rfl K0 (Xi (e:=28) (n:=nf) (xs:=fs) (m:=1) (news:=[.iface ty' x']) (.nilIface) 1 16 (nf+1) (fs++[.iface ty' x']) rfl Tryz.underlying124 K0 rfl Do K0 hF K0 (k22.sl 1 1 Do Do) rfl (Zjb hv1) (by unfold maxLen;omega) M0 (N0 hBw hB.size) (by simp) (by simp) ?_)
   intro p25 c25 W25 o25 hg25 hb25
   replace hO:=hO.trans (Q4 hg25 hF Do)
   replace kW:=kW.grown hg25 hF Do
   replace k1:=k1.grown3 hg25 r1_hF
   replace kk2:=kk2.grown hg25 hF Do
   replace hway:=Xe hway hg25 hF Do
   replace hv':=hv'.grown hg25 hF Do
   replace hK:=hK.grown hg25 hF
   replace hB:=hB.trans hb25
   have hS26:Below B (W.drew) (W25):=hS24.trans hb25
   refine⟨hS26,?_⟩
   refine Ztr [9,10,11] 1 rfl #[true,true,true,true,true,true,true,true,true,true,true,true,false] [(25,P0 bw),(26,P0 bw),(27,.pointer (some ⟨bw,4,none⟩))] K0 (fun _ _ _ _ _ h=>h) K0 hS26 ?_
   refine Ur 12 0 rfl K0 rfl K0 (Yr (v:=.slice p25 (nf+1) c25) (b:=bw) (off:=4) rfl K0 K0 K0 rfl kW (by first|decide|simp) ?_)
   intro W27 u27 k27
   change Blk _ _ [c0,c1,c2,c3,.slice p25 (nf+1) c25,c5,c6,c7,.slice pw way.length cw,c9] _ at k27
   replace hO:=hO.trans (Q1 u27 kW Do)
   replace hB:=u27.below hB hBb
   replace k1:=u27.blk k1 (S3 d1_bw)
   replace kk2:=u27.blk kk2 nb2_bw
   replace hway:=u27.own2 hway kW Do
   replace hv':=hv'.upd u27 kW Do
   replace hK:=hK.upd u27 kW
   replace o25:=u27.own2 o25 kW Do
   have hS28:Below B (W.drew) (W27):=u27.below hS26 hBb
   refine⟨hS28,?_⟩
   refine Th _ K0 ?_
   exact Zhq hK (.tuple #[]) K0 K0 ⟨_,_,_,_,_,rfl,(Upd.of_put _ _ _).below hB (N0 hBw hDB),Ze.upd_new hO (Upd.of_put _ _ _) hDB,(Upd.of_put _ _ _).blk k27 (hK.ne k27),(Upd.of_put _ _ _).own3 o25 (hK.row o25),hv'.kept fun _ _ q=>(Upd.of_put _ _ _).blk q (hK.ne q)⟩
end Go.Proofs.YtceeiinepijokaaGreatDoor
namespace Go.Proofs.YtceeiinepijokaaGreatDoor
set_option maxHeartbeats 8000000
set_option maxRecDepth 100000
open Go.RowKit
set_option linter.unusedVariables false
theorem Znb{A B:World}{row:Option Nat}{base size n:Nat}{e:TypeId}{v:Value}{xs:List Value}(k:A.ownsRow base e size v n xs)(hg:A.grownBy B row)(hr:∀ r,row=some r→∃ o:Obj,A.heap[r]? = some o∧o.isCells=false):B.ownsRow base e size v n xs:=by
 obtain⟨h1,h2⟩:=k
 refine⟨h1,?_⟩
 rcases h2 with h2|⟨g,a0,a1,hv,hb,hh,r⟩
 ·exact Or.inl h2
 ·refine Or.inr ⟨g,a0,a1,hv,hb,?_,r⟩
  rw[hg.block g (Array.getElem?_eq_some_iff.1 hh).1 (fun q=>by
   obtain⟨o,ho,hc⟩:=hr g q.symm
   rw[hh] at ho
   cases ho
   cases hc)]
  exact hh
theorem Lists.turn{A B:World}{row:Option Nat}{base:Nat}{v:Value}{gs:List (Nat×Nat)}{L:List (List Int)}(h:Lists A base v gs L)(hg:A.grownBy B row)(hr:∀ r,row=some r→∃ o:Obj,A.heap[r]? = some o∧o.isCells=false):Lists B base v gs L:=⟨Znb h.row hg hr,fun i hi=>Znb (h.each i hi) hg hr⟩
structure RdZ(w0:World)(b:Nat)(W V:World):Prop where
 bb:BelowBut w0 b V
 ko:KeepsOthers W V
 fr:∀ k,k<w0.heap.size→k≠b→V.heap[k]? = W.heap[k]?
 le:W.heap.size≤V.heap.size
theorem RdZ.refl{w0 W:World}{b:Nat}(h:BelowBut w0 b W):RdZ w0 b W W:=⟨h,⟨At _,fun _ _ h _=>h⟩,fun _ _ _=>rfl,At _⟩
theorem RdZ.below{w0 W V U:World}{b:Nat}(h:RdZ w0 b W V)(hb:Below V.heap.size V U):RdZ w0 b W U :=
 ⟨h.bb.next hb,h.ko.trans (Ly hb),fun k hk hn=>(hb.block k (D4 hk h.bb.size)).trans (h.fr k hk hn),N0 h.le hb.size⟩
theorem RdZ.upd{w0 W V U:World}{b:Nat}{cs:List Value}{t:TypeId}(h:RdZ w0 b W V)(u:Upd V b U)(k:Blk V b cs t):RdZ w0 b W U :=
 ⟨h.bb.upd u,h.ko.trans (Zc5 u k),fun k hk hn=>(u.block k hn).trans (h.fr k hk hn),N0 h.le (M8 u.size.symm)⟩
theorem RdZ.grown{w0 W V U:World}{b size n:Nat}{e:TypeId}{v:Value}{xs:List Value}(h:RdZ w0 b W V)(hg:V.grownBy U v.ownBlock)(k:V.ownsRow w0.heap.size e size v n xs):RdZ w0 b W U :=
 ⟨⟨hg.os.trans h.bb.os,hg.tape.trans h.bb.tape,hg.output.trans h.bb.output,N0 h.bb.size hg.size,fun i hi hn=>(hg.block i (D4 hi h.bb.size) (fun e=>by have:=(k.lt i e.symm).1;omega)).trans (h.bb.block i hi hn)⟩,
  ⟨N0 h.ko.size hg.size,fun i o hi ho=>by
   have h1:=h.ko.same i o hi ho
   rw[hg.block i (Array.getElem?_eq_some_iff.1 h1).1 (fun q=>by
    rcases k.2 with ⟨rfl,_⟩|⟨g,a0,a1,rfl,_,hh,_⟩
    ·cases q
    ·simp only[Value.ownBlock,A0] at q
     subst q
     rw[hh] at h1
     cases h1
     cases ho)]
   exact h1⟩,
  fun i hi hn=>(hg.block i (D4 hi h.bb.size) (fun e=>by have:=(k.lt i e.symm).1;omega)).trans (h.fr i hi hn),N0 h.le hg.size⟩
theorem row_or{w:World}{base e n c:Nat}{p:O0}{xs:List Value}(k:w.ownsRow base e 1 (.slice p n c) n xs):∃ g,(n=0∧∃ a c',Value.slice p n c=.slice a 0 c')∨Value.slice p n c=.slice (S1 g) n c∧n≤c:=by
 rcases k.2 with ⟨h,_⟩|⟨g,a0,a1,hv,_,_,hc,_⟩
 ·simp only[C2] at h
  exact⟨0,.inl ⟨h.2.1,none,0,by rw[h.1,h.2.1,h.2.2]⟩⟩
 ·simp only[C2] at hv
  obtain⟨rfl,_,rfl⟩:=hv
  exact⟨g,.inr ⟨rfl,hc⟩⟩
def Zry(w:World)(base:Nat)(gs:List (Nat×Nat))(L:List (List Int)):Prop:=∀ i,i<L.length→w.ownsRow base 3 1 (Of gs L i) (L.getD i []).length ((L.getD i []).map V0)
theorem Zry.below{w W:World}{base:Nat}{gs:List (Nat×Nat)}{L:List (List Int)}(h:Zry w base gs L)(hb:B3 w W):Zry W base gs L:=fun i hi=>Zb (h i hi) hb
theorem Zry.only{T:List TypeId}{w W:World}{base:Nat}{gs:List (Nat×Nat)}{L:List (List Int)}(h:Zry w base gs L)(hO:Ze T w W)(hT:T.contains 3=false):Zry W base gs L:=fun i hi=>Zi (h i hi) hO hT
theorem Ay{gs:List (Nat×Nat)}{L:List (List Int)}{g c i:Nat}{ch:List Int}(hg:gs.length=L.length)(hi:i<L.length):Of (gs++[(g,c)]) (L++[ch]) i=Of gs L i:=by
 unfold Of
 simp[List.getD,Ge,hi,hg]
theorem Aq{gs:List (Nat×Nat)}{L:List (List Int)}{g c:Nat}{ch:List Int}(hg:gs.length=L.length):Of (gs++[(g,c)]) (L++[ch]) L.length=.slice (S1 g) ch.length c:=by
 unfold Of
 rw[show(gs++[(g,c)]).getD L.length (0,0)=(g,c) from by rw[←hg];simp[List.getD],show(L++[ch]).getD L.length []=ch from by simp[List.getD]]
theorem Lists.snoc{w:World}{base g c n:Nat}{v:Value}{gs:List (Nat×Nat)}{L:List (List Int)}{ch:List Int}(hn:n=L.length+1)(hrow:w.ownsRow base 34 1 v n ((List.range L.length).map (Of gs L)++[.slice (S1 g) ch.length c]))(he:Zry w base gs L)(hnew:w.ownsRow base 3 1 (.slice (S1 g) ch.length c) ch.length (ch.map V0))(hg:gs.length=L.length):Lists w base v (gs++[(g,c)]) (L++[ch]):=by
 subst hn
 refine⟨?_,fun i hi=>?_⟩
 ·rw[show(L++[ch]).length=L.length+1 from by simp,C3,B5]
  rw[show(List.range L.length).map (Of (gs++[(g,c)]) (L++[ch]))=(List.range L.length).map (Of gs L) from H9 fun i hi=>Ay hg (B9.1 hi),List.map_singleton,Aq hg]
  exact hrow
 ·by_cases h:i<L.length
  ·rw[Ay hg h,show(L++[ch]).getD i []=L.getD i [] from by simp[List.getD,Ge,h]]
   exact he i h
  ·obtain rfl:i=L.length:=by simp at hi;omega
   rw[Aq hg,show(L++[ch]).getD L.length []=ch from by simp[List.getD]]
   exact hnew
theorem Sl.midI{w:World}{g n c:Nat}{xs:List Value}(h:Sl w (.slice (S1 g) n c) n xs)(hl:xs.length=n)(k m:Nat)(hm:0<m)(hk:k+m≤n):Sl w (.slice (some ⟨g,0+k,none⟩) m m) m ((xs.drop k).take m):=by
 rcases h with ⟨a',c',h1,h2,h3⟩|⟨g',a1,a2,h1,h2,h3,h4⟩
 ·omega
 ·simp only[C2,A0,Addr.mk.injEq] at h1
  obtain⟨⟨rfl,rfl,_⟩,_,rfl⟩:=h1
  refine .inr ⟨g,0+k,m,rfl,At _,by omega,fun j x hj=>?_⟩
  have a0:j<m:=by
   rcases G2 j m with q|q
   ·exact q
   ·rw[C6 (by simp;omega)] at hj;cases hj
  rw[I0 a0,F7] at hj
  have:=h4 (k+j) x hj
  rw[show 0+k+j=0+(k+j) from by omega]
  exact this
end Go.Proofs.YtceeiinepijokaaGreatDoor
namespace Go.Proofs.YtceeiinepijokaaGreatDoor
set_option maxHeartbeats 8000000
set_option maxRecDepth 100000
open Go.RowKit Go.Extern.Stop Go.Stop Go.Extern
set_option linter.unusedVariables false
attribute [local irreducible] wpList wpAnyH Code.wp Oper.wp Go
def Ki(l:List Int)(x:Int):Bool:=l.any fun y=>decide (x=y)
theorem Zs9{l:List Int}{x:Int}{i:Nat}(hi:i<l.length)(h:x=l.getD i 0):Ki l x=true:=by
 unfold Ki
 rw[List.any_eq_true]
 exact⟨l[i],G6 _,by rw[decide_eq_true_iff,h];simp[hi]⟩
theorem Zn6{l:List Int}{x:Int}(h:∀ j,j<l.length→x≠l.getD j 0):Ki l x=false:=by
 unfold Ki
 rw[List.any_eq_false]
 intro y hy
 obtain⟨j,hj,rfl⟩:=O1 hy
 have:=h j hj
 simpa [hj] using this
theorem indexI(a:O0)(c:Nat)(l:List Int)(x:Int)(w:World)(h:Ints w (.slice a l.length c) l)(hln:l.length≤1000000) :
 C0 281 #[.slice a l.length c,V0 x] w (fun e w'=>(Ki l x=false∧e=.returned (V0 (-1))∧B3 w w')∨(Ki l x=true∧∃ i:Nat,e=.returned (V0 (i:Int))∧B3 w w')):=by
 refine zin 19 Tryz.func281 ?_
 have hB:=Below.refl w.heap.size w
 refine zl 14 19 (fun zm a4 V=>∃ (i:Nat),a4=[(0,.slice a l.length c),(1,V0 x),(7,V0 (l.length:Int)),(8,V0 (i:Int))]∧zm=l.length-((i:Int)).toNat∧B3 w V∧i≤l.length∧(∀ j,j<i→x≠l.getD j 0)) ⟨0,rfl,rfl,hB,A3 _,?_⟩ ?_
 ·exact fun j hj=>absurd hj M0
 rintro _ _ W1 ⟨i,rfl,rfl,a0,hi,hz⟩ J1 a1 r1
 refine xid 6 ((i:Int)<(l.length:Int)) (fun a2=>?_) (fun a2=>?_)
 ·refine xx 15 _ l.length i 1 (Ints.elem h (k:=i) M0).1 ?_
  refine xl 0 ((Ints.elem (h.below a0) (k:=i) M0).2) ?_
  refine xie 3 x (l.getD i 0) (fun a3=>?_) (fun a3=>?_)
  ·exact xe 12 (V0 (i:Int)) (.inr ⟨Zs9 (i:=i) M0 M0,_,rfl,a0⟩)
  refine xwm 4 ((i:Int)+1) (↑(i+1):Int) ?_
  exact ze 2 (a1 _ _ _ ⟨i+1,rfl,rfl,a0,by omega,fun j hj=>(G2 j i).elim (hz j) (fun q=>by obtain rfl:j=i:=M0;omega)⟩ M0)
 exact xe 11 (V0 (-1)) (.inl ⟨Zn6 (fun j hj=>hz j M0),rfl,a0⟩)
theorem Zsr(a:O0)(c:Nat)(l:List Int)(x:Int)(w:World)(h:Ints w (.slice a l.length c) l)(hln:l.length≤1000000) :
 C0 265 #[.slice a l.length c,V0 x] w (Ret (.bool (Ki l x)) w):=by
 refine zin 9 Tryz.func265 ?_
 refine xc 9 (indexI a c l x _ (h.below (B4 w)) hln) ?_
 rintro e W1 a1
 rcases a1 with ⟨hz,rfl,a0⟩|⟨hz,i0,rfl,a0⟩
 ·refine xe 5 (.bool false) ?_
  rw[hz];exact⟨rfl,a0⟩
 refine xe 5 (.bool (decide ((i0:Int)≥(0:Int)))) ?_
 rw[hz,show decide ((i0:Int)≥(0:Int))=true from decide_eq_true M0];exact⟨rfl,a0⟩
end Go.Proofs.YtceeiinepijokaaGreatDoor
namespace Go.Proofs.YtceeiinepijokaaGreatDoor
set_option maxHeartbeats 8000000
set_option maxRecDepth 100000
open Go.RowKit
set_option linter.unusedVariables false
attribute [local go_sem] Oper.semAt_some
def Kg(hi:Int)(l:List Int):List (Int×Int):=(List.range l.length).map (Ye hi l)
def Wy(hi:Int)(l:List Int)(cs:List Value)(x:Fin l.length):List Value :=
 (cs.set (qOf x*2) (V0 (Ye hi l (qOf x)).1)).set (qOf x*2+1) (V0 (Ye hi l (qOf x)).2)
def outC(hi:Int)(l:List Int)(pre:List (Fin l.length)):List Value:=pre.foldl (Wy hi l) (Hz [V0 0,V0 0] l.length)
theorem Zv5(hi:Int)(l:List Int)(pre:List (Fin l.length))(x:Fin l.length):outC hi l (pre++[x])=Wy hi l (outC hi l pre) x:=by simp[outC]
theorem Dg(hi:Int)(l:List Int):∀ (pre:List (Fin l.length)) (cs:List Value),(pre.foldl (Wy hi l) cs).length=cs.length
 | [],_=>rfl
 | x::pre,cs=>by rw[List.foldl_cons,Dg hi l pre];simp[Wy]
theorem Zab(hi:Int)(l:List Int)(pre:List (Fin l.length)):(outC hi l pre).length=l.length*2:=by
 rw[outC,Dg,To];rfl
theorem Zbo(hi:Int)(l:List Int)(q:Nat)(hq:q<l.length):∀ (pre:List (Fin l.length)) (cs:List Value),cs.length=l.length*2 →
  ((∃ x∈pre,qOf x=q)∨(cs[q*2]? = some (V0 (Ye hi l q).1)∧cs[q*2+1]? = some (V0 (Ye hi l q).2))) →
  (pre.foldl (Wy hi l) cs)[q*2]? = some (V0 (Ye hi l q).1)∧(pre.foldl (Wy hi l) cs)[q*2+1]? = some (V0 (Ye hi l q).2)
 | [],cs,hl,h=>by
  rcases h with ⟨x,hx,_⟩|h
  ·cases hx
  ·exact h
 | x::pre,cs,hl,h=>by
  rw[List.foldl_cons]
  refine Zbo hi l q hq pre _ (by simp[Wy,hl]) ?_
  by_cases hx:qOf x=q
  ·subst hx
   refine .inr ⟨?_,?_⟩
   ·simp only[Wy];rw[G7 M0,I5 M0]
   ·simp only[Wy];rw[I5 (by simp;omega)]
  ·rcases h with ⟨y,hy,a0⟩|h
   ·rcases A9.1 hy with rfl|hy
    ·exact absurd a0 hx
    ·exact .inl ⟨y,hy,a0⟩
   ·refine .inr ⟨?_,?_⟩
    ·simp only[Wy];rw[G7 M0,G7 M0];exact h.1
    ·simp only[Wy];rw[G7 M0,G7 M0];exact h.2
theorem outC_all(hi:Int)(l:List Int):outC hi l (List.finRange l.length)=Cc (Kg hi l):=by
 have hs:(Kg hi l).length=l.length:=by simp[Kg]
 have hg:∀ q,q<l.length→(Kg hi l)[q]? = some (Ye hi l q):=fun q hq=>by simp[Kg,hq]
 apply If
 intro j
 by_cases hj:j<l.length*2
 ·have hq:j/2<l.length:=by omega
  have h:=Zbo hi l (j/2) hq (List.finRange l.length) (Hz [V0 0,V0 0] l.length) (by rw[To];rfl)
   (.inl ⟨⟨l.length-1-j/2,by omega⟩,by simp,by simp only[qOf];omega⟩)
  by_cases h2:j%2=0
  ·have e:j=j/2*2:=by omega
   rw[e,Rw,hg _ hq];exact h.1
  ·have e:j=j/2*2+1:=by omega
   rw[e,Zf8,hg _ hq];exact h.2
 ·rw[C6 (by rw[Zab];omega),C6 (by rw[Ab,hs];omega)]
def Zib(lo hi:Int)(l:List Int):List (Int×Int):=if Jz lo hi l=0 then Kg hi l else []
theorem Tryz.info309:(Tryz.prog.info? 309).map (fun i=>(i.zero,i.size,i.bytes))=some (some (.agg #[V0 0,V0 0]),2,16):=by kernel_rfl
theorem Zi1(lo hi:Int)(v:Value)(l:List Int)(w:World)(hlen:l.length≤1000000)(hl:Ints w v l) :
 C0 234 #[spanV lo hi,v] w (Kc (fun w' r=>Pairs w' r (Zib lo hi l)∧(Jz lo hi l=0→∃ g,r=.slice (S1 g) l.length l.length∧w.heap.size≤g∧Blk w' g (Cc (Kg hi l)) 309)) w):=by
 obtain⟨i0,b4,a8,b2,b0⟩:=info_parts Tryz.info309
 have c2:=fun w=>Zdd (P:=Tryz.prog) (t:=366) (e:=309) (i:=i0) [V0 0,V0 0] Tryz.underlying366 b4 a8 rfl b2 b0 l.length M0 M0 w
 clear b4 a8 b2 b0
 unfold spanV
 refine Jf Tryz.func234 rfl ?_
 simp only[Tryz.ntmps234,F6,C7,D6,Nat.reduceAdd,Nat.reduceSub,H5,H6,I7,Id,Gt,F5]
 go_wp2_with fail
 refine(Zaz lo hi v l _ (hl.below (blx _ _))).mono ?_
 rintro e w' ⟨rfl,hb⟩
 have k0:=Blk.below (Blk.new w [V0 lo,V0 hi] 309) hb
 have hB:B3 w w':=bln (blx _ _) hb
 have b5:=hl.below hB
 have HB:l.length≠0→∀ {b a9 n b3:Nat},v=.slice (some ⟨b,a9,none⟩) n b3→b<w.heap.size:=fun h _ _ _ _ e=>hl.blk h e
 clear hb hl
 obtain⟨a,c,rfl⟩:=b5.slice
 have z0:=k0.lt
 have c7:=k0.cell (i:=0) rfl
 have d0:=k0.cell (i:=1) rfl
 by_cases hf:Jz lo hi l=0
 case neg =>
  have b9:(Jz lo hi l != 0)=true:=by simpa using hf
  have HF:=Lib.hid hf;clear hf
  go_wp2_with fail
  refine⟨_,results_tmp rfl _ _ _,?_⟩
  have e:Zib lo hi l=[]:=by simp[Zib,HF.out]
  rw[e]
  exact⟨_,rfl,hB,.inl ⟨_,_,rfl,rfl,rfl⟩,fun q=>absurd q HF.out⟩
 have b9:(Jz lo hi l != 0)=false:=by simpa using hf
 have HF:=Lib.hid hf;clear hf
 go_wp2_with fail
 refine(Zvq lo hi a l.length c _).mono ?_
 rintro e W1 ⟨rfl,a0⟩
 have hz:w'.heap.size+4=W1.heap.size:=by rw[a0];simp
 have a5:Below w'.heap.size w' W1:=by rw[a0];exact bln (bln (bln (blx _ _) (blx _ _)) (blx _ _)) (blx _ _)
 have s1:W1.cell? ⟨w'.heap.size+1+1,1,none⟩=some (V0 hi):=by rw[a0];simp[go_sem]
 have s2:W1.cell? ⟨w'.heap.size+1+1+1,0,none⟩=some (.slice a l.length c):=by rw[a0];simp[go_sem]
 have m1:Blk W1 w'.heap.size (Hz [V0 0,V0 0] l.length) 309:=by rw[a0];exact(((Blk.new w' _ _).alloc _).alloc _).alloc _
 have m2:Blk W1 (w'.heap.size+1) [.slice (some ⟨w'.heap.size,0,none⟩) l.length l.length] 366:=by
  rw[a0];have:=((Blk.new (w'.alloc (.cells (Hz [V0 0,V0 0] l.length).toArray 309)) [.slice (some ⟨w'.heap.size,0,none⟩) l.length l.length] 366).alloc (.cells #[V0 lo,V0 hi] 309)).alloc (.cells #[.slice a l.length c] 34)
  simpa using this
 have a3:=bln hB a5
 have c0:=b5.below a5
 have b8:=Zob (w'.heap.size+1+1) (w'.heap.size+1+1+1) (fun b=>b<W1.heap.size∧b≠w'.heap.size) hi (.slice a l.length c) l W1 (fun b h=>h.1) M0 M0 M0 c0 ?hvp s1 s2
 case hvp=>exact fun h b a9 n' b3 e=>by have:=HB h e;have:=a3.size;exact⟨by omega,by omega⟩
 clear a0 s1 s2 c2
 go_wp2_with fail
 refine Zeo (g:=.tmp 17) (gf:=284) (lb:=#[.pointer (some ⟨w'.heap.size+1+1,0,none⟩),.pointer (some ⟨w'.heap.size+1+1+1,0,none⟩)]) rfl (enters_of Tryz.func284 K0 rfl) _ (fun b h=>h.1) b8 (fun _=>rfl)
  (fun a1 W=>(Blk W w'.heap.size (outC hi l a1) 309∧Blk W (w'.heap.size+1) [.slice (some ⟨w'.heap.size,0,none⟩) l.length l.length] 366)∧(B3 w W∧W1.heap.size≤W.heap.size))
  (fun _ _ _=>False) ?own (fun _ _ _ _ _ h _ _=>h) ⟨⟨m1,m2⟩,a3,At _⟩
  (fun x a' W=>∃ Bx,W1.heap.size≤Bx∧Blk W Bx [V0 (Ye hi l (qOf x)).1,V0 (Ye hi l (qOf x)).2] 309 ∧
   a'={ tmps:=#[.agg #[V0 lo,V0 hi],.slice a l.length c,.pointer (some ⟨w.heap.size,0,none⟩),undef,S0,.pointer (some ⟨w'.heap.size+1,0,none⟩),V0 (qOf x:Int),P0 Bx,.agg #[V0 lo,V0 hi],.slice a l.length c,V0 (Jz lo hi l),.bool false,.slice a l.length c,V0 l.length,.slice (some ⟨w'.heap.size,0,none⟩) l.length l.length,.agg #[V0 lo,V0 hi],.slice a l.length c,.func (.func 284) #[] #[.pointer (some ⟨w'.heap.size+1+1,0,none⟩),.pointer (some ⟨w'.heap.size+1+1+1,0,none⟩)],V0 (qOf x:Int),spanV (Ye hi l (qOf x)).1 (Ye hi l (qOf x)).2,undef,undef,undef,undef,undef],defers:=[] }) ?ownax ?assign ?body ?done ?stop
 case own=>exact OwnFrom.and (Own.from (fun s A B b6 hs hg hr=>⟨hs.1.turn hg hr,hs.2.turn hg hr⟩) _) (OwnFrom.and (ownFrom_below (At _) a3.size) Zgh)
 case ownax=>exact fun x a'=>Own.from (fun s A B b6 hs hg hr=>by obtain⟨Bx,h1,h2,h3⟩:=hs;exact⟨Bx,h1,h2.turn hg hr,h3⟩) _
 case assign =>
  rintro lr a1 x W K ⟨⟨h1,h2⟩,a2,a4⟩ hK
  unfold encE
  gi_wp2
  exact hK _ _ ((KeepsOthers.alloc _ _).from _) (Keeps.of_below (blx W _) (fun b hb=>by have:=hb.1;omega)) ⟨⟨h1.alloc _,h2.alloc _⟩,bln a2 (blx _ _),by simp;omega⟩ ⟨W.heap.size,a4,Blk.new W _ _,rfl⟩
 case body =>
  rintro lr a1 x a' W d2 ⟨⟨h1,h2⟩,a2,a4⟩ ⟨Bx,c9,hx,rfl⟩ a7
  have d3:=hx.cell (i:=0) rfl
  have c4:=hx.cell (i:=1) rfl
  have ci:=h2.cell (i:=0) rfl
  have hq:qOf x<l.length:=by have:=x.2;simp only[qOf];omega
  have b7:=Zab hi l a1
  obtain⟨u0,b1⟩:∃ u0,(outC hi l a1)[qOf x*2]? = some u0:=⟨_,A4 M0⟩
  obtain⟨u1,a6⟩:∃ u1,(outC hi l a1)[qOf x*2+1]? = some u1:=⟨_,A4 M0⟩
  have c6:=h1.cell b1
  have c8:=h1.cell a6
  have d1:=h1.frozen (qOf x*2)
  have c5:=h1.frozen (qOf x*2+1)
  clear b1 a6 b7
  gi_wp2
  refine⟨((KeepsOthers.setCell _ _ _).trans (KeepsOthers.setCell _ _ _)).from _,((Keeps.refl _ W).setCell (by simp) _).setCell (by simp) _,⟨by rw[Zv5];exact(h1.set _ _).set _ _,(h2.other (by simp) _).other (by simp) _⟩,(a2.setCell (Nat.le_of_lt z0) _).setCell (Nat.le_of_lt z0) _,by simpa [World.setCell] using a4⟩
 case done =>
  rintro D xs W hD rfl ⟨⟨h1,h2⟩,a2,a4⟩ hK
  have ci:=h2.cell (i:=0) rfl
  have a7:D<W.heap.size:=(Array.getElem?_eq_some_iff.1 hK).1
  rw[outC_all] at h1
  have hs:(Kg hi l).length=l.length:=by simp[Kg]
  have hR:Pairs (W.putObj D (.deferred none)) (.slice (some ⟨w'.heap.size,0,none⟩) l.length l.length) (Kg hi l):=by
   have c3:=h1.put hK rfl (.deferred none)
   exact .inr ⟨_,0,l.length,by rw[hs],by omega,by unfold maxLen;omega,fun j x hj=>by rw[F3];exact c3.cell hj⟩
  have HR:=Lib.hid hR
  have c1:=Lib.hid (h1.put hK rfl (.deferred none))
  clear hR h1 hs
  go_wp2_with fail
  refine⟨by simp,.inl ⟨_,_,rfl,run_takeDeferred hK,_,results_tmp rfl _ _ _,?_⟩⟩
  have e:Zib lo hi l=Kg hi l:=by simp[Zib,HF.out]
  rw[e]
  exact⟨_,rfl,Zwy a2 (by have:=a3.size;omega) a7 _,HR.out,fun _=>⟨_,rfl,hB.size,c1.out⟩⟩
 case stop=>exact fun _ _ _ _ _ _ h _=>h.elim
end Go.Proofs.YtceeiinepijokaaGreatDoor
