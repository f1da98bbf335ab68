/- (*tracer).all, trace.Trace, trace.Super. -/
import Derived.RangeFuncNested
import Derived.RangeFuncBound
import Derived.RangeFuncCalls
import Derived.RangeFuncLeaves
import Derived.OwnWalkIn
import Derived.OrdersIn
import Derived.Shelf.Abstract
import Derived.Shelf.RegionOpen
import Derived.TacticsInMore
import Derived.LoopNIn
import Derived.LoopIn
import Derived.Sort.BigQuietIn
import Derived.Test.YtceeiinepijokaaGreatMg4
namespace Go.Proofs.YtceeiinepijokaaGreat
set_option maxHeartbeats 8000000
set_option maxRecDepth 100000
open Go.RowKit Go.Extern.Stop Go.Stop Go.Extern
set_option linter.unusedVariables false
attribute [local irreducible] wpList wpAnyH Code.wp Oper.wp Go
theorem trE_is{g:Bl→Int}{R:List Int×Tr}(h:(trE g R).2=0):(Tk R=false∨(Tk R=true∧g (trS R)=0)):=by
 obtain⟨a,r⟩:=R
 cases r with
 | no=>exact .inl rfl
 | bad fl c=>exact .inl rfl
 | val s =>
  right
  refine⟨rfl,?_⟩
  have h:(if g s≠0 then(a,g s) else([],0)).2=0:=h
  by_cases q:g s=0
  ·exact q
  ·rw[if_pos q] at h;exact h
theorem trR_no{R:List Int×Tr}(h:Tk R=false):trR R=0:=by
 obtain⟨a,r⟩:=R
 cases r with
 | val s=>cases h
 | _=>rfl
theorem trR_is{R:List Int×Tr}(h:Tk R=true):trR R=(Xm (trS R):Int):=by
 obtain⟨a,r⟩:=R
 cases r with
 | val s=>rfl
 | _=>cases h
theorem trM_no{R:List Int×Tr}(h:Tk R=false):trM R=[S0,.bool false,V0 0,V0 0]:=by
 obtain⟨a,r⟩:=R
 cases r with
 | val s=>cases h
 | _=>rfl
theorem trM_is{R:List Int×Tr}(h:Tk R=true)(h2:Xk Vm (trS R)=0):trM R=[S0,.bool true,V0 (Uk (trS R):Int),V0 (Pb (trS R):Int)]:=by
 obtain⟨a,r⟩:=R
 cases r with
 | val s =>
  have h2:Xk Vm s=0:=h2
  show [Value.slice none 0 0,.bool (Xk Vm s==0),V0 (Uk s:Int),V0 (Pb s:Int)]=_
  rw[h2];rfl
 | _=>cases h
theorem root_pos{s:Bl}(h:Xj s=0):0<Xm s:=by
 unfold Xm
 rw[if_pos h]
 unfold Xj at h
 split at h
 ·split at h
  ·omega
  ·cases h
 ·cases h
theorem allT_b1{l:Bl}{way:List Int}{top id v:Int}(h:(trE Xj (Zp l 1 id 16 way top)).2≠0):Wk l way top id v=trBad (trE Xj (Zp l 1 id 16 way top)).1 (trE Xj (Zp l 1 id 16 way top)).2:=by
 unfold Wk;simp only;rw[if_pos h]
theorem allT_n1{l:Bl}{way:List Int}{top id v:Int}(h:(trE Xj (Zp l 1 id 16 way top)).2=0)(h2:Tk (Zp l 1 id 16 way top)=false):Wk l way top id v=⟨(Zp l 1 id 16 way top).1,false,0,0,[],0⟩:=by
 unfold Wk;simp only;rw[if_neg (fun q=>q h),if_pos h2]
theorem allT_b2{l:Bl}{way:List Int}{top id v:Int}{q:List Int×Tr}(h:(trE Xj (Zp l 1 id 16 way top)).2=0)(h2:Tk (Zp l 1 id 16 way top)=true)(hq:Zp l 2 v 16 (Zp l 1 id 16 way top).1 (Xm (trS (Zp l 1 id 16 way top)):Int)=q)(h3:(trE (Xk Vm) q).2≠0):Wk l way top id v=trBad (trE (Xk Vm) q).1 (trE (Xk Vm) q).2:=by
 subst hq
 unfold Wk;simp only;rw[if_neg (fun q=>q h),if_neg (by rw[h2];decide),if_pos h3]
theorem allT_n2{l:Bl}{way:List Int}{top id v:Int}{q:List Int×Tr}(h:(trE Xj (Zp l 1 id 16 way top)).2=0)(h2:Tk (Zp l 1 id 16 way top)=true)(hq:Zp l 2 v 16 (Zp l 1 id 16 way top).1 (Xm (trS (Zp l 1 id 16 way top)):Int)=q)(h3:(trE (Xk Vm) q).2=0)(h4:Tk q=false):Wk l way top id v=⟨q.1,false,0,0,[],0⟩:=by
 subst hq
 unfold Wk;simp only;rw[if_neg (fun q=>q h),if_neg (by rw[h2];decide),if_neg (fun q=>q h3),if_pos h4]
theorem allT_v2{l:Bl}{way:List Int}{top id v:Int}{q:List Int×Tr}(h:(trE Xj (Zp l 1 id 16 way top)).2=0)(h2:Tk (Zp l 1 id 16 way top)=true)(hq:Zp l 2 v 16 (Zp l 1 id 16 way top).1 (Xm (trS (Zp l 1 id 16 way top)):Int)=q)(h3:(trE (Xk Vm) q).2=0)(h4:Tk q=true):Wk l way top id v=⟨q.1,true,Uk (trS q),Pb (trS q),[],0⟩:=by
 subst hq
 unfold Wk;simp only;rw[if_neg (fun q=>q h),if_neg (by rw[h2];decide),if_neg (fun q=>q h3),if_neg (by rw[h4];decide)]
theorem find1_or{R:List Int×Tr}{T:List TypeId}{K:World→World→Prop}{B bx br:Nat}{c0:Value}{w:World}{e:Ending}{w':World}(h:Zbg Xj [Value.int .i64 (trR R)] 3 R T K B bx br c0 w e w') :
 ((trE Xj R).2≠0∧∃ ty x p c,e=.returned (.iface ty x)∧Below B w w'∧Zd T w w'∧Blk w' bx [c0,.slice p R.1.length c] 66∧Blk w' br [Value.int .i64 (trR R)] 3∧Va w' ((trE Xj R).1.map some) (some (trE Xj R).2) (.iface ty x)) ∨
 ((trE Xj R).2=0∧Tk R=false∧∃ p c,e=.returned .nilIface∧Below B w w'∧Zd T w w'∧Blk w' bx [c0,.slice p R.1.length c] 66∧w'.ownsRow B 3 1 (.slice p R.1.length c) R.1.length (R.1.map V0)∧Blk w' br [Value.int .i64 0] 3) ∨
 ((trE Xj R).2=0∧Tk R=true∧0<Xm (trS R)∧∃ p c,e=.returned .nilIface∧Below B w w'∧Zd T w w'∧Blk w' bx [c0,.slice p R.1.length c] 66∧w'.ownsRow B 3 1 (.slice p R.1.length c) R.1.length (R.1.map V0)∧Blk w' br [Value.int .i64 (Xm (trS R):Int)] 3):=by
 rcases h with ⟨h1,ty,x,p,c,h2,h3,h4,h5,h6,h7,h8,h9⟩|⟨h1,p,c,h2,h3,h4,h5,h6,h7,h8⟩
 ·exact .inl ⟨h1,ty,x,p,c,h2,h3,h4,h6,h8,h9⟩
 ·rcases trE_is h1 with q|⟨q,q2⟩
  ·rw[trR_no q] at h8;exact .inr (.inl ⟨h1,q,p,c,h2,h3,h4,h6,h7,h8⟩)
  ·rw[trR_is q] at h8;exact .inr (.inr ⟨h1,q,root_pos q2,p,c,h2,h3,h4,h6,h7,h8⟩)
theorem find2_or{R:List Int×Tr}{T:List TypeId}{K:World→World→Prop}{B bx br:Nat}{c0:Value}{w:World}{e:Ending}{w':World}(h:Zbg (Xk Vm) (trM R) 37 R T K B bx br c0 w e w') :
 ((trE (Xk Vm) R).2≠0∧∃ ty x p c,e=.returned (.iface ty x)∧Below B w w'∧Zd T w w'∧K w w'∧Blk w' bx [c0,.slice p R.1.length c] 66∧Blk w' br (trM R) 37∧Va w' ((trE (Xk Vm) R).1.map some) (some (trE (Xk Vm) R).2) (.iface ty x)) ∨
 ((trE (Xk Vm) R).2=0∧Tk R=false∧∃ p c,e=.returned .nilIface∧Below B w w'∧Zd T w w'∧K w w'∧Blk w' bx [c0,.slice p R.1.length c] 66∧w'.ownsRow B 3 1 (.slice p R.1.length c) R.1.length (R.1.map V0)∧Blk w' br [S0,.bool false,V0 0,V0 0] 37) ∨
 ((trE (Xk Vm) R).2=0∧Tk R=true∧∃ p c,e=.returned .nilIface∧Below B w w'∧Zd T w w'∧K w w'∧Blk w' bx [c0,.slice p R.1.length c] 66∧w'.ownsRow B 3 1 (.slice p R.1.length c) R.1.length (R.1.map V0)∧Blk w' br [S0,.bool true,V0 (Uk (trS R):Int),V0 (Pb (trS R):Int)] 37):=by
 rcases h with ⟨h1,ty,x,p,c,h2,h3,h4,h5,h6,h7,h8,h9⟩|⟨h1,p,c,h2,h3,h4,h5,h6,h7,h8⟩
 ·exact .inl ⟨h1,ty,x,p,c,h2,h3,h4,h5,h6,h8,h9⟩
 ·rcases trE_is h1 with q|⟨q,q2⟩
  ·rw[trM_no q] at h8;exact .inr (.inl ⟨h1,q,p,c,h2,h3,h4,h5,h6,h7,h8⟩)
  ·rw[trM_is q q2] at h8;exact .inr (.inr ⟨h1,q,p,c,h2,h3,h4,h5,h6,h7,h8⟩)
def AllP(O:TrO)(B:Nat)(w:World)(e:Ending)(w':World):Prop :=
 (O.c≠0∧∃ ty x,e=.returned (.tuple #[.agg #[S0,.bool false,V0 0,V0 0],.iface ty x])∧Below B w w'∧Zd [66,3,32,37] w w'∧Va w' (O.fl.map some) (some O.c) (.iface ty x)) ∨
 (O.c=0∧∃ p c,e=.returned (.tuple #[.agg #[.slice p O.way.length c,.bool O.found,V0 O.b,V0 O.t],.nilIface])∧Below B w w'∧Zd [66,3,32,37] w w'∧w'.ownsRow B 3 1 (.slice p O.way.length c) O.way.length (O.way.map V0))
theorem Zb2(l:Bl)(t key:Int):∀ (d:Nat) (wy:List Int) (no:Int),(Zp l t key d wy no).1.length≤wy.length+d
 | 0,wy,no=>Nat.le_refl _
 | d+1,wy,no=>by
  rw[Zp]
  repeat' split
  all_goals first|(simp;done)|(simp;omega)|skip
  have:=Zb2 l t key d (wy++[no]) (Xm (trV l no key):Int)
  simp at this ⊢
  omega
theorem tracer_all(B Bi b bx:Nat)(p:O0)(n c:Nat)(l:Bl)(top id v:Int)(way:List Int)(pw:O0)(cw:Nat)(w:World)(hBx:B≤bx)(hBw:B≤w.heap.size)(kx:Blk w bx [P0 b,.slice pw way.length cw] 66)(hway:w.ownsRow B 3 1 (.slice pw way.length cw) way.length (way.map V0))(hI:ImgR Bi b p n c l w)(hwl:way.length≤1000) :
 C0 21 #[P0 bx,V0 top,V0 id,V0 v] w (AllP (Wk l way top id v) B w):=by
 refine zin 39 Tryz.func21 ?_
 refine xa 2 [S0,.bool false,V0 0,V0 0] 37 fun b1 W1 n1=>?_
 refine xa 5 [S0,.bool false,V0 0,V0 0] 37 fun b2 W2 n2=>?_
 have a0:=n2.ne n1.blk
 refine xa 4 [V0 0] 3 fun b3 W3 n3=>?_
 have a7:=Zb (Zb hway n1.below) n2.below
 have a2:=Zu a7 n3
 refine xs 0 n3.blk [V0 0] fun W4 u4 k4=>?_
 have g3:=n3.ge0 (blB (blB (Below.refl B w) hBw n1.below) hBw n2.below)
 have f1:=u4.blkT (((kx.below n1.below).below n2.below).below n3.below) n3.blk (by decide)
 have b7:=u4.own3 (Zb a7 n3.below) a2
 have d6:=(((hI.below n1.below).below n2.below).below n3.below).only (Zd.of_upd (T:=[3]) u4 n3.blk (by decide)) (by decide)
 have hB:=u4.below (blB (blB (blB (Below.refl B w) hBw n1.below) hBw n2.below) hBw n3.below) (Nat.le_trans hBw g3)
 refine xc 8 (args:=#[P0 bx,V0 top,V0 1,V0 id,.func (.func 48) #[] #[P0 b3]]) ((tr_find1 B Bi b bx b3 p n c l id top way pw cw _ hBx (Nat.le_trans hBw g3) (Nat.le_trans hBw hB.size) f1 k4 b7 d6 (by omega) (fun j hj=>a2 j hj)).mono (fun _ _ h=>find1_or h)) ?_
 rintro e W5 g8
 rcases g8 with ⟨a8,e1,x7,p8,c8,rfl,c4,a1,d1,d0,f0⟩|⟨a8,a3,p8,c8,rfl,c4,a1,d1,a9,d0⟩|⟨a8,a3,h6,p8,c8,rfl,c4,a1,d1,a9,d0⟩
 ·have c7:=(u4.blkT ((n1.blk.below n2.below).below n3.below) n3.blk (by decide)).only a1 (by decide)
  refine xsv 29 c7 [S0,.bool false,V0 0,V0 0] fun W6 u6 k6=>?_
  have g1:=n1.ge0 (Below.refl B _)
  have e6:=u6.below (hB.trans c4) (Nat.le_trans hBw g1)
  have hO:=(Zd.upd_new ((Zd.upd_new (((show Zd [66,3,32,37] w _ from(Zd.of_below n1.below)).trans (Zd.of_below n2.below)).trans (Zd.of_below n3.below)) u4 g3).trans (Cb a1)) u6 g1)
  have d4:=f0.upd u6 c7 (by decide)
  refine xec 5 k6 (.tuple #[.agg #[S0,.bool false,V0 0,V0 0],.iface e1 (x7)]) ?_
  rw[allT_b1 a8]
  exact .inl ⟨a8,_,_,rfl,e6,hO,d4⟩
 ·refine xb 9 0 d0 ?_
  refine xb 22 1 d1 ?_
  have k2:=(u4.blkT (n2.blk.below n3.below) n3.blk (by decide)).only a1 (by decide)
  refine xs 1 k2 [.slice p8 ((Zp l 1 id 16 way top).1.length) c8,.bool false,V0 0,V0 0] fun W7 u7 k7=>?_
  have g2:=n2.ge0 (blB (Below.refl B w) hBw n1.below)
  refine xlv 4 k7.rp ?_
  have d7:=u7.blk ((u4.blkT ((n1.blk.below n2.below).below n3.below) n3.blk (by decide)).only a1 (by decide)) (Ne.symm (Ne.symm a0))
  refine xsv 0 d7 [.slice p8 ((Zp l 1 id 16 way top).1.length) c8,.bool false,V0 0,V0 0] fun W8 u8 k8=>?_
  have g1:=n1.ge0 (Below.refl B _)
  have c2:=u8.own2 (u7.own2 a9 k2 (by decide)) d7 (by decide)
  have f6:=u8.below (u7.below (hB.trans c4) (Nat.le_trans hBw g2)) (Nat.le_trans hBw g1)
  have hO:=(Zd.upd_new (Zd.upd_new ((Zd.upd_new (((show Zd [66,3,32,37] w _ from(Zd.of_below n1.below)).trans (Zd.of_below n2.below)).trans (Zd.of_below n3.below)) u4 g3).trans (Cb a1)) u7 g2) u8 g1)
  refine xec 4 k8 (.tuple #[.agg #[.slice p8 ((Zp l 1 id 16 way top).1.length) c8,.bool false,V0 0,V0 0],.nilIface]) ?_
  first|(exfalso;omega)|(rw[allT_n1 a8 a3];exact .inr ⟨rfl,_,_,rfl,f6,hO,c2⟩)
 refine xb 9 0 d0 ?_
 refine xid 4 ((↑(Xm (trS (Zp l 1 id 16 way top))):Int)>(0:Int)) (fun g6=>?_) (fun g6=>?_)
 ·refine xb 2 0 d0 ?_
  have e2:=d6.only a1 (by decide)
  have k2:=(u4.blkT (n2.blk.below n3.below) n3.blk (by decide)).only a1 (by decide)
  have e3:=(u4.blkT ((n1.blk.below n2.below).below n3.below) n3.blk (by decide)).only a1 (by decide)
  have f5:=e3
  have h1:=Zb2 l 1 id 16 way top
  have g2:=n2.ge0 (blB (Below.refl B w) hBw n1.below)
  have b0:=hB.trans c4
  refine xc 2 (args:=#[P0 bx,V0 (↑(Xm (trS (Zp l 1 id 16 way top))):Int),V0 2,V0 v,.func (.func 50) #[] #[P0 b2]]) ((tr_find2 B Bi b bx b2 p n c l v (↑(Xm (trS (Zp l 1 id 16 way top))):Int) (Zp l 1 id 16 way top).1 p8 c8 _ hBx (Nat.le_trans hBw g2) (Nat.le_trans hBw b0.size) d1 k2 a9 e2 (by omega)).mono (fun _ _ h=>find2_or h)) ?_
  rintro e h3 f4
  rcases f4 with ⟨c6,e1,x7,p9,c9,rfl,a6,a5,d3,b4,a4,f0⟩|⟨c6,c1,p9,c9,rfl,a6,a5,d3,b4,b9,a4⟩|⟨c6,c1,p9,c9,rfl,a6,a5,d3,b4,b9,a4⟩
  ·have c5:=d3.h _ _ (Ne.symm (Ne.symm a0)) f5
   refine xsv 15 c5 [S0,.bool false,V0 0,V0 0] fun h7 e7 g5=>?_
   have g1:=n1.ge0 (Below.refl B _)
   have f7:=e7.below (b0.trans a6) (Nat.le_trans hBw g1)
   have hO:=(Zd.upd_new (((Zd.upd_new (((show Zd [66,3,32,37] w _ from(Zd.of_below n1.below)).trans (Zd.of_below n2.below)).trans (Zd.of_below n3.below)) u4 g3).trans (Cb a1)).trans a5) e7 g1)
   have d2:=f0.upd e7 c5 (by decide)
   refine xec 5 g5 (.tuple #[.agg #[S0,.bool false,V0 0,V0 0],.iface e1 (x7)]) ?_
   rw[allT_b2 a8 a3 rfl c6]
   exact .inl ⟨c6,_,_,rfl,f7,hO,d2⟩
  ·have c5:=d3.h _ _ (Ne.symm (Ne.symm a0)) f5
   refine xb 18 1 b4 ?_
   refine xs 1 a4 [.slice p9 ((Zp l 2 v 16 (Zp l 1 id 16 way top).1 (↑(Xm (trS (Zp l 1 id 16 way top))):Int)).1.length) c9,.bool false,V0 0,V0 0] fun h5 d9 g0=>?_
   refine xlv 4 g0.rp ?_
   have b5:=d9.blk c5 (Ne.symm (Ne.symm a0))
   refine xsv 0 b5 [.slice p9 ((Zp l 2 v 16 (Zp l 1 id 16 way top).1 (↑(Xm (trS (Zp l 1 id 16 way top))):Int)).1.length) c9,.bool false,V0 0,V0 0] fun h2 f2 f9=>?_
   have g1:=n1.ge0 (Below.refl B _)
   have c3:=f2.own2 (d9.own2 b9 a4 (by decide)) b5 (by decide)
   have e4:=f2.below (d9.below (b0.trans a6) (Nat.le_trans hBw g2)) (Nat.le_trans hBw g1)
   have hO:=(Zd.upd_new (Zd.upd_new (((Zd.upd_new (((show Zd [66,3,32,37] w _ from(Zd.of_below n1.below)).trans (Zd.of_below n2.below)).trans (Zd.of_below n3.below)) u4 g3).trans (Cb a1)).trans a5) d9 g2) f2 g1)
   refine xec 4 f9 (.tuple #[.agg #[.slice p9 ((Zp l 2 v 16 (Zp l 1 id 16 way top).1 (↑(Xm (trS (Zp l 1 id 16 way top))):Int)).1.length) c9,.bool false,V0 0,V0 0],.nilIface]) ?_
   rw[allT_n2 a8 a3 rfl c6 c1]
   exact .inr ⟨rfl,_,_,rfl,e4,hO,c3⟩
  have c5:=d3.h _ _ (Ne.symm (Ne.symm a0)) f5
  refine xb 18 1 b4 ?_
  refine xs 1 a4 [.slice p9 ((Zp l 2 v 16 (Zp l 1 id 16 way top).1 (↑(Xm (trS (Zp l 1 id 16 way top))):Int)).1.length) c9,.bool true,V0 (↑(Uk (trS (Zp l 2 v 16 (Zp l 1 id 16 way top).1 (↑(Xm (trS (Zp l 1 id 16 way top))):Int)))):Int),V0 (↑(Pb (trS (Zp l 2 v 16 (Zp l 1 id 16 way top).1 (↑(Xm (trS (Zp l 1 id 16 way top))):Int)))):Int)] fun h4 e0 g7=>?_
  refine xlv 4 g7.rp ?_
  have b6:=e0.blk c5 (Ne.symm (Ne.symm a0))
  refine xsv 0 b6 [.slice p9 ((Zp l 2 v 16 (Zp l 1 id 16 way top).1 (↑(Xm (trS (Zp l 1 id 16 way top))):Int)).1.length) c9,.bool true,V0 (↑(Uk (trS (Zp l 2 v 16 (Zp l 1 id 16 way top).1 (↑(Xm (trS (Zp l 1 id 16 way top))):Int)))):Int),V0 (↑(Pb (trS (Zp l 2 v 16 (Zp l 1 id 16 way top).1 (↑(Xm (trS (Zp l 1 id 16 way top))):Int)))):Int)] fun i0 e8 g9=>?_
  have g1:=n1.ge0 (Below.refl B _)
  have c0:=e8.own2 (e0.own2 b9 a4 (by decide)) b6 (by decide)
  have e5:=e8.below (e0.below (b0.trans a6) (Nat.le_trans hBw g2)) (Nat.le_trans hBw g1)
  have hO:=(Zd.upd_new (Zd.upd_new (((Zd.upd_new (((show Zd [66,3,32,37] w _ from(Zd.of_below n1.below)).trans (Zd.of_below n2.below)).trans (Zd.of_below n3.below)) u4 g3).trans (Cb a1)).trans a5) e0 g2) e8 g1)
  refine xec 4 g9 (.tuple #[.agg #[.slice p9 ((Zp l 2 v 16 (Zp l 1 id 16 way top).1 (↑(Xm (trS (Zp l 1 id 16 way top))):Int)).1.length) c9,.bool true,V0 (↑(Uk (trS (Zp l 2 v 16 (Zp l 1 id 16 way top).1 (↑(Xm (trS (Zp l 1 id 16 way top))):Int)))):Int),V0 (↑(Pb (trS (Zp l 2 v 16 (Zp l 1 id 16 way top).1 (↑(Xm (trS (Zp l 1 id 16 way top))):Int)))):Int)],.nilIface]) ?_
  rw[allT_v2 a8 a3 rfl c6 c1]
  exact .inr ⟨rfl,_,_,rfl,e5,hO,c0⟩
 refine xb 17 1 d1 ?_
 have k2:=(u4.blkT (n2.blk.below n3.below) n3.blk (by decide)).only a1 (by decide)
 refine xs 1 k2 [.slice p8 ((Zp l 1 id 16 way top).1.length) c8,.bool false,V0 0,V0 0] fun h9 d8 f8=>?_
 have g2:=n2.ge0 (blB (Below.refl B w) hBw n1.below)
 refine xlv 4 f8.rp ?_
 have d5:=d8.blk ((u4.blkT ((n1.blk.below n2.below).below n3.below) n3.blk (by decide)).only a1 (by decide)) (Ne.symm (Ne.symm a0))
 refine xsv 0 d5 [.slice p8 ((Zp l 1 id 16 way top).1.length) c8,.bool false,V0 0,V0 0] fun h8 e9 h0=>?_
 have g1:=n1.ge0 (Below.refl B _)
 have b8:=e9.own2 (d8.own2 a9 k2 (by decide)) d5 (by decide)
 have f3:=e9.below (d8.below (hB.trans c4) (Nat.le_trans hBw g2)) (Nat.le_trans hBw g1)
 have hO:=(Zd.upd_new (Zd.upd_new ((Zd.upd_new (((show Zd [66,3,32,37] w _ from(Zd.of_below n1.below)).trans (Zd.of_below n2.below)).trans (Zd.of_below n3.below)) u4 g3).trans (Cb a1)) d8 g2) e9 g1)
 refine xec 4 h0 (.tuple #[.agg #[.slice p8 ((Zp l 1 id 16 way top).1.length) c8,.bool false,V0 0,V0 0],.nilIface]) ?_
 first|(exfalso;omega)|(rw[allT_n1 a8 a3];exact .inr ⟨rfl,_,_,rfl,f3,hO,b8⟩)
def AllU(O:TrO)(N b8:Nat)(cs:List Value)(w:World)(e:Ending)(w':World):Prop :=
 (O.c≠0∧∃ ty x,e=.returned (.tuple #[.agg #[S0,.bool false,V0 0,V0 0],.iface ty x])∧Below N w w'∧Zd [66,3,32,37] w w'∧Blk w' b8 cs 37∧Va w' (O.fl.map some) (some O.c) (.iface ty x)) ∨
 (O.c=0∧∃ p c,e=.returned (.tuple #[.agg #[.slice p O.way.length c,.bool O.found,V0 O.b,V0 O.t],.nilIface])∧Below N w w'∧Zd [66,3,32,37] w w'∧Blk w' b8 cs 37∧w'.ownsRow N 3 1 (.slice p O.way.length c) O.way.length (O.way.map V0))
theorem all_up{O:TrO}{B N b8:Nat}{cs:List Value}{w:World}{e:Ending}{w':World}(h:AllP O B w e w')(hN:N≤B)(k8:Blk w b8 cs 37)(h8:b8<B):AllU O N b8 cs w e w':=by
 rcases h with ⟨h1,ty,x,h2,h3,h4,h5⟩|⟨h1,p,c,h2,h3,h4,h5⟩
 ·exact .inl ⟨h1,ty,x,h2,h3.mono hN,h4,(h3.block b8 h8).trans k8,h5⟩
 ·exact .inr ⟨h1,p,c,h2,h3.mono hN,h4,(h3.block b8 h8).trans k8,Zh h5 hN⟩
def TrP (O:TrO)(w:World)(e:Ending)(w':World):Prop :=
 (O.c≠0∧∃ ty x,e=.returned (.tuple #[.agg #[S0,.bool false,V0 0,V0 0],.iface ty x])∧B3 w w'∧Va w' (O.fl.map some) (some O.c) (.iface ty x)) ∨
 (O.c=0∧∃ p c,e=.returned (.tuple #[.agg #[.slice p O.way.length c,.bool O.found,V0 O.b,V0 O.t],.nilIface])∧B3 w w'∧w'.ownsRow w.heap.size 3 1 (.slice p O.way.length c) O.way.length (O.way.map V0))
def supT(l:Bl)(id v:Int):TrO:=if Xg l≠0 then trBad [0] (Xg l) else Wk l [0] (Zg (inB l 0)).top id v
theorem supT_bad{l:Bl}{id v:Int}(h:Xg l≠0):supT l id v=trBad [0] (Xg l):=if_pos h
theorem Zaq{l:Bl}{id v:Int}(h:Xg l=0):supT l id v=Wk l [0] (Zg (inB l 0)).top id v:=if_neg fun q=>q h
theorem Fw(Bi b:Nat)(p:O0)(n c:Nat)(l:Bl)(id v:Int)(w:World)(hI:ImgR Bi b p n c l w) :
 C0 8 #[P0 b,V0 id,V0 v] w (TrP (supT l id v) w):=by
 refine zin 32 Tryz.func8 ?_
 refine xa 2 [S0,.bool false,V0 0,V0 0] 37 fun b1 W1 n1=>?_
 have a7:=hI.below n1.below
 refine xc 6 (args:=#[P0 b]) (Fq Bi b p n c l _ a7) ?_
 rintro e W2 c5
 rcases c5 with ⟨a5,bs,rfl,a0,c0⟩|⟨a5,rfl,a0⟩
 ·refine xa 3 [V0 0,V0 0,V0 0,V0 0,V0 0,V0 0,V0 0,V0 0,V0 0,V0 0,V0 0] 30 fun b3 W3 n3=>?_
  refine xsv 0 n3.blk [V0 0,V0 0,V0 0,V0 0,V0 0,V0 0,V0 0,V0 0,V0 0,V0 0,V0 0] fun W4 u4 k4=>?_
  have g3:=n3.ge (bln n1.below a0)
  have k1:=u4.blkT ((n1.blk.below a0).below n3.below) n3.blk (by decide)
  refine xsv 15 k1 [S0,.bool false,V0 0,V0 0] fun W5 u5 k5=>?_
  have g1:=n1.ge (B4 w)
  have a4:=((c0.below n3.below).upd u4 n3.blk (by decide)).upd u5 k1 (by decide)
  have hB:=u5.below (u4.below (bln (bln n1.below a0) n3.below) g3) g1
  refine xec 5 k5 (.tuple #[.agg #[S0,.bool false,V0 0,V0 0],.iface 256 (P0 bs)]) ?_
  rw[supT_bad a5]
  exact .inl ⟨a5,_,_,rfl,hB,a4⟩
 refine xa 3 [V0 0,V0 0,V0 0,V0 0,V0 0,V0 0,V0 0,V0 0,V0 0,V0 0,V0 0] 30 fun b6 W6 n6=>?_
 refine xsv 0 n6.blk [V0 ((Zg (inB l 0)).tx),V0 ((Zg (inB l 0)).time),V0 ((Zg (inB l 0)).unit),V0 ((Zg (inB l 0)).data),V0 ((Zg (inB l 0)).blocks),V0 ((Zg (inB l 0)).top),V0 ((Zg (inB l 0)).details),V0 ((Zg (inB l 0)).dslots),V0 ((Zg (inB l 0)).dover),V0 ((Zg (inB l 0)).mindex),V0 ((Zg (inB l 0)).mover)] fun W7 u7 k7=>?_
 have g6:=n6.ge (bln n1.below a0)
 refine xbs 16 1 [V0 0] 3 fun b8 W8 n8=>?_
 refine xa 1 [P0 b,.slice (S1 b8) 1 1] 66 fun b9 W9 n9=>?_
 have b0:=(k7.below n8.below).below n9.below
 refine xb 7 5 b0 ?_
 have k1:=((u7.blkT ((n1.blk.below a0).below n6.below) n6.blk (by decide)).below n8.below).below n9.below
 have a9:=((((a7.below a0).below n6.below).only (Zd.of_upd (T:=[30]) u7 n6.blk (by decide)) (by decide)).below n8.below).below n9.below
 have k8:=n8.blk.below n9.below
 have b4:b8≤b9:=by have q1:=n8.lt;have q2:=n9.at_;omega
 have c7:b1<b8:=by have q1:=n1.lt;have q2:=a0.size;have q4:=n6.below.size;have q5:=u7.size;have q3:=n8.at_;omega
 have g8:=n8.ge (u7.below (bln (bln n1.below a0) n6.below) g6)
 refine xc 2 (args:=#[P0 b9,V0 ((Zg (inB l 0)).top),V0 id,V0 v]) ((tracer_all b8 Bi b b9 p n c l (Zg (inB l 0)).top id v [0] (S1 b8) 1 _ (b4) (Nat.le_of_lt (k8).lt) n9.blk (Xl (size:=1) (n:=1) k8 (Nat.le_refl _) rfl (by decide)) a9 (by decide)).mono (fun _ _ h=>all_up h g8 k1 c7)) ?_
 rintro e c9 b2
 rcases b2 with ⟨hz,c1,x7,rfl,a1,a8,a2,c3⟩|⟨hz,p8,c8,rfl,a1,a8,a2,c6⟩
 ·refine xsv 2 a2 [S0,.bool false,V0 0,V0 0] fun d1 b5 c4=>?_
  have g1:=n1.ge (B4 w)
  have hB:=b5.below ((bln (bln (u7.below (bln (bln n1.below a0) n6.below) g6) n8.below) n9.below).trans a1) g1
  have a3:=c3.upd b5 a2 (by decide)
  refine xec 4 c4 (.tuple #[.agg #[S0,.bool false,V0 0,V0 0],.iface c1 (x7)]) ?_
  rw[Zaq a5];exact .inl ⟨hz,_,_,rfl,hB,a3⟩
 refine xsv 2 a2 [.slice p8 ((Wk l [0] (Zg (inB l 0)).top id v).way.length) c8,.bool ((Wk l [0] (Zg (inB l 0)).top id v).found),V0 ((Wk l [0] (Zg (inB l 0)).top id v).b),V0 ((Wk l [0] (Zg (inB l 0)).top id v).t)] fun d0 b7 c2=>?_
 have g1:=n1.ge (B4 w)
 have a6:=b7.own2 c6 a2 (by decide)
 have hB:=b7.below ((bln (bln (u7.below (bln (bln n1.below a0) n6.below) g6) n8.below) n9.below).trans a1) g1
 refine xec 4 c2 (.tuple #[.agg #[.slice p8 ((Wk l [0] (Zg (inB l 0)).top id v).way.length) c8,.bool ((Wk l [0] (Zg (inB l 0)).top id v).found),V0 ((Wk l [0] (Zg (inB l 0)).top id v).b),V0 ((Wk l [0] (Zg (inB l 0)).top id v).t)],.nilIface]) ?_
 rw[Zaq a5];exact .inr ⟨hz,_,_,rfl,hB,a6⟩
theorem Hk(l:Bl)(root tree fuel:Int):∀ i,i<(Ze l root tree fuel).es.length→((Ze l root tree fuel).es.getD i Zn).2.1.length≤1000:=fun i hi=>by
 have hx:(Ze l root tree fuel).es.getD i Zn∈(Ze l root tree fuel).es:=by rw[show(Ze l root tree fuel).es.getD i Zn=(Ze l root tree fuel).es[i] from by simp[List.getD,hi]];exact List.getElem_mem hi
 obtain⟨_,_,k,_,_,h,_⟩:=(scan_law l root tree fuel).2.2.1 _ hx
 rw[←h]
 exact Vi _ _ _
theorem Up(Bi b:Nat)(pi:O0)(ni ci:Nat)(l:Bl)(root tree fuel:Int)(w:World)(hfu:fuel≤1000000)(hI:ImgR Bi b pi ni ci l w) :
 C0 43 #[P0 b,V0 root,V0 tree,V0 fuel] w (fun e w' =>
 ((Ze l root tree fuel).fs≠[]∧∃ pe ce pb cb pf cf ty x,e=.returned (.tuple #[.agg #[.slice pe 0 ce,.slice pb 0 cb,V0 0,V0 0,.slice pf 0 cf],.iface ty x])∧B3 w w'∧Va w' ((Vp (Ze l root tree fuel)).1.map some) (some (Vp (Ze l root tree fuel)).2) (.iface ty x)) ∨
 ((Ze l root tree fuel).fs=[]∧∃ pe ce pb nb cb dp lk pf cf,e=.returned (.tuple #[.agg #[.slice pe (Ze l root tree fuel).es.length ce,.slice pb nb cb,V0 dp,V0 lk,.slice pf 0 cf],.nilIface])∧B3 w w'∧w'.ownsRow w.heap.size 122 3 (.slice pe (Ze l root tree fuel).es.length ce) (Ze l root tree fuel).es.length ((Ze l root tree fuel).es.flatMap Qz))):=by
 refine(Zd9 Bi b pi ni ci l root tree fuel w hfu hI).mono ?_
 rintro e W ⟨t,pe,pb,pf,ce,cb,cf,fv,v,ht,rfl,hb,hW,hv⟩
 by_cases h:(Ze l root tree fuel).fs=[]
 ·obtain⟨h1,_,h3,h4⟩:=Zgq h
  rw[h1] at ht
  rw[h3,h4] at hv
  subst ht
  have a0:v=.nilIface:=hv
  subst a0
  refine .inr ⟨h,pe,ce,pb,(Ze l root tree fuel).bs.length,cb,(Ze l root tree fuel).deep,((Ze l root tree fuel).looked:Int),pf,cf,?_,hb,hW.ents⟩
  unfold walkC
  rw[h];rfl
 ·obtain⟨h1,h2,h3,h4⟩:=Ru h
  rw[h1] at ht
  rw[h3,h4,←h2] at hv
  subst ht
  rcases hv.nil_or with ⟨hz,_⟩|⟨_,ty,x,rfl⟩
  ·simp[Zem] at hz
  ·exact .inl ⟨h,pe,ce,pb,cb,pf,cf,ty,x,rfl,hb,hv⟩
theorem Zcj(no er:Int)(bl:List Int)(v:Value)(w:World)(hv:Va w (bl.map some) (some er) v) :
 C0 82 #[V0 no,v] w (fun e w'=>∃ ty x,e=.returned (.iface ty x)∧B3 w w'∧Va w' ((no::bl).map some) (some er) (.iface ty x)):=by
 refine(Yn no (some er) (bl.map some) v w hv).mono ?_
 rintro e W ⟨r,rfl,hb,hr⟩
 rw[show atL no (bl.map some) (some er)=(no::bl).map some from by unfold atL Zem;simp] at hr
 have a0:Va W (some no::bl.map some) (some er) r:=hr
 obtain⟨a1,v',rfl,h1,h2⟩:=a0
 exact⟨_,_,rfl,hb,a1,v',rfl,h1,h2⟩
theorem Bn{l:Bl}{root tree fuel:Int}(h:(Ze l root tree fuel).fs≠[]):(Vp (Ze l root tree fuel)).2≠0:=by
 obtain⟨es,fs,hw⟩:=Hh l root tree fuel
 have h2:(Ze l root tree fuel).fs=fs:=by rw[hw.fsE];rfl
 rw[(Ru h).2.1]
 rw[h2] at h ⊢
 cases fs with
 | nil=>exact absurd rfl h
 | cons f r=>exact(hw.flt f (by simp)).2.2
theorem Jp(no er:Int)(w:World)(he:er≠0) :
 C0 44 #[V0 no,V0 er] w ((fun e w'=>∃ ty x,e=.returned (.iface ty x)∧B3 w w'∧Va w' (([no]:List Int).map some) (some er) (.iface ty x))):=by
 refine zin 11 Tryz.func44 ?_
 refine xk 12 (show((er==(0:Int)):Bool)=false from beq_false_of_ne he) ?_
 refine xc 7 (args:=#[V0 no,.iface 89 (V0 er)]) (Zcj no er [] _ _ rfl) ?_
 rintro _ W1 ⟨a0,v1,rfl,a2,a1⟩
 exact xe 4 (.iface a0 (v1)) ⟨_,_,rfl,a2,a1⟩
def MapP(data:Int)(x:Ent)(w:World)(e:Ending)(w':World):Prop :=
 (Ij data x.2.1≠0∧∃ ty v,e=.returned (.tuple #[.agg #[V0 0,V0 0,V0 0],.iface ty v])∧B3 w w'∧Va w' (([x.2.2]:List Int).map some) (some (Ij data x.2.1)) (.iface ty v)) ∨
 (Ij data x.2.1=0∧e=.returned (.tuple #[.agg #[V0 x.1,V0 (Uk x.2.1:Int),V0 (Pb x.2.1:Int)],.nilIface])∧B3 w w')
theorem Sg{data:Int}{v:Bl}(h:Xk Vm v≠0):Ij data v=Xk Vm v:=if_pos h
theorem Ow{data:Int}{v:Bl}(h:Xk Vm v=0)(h2:data≤(Uk v:Int)):Ij data v=2:=by unfold Ij;rw[if_neg (fun q=>q h),if_pos h2]
theorem mapE_in{data:Int}{v:Bl}(h:Xk Vm v=0)(h2:¬ data≤(Uk v:Int)):Ij data v=0:=by unfold Ij;rw[if_neg (fun q=>q h),if_neg h2]
theorem Dg(bx b:Nat)(data fuel sum:Int)(x:Ent)(w:World)(hk:Blk w bx [P0 b,V0 data,V0 fuel,V0 sum] 118)(hs:x.2.1.length≤1000) :
 C0 149 #[P0 bx,.agg #[V0 x.1,.string ⟨x.2.1.toArray⟩,V0 x.2.2]] w (MapP data x w):=by
 refine zin 38 Tryz.func149 ?_
 refine xa 2 [V0 x.1,.string ⟨x.2.1.toArray⟩,V0 x.2.2] 122 fun b1 W1 n1=>?_
 refine xa 0 [V0 0,V0 0,V0 0] 46 fun b2 W2 n2=>?_
 have k1:=n1.blk.below n2.below
 refine xb 6 1 k1 ?_
 refine xr 0 (args:=#[.string ⟨x.2.1.toArray⟩]) (Bg x.2.1 _ hs) fun W3 a0=>?_
 refine xg 15 [17,18] ((Xk Vm x.2.1)==(0:Int)) (fun a5=>?_) (fun a5=>?_)
 ·have a5:=eq_of_beq a5
  have b3:=((hk.below n1.below).below n2.below).below a0
  refine xb 4 1 b3 ?_
  refine xid 4 ((↑(Uk x.2.1):Int)≥data) (fun c2=>?_) (fun c2=>?_)
  ·have a7:=k1.below a0
   refine xb 16 2 a7 ?_
   refine xc 1 (args:=#[V0 x.2.2,V0 2]) (Jp x.2.2 2 _ (by omega)) ?_
   rintro _ W6 ⟨d0,v6,rfl,b7,a4⟩
   have k2:=(n2.blk.below a0).below b7
   refine xsv 0 k2 [V0 0,V0 0,V0 0] fun W7 u7 k7=>?_
   have g2:=n2.ge n1.below
   have hB:=u7.below (bln (bln (bln n1.below n2.below) a0) b7) g2
   have a3:=a4.only (Zd.of_upd (T:=[46]) u7 k2 (by decide)) (by decide)
   refine xec 5 k7 (.tuple #[.agg #[V0 0,V0 0,V0 0],.iface d0 (v6)]) ?_
   first|(have e9:=Ow (data:=data) (v:=x.2.1) (by omega) (by omega);exact .inl ⟨by rw[e9];decide,_,_,rfl,hB,by rw[e9];exact a3⟩)|(have e9:=Sg (data:=data) (v:=x.2.1) (by omega);exact .inl ⟨by rw[e9];omega,_,_,rfl,hB,by rw[e9];exact a3⟩)
  refine xin 9 (Xk Vm x.2.1) (0:Int) (fun d1=>?_) (fun d1=>?_)
  ·have b6:=k1.below a0
   refine xb 4 2 b6 ?_
   refine xc 1 (args:=#[V0 x.2.2,V0 (Xk Vm x.2.1)]) (Jp x.2.2 (Xk Vm x.2.1) _ (by omega)) ?_
   rintro _ W9 ⟨c9,v9,rfl,b9,a4⟩
   have k2:=(n2.blk.below a0).below b9
   refine xsv 0 k2 [V0 0,V0 0,V0 0] fun d3 b8 c1=>?_
   have g2:=n2.ge n1.below
   have hB:=b8.below (bln (bln (bln n1.below n2.below) a0) b9) g2
   have a2:=a4.only (Zd.of_upd (T:=[46]) b8 k2 (by decide)) (by decide)
   refine xec 5 c1 (.tuple #[.agg #[V0 0,V0 0,V0 0],.iface c9 (v9)]) ?_
   first|(have e9:=Ow (data:=data) (v:=x.2.1) (by omega) (by omega);exact .inl ⟨by rw[e9];decide,_,_,rfl,hB,by rw[e9];exact a2⟩)|(have e9:=Sg (data:=data) (v:=x.2.1) (by omega);exact .inl ⟨by rw[e9];omega,_,_,rfl,hB,by rw[e9];exact a2⟩)
  have b0:=k1.below a0
  refine xb 5 0 b0 ?_
  have k2:=n2.blk.below a0
  refine xsv 3 k2 [V0 x.1,V0 (↑(Uk x.2.1):Int),V0 (↑(Pb x.2.1):Int)] fun d5 c4 c6=>?_
  have g2:=n2.ge n1.below
  have hB:=c4.below (bln (bln n1.below n2.below) a0) g2
  exact xec 4 c6 (.tuple #[.agg #[V0 x.1,V0 (↑(Uk x.2.1):Int),V0 (↑(Pb x.2.1):Int)],.nilIface]) (.inr ⟨mapE_in (by omega) (by omega),rfl,hB⟩)
 have a5:=Qe a5
 refine xin 19 (Xk Vm x.2.1) (0:Int) (fun b4=>?_) (fun b4=>?_)
 ·have b5:=k1.below a0
  refine xb 4 2 b5 ?_
  refine xc 1 (args:=#[V0 x.2.2,V0 (Xk Vm x.2.1)]) (Jp x.2.2 (Xk Vm x.2.1) _ (by omega)) ?_
  rintro _ d2 ⟨a8,c5,rfl,a6,a4⟩
  have k2:=(n2.blk.below a0).below a6
  refine xsv 0 k2 [V0 0,V0 0,V0 0] fun d4 c0 c7=>?_
  have g2:=n2.ge n1.below
  have hB:=c0.below (bln (bln (bln n1.below n2.below) a0) a6) g2
  have a1:=a4.only (Zd.of_upd (T:=[46]) c0 k2 (by decide)) (by decide)
  refine xec 5 c7 (.tuple #[.agg #[V0 0,V0 0,V0 0],.iface a8 (c5)]) ?_
  first|(have e9:=Ow (data:=data) (v:=x.2.1) (by omega) (by omega);exact .inl ⟨by rw[e9];decide,_,_,rfl,hB,by rw[e9];exact a1⟩)|(have e9:=Sg (data:=data) (v:=x.2.1) (by omega);exact .inl ⟨by rw[e9];omega,_,_,rfl,hB,by rw[e9];exact a1⟩)
 have a9:=k1.below a0
 refine xb 5 0 a9 ?_
 have k2:=n2.blk.below a0
 refine xsv 3 k2 [V0 x.1,V0 (↑(Uk x.2.1):Int),V0 (↑(Pb x.2.1):Int)] fun d6 c3 c8=>?_
 have g2:=n2.ge n1.below
 have hB:=c3.below (bln (bln n1.below n2.below) a0) g2
 exact xec 4 c8 (.tuple #[.agg #[V0 x.1,V0 (↑(Uk x.2.1):Int),V0 (↑(Pb x.2.1):Int)],.nilIface]) (.inr ⟨mapE_in (by omega) (by omega),rfl,hB⟩)
def TellP(O:List Int×Int×List Mp)(w:World)(e:Ending)(w':World):Prop :=
 (O.2.1≠0∧∃ ty v,e=.returned (.tuple #[S0,.iface ty v])∧B3 w w'∧Va w' (O.1.map some) (some O.2.1) (.iface ty v)) ∨
 (O.2.1=0∧∃ p c,e=.returned (.tuple #[.slice p O.2.2.length c,.nilIface])∧B3 w w'∧w'.ownsRow w.heap.size 46 3 (.slice p O.2.2.length c) O.2.2.length (O.2.2.flatMap Pj))
theorem Es{O:List Int×Int×List Mp}{bl:List Int}{er:Int}{w W:World}{ty:TypeId}{v:Value}(h:O=(bl,er,[]))(her:er≠0)(hb:B3 w W)(hv:Va W (bl.map some) (some er) (.iface ty v)):TellP O w (.returned (.tuple #[S0,.iface ty v])) W:=by
 subst h;exact .inl ⟨her,ty,v,rfl,hb,hv⟩
theorem tell_ok{O:List Int×Int×List Mp}{L:List Mp}{n:Nat}{w W:World}{p:O0}{c:Nat}(h:O=([],0,L))(hn:L.length=n)(hb:B3 w W)(ho:W.ownsRow w.heap.size 46 3 (.slice p n c) n (L.flatMap Pj)):TellP O w (.returned (.tuple #[.slice p n c,.nilIface])) W:=by
 subst h hn;exact .inr ⟨rfl,p,c,rfl,hb,ho⟩
theorem Zcs{es:List Ent}{i:Nat}(hi:i<es.length):((es.take (i+1)).map Zb7).flatMap Pj=((es.take i).map Zb7).flatMap Pj++Pj (Zb7 (es.getD i Zn)):=by
 rw[List.take_succ_eq_append_getElem hi,List.map_append,List.flatMap_append,show es.getD i Zn=es[i] from by simp[List.getD,hi]]
 simp only[List.map_cons,List.map_nil,List.flatMap_cons,List.flatMap_nil,List.append_nil]
theorem load_maps(Bi bx b:Nat)(pi:O0)(ni ci:Nat)(l:Bl)(data fuel sum root:Int)(w:World)(hI:ImgR Bi b pi ni ci l w)(hk:Blk w bx [P0 b,V0 data,V0 fuel,V0 sum] 118)(hfu:fuel≤1000000) :
 C0 85 #[P0 bx,V0 root] w (TellP (Zdr l root data fuel) w):=by
 have l9:=(Uf l root 2 fuel hfu).1
 refine zin 51 Tryz.func85 ?_
 refine xd 7 (.t w.heap.size [108]) ?_
 have c2:=hk.below (Za w)
 refine xbt (.e [0,1,2] 3) 0 w.heap.size [108] c2 ?_
 refine xbt (.e [4,5,6,7] 8) 2 w.heap.size [108] c2 ?_
 refine xm2 0 9 13 ?_ ?_
 ·have hB:=(Za w)
  refine yc 0 (args:=#[P0 b,V0 root,V0 2,V0 fuel]) (.t w.heap.size [108]) (Up Bi b pi ni ci l root 2 fuel _ hfu (hI.below hB)) ?_
  rintro e W1 l3
  rcases l3 with ⟨b3,pe,ce,pb,cb,pf,cf,k0,vw,rfl,e2,d4⟩|⟨b3,pe,ce,pb,nb,cb,dp,lk,pf,cf,rfl,e2,a7⟩
  ·refine⟨(SF.of_below _ e2),?_⟩
   refine xa (.o [10,11,12] 13) [S0,S0,V0 0,V0 0,S0] 108 fun b2 W2 n2=>?_
   have e6:=bln hB e2
   have g2:=n2.ge e6
   refine ysv (.o [] 14) n2.blk [.slice pe 0 ce,.slice pb 0 cb,V0 0,V0 0,.slice pf 0 cf] (.t w.heap.size [108]) fun W3 u3 k3=>⟨(Zl u3 n2.blk g2 (by decide)),?_⟩
   have h2:=(d4.below n2.below).only (Zd.of_upd (T:=[108]) u3 n2.blk (by decide)) (by decide)
   have i3:=u3.below (bln e6 n2.below) g2
   exact xe (.r [15] 19) (.tuple #[S0,.iface k0 (vw)]) (Es (Fy b3) (Bn b3) i3 h2)
  have m7:=(Za w).size
  refine⟨(SF.of_below _ e2),?_⟩
  refine xa (.o [10,11,12] 13) [S0,S0,V0 0,V0 0,S0] 108 fun b4 W4 n4=>?_
  have f8:=bln hB e2
  have g4:=n4.ge f8
  refine ysv (.o [] 14) n4.blk [.slice pe ((Ze l root 2 fuel).es.length) ce,.slice pb nb cb,V0 dp,V0 lk,.slice pf 0 cf] (.t w.heap.size [108]) fun W5 u5 k5=>⟨(Zl u5 n4.blk g4 (by decide)),?_⟩
  refine xb (.r [15] 21) 0 k5 ?_
  have f3:=u5.own2 (Zb (Zh a7 m7) n4.below) n4.blk (by decide)
  have j5:=u5.below (bln f8 n4.below) g4
  have j1:=u5.blkT ((c2.below e2).below n4.below) n4.blk (by decide)
  refine zl 5 51 (fun zm i1 V=>∃ (i:Nat) (p:O0) (c:Nat),i1=[(0,P0 bx),(8,.slice p i c),(30,.slice pe ((Ze l root 2 fuel).es.length) ce),(31,V0 (↑((Ze l root 2 fuel).es.length):Int)),(32,V0 (i:Int))]∧zm=(Ze l root 2 fuel).es.length-((i:Int)).toNat∧B3 w V∧Blk V bx ([P0 b,V0 data,V0 fuel,V0 sum]) 118∧Blk V b4 ([.slice pe ((Ze l root 2 fuel).es.length) ce,.slice pb nb cb,V0 dp,V0 lk,.slice pf 0 cf]) 108∧V.ownsRow w.heap.size 122 3 (.slice pe (Ze l root 2 fuel).es.length ce) (Ze l root 2 fuel).es.length ((Ze l root 2 fuel).es.flatMap Qz)∧V.ownsRow w.heap.size 46 3 (.slice p i c) i ((((Ze l root 2 fuel).es.take i).map Zb7).flatMap Pj)∧i≤(Ze l root 2 fuel).es.length∧Zcu data (Ze l root 2 fuel).es i) ⟨0,none,0,rfl,rfl,j5,j1,k5,f3,World.ownsRow_nil _ _ _ _,Nat.zero_le _,fun j hj=>absurd hj (by omega)⟩ ?_
  rintro _ _ W6 ⟨i,p,c,rfl,rfl,c4,h3,f6,a7,ho,hi,d8⟩ J6 m1 r6
  refine xid 6 ((i:Int)<(↑((Ze l root 2 fuel).es.length):Int)) (fun l1=>?_) (fun l1=>?_)
  ·refine xx 6 _ ((Ze l root 2 fuel).es.length) i 3 (Sts.cell (f:=Qz) (Zf a7) Qk Zn (k:=i) (i:=0) (by omega) rfl).1 ?_
   refine xlv 0 (Sts.rp (k:=i) (Zf a7) Qk Zn (by omega) (by decide)) ?_
   refine xa 0 [V0 0,.string ⟨#[]⟩,V0 0] 122 fun b8 W8 n8=>?_
   have g8:=n8.ge c4
   have e1:=Zu a7 n8
   refine xsv 0 n8.blk [V0 (((Ze l root 2 fuel).es.getD i Zn).1),.string ⟨(((Ze l root 2 fuel).es.getD i Zn).2.1).toArray⟩,V0 (((Ze l root 2 fuel).es.getD i Zn).2.2)] fun W9 u9 k9=>?_
   refine xlv 5 k9.rp ?_
   have a5:=u9.blkT (h3.below n8.below) n8.blk (by decide)
   refine xc 0 (args:=#[P0 bx,.agg #[V0 (((Ze l root 2 fuel).es.getD i Zn).1),.string ⟨(((Ze l root 2 fuel).es.getD i Zn).2.1).toArray⟩,V0 (((Ze l root 2 fuel).es.getD i Zn).2.2)]]) (Dg bx b data fuel sum ((Ze l root 2 fuel).es.getD i Zn) _ a5 (Hk _ _ _ _ i (by omega))) ?_
   rintro e q1 j3
   rcases j3 with ⟨c0,j9,vm,rfl,a0,d4⟩|⟨c0,rfl,a0⟩
   ·refine xa 3 [V0 0,V0 0,V0 0] 46 fun o8 q4 e4=>?_
    have f1:=bln (u9.below (bln c4 n8.below) g8) a0
    have l8:=e4.ge f1
    have i2:=Zb (u9.own2 (Zb ho n8.below) n8.blk (by decide)) a0
    have h9:=Zu i2 e4
    refine xsv 0 e4.blk [V0 0,V0 0,V0 0] fun p2 l0 n7=>?_
    have g5:=(d4.below e4.below).only (Zd.of_upd (T:=[46]) l0 e4.blk (by decide)) (by decide)
    have i4:=l0.below (bln f1 e4.below) l8
    exact xe 25 (.tuple #[S0,.iface j9 (vm)]) (Es ((Lm b3).trans (Re (by omega) d8 c0)) c0 i4 g5)
   refine xa 3 [V0 0,V0 0,V0 0] 46 fun n0 o7 b1=>?_
   have e7:=bln (u9.below (bln c4 n8.below) g8) a0
   have m4:=b1.ge e7
   have h0:=Zb (u9.own2 (Zb ho n8.below) n8.blk (by decide)) a0
   have d7:=Zu h0 b1
   refine xsv 0 b1.blk [V0 (((Ze l root 2 fuel).es.getD i Zn).1),V0 (↑(Uk ((Ze l root 2 fuel).es.getD i Zn).2.1):Int),V0 (↑(Pb ((Ze l root 2 fuel).es.getD i Zn).2.1):Int)] fun p1 f7 k4=>?_
   refine xlv 15 k4.rp ?_
   refine xbs 0 1 [V0 (((Ze l root 2 fuel).es.getD i Zn).1),V0 (↑(Uk ((Ze l root 2 fuel).es.getD i Zn).2.1):Int),V0 (↑(Pb ((Ze l root 2 fuel).es.getD i Zn).2.1):Int)] 46 fun o1 q5 c6=>?_
   have h6:=c6.ne k4
   have e9:=f7.below (bln e7 b1.below) m4
   have p9:=c6.ge e9
   have f9:=f7.own3 (Zb h0 b1.below) d7
   have i9:=Zu f9 c6
   have b9:=Zb f9 c6.below
   have f2:=bln e9 c6.below
   refine xbi 0 fun _ _ _ _ zJ zQ zo zx zy zK=>Xd (m:=1) (news:=[V0 (((Ze l root 2 fuel).es.getD i Zn).1),V0 (↑(Uk ((Ze l root 2 fuel).es.getD i Zn).2.1):Int),V0 (↑(Pb ((Ze l root 2 fuel).es.getD i Zn).2.1):Int)]) (.agg #[V0 0,V0 0,V0 0]) 3 24 (i+1) (((((Ze l root 2 fuel).es.take (i+1)).map Zb7).flatMap Pj)) zo Tryz.underlying40 (by kernel_rfl) rfl (by decide) zx b9 zy (c6.blk.sl 1 1 (by decide) (by decide)) rfl (by simp[Value.oneCell']) (by unfold maxLen;omega) (by omega) f2.size (rfl) (by rw[Zcs (by omega)];rfl) fun m5 l7 o2 l6 e0 j0=>?_
   refine zK _ _ ?_
   refine xwm 5 ((i:Int)+1) (↑(i+1):Int) ?_
   have f5:=f2.trans j0
   have c5:=((f7.blkT ((a5.below a0).below b1.below) b1.blk (by decide)).below c6.below).grown e0 b9 (by decide)
   have b5:=((f7.blkT (((u9.blkT (f6.below n8.below) n8.blk (by decide)).below a0).below b1.below) b1.blk (by decide)).below c6.below).grown e0 b9 (by decide)
   have f0:=Zr (Zb (f7.own2 (Zb (Zb (u9.own3 (Zb a7 n8.below) e1) a0) b1.below) b1.blk (by decide)) c6.below) e0 b9 (by decide)
   exact ze 2 (m1 _ _ _ ⟨i+1,_,_,rfl,rfl,f5,c5,b5,f0,l6,by omega,Bz d8 c0⟩ (by omega))
  refine xe 13 (.tuple #[.slice p i c,.nilIface]) ?_
  obtain rfl:i=(Ze l root 2 fuel).es.length:=by omega
  rw[List.take_of_length_le (Nat.le_refl _)] at ho
  exact tell_ok ((Lm b3).trans (Ox d8)) (List.length_map _) c4 ho
 refine xa 0 [S0,S0,V0 0,V0 0,S0] 108 fun m0 p4 d3=>?_
 have hB:=bln (Za w) d3.below
 refine yc (.o [] 9) (args:=#[P0 b,V0 root,V0 2,V0 fuel]) (.t w.heap.size [108]) (Up Bi b pi ni ci l root 2 fuel _ hfu (hI.below hB)) ?_
 rintro e n6 i0
 rcases i0 with ⟨b3,pe,ce,pb,cb,pf,cf,k0,vw,rfl,a1,d4⟩|⟨b3,pe,ce,pb,nb,cb,dp,lk,pf,cf,rfl,a1,a7⟩
 ·refine⟨(SF.of_below _ a1),?_⟩
  have c9:=d3.blk.below a1
  have h5:=d3.ge (Za w)
  refine ysv (.o [10,11,12] 14) c9 [.slice pe 0 ce,.slice pb 0 cb,V0 0,V0 0,.slice pf 0 cf] (.t w.heap.size [108]) fun p6 i8 o9=>⟨(Zl i8 c9 h5 (by decide)),?_⟩
  have e8:=d4.only (Zd.of_upd (T:=[108]) i8 c9 (by decide)) (by decide)
  have g6:=i8.below (bln hB a1) h5
  exact xe (.r [15] 19) (.tuple #[S0,.iface k0 (vw)]) (Es (Fy b3) (Bn b3) g6 e8)
 have j8:=(bln (Za w) d3.below).size
 refine⟨(SF.of_below _ a1),?_⟩
 have c9:=d3.blk.below a1
 have h5:=d3.ge (Za w)
 refine ysv (.o [10,11,12] 14) c9 [.slice pe ((Ze l root 2 fuel).es.length) ce,.slice pb nb cb,V0 dp,V0 lk,.slice pf 0 cf] (.t w.heap.size [108]) fun o4 h8 k2=>⟨(Zl h8 c9 h5 (by decide)),?_⟩
 refine xb (.r [15] 21) 0 k2 ?_
 have g3:=h8.own2 (Zh a7 j8) c9 (by decide)
 have h1:=h8.below (bln hB a1) h5
 have j7:=h8.blkT ((c2.below d3.below).below a1) c9 (by decide)
 refine zl 5 51 (fun zm i1 V=>∃ (i:Nat) (p:O0) (c:Nat),i1=[(0,P0 bx),(8,.slice p i c),(30,.slice pe ((Ze l root 2 fuel).es.length) ce),(31,V0 (↑((Ze l root 2 fuel).es.length):Int)),(32,V0 (i:Int))]∧zm=(Ze l root 2 fuel).es.length-((i:Int)).toNat∧B3 w V∧Blk V bx ([P0 b,V0 data,V0 fuel,V0 sum]) 118∧Blk V m0 ([.slice pe ((Ze l root 2 fuel).es.length) ce,.slice pb nb cb,V0 dp,V0 lk,.slice pf 0 cf]) 108∧V.ownsRow w.heap.size 122 3 (.slice pe (Ze l root 2 fuel).es.length ce) (Ze l root 2 fuel).es.length ((Ze l root 2 fuel).es.flatMap Qz)∧V.ownsRow w.heap.size 46 3 (.slice p i c) i ((((Ze l root 2 fuel).es.take i).map Zb7).flatMap Pj)∧i≤(Ze l root 2 fuel).es.length∧Zcu data (Ze l root 2 fuel).es i) ⟨0,none,0,rfl,rfl,h1,j7,k2,g3,World.ownsRow_nil _ _ _ _,Nat.zero_le _,fun j hj=>absurd hj (by omega)⟩ ?_
 rintro _ _ n5 ⟨i,p,c,rfl,rfl,a4,d5,b6,a7,ho,hi,d8⟩ q3 j6 p0
 refine xid 6 ((i:Int)<(↑((Ze l root 2 fuel).es.length):Int)) (fun i6=>?_) (fun i6=>?_)
 ·refine xx 6 _ ((Ze l root 2 fuel).es.length) i 3 (Sts.cell (f:=Qz) (Zf a7) Qk Zn (k:=i) (i:=0) (by omega) rfl).1 ?_
  refine xlv 0 (Sts.rp (k:=i) (Zf a7) Qk Zn (by omega) (by decide)) ?_
  refine xa 0 [V0 0,.string ⟨#[]⟩,V0 0] 122 fun o5 m9 a6=>?_
  have k6:=a6.ge a4
  have c1:=Zu a7 a6
  refine xsv 0 a6.blk [V0 (((Ze l root 2 fuel).es.getD i Zn).1),.string ⟨(((Ze l root 2 fuel).es.getD i Zn).2.1).toArray⟩,V0 (((Ze l root 2 fuel).es.getD i Zn).2.2)] fun m8 d9 m6=>?_
  refine xlv 5 m6.rp ?_
  have a2:=d9.blkT (d5.below a6.below) a6.blk (by decide)
  refine xc 0 (args:=#[P0 bx,.agg #[V0 (((Ze l root 2 fuel).es.getD i Zn).1),.string ⟨(((Ze l root 2 fuel).es.getD i Zn).2.1).toArray⟩,V0 (((Ze l root 2 fuel).es.getD i Zn).2.2)]]) (Dg bx b data fuel sum ((Ze l root 2 fuel).es.getD i Zn) _ a2 (Hk _ _ _ _ i (by omega))) ?_
  rintro e q2 i7
  rcases i7 with ⟨c0,j9,vm,rfl,a3,d4⟩|⟨c0,rfl,a3⟩
  ·refine xa 3 [V0 0,V0 0,V0 0] 46 fun o6 n3 e3=>?_
   have d0:=bln (d9.below (bln a4 a6.below) k6) a3
   have m3:=e3.ge d0
   have k1:=Zb (d9.own2 (Zb ho a6.below) a6.blk (by decide)) a3
   have j2:=Zu k1 e3
   refine xsv 0 e3.blk [V0 0,V0 0,V0 0] fun o3 k7 n1=>?_
   have h4:=(d4.below e3.below).only (Zd.of_upd (T:=[46]) k7 e3.blk (by decide)) (by decide)
   have e5:=k7.below (bln d0 e3.below) m3
   exact xe 25 (.tuple #[S0,.iface j9 (vm)]) (Es ((Lm b3).trans (Re (by omega) d8 c0)) c0 e5 h4)
  refine xa 3 [V0 0,V0 0,V0 0] 46 fun p3 p8 a9=>?_
  have c8:=bln (d9.below (bln a4 a6.below) k6) a3
  have l2:=a9.ge c8
  have g9:=Zb (d9.own2 (Zb ho a6.below) a6.blk (by decide)) a3
  have d2:=Zu g9 a9
  refine xsv 0 a9.blk [V0 (((Ze l root 2 fuel).es.getD i Zn).1),V0 (↑(Uk ((Ze l root 2 fuel).es.getD i Zn).2.1):Int),V0 (↑(Pb ((Ze l root 2 fuel).es.getD i Zn).2.1):Int)] fun q0 g0 k8=>?_
  refine xlv 15 k8.rp ?_
  refine xbs 0 1 [V0 (((Ze l root 2 fuel).es.getD i Zn).1),V0 (↑(Uk ((Ze l root 2 fuel).es.getD i Zn).2.1):Int),V0 (↑(Pb ((Ze l root 2 fuel).es.getD i Zn).2.1):Int)] 46 fun p5 o0 b7=>?_
  have h7:=b7.ne k8
  have d1:=g0.below (bln c8 a9.below) l2
  have p7:=b7.ge d1
  have g7:=g0.own3 (Zb g9 a9.below) d2
  have i5:=Zu g7 b7
  have c3:=Zb g7 b7.below
  have c7:=bln d1 b7.below
  refine xbi 0 fun _ _ _ _ zJ zQ zo zx zy zK=>Xd (m:=1) (news:=[V0 (((Ze l root 2 fuel).es.getD i Zn).1),V0 (↑(Uk ((Ze l root 2 fuel).es.getD i Zn).2.1):Int),V0 (↑(Pb ((Ze l root 2 fuel).es.getD i Zn).2.1):Int)]) (.agg #[V0 0,V0 0,V0 0]) 3 24 (i+1) (((((Ze l root 2 fuel).es.take (i+1)).map Zb7).flatMap Pj)) zo Tryz.underlying40 (by kernel_rfl) rfl (by decide) zx c3 zy (b7.blk.sl 1 1 (by decide) (by decide)) rfl (by simp[Value.oneCell']) (by unfold maxLen;omega) (by omega) c7.size (rfl) (by rw[Zcs (by omega)];rfl) fun m2 l5 n9 l4 d6 j4=>?_
  refine zK _ _ ?_
  refine xwm 5 ((i:Int)+1) (↑(i+1):Int) ?_
  have g1:=c7.trans j4
  have b0:=((g0.blkT ((a2.below a3).below a9.below) a9.blk (by decide)).below b7.below).grown d6 c3 (by decide)
  have a8:=((g0.blkT (((d9.blkT (b6.below a6.below) a6.blk (by decide)).below a3).below a9.below) a9.blk (by decide)).below b7.below).grown d6 c3 (by decide)
  have f4:=Zr (Zb (g0.own2 (Zb (Zb (d9.own3 (Zb a7 a6.below) c1) a3) a9.below) a9.blk (by decide)) b7.below) d6 c3 (by decide)
  exact ze 2 (j6 _ _ _ ⟨i+1,_,_,rfl,rfl,g1,b0,a8,f4,l4,by omega,Bz d8 c0⟩ (by omega))
 refine xe 13 (.tuple #[.slice p i c,.nilIface]) ?_
 obtain rfl:i=(Ze l root 2 fuel).es.length:=by omega
 rw[List.take_of_length_le (Nat.le_refl _)] at ho
 exact tell_ok ((Lm b3).trans (Ox d8)) (List.length_map _) a4 ho
theorem load_mapsO(Bi bx b:Nat)(pi:O0)(ni ci:Nat)(l:Bl)(data fuel sum:Int)(y:Ent)(w:World)(hI:ImgR Bi b pi ni ci l w)(hk:Blk w bx [P0 b,V0 data,V0 fuel,V0 sum] 118)(hfu:fuel≤1000000):C0 85 #[P0 bx,V0 (↑(Xm y.2.1):Int)] w (TellP (Kz l y data fuel) w):=load_maps Bi bx b pi ni ci l data fuel sum (↑(Xm y.2.1):Int) w hI hk hfu
theorem own_few(l:Bl)(y:Ent)(data fuel:Int)(hf:fuel≤1000000):(Kz l y data fuel).2.2.length≤100000000:=by
 have h:=(Uf l (Xm y.2.1:Int) 2 fuel hf).1
 unfold Kz Zdr Tj
 split
 ·exact Nat.zero_le _
 ·split
  ·exact Nat.zero_le _
  ·rw[List.length_map];exact h
theorem dev_1{l:Bl}{x y:Ent}{data fuel:Int}{sum:Nat}(h:16777215<x.1):Di l x y data fuel sum=([x.2.2],9):=if_pos h
theorem dev_2{l:Bl}{x y:Ent}{data fuel:Int}{sum:Nat}(h:¬ 16777215<x.1)(h2:Xk Hm x.2.1≠0):Di l x y data fuel sum=([x.2.2],Xk Hm x.2.1):=by unfold Di;rw[if_neg h,if_pos h2]
theorem dev_3{l:Bl}{x y:Ent}{data fuel:Int}{sum:Nat}(h:¬ 16777215<x.1)(h2:Xk Hm x.2.1=0)(h3:Xj y.2.1≠0):Di l x y data fuel sum=([y.2.2],Xj y.2.1):=by unfold Di;rw[if_neg h,if_neg (fun q=>q h2),if_pos h3]
theorem dev_4{l:Bl}{x y:Ent}{data fuel:Int}{sum:Nat}(h:¬ 16777215<x.1)(h2:Xk Hm x.2.1=0)(h3:Xj y.2.1=0)(h4:(Kz l y data fuel).2.1≠0):Di l x y data fuel sum=(y.2.2::(Kz l y data fuel).1,(Kz l y data fuel).2.1):=by unfold Di;rw[if_neg h,if_neg (fun q=>q h2),if_neg (fun q=>q h3),if_pos h4]
theorem dev_5{l:Bl}{x y:Ent}{data fuel:Int}{sum:Nat}(h:¬ 16777215<x.1)(h2:Xk Hm x.2.1=0)(h3:Xj y.2.1=0)(h4:(Kz l y data fuel).2.1=0)(h5:(Kz l y data fuel).2.2.length≠Qs x.2.1 0):Di l x y data fuel sum=([x.2.2],13):=by unfold Di;rw[if_neg h,if_neg (fun q=>q h2),if_neg (fun q=>q h3),if_neg (fun q=>q h4),if_pos h5]
theorem dev_6{l:Bl}{x y:Ent}{data fuel:Int}{sum:Nat}(h:¬ 16777215<x.1)(h2:Xk Hm x.2.1=0)(h3:Xj y.2.1=0)(h4:(Kz l y data fuel).2.1=0)(h5:(Kz l y data fuel).2.2.length=Qs x.2.1 0)(h6:16384<sum+(Kz l y data fuel).2.2.length):Di l x y data fuel sum=([y.2.2],2):=by unfold Di;rw[if_neg h,if_neg (fun q=>q h2),if_neg (fun q=>q h3),if_neg (fun q=>q h4),if_neg (fun q=>q h5),if_pos h6]
theorem dev_7{l:Bl}{x y:Ent}{data fuel:Int}{sum:Nat}(h:¬ 16777215<x.1)(h2:Xk Hm x.2.1=0)(h3:Xj y.2.1=0)(h4:(Kz l y data fuel).2.1=0)(h5:(Kz l y data fuel).2.2.length=Qs x.2.1 0)(h6:¬ 16384<sum+(Kz l y data fuel).2.2.length):Di l x y data fuel sum=([],0):=by unfold Di;rw[if_neg h,if_neg (fun q=>q h2),if_neg (fun q=>q h3),if_neg (fun q=>q h4),if_neg (fun q=>q h5),if_neg h6]
def DevP(B bx b:Nat)(l:Bl)(x y:Ent)(data fuel:Int)(sum:Nat)(w:World)(e:Ending)(w':World):Prop :=
 ((Di l x y data fuel sum).2≠0∧∃ ty v,e=.returned (.tuple #[.agg #[V0 0,V0 0,V0 0,V0 0,S0],.iface ty v])∧Below B w w'∧Zd [118] w w'∧Fr [bx] w w'∧Va w' ((Di l x y data fuel sum).1.map some) (some (Di l x y data fuel sum).2) (.iface ty v)) ∨
 ((Di l x y data fuel sum).2=0∧∃ p c,e=.returned (.tuple #[.agg #[V0 x.1,V0 (Qs x.2.1 1:Int),V0 (Qs x.2.1 2:Int),V0 (Qs x.2.1 3:Int),.slice p (Kz l y data fuel).2.2.length c],.nilIface])∧Below B w w'∧Zd [118] w w'∧Fr [bx] w w'∧Blk w' bx [P0 b,V0 data,V0 fuel,V0 ((sum+(Kz l y data fuel).2.2.length:Nat):Int)] 118∧w'.ownsRow w.heap.size 46 3 (.slice p (Kz l y data fuel).2.2.length c) (Kz l y data fuel).2.2.length ((Kz l y data fuel).2.2.flatMap Pj))
theorem Ng{B bx b:Nat}{l:Bl}{x y:Ent}{data fuel:Int}{sum:Nat}{w W:World}{ty:TypeId}{v:Value}{bl:List Int}{er:Int}(h:Di l x y data fuel sum=(bl,er))(her:er≠0)(hb:Below B w W)(hO:Zd [118] w W)(hX:Fr [bx] w W)(hv:Va W (bl.map some) (some er) (.iface ty v)):DevP B bx b l x y data fuel sum w (.returned (.tuple #[.agg #[V0 0,V0 0,V0 0,V0 0,S0],.iface ty v])) W:=by
 unfold DevP;rw[h];exact .inl ⟨her,ty,v,rfl,hb,hO,hX,hv⟩
theorem Sx(B Bi bx b:Nat)(pi:O0)(ni ci:Nat)(l:Bl)(data fuel:Int)(sum:Nat)(x y:Ent)(w:World)(hI:ImgR Bi b pi ni ci l w)(hk:Blk w bx [P0 b,V0 data,V0 fuel,V0 (sum:Int)] 118)(hfu:fuel≤1000000)(hx:x.2.1.length≤1000)(hy:y.2.1.length≤1000)(hsm:sum≤16384)(hB0:B≤bx)(hBw:B≤w.heap.size) :
 C0 46 #[P0 bx,.agg #[V0 x.1,.string ⟨x.2.1.toArray⟩,V0 x.2.2],.agg #[V0 y.1,.string ⟨y.2.1.toArray⟩,V0 y.2.2]] w (DevP B bx b l x y data fuel sum w):=by
 have g2:=own_few l y data fuel hfu
 refine zin 96 Tryz.func46 ?_
 refine xa 2 [V0 x.1,.string ⟨x.2.1.toArray⟩,V0 x.2.2] 122 fun b1 W1 n1=>?_
 refine xa 0 [V0 y.1,.string ⟨y.2.1.toArray⟩,V0 y.2.2] 122 fun b2 W2 n2=>?_
 have f3:=n2.ne n1.blk
 refine xa 0 [V0 0,V0 0,V0 0,V0 0,S0] 42 fun b3 W3 n3=>?_
 have a4:=(n1.blk.below n2.below).below n3.below
 refine xb 7 0 a4 ?_
 refine xid 3 (x.1>(16777215:Int)) (fun g7=>?_) (fun g7=>?_)
 ·refine xb 4 2 a4 ?_
  refine xc 0 (args:=#[V0 x.2.2,V0 9]) (Jp x.2.2 9 _ (by omega)) ?_
  rintro _ W5 ⟨h2,v5,rfl,d3,a6⟩
  have k3:=n3.blk.below d3
  refine xsv 0 k3 [V0 0,V0 0,V0 0,V0 0,S0] fun W6 u6 k6=>?_
  have g3:=n3.ge0 (blB (blB (Below.refl B w) hBw n1.below) hBw n2.below)
  have c4:=a6.only (Zd.of_upd (T:=[42]) u6 k3 (by decide)) (by decide)
  have hB:=u6.below (blB (blB (blB (blB (Below.refl B w) hBw n1.below) hBw n2.below) hBw n3.below) hBw d3) (Nat.le_trans hBw g3)
  have hO:=(Zd.upd_new ((((show Zd [118] w _ from(Zd.of_below n1.below)).trans (Zd.of_below n2.below)).trans (Zd.of_below n3.below)).trans (Zd.of_below d3)) u6 g3)
  have hX:=(Fr.upd_new ((((show Fr [bx] w _ from(Fr.of_below n1.below)).trans (Fr.of_below n2.below)).trans (Fr.of_below n3.below)).trans (Fr.of_below d3)) u6 g3)
  exact xec 5 k6 (.tuple #[.agg #[V0 0,V0 0,V0 0,V0 0,S0],.iface h2 (v5)]) (Ng (dev_1 (by omega)) (by decide) hB hO hX c4)
 refine xb 5 1 a4 ?_
 refine xr 0 (args:=#[.string ⟨x.2.1.toArray⟩]) (El x.2.1 _ hx) fun W7 a2=>?_
 refine xa 3 [V0 0,V0 0,V0 0,V0 0] 176 fun b8 W8 n8=>?_
 refine xsv 0 n8.blk [V0 (↑(Qs x.2.1 0):Int),V0 (↑(Qs x.2.1 1):Int),V0 (↑(Qs x.2.1 2):Int),V0 (↑(Qs x.2.1 3):Int)] fun W9 u9 k9=>?_
 have g8:=n8.ge0 (blB (blB (blB (blB (Below.refl B w) hBw n1.below) hBw n2.below) hBw n3.below) hBw a2)
 refine xin 10 (Xk Hm x.2.1) (0:Int) (fun e2=>?_) (fun e2=>?_)
 ·have d8:=u9.blkT ((a4.below a2).below n8.below) n8.blk (by decide)
  refine xb 4 2 d8 ?_
  refine xc 1 (args:=#[V0 x.2.2,V0 (Xk Hm x.2.1)]) (Jp x.2.2 (Xk Hm x.2.1) _ (by omega)) ?_
  rintro _ i7 ⟨e9,h3,rfl,a8,a6⟩
  have k3:=(u9.blkT ((n3.blk.below a2).below n8.below) n8.blk (by decide)).below a8
  refine xsv 0 k3 [V0 0,V0 0,V0 0,V0 0,S0] fun i2 d4 g0=>?_
  have g3:=n3.ge0 (blB (blB (Below.refl B w) hBw n1.below) hBw n2.below)
  have c2:=a6.only (Zd.of_upd (T:=[42]) d4 k3 (by decide)) (by decide)
  have hB:=d4.below (blB (u9.below (blB (blB (blB (blB (blB (Below.refl B w) hBw n1.below) hBw n2.below) hBw n3.below) hBw a2) hBw n8.below) (Nat.le_trans hBw g8)) hBw a8) (Nat.le_trans hBw g3)
  have hO:=(Zd.upd_new ((Zd.upd_new (((((show Zd [118] w _ from(Zd.of_below n1.below)).trans (Zd.of_below n2.below)).trans (Zd.of_below n3.below)).trans (Zd.of_below a2)).trans (Zd.of_below n8.below)) u9 g8).trans (Zd.of_below a8)) d4 g3)
  have hX:=(Fr.upd_new ((Fr.upd_new (((((show Fr [bx] w _ from(Fr.of_below n1.below)).trans (Fr.of_below n2.below)).trans (Fr.of_below n3.below)).trans (Fr.of_below a2)).trans (Fr.of_below n8.below)) u9 g8).trans (Fr.of_below a8)) d4 g3)
  exact xec 5 g0 (.tuple #[.agg #[V0 0,V0 0,V0 0,V0 0,S0],.iface e9 (h3)]) (Ng (dev_2 (by omega) (by omega)) (by omega) hB hO hX c2)
 have k2:=u9.blkT (((n2.blk.below n3.below).below a2).below n8.below) n8.blk (by decide)
 refine xb 5 1 k2 ?_
 refine xr 0 (args:=#[.string ⟨y.2.1.toArray⟩]) (Yv y.2.1 _ hy) fun i1 a0=>?_
 refine xin 14 (Xj y.2.1) (0:Int) (fun d7=>?_) (fun d7=>?_)
 ·have e5:=k2.below a0
  refine xb 4 2 e5 ?_
  refine xc 1 (args:=#[V0 y.2.2,V0 (Xj y.2.1)]) (Jp y.2.2 (Xj y.2.1) _ (by omega)) ?_
  rintro _ i8 ⟨e8,g5,rfl,b0,a6⟩
  have k3:=((u9.blkT ((n3.blk.below a2).below n8.below) n8.blk (by decide)).below a0).below b0
  refine xsv 0 k3 [V0 0,V0 0,V0 0,V0 0,S0] fun h9 d0 h1=>?_
  have g3:=n3.ge0 (blB (blB (Below.refl B w) hBw n1.below) hBw n2.below)
  have b9:=a6.only (Zd.of_upd (T:=[42]) d0 k3 (by decide)) (by decide)
  have hB:=d0.below (blB (blB (u9.below (blB (blB (blB (blB (blB (Below.refl B w) hBw n1.below) hBw n2.below) hBw n3.below) hBw a2) hBw n8.below) (Nat.le_trans hBw g8)) hBw a0) hBw b0) (Nat.le_trans hBw g3)
  have hO:=(Zd.upd_new (((Zd.upd_new (((((show Zd [118] w _ from(Zd.of_below n1.below)).trans (Zd.of_below n2.below)).trans (Zd.of_below n3.below)).trans (Zd.of_below a2)).trans (Zd.of_below n8.below)) u9 g8).trans (Zd.of_below a0)).trans (Zd.of_below b0)) d0 g3)
  have hX:=(Fr.upd_new (((Fr.upd_new (((((show Fr [bx] w _ from(Fr.of_below n1.below)).trans (Fr.of_below n2.below)).trans (Fr.of_below n3.below)).trans (Fr.of_below a2)).trans (Fr.of_below n8.below)) u9 g8).trans (Fr.of_below a0)).trans (Fr.of_below b0)) d0 g3)
  exact xec 5 h1 (.tuple #[.agg #[V0 0,V0 0,V0 0,V0 0,S0],.iface e8 (g5)]) (Ng (dev_3 (by omega) (by omega) (by omega)) (by omega) hB hO hX b9)
 have e6:=((((((hI.below n1.below).below n2.below).below n3.below).below a2).below n8.below).only (Zd.of_upd (T:=[176]) u9 n8.blk (by decide)) (by decide)).below a0
 have c0:=(u9.blkT (((((hk.below n1.below).below n2.below).below n3.below).below a2).below n8.below) n8.blk (by decide)).below a0
 refine xc 6 (args:=#[P0 bx,V0 (↑(Xm y.2.1):Int)]) (load_mapsO Bi bx b pi ni ci l data fuel (sum:Int) y _ e6 c0 hfu) ?_
 rintro e i4 f1
 rcases f1 with ⟨b6,f7,vo,rfl,a1,f8⟩|⟨b6,po,co,rfl,a1,g6⟩
 ·have f2:=(k2.below a0).below a1
  refine xb 19 2 f2 ?_
  refine xc 1 (args:=#[V0 y.2.2,.iface f7 (vo)]) (Zcj y.2.2 (Kz l y data fuel).2.1 (Kz l y data fuel).1 _ _ f8) ?_
  rintro _ h8 ⟨e3,h0,rfl,a9,a6⟩
  have k3:=(((u9.blkT ((n3.blk.below a2).below n8.below) n8.blk (by decide)).below a0).below a1).below a9
  refine xsv 0 k3 [V0 0,V0 0,V0 0,V0 0,S0] fun i5 d1 g9=>?_
  have g3:=n3.ge0 (blB (blB (Below.refl B w) hBw n1.below) hBw n2.below)
  have c6:=a6.only (Zd.of_upd (T:=[42]) d1 k3 (by decide)) (by decide)
  have hB:=d1.below (blB (blB (blB (u9.below (blB (blB (blB (blB (blB (Below.refl B w) hBw n1.below) hBw n2.below) hBw n3.below) hBw a2) hBw n8.below) (Nat.le_trans hBw g8)) hBw a0) hBw a1) hBw a9) (Nat.le_trans hBw g3)
  have hO:=(Zd.upd_new ((((Zd.upd_new (((((show Zd [118] w _ from(Zd.of_below n1.below)).trans (Zd.of_below n2.below)).trans (Zd.of_below n3.below)).trans (Zd.of_below a2)).trans (Zd.of_below n8.below)) u9 g8).trans (Zd.of_below a0)).trans (Zd.of_below a1)).trans (Zd.of_below a9)) d1 g3)
  have hX:=(Fr.upd_new ((((Fr.upd_new (((((show Fr [bx] w _ from(Fr.of_below n1.below)).trans (Fr.of_below n2.below)).trans (Fr.of_below n3.below)).trans (Fr.of_below a2)).trans (Fr.of_below n8.below)) u9 g8).trans (Fr.of_below a0)).trans (Fr.of_below a1)).trans (Fr.of_below a9)) d1 g3)
  exact xec 5 g9 (.tuple #[.agg #[V0 0,V0 0,V0 0,V0 0,S0],.iface e3 (h0)]) (Ng (dev_4 (by omega) (by omega) (by omega) b6) b6 hB hO hX c6)
 have e7:=(blB (u9.below (blB (blB (blB (blB (blB (Below.refl B w) hBw n1.below) hBw n2.below) hBw n3.below) hBw a2) hBw n8.below) (Nat.le_trans hBw g8)) hBw a0).size
 have b7:=(k9.below a0).below a1
 refine xb 23 0 b7 ?_
 refine xin 3 (↑((Kz l y data fuel).2.2.length):Int) (↑(Qs x.2.1 0):Int) (fun f0=>?_) (fun f0=>?_)
 ·have d5:=((u9.blkT ((a4.below a2).below n8.below) n8.blk (by decide)).below a0).below a1
  refine xb 4 2 d5 ?_
  refine xc 0 (args:=#[V0 x.2.2,V0 13]) (Jp x.2.2 13 _ (by omega)) ?_
  rintro _ h7 ⟨e1,f9,rfl,a7,a6⟩
  have k3:=(((u9.blkT ((n3.blk.below a2).below n8.below) n8.blk (by decide)).below a0).below a1).below a7
  refine xsv 0 k3 [V0 0,V0 0,V0 0,V0 0,S0] fun i3 d2 h4=>?_
  have g3:=n3.ge0 (blB (blB (Below.refl B w) hBw n1.below) hBw n2.below)
  have c1:=a6.only (Zd.of_upd (T:=[42]) d2 k3 (by decide)) (by decide)
  have hB:=d2.below (blB (blB (blB (u9.below (blB (blB (blB (blB (blB (Below.refl B w) hBw n1.below) hBw n2.below) hBw n3.below) hBw a2) hBw n8.below) (Nat.le_trans hBw g8)) hBw a0) hBw a1) hBw a7) (Nat.le_trans hBw g3)
  have hO:=(Zd.upd_new ((((Zd.upd_new (((((show Zd [118] w _ from(Zd.of_below n1.below)).trans (Zd.of_below n2.below)).trans (Zd.of_below n3.below)).trans (Zd.of_below a2)).trans (Zd.of_below n8.below)) u9 g8).trans (Zd.of_below a0)).trans (Zd.of_below a1)).trans (Zd.of_below a7)) d2 g3)
  have hX:=(Fr.upd_new ((((Fr.upd_new (((((show Fr [bx] w _ from(Fr.of_below n1.below)).trans (Fr.of_below n2.below)).trans (Fr.of_below n3.below)).trans (Fr.of_below a2)).trans (Fr.of_below n8.below)) u9 g8).trans (Fr.of_below a0)).trans (Fr.of_below a1)).trans (Fr.of_below a7)) d2 g3)
  exact xec 5 h4 (.tuple #[.agg #[V0 0,V0 0,V0 0,V0 0,S0],.iface e1 (f9)]) (Ng (dev_5 (by omega) (by omega) (by omega) b6 (by omega)) (by decide) hB hO hX c1)
 have a3:=c0.below a1
 refine xb 8 3 a3 ?_
 refine xwm 2 ((sum:Int)+(↑((Kz l y data fuel).2.2.length):Int)) (↑(sum+((Kz l y data fuel).2.2.length)):Int) ?_
 refine xs 2 a3 [P0 b,V0 data,V0 fuel,V0 (↑(sum+((Kz l y data fuel).2.2.length)):Int)] fun h5 a5 f4=>?_
 refine xb 7 3 f4 ?_
 refine xid 3 ((↑(sum+((Kz l y data fuel).2.2.length)):Int)>(16384:Int)) (fun e0=>?_) (fun e0=>?_)
 ·have d9:=a5.blkT ((k2.below a0).below a1) a3 (by decide)
  refine xb 4 2 d9 ?_
  refine xc 0 (args:=#[V0 y.2.2,V0 2]) (Jp y.2.2 2 _ (by omega)) ?_
  rintro _ i6 ⟨d6,g1,rfl,b4,a6⟩
  have k3:=(a5.blkT (((u9.blkT ((n3.blk.below a2).below n8.below) n8.blk (by decide)).below a0).below a1) a3 (by decide)).below b4
  refine xsv 0 k3 [V0 0,V0 0,V0 0,V0 0,S0] fun h6 c9 f6=>?_
  have g3:=n3.ge0 (blB (blB (Below.refl B w) hBw n1.below) hBw n2.below)
  have c5:=a6.only (Zd.of_upd (T:=[42]) c9 k3 (by decide)) (by decide)
  have hB:=c9.below (blB (a5.below (blB (blB (u9.below (blB (blB (blB (blB (blB (Below.refl B w) hBw n1.below) hBw n2.below) hBw n3.below) hBw a2) hBw n8.below) (Nat.le_trans hBw g8)) hBw a0) hBw a1) hB0) hBw b4) (Nat.le_trans hBw g3)
  have hO:=(Zd.upd_new (((((Zd.upd_new (((((show Zd [118] w _ from(Zd.of_below n1.below)).trans (Zd.of_below n2.below)).trans (Zd.of_below n3.below)).trans (Zd.of_below a2)).trans (Zd.of_below n8.below)) u9 g8).trans (Zd.of_below a0)).trans (Zd.of_below a1)).trans (Zd.of_upd a5 a3 (by decide))).trans (Zd.of_below b4)) c9 g3)
  have hX:=(Fr.upd_new (((((Fr.upd_new (((((show Fr [bx] w _ from(Fr.of_below n1.below)).trans (Fr.of_below n2.below)).trans (Fr.of_below n3.below)).trans (Fr.of_below a2)).trans (Fr.of_below n8.below)) u9 g8).trans (Fr.of_below a0)).trans (Fr.of_below a1)).trans (Fr.of_upd a5 (by simp))).trans (Fr.of_below b4)) c9 g3)
  exact xec 5 f6 (.tuple #[.agg #[V0 0,V0 0,V0 0,V0 0,S0],.iface d6 (g1)]) (Ng (dev_6 (by omega) (by omega) (by omega) b6 (by omega) (by omega)) (by decide) hB hO hX c5)
 have e4:=a5.blkT (((u9.blkT ((a4.below a2).below n8.below) n8.blk (by decide)).below a0).below a1) a3 (by decide)
 refine xb 5 0 e4 ?_
 have b5:=a5.blkT b7 a3 (by decide)
 refine xb 1 1 b5 ?_
 refine xb 1 2 b5 ?_
 refine xb 1 3 b5 ?_
 have k3:=a5.blkT (((u9.blkT ((n3.blk.below a2).below n8.below) n8.blk (by decide)).below a0).below a1) a3 (by decide)
 refine xsv 2 k3 [V0 x.1,V0 (↑(Qs x.2.1 1):Int),V0 (↑(Qs x.2.1 2):Int),V0 (↑(Qs x.2.1 3):Int),.slice po ((Kz l y data fuel).2.2.length) co] fun i0 c3 f5=>?_
 have g3:=n3.ge0 (blB (blB (Below.refl B w) hBw n1.below) hBw n2.below)
 have c8:=c3.blkT f4 k3 (by decide)
 have hB:=c3.below (a5.below (blB (blB (u9.below (blB (blB (blB (blB (blB (Below.refl B w) hBw n1.below) hBw n2.below) hBw n3.below) hBw a2) hBw n8.below) (Nat.le_trans hBw g8)) hBw a0) hBw a1) hB0) (Nat.le_trans hBw g3)
 have hO:=(Zd.upd_new ((((Zd.upd_new (((((show Zd [118] w _ from(Zd.of_below n1.below)).trans (Zd.of_below n2.below)).trans (Zd.of_below n3.below)).trans (Zd.of_below a2)).trans (Zd.of_below n8.below)) u9 g8).trans (Zd.of_below a0)).trans (Zd.of_below a1)).trans (Zd.of_upd a5 a3 (by decide))) c3 g3)
 have hX:=(Fr.upd_new ((((Fr.upd_new (((((show Fr [bx] w _ from(Fr.of_below n1.below)).trans (Fr.of_below n2.below)).trans (Fr.of_below n3.below)).trans (Fr.of_below a2)).trans (Fr.of_below n8.below)) u9 g8).trans (Fr.of_below a0)).trans (Fr.of_below a1)).trans (Fr.of_upd a5 (by simp))) c3 g3)
 have c7:=c3.own2 (a5.own2 (Zh g6 e7) a3 (by decide)) k3 (by decide)
 exact xec 4 f5 (.tuple #[.agg #[V0 x.1,V0 (↑(Qs x.2.1 1):Int),V0 (↑(Qs x.2.1 2):Int),V0 (↑(Qs x.2.1 3):Int),.slice po ((Kz l y data fuel).2.2.length) co],.nilIface]) (.inr ⟨by rw[dev_7 (by omega) (by omega) (by omega) b6 (by omega) (by omega)],_,_,rfl,hB,hO,hX,c8,c7⟩)
abbrev Zv:=Dv×O0×Nat
def zvD:Zv:=(((0,0,0,0),[]),none,0)
def Zdn(z:Zv):List Value:=[V0 z.1.1.1,V0 z.1.1.2.1,V0 z.1.1.2.2.1,V0 z.1.1.2.2.2,.slice z.2.1 z.1.2.length z.2.2]
theorem Gg(z:Zv):(Zdn z).length=5:=rfl
structure DevsR(w:World)(p:Option Addr)(c:Nat)(Z:List Zv):Prop where
 row:Sts Zdn w (.slice p Z.length c) Z
 each:∀ i,i<Z.length→Sts Pj w (.slice (Z.getD i zvD).2.1 (Z.getD i zvD).1.2.length (Z.getD i zvD).2.2) (Z.getD i zvD).1.2
theorem DevsR.below{w W:World}{p:O0}{c:Nat}{Z:List Zv}(h:DevsR w p c Z)(hb:B3 w W):DevsR W p c Z:=⟨h.row.below hb,fun i hi=>(h.each i hi).below hb⟩
theorem DevsR.rowN{w:World}{p:O0}{c n:Nat}{Z:List Zv}(h:DevsR w p c Z)(hn:Z.length=n):Sl w (.slice p n c) n (Z.flatMap Zdn):=by subst hn;exact h.row
theorem DevsR.someN{w:World}{p:O0}{c n i:Nat}{Z:List Zv}(h:DevsR w p c Z)(hn:Z.length=n)(hi:i<n):p.isSome=true:=by subst hn;exact(Sts.cell h.row Gg zvD (k:=i) (i:=0) hi rfl).1
def Xy(B:Nat)(w:World)(Z:List Zv):Prop:=∀ i,i<Z.length→w.ownsRow B 46 3 (.slice (Z.getD i zvD).2.1 (Z.getD i zvD).1.2.length (Z.getD i zvD).2.2) (Z.getD i zvD).1.2.length ((Z.getD i zvD).1.2.flatMap Pj)
theorem Xy.nil(B:Nat)(w:World):Xy B w []:=fun i hi=>absurd hi (by simp)
theorem Xy.below{B:Nat}{w W:World}{Z:List Zv}(h:Xy B w Z)(hb:B3 w W):Xy B W Z:=fun i hi=>Zb (h i hi) hb
theorem Xy.only{B:Nat}{w W:World}{Z:List Zv}{T:List TypeId}(h:Xy B w Z)(hO:Zd T w W)(hT:T.contains 46=false):Xy B W Z:=fun i hi=>Zi (h i hi) hO hT
theorem Xy.snoc{B n:Nat}{w:World}{Z:List Zv}{d:Dv}{p:O0}{c:Nat}(h:Xy B w Z)(hn:d.2.length=n)(ho:w.ownsRow B 46 3 (.slice p n c) n (d.2.flatMap Pj)):Xy B w (Z++[(d,p,c)]):=by
 subst hn
 intro i hi
 by_cases e:i<Z.length
 ·have:=h i e
  rw[show(Z++[(d,p,c)]).getD i zvD=Z.getD i zvD from by simp[List.getD,List.getElem?_append_left e]];exact this
 ·obtain rfl:i=Z.length:=by simp at hi;omega
  rw[show(Z++[(d,p,c)]).getD Z.length zvD=(d,p,c) from by simp[List.getD]];exact ho
theorem devs_read{B:Nat}{w:World}{p:O0}{c:Nat}{Z:List Zv}(hM:Xy B w Z)(ho:w.ownsRow B 42 5 (.slice p Z.length c) Z.length (Z.flatMap Zdn)):DevsR w p c Z:=⟨Zf ho,fun i hi=>Zf (hM i hi)⟩
theorem devsO_d{l:Bl}{top details data fuel:Int}(h:(Ze l details 3 fuel).fs≠[]):Vg l top details data fuel=((Vp (Ze l details 3 fuel)).1,(Vp (Ze l details 3 fuel)).2,[]):=if_pos h
theorem devsO_t{l:Bl}{top details data fuel:Int}(h:(Ze l details 3 fuel).fs=[])(h2:(Ze l top 1 fuel).fs≠[]):Vg l top details data fuel=((Vp (Ze l top 1 fuel)).1,(Vp (Ze l top 1 fuel)).2,[]):=by unfold Vg;rw[if_neg (fun q=>q h),if_pos h2]
theorem devsO_many{l:Bl}{top details data fuel:Int}(h:(Ze l details 3 fuel).fs=[])(h2:(Ze l top 1 fuel).fs=[])(h3:4096<(Ze l details 3 fuel).es.length):Vg l top details data fuel=([details],2,[]):=by unfold Vg;rw[if_neg (fun q=>q h),if_neg (fun q=>q h2),if_pos h3]
theorem Zgy{l:Bl}{top details data fuel:Int}(h:(Ze l details 3 fuel).fs=[])(h2:(Ze l top 1 fuel).fs=[])(h3:¬ 4096<(Ze l details 3 fuel).es.length)(h4:Jo (Ze l details 3 fuel).es (Ze l top 1 fuel).es=1):Vg l top details data fuel=([details],18,[]):=by unfold Vg;rw[if_neg (fun q=>q h),if_neg (fun q=>q h2),if_neg h3,if_pos h4]
theorem devsO_p2{l:Bl}{top details data fuel:Int}(h:(Ze l details 3 fuel).fs=[])(h2:(Ze l top 1 fuel).fs=[])(h3:¬ 4096<(Ze l details 3 fuel).es.length)(h4:Jo (Ze l details 3 fuel).es (Ze l top 1 fuel).es=2):Vg l top details data fuel=([top],18,[]):=by unfold Vg;rw[if_neg (fun q=>q h),if_neg (fun q=>q h2),if_neg h3,if_neg (by omega),if_pos h4]
theorem Rd{l:Bl}{top details data fuel:Int}(h:(Ze l details 3 fuel).fs=[])(h2:(Ze l top 1 fuel).fs=[])(h3:¬ 4096<(Ze l details 3 fuel).es.length)(h4:Jo (Ze l details 3 fuel).es (Ze l top 1 fuel).es=0):Vg l top details data fuel=Ok l (Ze l details 3 fuel).es (Ze l top 1 fuel).es data fuel:=by unfold Vg;rw[if_neg (fun q=>q h),if_neg (fun q=>q h2),if_neg h3,if_neg (by omega),if_neg (by omega)]
end Go.Proofs.YtceeiinepijokaaGreat
namespace Go.Proofs.YtceeiinepijokaaGreat
set_option maxHeartbeats 8000000
set_option maxRecDepth 100000
open Go.RowKit
set_option linter.unusedVariables false
theorem rows_in{n:Nat}{P:Program}{row:String}{args:Array Value}{w:World}{R:Value→World→Prop}(h:Rows P row args w R):RowsIn Fence.wide n P row args w R :=
 fun c cs _=>let ⟨v,w',r,q⟩:=h c cs;⟨v,w',r,stepsIn_wide.2 q⟩
theorem oper_in{P:Program}{l n:Nat}{o:Oper}{a:Act}{w:World}{K:Act→World→Prop}{Q:Exit→Act→World→Prop}(hd:∀ c,o.op≠.defer c)(h:o.wp P a w K Q):o.wpIn (Fence.wide.inRound l) n P a w K Q:=by
 unfold Oper.wpIn
 refine⟨fun f _=>trivial,?_⟩
 rw[Oper.semAt_plain _ _ _ hd]
 unfold Oper.wp at h
 generalize (execOp a.eval o).run P w=r at *
 cases r with
 | ok nx w' =>
  cases nx with
  | value v=>exact h
  | skip=>exact h
  | defer d=>exact h
  | enter f args=>exact⟨(fun q=>by cases q),callsIn_wide.2 h⟩
  | row r args=>exact⟨(fun q=>by cases q),rows_in h⟩
  | _=>exact h.elim
 | halt hh w' =>
  cases hh with
  | panic v=>exact h
  | _=>exact h.elim
theorem op_in{P:Program}{l n i:Nat}{ops:Array Oper}{a:Act}{w:World}{K K':Act→World→Prop}{Q:Exit→Act→World→Prop}(hQ:¬ LetsOut Q)(hd:∀ o∈ops.toList,∀ c,o.op≠.defer c)(hK:∀ a w,K a w→K' a w)(h:wpOp P ops Q i K a w):wpOpIn (Fence.wide.inRound l) n P ops Q i K' a w:=by
 unfold wpOp at h
 unfold wpOpIn
 cases ho:ops[i]? with
 | none=>rw[ho] at h;exact hK _ _ h
 | some o =>
  rw[ho] at h
  dsimp only at h ⊢
  split at h
  ·rename_i hw
   rw[if_pos hw]
   have a0:o∈ops.toList:=by
    obtain⟨hi,e⟩:=Array.getElem?_eq_some_iff.1 ho
    rw[←e];exact Array.mem_toList_iff.2 (Array.getElem_mem hi)
   exact Oper.wpIn_mono hK (oper_in (hd o a0) (h.resolve_right fun q=>hQ q.2))
  ·rename_i hw
   rw[if_neg hw]
   exact⟨fun f _=>trivial,hK _ _ h⟩
theorem any_in{P:Program}{l n:Nat}{md:Region.Mode}{ops:Array Oper}{Q:Exit→Act→World→Prop}(hQ:¬ LetsOut Q)(hd:∀ o∈ops.toList,∀ c,o.op≠.defer c):∀ (fuel:Nat) (L:Array Bool) (a:Act) (w:World),wpAny P md ops Q fuel L a w→wpAnyIn (Fence.wide.inRound l) n P md ops Q fuel L a w
 | 0,_,_,_,h=>h
 | fuel+1,L,a,w,h=>⟨h.1,fun i hi=>op_in hQ hd (fun a w=>any_in hQ hd fuel _ a w) (h.2 i hi)⟩
theorem h_regIn{P:Program}{l0 n0 id:Nat}{l:List Oper}{Q:Exit→Act→World→Prop}{a:Act}{w:World}(S:World→Prop)(n:Nat)(hn:l.toArray.size=n)(L:Array Bool)(hL:Array.replicate n false=L)(hm:P.follows .mixedOrders=true)(hQ:¬ LetsOut Q)(hd:∀ o∈l,∀ c,o.op≠.defer c)(hS:S w.drew)(h:S w.drew→wpAnyH P .any l.toArray Q S n L a w.drew):(Code.region id l.toArray true).wpIn (Fence.wide.inRound l0) n0 P Q a w :=
 wpIn_region_any hm (any_in hQ (by simpa using hd) _ _ _ _ (wpAny_of_held _ _ _ _ (by rw[hn,hL];exact h hS)))
def SeqL{α:Type}(P:Program)(g:Nat)(lb:Array Value)(encs:α→Array Value)(Kp:World→World→Prop)(q:Nat→Prop)(R:List α)(w:World):Prop :=
 ∀ (l:Nat) (J Jx:Nat→World→Prop) (W:World),B3 w W →
  (∀ k A B row,J k A→A.grownBy B row→(∀ r,row=some r→q r)→J k B) →
  (∀ k x V,R[k]? = some x→J k V→YieldAt Fence.wide 2 P l (encs x) V fun e U =>
   (e=.returned (.bool true)∧J (k+1) U∧Kp V U)∨(e=.returned (.bool false)∧Jx k U)) →
  J 0 W →
  CallsIn Fence.wide 3 P g (#[.func (.yield l) #[] #[]]++lb) W fun e U=>(∃ v,e=.returned v)∧(J R.length U∨∃ k,k<R.length∧Jx k U)
def rdPost(B:Nat)(Kp:World→World→Prop)(I:Nat→World→Prop)(Ix:Code→Nat→World→Prop)(k:Nat)(W:World):Exit→Act→World→Prop
 | .normal,_,V=>KeepsFrom B W V∧Kp W V∧I (k+1) V
 | .ret,_,V=>KeepsFrom B W V∧Ix .ret k V
 | .exit id,_,V=>KeepsFrom B W V∧Ix (.exit id) k V
 | .goto _,_,_=>False
 | .panic _,_,_=>False
 | .outgrown,_,_=>False
structure RecAt(n:Nat)(r:Loop)(W:World):Prop where
 l:W.heap[n+1]? = some (.loop r)
 d:W.heap[n]? = some (.deferred (some []))
theorem RecAt.lt{n:Nat}{r:Loop}{W:World}(h:RecAt n r W):n+1<W.heap.size:=(Array.getElem?_eq_some_iff.1 h.l).1
theorem RecAt.kept{n:Nat}{r:Loop}{A B:World}{row:Option Nat}(h:RecAt n r A)(hg:A.grownBy B row)(hr:∀ k,row=some k→k<n):RecAt n r B :=
 ⟨(hg.block _ h.lt (fun e=>by have:=hr _ e.symm;omega)).trans h.l,(hg.block _ (by have:=h.lt;omega) (fun e=>by have:=hr _ e.symm;omega)).trans h.d⟩
theorem RecAt.from{n:Nat}{r:Loop}{A B:World}(h:RecAt n r A)(k:KeepsFrom n A B):RecAt n r B:=⟨k.same _ _ (by omega) h.l rfl,k.same _ _ (Nat.le_refl _) h.d rfl⟩
theorem RecAt.put{n:Nat}{r:Loop}{A:World}(h:RecAt n r A)(r':Loop):RecAt n r' (A.putObj (n+1) (.loop r')) :=
 ⟨World.putObj_heap_same h.lt,(World.putObj_heap_other (by omega)).trans h.d⟩
theorem Zby{α:Type}{P:Program}{g:Operand}{ps:Array Tmp}{assign body:Code}{Q:Exit→Act→World→Prop}{a:Act}{w:World}{gf:Nat}{lb:Array Value}
  (hg:a.eval g=.func (.func gf) #[] lb) (eg:∀ args w,(callFunc gf args).run P w=.ok (.enter gf args) w) {encs:α→Array Value} {R:List α} (p q:Nat→Prop) (hp:∀ b,p b→b<w.heap.size) (hq:∀ b,q b→b<w.heap.size)
  (hseq:SeqL P gf lb encs (Keeps p) q R w) (hps:∀ x,(encs x).size=ps.size)
  (I:Nat→World→Prop) (Ix:Code→Nat→World→Prop) (hI:∀ k A B row,I k A→A.grownBy B row→(∀ r,row=some r→q r∨w.heap.size≤r∧∃ o:Obj,A.heap[r]? = some o∧o.isCells=false)→I k B)
  (hIx:∀ c k A B row,Ix c k A→A.grownBy B row→(∀ r,row=some r→w.heap.size≤r∧∃ o:Obj,A.heap[r]? = some o∧o.isCells=false)→Ix c k B) (h0:I 0 w) (a₁:α→Act)
  (hassign:∀ (l k:Nat) (x:α) (W:World) (K:Act→World→Prop),R[k]? = some x→K (a₁ x) W →
   assign.wpIn (Fence.wide.inRound l) 2 P (Exit.then K (fun _ _ _=>False)) { tmps:=(ps.zip (encs x)).foldl (fun t (p,v)=>t.setIfInBounds p v) a.tmps,defers:=[] } W)
  (hbody:∀ (l k:Nat) (x:α) (W:World),w.heap.size≤l→R[k]? = some x→I k W→body.wpIn (Fence.wide.inRound l) 2 P (rdPost w.heap.size (Keeps p) I Ix k W) (a₁ x) W)
  (hdone:∀ (D:Nat) (W:World),w.heap.size≤D→I R.length W→W.heap[D]? = some (.deferred (some []))→Q .normal { a with defers:={ target:=.collected D,args:=#[] }::a.defers } W)
  (hstop:∀ (D:Nat) (c:Code) (k:Nat) (W:World),w.heap.size≤D→k<R.length→Ix c k W→W.heap[D]? = some (.deferred (some []))→c.wp P Q { a with defers:={ target:=.collected D,args:=#[] }::a.defers } W) :
  (Code.rangeFunc g ps assign body).wp P Q a w:=by
 refine(wpIn_wide (n:=4)).1 (wpIn_rangeFunc fun fn _=>?_)
 obtain⟨a2,a0⟩:∃ a2:LoopState→Option Code→Loop,a2=fun st pe=>{ state:=st,pending:=pe,fn,tmps:=a.tmps,params:=ps,assign,body,defers:=w.heap.size }:=⟨_,rfl⟩
 obtain⟨W1,b0⟩:∃ W1,(w.alloc (.deferred (some []))).alloc (.loop (a2 .ready none))=W1:=⟨_,rfl⟩
 have b8:RecAt w.heap.size (a2 .ready none) W1:=by
  rw[←b0]
  refine⟨?_,(Below.heap_alloc _ _ _ (by simp)).trans (World.alloc_heap_new w _)⟩
  have:=World.alloc_heap_new (w.alloc (.deferred (some []))) (.loop (a2 .ready none))
  rwa [World.size_alloc] at this
 have b7:I 0 W1:=by
  rw[←b0]
  exact hI _ _ _ none (hI _ _ _ none h0 (World.grownBy_alloc _ _ _) (fun _ e=>by cases e)) (World.grownBy_alloc _ _ _) (fun _ e=>by cases e)
 have b9:B3 w W1:=by
  rw[←b0];exact((Below.refl _ w).alloc (Nat.le_refl _) _).alloc (by simp) _
 refine⟨w.heap.size+1,[{ target:=.collected w.heap.size,args:=#[] }],W1,{ target:=.fn (.func gf) lb,args:=#[.func (.yield (w.heap.size+1)) #[] #[]] },W1,gf,
  #[.func (.yield (w.heap.size+1)) #[] #[]]++lb,W1,?_,?_,fun _ _=>trivial,?_,fun _=>by omega,?_⟩
 ·rw[←b0,a0];exact run_enterLoop_outer _ _ _ _ _
 ·simp only[resolve,hg]
  simp[go_sem]
 ·simp[invoke,go_sem,eg]
 refine(hseq (w.heap.size+1) (fun k W=>I k W∧RecAt w.heap.size (a2 .ready none) W) (fun k W=>∃ c,Ix c k W∧RecAt w.heap.size (a2 .done (some c)) W) W1 b9
  (fun k A B row hs b4 hr=>⟨hI _ _ _ _ hs.1 b4 (fun r e=>.inl (hr r e)),hs.2.kept b4 (fun r e=>hq r (hr r e))⟩) ?_ ⟨b7,b8⟩).mono ?_
 ·rintro k x W hx ⟨hi,hl⟩
  have hy:=run_yield (P:=P) (args:=encs x) hl.l (by rw[a0];exact hps x)
  rw[a0] at hy
  refine⟨fn,_,assign,body,hy,roundIn_of_wpIn trivial (hassign _ k x W _ hx ⟨_,run_beginRound hl.l (by rw[a0]),?_⟩)⟩
  obtain⟨Wb,a7⟩:∃ Wb,W.putObj (w.heap.size+1) (.loop { a2 .ready none with state:=.busy })=Wb:=⟨_,rfl⟩
  have c0:RecAt w.heap.size (a2 .busy none) Wb:=by
   have:=hl.put (a2 .busy none)
   rw[a0] at this a7
   rw[a7] at this
   rw[a0]
   exact this
  have b5:I k Wb:=by
   rw[←a7]
   exact hI _ _ _ _ hi (grownBy_putObj' W _ _) (fun r e=>.inr (by cases e;exact⟨by omega,_,hl.l,rfl⟩))
  have b6:Keeps p W Wb:=by
   rw[←a7]
   exact Fx hp W _ _ _ (by omega) hl.l rfl rfl
  rw[a7]
  refine wpIn_mono (hbody _ k x Wb (by omega) hx b5) ?_
  have b3:∀ (a1:Option Code) (V:World),KeepsFrom w.heap.size Wb V→RecAt w.heap.size (a2 .busy none) V∧∃ U,U=V.putObj (w.heap.size+1) (.loop (a2 (if a1.isNone then .ready else .done) a1)) ∧
    (Instr.endRound (w.heap.size+1) a1).run P V=.ok (.bool a1.isNone) U∧RecAt w.heap.size (a2 (if a1.isNone then .ready else .done) a1) U:=fun a1 V hk=>by
   have hv:=c0.from hk
   have he:=run_endRound (P:=P) a1 hv.l
   refine⟨hv,_,rfl,?_,hv.put _⟩
   rw[a0] at he ⊢
   exact he
  have b1:∀ {V:World} {r r':Loop} {k:Nat},RecAt w.heap.size r V→I k V→I k (V.putObj (w.heap.size+1) (.loop r')):=fun hv h=>hI _ _ _ _ h (grownBy_putObj' _ _ _) (fun r e=>.inr (by cases e;exact⟨by omega,_,hv.l,rfl⟩))
  have a6:∀ {V:World} {r r':Loop} {c:Code} {k:Nat},RecAt w.heap.size r V→Ix c k V→Ix c k (V.putObj (w.heap.size+1) (.loop r')):=fun hv h=>hIx _ _ _ _ _ h (grownBy_putObj' _ _ _) (fun r e=>by cases e;exact⟨by omega,_,hv.l,rfl⟩)
  rintro e a3 V a4
  cases e with
  | normal =>
   obtain⟨a5,b2,a8⟩:=a4
   obtain⟨hv,U,rfl,hr,a9⟩:=b3 none V a5
   exact⟨_,_,hr,.inl ⟨rfl,⟨b1 hv a8,a9⟩,(b6.trans b2).trans (Fx hp V _ _ _ (by omega) hv.l rfl rfl)⟩⟩
  | ret =>
   obtain⟨a5,a8⟩:=a4
   obtain⟨hv,U,rfl,hr,a9⟩:=b3 (some .ret) V a5
   exact⟨_,_,hr,.inr ⟨rfl,.ret,a6 hv a8,a9⟩⟩
  | exit id =>
   obtain⟨a5,a8⟩:=a4
   obtain⟨hv,U,rfl,hr,a9⟩:=b3 (some (.exit id)) V a5
   exact⟨_,_,hr,.inr ⟨rfl,.exit id,a6 hv a8,a9⟩⟩
  | goto t=>exact a4.elim
  | panic ch=>exact a4.elim
  | outgrown=>exact a4.elim
 ·rintro e W2 ⟨⟨v,rfl⟩,(⟨hi,hl⟩|⟨k,hk,c,hi,hl⟩)⟩
  ·have he:=run_endLoop (P:=P) hl.l (by rw[a0];simp)
   rw[show(a2 .ready none).pending=none by rw[a0]] at he
   exact⟨none,_,he,hdone _ _ (Nat.le_refl _) (hI _ _ _ _ hi (grownBy_putObj' _ _ _) (fun r e=>.inr (by cases e;exact⟨by omega,_,hl.l,rfl⟩))) ((World.putObj_heap_other (by omega)).trans hl.d)⟩
  ·have he:=run_endLoop (P:=P) hl.l (by rw[a0];simp)
   rw[show(a2 .done (some c)).pending=some c by rw[a0]] at he
   exact⟨some c,_,he,wpIn_wide.2 (hstop _ c k _ (Nat.le_refl _) hk (hIx _ _ _ _ _ hi (grownBy_putObj' _ _ _) (fun r e=>by cases e;exact⟨by omega,_,hl.l,rfl⟩)) ((World.putObj_heap_other (by omega)).trans hl.d))⟩
end Go.Proofs.YtceeiinepijokaaGreat
namespace Go.Proofs.YtceeiinepijokaaGreat
set_option maxHeartbeats 8000000
set_option maxRecDepth 100000
open Go.RowKit Go.Extern.Stop Go.Stop Go.Extern
set_option linter.unusedVariables false
attribute [local irreducible] wpList wpAnyH Code.wp Oper.wp Go
abbrev Rnd:=Option Nat×Option Nat
def Xn(i j:Nat)(a b:List Ent):List Rnd :=
 match a,b with
 | [],[]=>[]
 | [],_::b=>(none,some j)::Xn i (j+1) [] b
 | _::a,[]=>(some i,none)::Xn (i+1) j a []
 | x::a,y::b =>
  if x.1=y.1 then(some i,some j)::Xn (i+1) (j+1) a b
  else if x.1<y.1 then(some i,none)::Xn (i+1) j a (y::b)
  else(none,some j)::Xn i (j+1) (x::a) b
termination_by a.length+b.length
theorem Tc(i j:Nat):Xn i j [] []=[]:=by rw[Xn]
theorem Rm(i j:Nat)(y:Ent)(b:List Ent):Xn i j [] (y::b)=(none,some j)::Xn i (j+1) [] b:=by rw[Xn]
theorem Ss(i j:Nat)(x:Ent)(a:List Ent):Xn i j (x::a) []=(some i,none)::Xn (i+1) j a []:=by rw[Xn]
theorem Fs{i j:Nat}{x y:Ent}{a b:List Ent}(h:x.1=y.1):Xn i j (x::a) (y::b)=(some i,some j)::Xn (i+1) (j+1) a b:=by rw[Xn,if_pos h]
theorem Rt{i j:Nat}{x y:Ent}{a b:List Ent}(h:x.1<y.1):Xn i j (x::a) (y::b)=(some i,none)::Xn (i+1) j a (y::b):=by rw[Xn,if_neg (by omega),if_pos h]
theorem Ra{i j:Nat}{x y:Ent}{a b:List Ent}(h:y.1<x.1):Xn i j (x::a) (y::b)=(none,some j)::Xn i (j+1) (x::a) b:=by rw[Xn,if_neg (by omega),if_neg (by omega)]
def Zdc(r:Rnd):Bool:=r.1.isSome&&r.2.isSome
theorem Fo:∀ (a b:List Ent) (i j:Nat),(Xn i j a b).all Zdc=true→Jo a b=0∧Xn i j a b=(List.range a.length).map fun k=>(some (i+k),some (j+k))
 | [],[],i,j,_=>⟨rfl,by rw[Tc];rfl⟩
 | [],y::b,i,j,h=>by rw[Rm] at h;simp[Zdc] at h
 | x::a,[],i,j,h=>by rw[Ss] at h;simp[Zdc] at h
 | x::a,y::b,i,j,h=>by
  by_cases e:x.1=y.1
  ·rw[Fs e] at h ⊢
   rw[List.all_cons] at h
   obtain⟨h1,h2⟩:=Fo a b (i+1) (j+1) (by simpa [Zdc] using h)
   refine⟨?_,?_⟩
   ·show(if x.1=y.1 then Jo a b else _)=0
    rw[if_pos e,h1]
   ·rw[h2,List.length_cons,List.range_succ_eq_map,List.map_cons,List.map_map]
    congr 1
    apply List.map_congr_left
    intro k _
    simp only[Function.comp,Nat.succ_eq_add_one]
    congr 2<;>omega
  ·by_cases q:x.1<y.1
   ·rw[Rt q] at h;simp[Zdc] at h
   ·rw[Ra (by omega)] at h;simp[Zdc] at h
theorem Uo:∀ (a b:List Ent) (i j k:Nat) (r:Rnd),((Xn i j a b).take k).all Zdc=true→(Xn i j a b)[k]? = some r→Zdc r=false→Jo a b=(if r.1=none then 1 else 2)
 | [],[],i,j,k,r,_,h,_=>by rw[Tc] at h;simp at h
 | [],y::b,i,j,k,r,hp,h,hr=>by
  rw[Rm] at hp h
  cases k with
  | zero=>simp at h;subst h;rfl
  | succ k=>simp[Zdc] at hp
 | x::a,[],i,j,k,r,hp,h,hr=>by
  rw[Ss] at hp h
  cases k with
  | zero=>simp at h;subst h;rfl
  | succ k=>simp[Zdc] at hp
 | x::a,y::b,i,j,k,r,hp,h,hr=>by
  by_cases e:x.1=y.1
  ·rw[Fs e] at hp h
   cases k with
   | zero=>simp at h;subst h;simp[Zdc] at hr
   | succ k =>
    have ih:=Uo a b (i+1) (j+1) k r (by simpa [Zdc] using hp) (by simpa using h) hr
    show(if x.1=y.1 then Jo a b else _)=_
    rw[if_pos e,ih]
  ·by_cases q:x.1<y.1
   ·rw[Rt q] at hp h
    cases k with
    | zero =>
     simp at h;subst h
     show(if x.1=y.1 then Jo a b else if x.1<y.1 then 2 else 1)=2
     rw[if_neg e,if_pos q]
    | succ k=>simp[Zdc] at hp
   ·rw[Ra (by omega)] at hp h
    cases k with
    | zero =>
     simp at h;subst h
     show(if x.1=y.1 then Jo a b else if x.1<y.1 then 2 else 1)=1
     rw[if_neg e,if_neg q]
    | succ k=>simp[Zdc] at hp
end Go.Proofs.YtceeiinepijokaaGreat
namespace Go.Proofs.YtceeiinepijokaaGreat
set_option maxHeartbeats 8000000
set_option maxRecDepth 100000
open Go.RowKit
set_option linter.unusedVariables false
attribute [local go_sem] Oper.semAt_some
def Zfm(g off n cap:Nat)(i:Nat)(v:Value):Prop:=(i=n∧∃ a c,v=.slice a 0 c)∨(i<n∧n≤cap∧v=.slice (some ⟨g,off+3*i,none⟩) (n-i) (cap-i))
def Fb(g off:Nat):Option Nat→Value
 | none=>.pointer none
 | some i=>.pointer (some ⟨g,off+3*i,none⟩)
def encR(ga oa gb ob:Nat)(r:Rnd):Array Value:=#[Fb ga oa r.1,Fb gb ob r.2]
def lenAt(W:World)(b:Nat):Nat:=match W.cell? ⟨b,0,none⟩ with
 | some (.slice _ n _)=>n
 | _=>0
theorem Yj{W:World}{b n c:Nat}{a:O0}{t:TypeId}(h:Blk W b [.slice a n c] t):lenAt W b=n:=by
 unfold lenAt
 rw[h.cell (i:=0) rfl]
theorem Pk{α:Type}{L:List α}{k:Nat}{x:α}{r:List α}(h:L.drop k=x::r):L[k]? = some x∧k<L.length∧L.drop (k+1)=r:=by
 have h1:k<L.length:=by
  rcases Nat.lt_or_ge k L.length with q|q
  ·exact q
  ·rw[List.drop_eq_nil_of_le q] at h;cases h
 rw[List.drop_eq_getElem_cons h1] at h
 simp only[List.cons.injEq] at h
 exact⟨by rw[List.getElem?_eq_getElem h1,h.1],h1,h.2⟩
theorem Gk{A:List Ent}{i n:Nat}(hA:A.length=n)(hi:i<n):A.drop i=A.getD i Zn::A.drop (i+1):=by
 subst hA
 rw[List.drop_eq_getElem_cons hi,show A.getD i Zn=A[i] from by simp[List.getD,hi]]
theorem Pw{T:Nat→Prop}{W X V:World}{B k B1 B2:Nat}{u x:Value}{t:TypeId}{J:Nat→World→Prop}(hV:X.setCell ⟨B,0,none⟩ u=V)(m:Blk X B [x] t)(hT:¬ T B)(hB:B=B1∨B=B2)
 (hJ:∀ k X Y row,J k X→X.grownBy Y row→(∀ r,row=some r→r=B1∨r=B2)→J k Y) (hK:Keeps T W X) (h:J k X):Blk V B [u] t∧Keeps T W V∧J k V∧∀ b cs t',b≠B→Blk X b cs t'→Blk V b cs t':=by
 subst hV
 exact⟨m.set 0 u,hK.setCell hT u,hJ _ _ _ _ h (grownBy_setCell' X B u) (fun r e=>by cases e;exact hB),fun b cs t' hb h'=>h'.other (p:=⟨B,0,none⟩) hb u⟩
theorem Gn{T:Nat→Prop}{W X:World}{N k B1 B2:Nat}{J:Nat→World→Prop}(hJ:∀ k X Y row,J k X→X.grownBy Y row→(∀ r,row=some r→r=B1∨r=B2)→J k Y)(hK:Keeps T W X)(h:J k X):Keeps T W (X.drewN N)∧J k (X.drewN N) :=
 ⟨hK.trans ⟨Nat.le_refl _,fun _ _=>rfl⟩,hJ _ _ _ none h ⟨rfl,rfl,rfl,Nat.le_refl _,fun _ _ _=>rfl⟩ (fun _ e=>by cases e)⟩
theorem Je{g off n cap i m:Nat}(hi:i<n)(hm:n-i=m+1)(hc:n≤cap):(cap-i=1→Zfm g off n cap (i+1) (.slice (some ⟨g,off+3*i,none⟩) m 0))∧(Zfm g off n cap (i+1) (.slice (some ⟨g,off+3*i+3,none⟩) m (cap-i-1))):=by
 refine⟨fun h=>?_,?_⟩
 ·obtain rfl:m=0:=by omega
  exact .inl ⟨by omega,_,_,rfl⟩
 ·by_cases h:m=0
  ·subst h;exact .inl ⟨by omega,_,_,rfl⟩
  ·refine .inr ⟨by omega,hc,?_⟩
   rw[show off+3*(i+1)=off+3*i+3 by omega,show n-(i+1)=m by omega,show cap-(i+1)=cap-i-1 by omega]
theorem Vw{T:Nat→Prop}{V U:World}{b:Nat}{cs:List Value}{t:TypeId}(h:Keeps T V U)(hb:T b)(m:Blk V b cs t):Blk U b cs t:=(h.block b hb).trans m
theorem pairs1_in(l B1 B2:Nat)(ga oa na ca gb ob nb cb:Nat)(A E:List Ent)(hA:A.length=na)(hE:E.length=nb)(hna:na≤100000000)(hnb:nb≤100000000)(hB:B1≠B2)(T:Nat→Prop)(hT1:¬ T B1)(hT2:¬ T B2)
  (J Jx:Nat→World→Prop)
  (hJ:∀ k X Y row,J k X→X.grownBy Y row→(∀ r,row=some r→r=B1∨r=B2)→J k Y)
  (hY:∀ k x V,(Xn 0 0 A E)[k]? = some x→J k V→YieldAt Fence.wide 2 Tryz.prog l (encR ga oa gb ob x) V fun e U =>
   (e=.returned (.bool true)∧J (k+1) U∧Keeps (fun b=>b=B1∨b=B2∨T b) V U)∨(e=.returned (.bool false)∧Jx k U))
  (W:World) (va vb:Value) (k1:Blk W B1 [va] 105) (k2:Blk W B2 [vb] 105) (hva:Zfm ga oa na ca 0 va) (hvb:Zfm gb ob nb cb 0 vb)
  (hkA:∀ i,i<na→W.cell? ⟨ga,oa+3*i,none⟩=some (V0 (A.getD i Zn).1)∧T ga) (hkE:∀ i,i<nb→W.cell? ⟨gb,ob+3*i,none⟩=some (V0 (E.getD i Zn).1)∧T gb) (h0:J 0 W) :
  CallsIn Fence.wide 3 Tryz.prog 83 #[.func (.yield l) #[] #[],P0 B1,P0 B2] W fun e W'=>(∃ v,e=.returned v)∧(J (Xn 0 0 A E).length W'∨∃ k,k<(Xn 0 0 A E).length∧Jx k W'):=by
 refine callsIn_of_wp Tryz.func83 rfl trivial ?_ rfl
 simp only[Tryz.ntmps83,List.size_toArray,List.length_cons,List.length_nil,Nat.reduceAdd,Nat.reduceSub,Array.replicate_succ,Array.replicate_zero,List.push_toArray,List.append_toArray,List.nil_append,List.cons_append]
 gi_wp2
 gi_loopw [] (fun wr=>∃ (k i j:Nat) (va vb:Value),i≤na∧j≤nb∧k≤(Xn 0 0 A E).length∧(Xn 0 0 A E).drop k=Xn i j (A.drop i) (E.drop j)∧Blk wr B1 [va] 105∧Blk wr B2 [vb] 105∧Zfm ga oa na ca i va∧Zfm gb ob nb cb j vb∧J k wr∧Keeps T W wr)
  (fun wr=>lenAt wr B1+lenAt wr B2)
 case atStart=>exact⟨0,0,0,va,vb,Nat.zero_le _,Nat.zero_le _,Nat.zero_le _,by simp,k1,k2,hva,hvb,h0,Keeps.refl _ _⟩
 case round =>
  obtain⟨k,i,j,va,vb,hi,hj,hk,d4,m1,m2,hva,hvb,b3,a8⟩:=hrel
  have c3:=hva
  have b6:=hvb
  rcases hva with ⟨rfl,a1,c1,rfl⟩|⟨a6,b9,rfl⟩
  ·rcases hvb with ⟨rfl,a2,c2,rfl⟩|⟨a3,d7,rfl⟩
   ·have e3:(Xn 0 0 A E).drop k=[]:=by rw[d4,show A.drop i=[] from List.drop_eq_nil_of_le (by omega),show E.drop j=[] from List.drop_eq_nil_of_le (by omega),Tc]
    have e4:k=(Xn 0 0 A E).length:=by
     have:=List.drop_eq_nil_iff.1 e3;omega
    have z1:=m1.cell (i:=0) rfl
    have z2:=m2.cell (i:=0) rfl
    have f1:=m1.frozen 0
    have f2:=m2.frozen 0
    gi_wp2
    go_end0
    exact⟨⟨_,rfl⟩,.inl (e4▸b3)⟩
   ·have c0:(Xn 0 0 A E).drop k=(none,some j)::Xn i (j+1) (A.drop i) (E.drop (j+1)):=by rw[d4,show A.drop i=[] from List.drop_eq_nil_of_le (by omega),Gk hE a3,Rm]
    obtain⟨hx,a9,a5⟩:=Pk c0
    obtain⟨p,hp⟩:∃ m,nb-j=m+1:=⟨nb-j-1,by omega⟩
    rw[hp] at m2
    have c9:=Je (g:=gb) (off:=ob) a3 hp d7
    have d5:=Lib.hid hp;clear hp
    have y2:wr.cell? ⟨gb,ob+3*j,none⟩=some (V0 (E.getD j Zn).1):=(a8.cell (hkE j a3).2).trans (hkE j a3).1
    have b8:=Yj m1
    have c8:=Yj m2
    have z1:=m1.cell (i:=0) rfl
    have z2:=m2.cell (i:=0) rfl
    have f1:=m1.frozen 0
    have f2:=m2.frozen 0
    gi_wp2
    gi_big_quiet_th (fail)
    gi_wp2
    gi_big_quiet_th (fail)
    gi_wp2
    all_goals
     generalize hV:World.setCell _ _ _=V
     obtain⟨q2,b5,b7,b4⟩:=Pw (x:=_) (B1:=B1) (B2:=B2) hV m2 hT2 (.inr rfl) hJ (Gn hJ a8 b3).1 (Gn hJ a8 b3).2
     have q1:=b4 _ _ _ hB m1
     obtain⟨fn,c5,a7,c6,hy,hR⟩:=hY k (none,some j) V hx b7
     have b0:=hy;clear hy
     simp only[encR,Fb] at b0
     rw[b0]
     refine⟨fun _=>by omega,hR.mono ?_⟩
     rintro e U (⟨rfl,d0,a0⟩|⟨rfl,a4⟩)
     ·have r1:=Vw a0 (.inl rfl) q1
      have r2:=Vw a0 (.inr (.inl rfl)) q2
      have c4:=Yj r1
      have c7:=Yj r2
      gi_wp2
      go_roundw
      case rel =>
       exact⟨k+1,_,j+1,_,_,hi,a3,a9,a5,r1,r2,(by first|exact c3|(rw[←d6.out];exact c3)),(by first|exact c9.2|exact c9.1 (by omega)),d0,b5.trans ⟨a0.size,fun b hb=>a0.block b (.inr (.inr hb))⟩⟩
      case measure=>rw[c4,c7,b8,c8];omega
     ·gi_wp2
      refine bodyPost_ret (results_none rfl _ _ _) rfl ?_
      exact⟨⟨_,rfl⟩,.inr ⟨k,a9,a4⟩⟩
  ·rcases hvb with ⟨rfl,a2,c2,rfl⟩|⟨a3,d7,rfl⟩
   ·have c0:(Xn 0 0 A E).drop k=(some i,none)::Xn (i+1) j (A.drop (i+1)) (E.drop j):=by rw[d4,show E.drop j=[] from List.drop_eq_nil_of_le (by omega),Gk hA a6,Ss]
    obtain⟨hx,a9,a5⟩:=Pk c0
    obtain⟨m,hm⟩:∃ m,na-i=m+1:=⟨na-i-1,by omega⟩
    rw[hm] at m1
    have d3:=Je (g:=ga) (off:=oa) a6 hm b9
    have d6:=Lib.hid hm;clear hm
    have y1:wr.cell? ⟨ga,oa+3*i,none⟩=some (V0 (A.getD i Zn).1):=(a8.cell (hkA i a6).2).trans (hkA i a6).1
    have b8:=Yj m1
    have c8:=Yj m2
    have z1:=m1.cell (i:=0) rfl
    have z2:=m2.cell (i:=0) rfl
    have f1:=m1.frozen 0
    have f2:=m2.frozen 0
    gi_wp2
    gi_big_quiet_th (fail)
    gi_wp2
    gi_big_quiet_th (fail)
    gi_wp2
    all_goals
     generalize hV:World.setCell _ _ _=V
     obtain⟨q1,b5,b7,b4⟩:=Pw (x:=_) (B1:=B1) (B2:=B2) hV m1 hT1 (.inl rfl) hJ (Gn hJ a8 b3).1 (Gn hJ a8 b3).2
     have q2:=b4 _ _ _ (Ne.symm hB) m2
     obtain⟨fn,c5,a7,c6,hy,hR⟩:=hY k (some i,none) V hx b7
     have b0:=hy;clear hy
     simp only[encR,Fb] at b0
     rw[b0]
     refine⟨fun _=>by omega,hR.mono ?_⟩
     rintro e U (⟨rfl,d0,a0⟩|⟨rfl,a4⟩)
     ·have r1:=Vw a0 (.inl rfl) q1
      have r2:=Vw a0 (.inr (.inl rfl)) q2
      have c4:=Yj r1
      have c7:=Yj r2
      gi_wp2
      go_roundw
      case rel =>
       exact⟨k+1,i+1,_,_,_,a6,hj,a9,a5,r1,r2,(by first|exact d3.2|exact d3.1 (by omega)),(by first|exact b6|(rw[←d5.out];exact b6)),d0,b5.trans ⟨a0.size,fun b hb=>a0.block b (.inr (.inr hb))⟩⟩
      case measure=>rw[c4,c7,b8,c8];omega
     ·gi_wp2
      refine bodyPost_ret (results_none rfl _ _ _) rfl ?_
      exact⟨⟨_,rfl⟩,.inr ⟨k,a9,a4⟩⟩
   ·by_cases hc:(A.getD i Zn).1=(E.getD j Zn).1
    ·have c0:(Xn 0 0 A E).drop k=(some i,some j)::Xn (i+1) (j+1) (A.drop (i+1)) (E.drop (j+1)):=by rw[d4,Gk hA a6,Gk hE a3,Fs hc]
     obtain⟨hx,a9,a5⟩:=Pk c0
     obtain⟨m,hm⟩:∃ m,na-i=m+1:=⟨na-i-1,by omega⟩
     rw[hm] at m1
     have d3:=Je (g:=ga) (off:=oa) a6 hm b9
     have d6:=Lib.hid hm;clear hm
     have y1:wr.cell? ⟨ga,oa+3*i,none⟩=some (V0 (A.getD i Zn).1):=(a8.cell (hkA i a6).2).trans (hkA i a6).1
     obtain⟨p,hp⟩:∃ m,nb-j=m+1:=⟨nb-j-1,by omega⟩
     rw[hp] at m2
     have c9:=Je (g:=gb) (off:=ob) a3 hp d7
     have d5:=Lib.hid hp;clear hp
     have y2:wr.cell? ⟨gb,ob+3*j,none⟩=some (V0 (E.getD j Zn).1):=(a8.cell (hkE j a3).2).trans (hkE j a3).1
     have b8:=Yj m1
     have c8:=Yj m2
     obtain⟨ya,b2⟩:∃ y,(A.getD i Zn).1=y:=⟨_,rfl⟩
     obtain⟨yb,b1⟩:∃ y,(E.getD j Zn).1=y:=⟨_,rfl⟩
     rw[b2] at y1
     rw[b1] at y2
     have d1:decide (ya≤yb)=true:=by simp;omega
     have d2:decide (yb≤ya)=true:=by simp;omega
     have w1:(ya≤yb)=True:=by simp;omega
     have w2:(yb≤ya)=True:=by simp;omega
     have e1:((p:Int)+1==0)=false:=beq_false_of_ne (by omega)
     have e2:((m:Int)+1==0)=false:=beq_false_of_ne (by omega)
     have b2:=Lib.hid b2
     have b1:=Lib.hid b1
     clear d1 d2
     have z1:=m1.cell (i:=0) rfl
     have z2:=m2.cell (i:=0) rfl
     have f1:=m1.frozen 0
     have f2:=m2.frozen 0
     gi_wp2
     gi_big_quiet_th (fail)
     gi_wp2
     gi_big_quiet_th (fail)
     gi_wp2
     all_goals
      generalize hV:World.setCell (World.setCell _ _ _) _ _=V
      generalize hX:World.setCell (World.drewN _ _) _ _=X at hV
      obtain⟨q1,d9,e0,d8⟩:=Pw (x:=_) (B1:=B1) (B2:=B2) hX m1 hT1 (.inl rfl) hJ (Gn hJ a8 b3).1 (Gn hJ a8 b3).2
      obtain⟨q2,b5,b7,b4⟩:=Pw (x:=_) (B1:=B1) (B2:=B2) hV (d8 _ _ _ (Ne.symm hB) m2) hT2 (.inr rfl) hJ d9 e0
      replace q1:=b4 _ _ _ hB q1
      obtain⟨fn,c5,a7,c6,hy,hR⟩:=hY k (some i,some j) V hx b7
      have b0:=hy;clear hy
      simp only[encR,Fb] at b0
      rw[b0]
      refine⟨fun _=>by omega,hR.mono ?_⟩
      rintro e U (⟨rfl,d0,a0⟩|⟨rfl,a4⟩)
      ·have r1:=Vw a0 (.inl rfl) q1
       have r2:=Vw a0 (.inr (.inl rfl)) q2
       have c4:=Yj r1
       have c7:=Yj r2
       gi_wp2
       go_roundw
       case rel =>
        exact⟨k+1,i+1,j+1,_,_,a6,a3,a9,a5,r1,r2,(by first|exact d3.2|exact d3.1 (by omega)),(by first|exact c9.2|exact c9.1 (by omega)),d0,b5.trans ⟨a0.size,fun b hb=>a0.block b (.inr (.inr hb))⟩⟩
       case measure=>rw[c4,c7,b8,c8];omega
      ·gi_wp2
       refine bodyPost_ret (results_none rfl _ _ _) rfl ?_
       exact⟨⟨_,rfl⟩,.inr ⟨k,a9,a4⟩⟩
    ·by_cases hl:(A.getD i Zn).1<(E.getD j Zn).1
     ·have c0:(Xn 0 0 A E).drop k=(some i,none)::Xn (i+1) j (A.drop (i+1)) (E.drop j):=by rw[d4,Gk hA a6,Gk hE a3,Rt hl]
      obtain⟨hx,a9,a5⟩:=Pk c0
      obtain⟨m,hm⟩:∃ m,na-i=m+1:=⟨na-i-1,by omega⟩
      rw[hm] at m1
      have d3:=Je (g:=ga) (off:=oa) a6 hm b9
      have d6:=Lib.hid hm;clear hm
      have y1:wr.cell? ⟨ga,oa+3*i,none⟩=some (V0 (A.getD i Zn).1):=(a8.cell (hkA i a6).2).trans (hkA i a6).1
      obtain⟨p,hp⟩:∃ m,nb-j=m+1:=⟨nb-j-1,by omega⟩
      rw[hp] at m2
      have c9:=Je (g:=gb) (off:=ob) a3 hp d7
      have d5:=Lib.hid hp;clear hp
      have y2:wr.cell? ⟨gb,ob+3*j,none⟩=some (V0 (E.getD j Zn).1):=(a8.cell (hkE j a3).2).trans (hkE j a3).1
      have b8:=Yj m1
      have c8:=Yj m2
      obtain⟨ya,b2⟩:∃ y,(A.getD i Zn).1=y:=⟨_,rfl⟩
      obtain⟨yb,b1⟩:∃ y,(E.getD j Zn).1=y:=⟨_,rfl⟩
      rw[b2] at y1
      rw[b1] at y2
      have d1:decide (ya≤yb)=true:=by simp;omega
      have d2:decide (yb≤ya)=false:=by simp;omega
      have w1:(ya≤yb)=True:=by simp;omega
      have w2:(yb≤ya)=False:=by simp;omega
      have e1:((p:Int)+1==0)=false:=beq_false_of_ne (by omega)
      have e2:((m:Int)+1==0)=false:=beq_false_of_ne (by omega)
      have b2:=Lib.hid b2
      have b1:=Lib.hid b1
      clear d1 d2
      have z1:=m1.cell (i:=0) rfl
      have z2:=m2.cell (i:=0) rfl
      have f1:=m1.frozen 0
      have f2:=m2.frozen 0
      gi_wp2
      gi_big_quiet_th (fail)
      gi_wp2
      gi_big_quiet_th (fail)
      gi_wp2
      all_goals
       generalize hV:World.setCell _ _ _=V
       obtain⟨q1,b5,b7,b4⟩:=Pw (x:=_) (B1:=B1) (B2:=B2) hV m1 hT1 (.inl rfl) hJ (Gn hJ a8 b3).1 (Gn hJ a8 b3).2
       have q2:=b4 _ _ _ (Ne.symm hB) m2
       obtain⟨fn,c5,a7,c6,hy,hR⟩:=hY k (some i,none) V hx b7
       have b0:=hy;clear hy
       simp only[encR,Fb] at b0
       rw[b0]
       refine⟨fun _=>by omega,hR.mono ?_⟩
       rintro e U (⟨rfl,d0,a0⟩|⟨rfl,a4⟩)
       ·have r1:=Vw a0 (.inl rfl) q1
        have r2:=Vw a0 (.inr (.inl rfl)) q2
        have c4:=Yj r1
        have c7:=Yj r2
        gi_wp2
        go_roundw
        case rel =>
         exact⟨k+1,i+1,_,_,_,a6,hj,a9,a5,r1,r2,(by first|exact d3.2|exact d3.1 (by omega)),(by first|exact b6|(rw[←d5.out];exact b6)),d0,b5.trans ⟨a0.size,fun b hb=>a0.block b (.inr (.inr hb))⟩⟩
        case measure=>rw[c4,c7,b8,c8];omega
       ·gi_wp2
        refine bodyPost_ret (results_none rfl _ _ _) rfl ?_
        exact⟨⟨_,rfl⟩,.inr ⟨k,a9,a4⟩⟩
     ·have c0:(Xn 0 0 A E).drop k=(none,some j)::Xn i (j+1) (A.drop i) (E.drop (j+1)):=by rw[d4,Gk hA a6,Gk hE a3,Ra (show(E.getD j Zn).1<(A.getD i Zn).1 by omega)]
      obtain⟨hx,a9,a5⟩:=Pk c0
      obtain⟨m,hm⟩:∃ m,na-i=m+1:=⟨na-i-1,by omega⟩
      rw[hm] at m1
      have d3:=Je (g:=ga) (off:=oa) a6 hm b9
      have d6:=Lib.hid hm;clear hm
      have y1:wr.cell? ⟨ga,oa+3*i,none⟩=some (V0 (A.getD i Zn).1):=(a8.cell (hkA i a6).2).trans (hkA i a6).1
      obtain⟨p,hp⟩:∃ m,nb-j=m+1:=⟨nb-j-1,by omega⟩
      rw[hp] at m2
      have c9:=Je (g:=gb) (off:=ob) a3 hp d7
      have d5:=Lib.hid hp;clear hp
      have y2:wr.cell? ⟨gb,ob+3*j,none⟩=some (V0 (E.getD j Zn).1):=(a8.cell (hkE j a3).2).trans (hkE j a3).1
      have b8:=Yj m1
      have c8:=Yj m2
      obtain⟨ya,b2⟩:∃ y,(A.getD i Zn).1=y:=⟨_,rfl⟩
      obtain⟨yb,b1⟩:∃ y,(E.getD j Zn).1=y:=⟨_,rfl⟩
      rw[b2] at y1
      rw[b1] at y2
      have d1:decide (ya≤yb)=false:=by simp;omega
      have d2:decide (yb≤ya)=true:=by simp;omega
      have w1:(ya≤yb)=False:=by simp;omega
      have w2:(yb≤ya)=True:=by simp;omega
      have e1:((p:Int)+1==0)=false:=beq_false_of_ne (by omega)
      have e2:((m:Int)+1==0)=false:=beq_false_of_ne (by omega)
      have b2:=Lib.hid b2
      have b1:=Lib.hid b1
      clear d1 d2
      have z1:=m1.cell (i:=0) rfl
      have z2:=m2.cell (i:=0) rfl
      have f1:=m1.frozen 0
      have f2:=m2.frozen 0
      gi_wp2
      gi_big_quiet_th (fail)
      gi_wp2
      gi_big_quiet_th (fail)
      gi_wp2
      all_goals
       generalize hV:World.setCell _ _ _=V
       obtain⟨q2,b5,b7,b4⟩:=Pw (x:=_) (B1:=B1) (B2:=B2) hV m2 hT2 (.inr rfl) hJ (Gn hJ a8 b3).1 (Gn hJ a8 b3).2
       have q1:=b4 _ _ _ hB m1
       obtain⟨fn,c5,a7,c6,hy,hR⟩:=hY k (none,some j) V hx b7
       have b0:=hy;clear hy
       simp only[encR,Fb] at b0
       rw[b0]
       refine⟨fun _=>by omega,hR.mono ?_⟩
       rintro e U (⟨rfl,d0,a0⟩|⟨rfl,a4⟩)
       ·have r1:=Vw a0 (.inl rfl) q1
        have r2:=Vw a0 (.inr (.inl rfl)) q2
        have c4:=Yj r1
        have c7:=Yj r2
        gi_wp2
        go_roundw
        case rel =>
         exact⟨k+1,_,j+1,_,_,hi,a3,a9,a5,r1,r2,(by first|exact c3|(rw[←d6.out];exact c3)),(by first|exact c9.2|exact c9.1 (by omega)),d0,b5.trans ⟨a0.size,fun b hb=>a0.block b (.inr (.inr hb))⟩⟩
        case measure=>rw[c4,c7,b8,c8];omega
       ·gi_wp2
        refine bodyPost_ret (results_none rfl _ _ _) rfl ?_
        exact⟨⟨_,rfl⟩,.inr ⟨k,a9,a4⟩⟩
theorem load_pairs(a:O0)(n c:Nat)(b:O0)(m d:Nat)(w:World):C0 45 #[.slice a n c,.slice b m d] w fun e w' =>
 e=.returned (.func (.func 83) #[] #[.pointer (some ⟨w.heap.size,0,none⟩),.pointer (some ⟨w.heap.size+1,0,none⟩)]) ∧
 w'=(w.alloc (.cells #[.slice a n c] 105)).alloc (.cells #[.slice b m d] 105):=by
 go_enter Tryz.func45,Tryz.ntmps45
 go_wp2
 go_ret
 exact⟨rfl,rfl⟩
theorem rest_of{w W:World}{p:O0}{n c:Nat}{A:List Ent}(hA:A.length=n)(s:Sts Qz w (.slice p n c) A)(hb:B3 w W) :
 ∃ g o,Zfm g o n c 0 (.slice p n c)∧(∀ i,i<n→W.cell? ⟨g,o+3*i,none⟩=some (V0 (A.getD i Zn).1)∧g<w.heap.size)∧(n≠0→p=some ⟨g,o,none⟩):=by
 subst hA
 by_cases h0:A.length=0
 ·exact⟨0,0,.inl ⟨h0.symm,p,c,by rw[h0]⟩,fun i hi=>by omega,fun h=>absurd h0 h⟩
 ·have s':Sl w (.slice p A.length c) A.length (A.flatMap Qz):=s
  rcases s' with ⟨a,d,h1,h2,_⟩|⟨g,o,a0,h1,h2,_,h4⟩
  ·simp only[Value.slice.injEq] at h1;omega
  ·simp only[Value.slice.injEq] at h1
   obtain⟨rfl,_,rfl⟩:=h1
   refine⟨g,o,.inr ⟨by omega,h2,by simp⟩,fun i hi=>?_,fun _=>rfl⟩
   have hc:=Bf Qk A i 0 Zn hi (by decide)
   have h5:=h4 (i*3+0) (V0 (A.getD i Zn).1) (hc.trans rfl)
   rw[show o+(i*3+0)=o+3*i by omega] at h5
   refine⟨Cu hb h5,?_⟩
   rcases Nat.lt_or_ge g w.heap.size with q|q
   ·exact q
   ·rw[World.cell?,Array.getElem?_eq_none q] at h5;simp at h5
theorem Rj(a:O0)(n c:Nat)(b:O0)(m d:Nat)(w:World):C0 45 #[.slice a n c,.slice b m d] w (fun e w'=>∃ b1 b2,e=.returned (.func (.func 83) #[] #[P0 b1,P0 b2])∧B3 w w'∧w.heap.size≤b1∧w.heap.size≤b2∧b1≠b2∧Blk w' b1 [.slice a n c] 105∧Blk w' b2 [.slice b m d] 105) :=
 (load_pairs a n c b m d w).mono fun e w' ⟨h1,h2⟩=>by
  subst h1 h2
  have h3:(w.alloc (.cells #[.slice a n c] 105)).heap.size=w.heap.size+1:=World.size_alloc _ _
  have k2:=Blk.new (w.alloc (.cells #[.slice a n c] 105)) [.slice b m d] 105
  rw[h3] at k2
  exact⟨_,_,rfl,((Below.refl _ w).alloc (Nat.le_refl _) _).alloc (by simp) _,Nat.le_refl _,Nat.le_succ _,by omega,(Blk.new w [.slice a n c] 105).alloc _,k2⟩
theorem Zc0{w W:World}{B1 B2 na ca nb cb:Nat}{pa pb:O0}{A E:List Ent}(hA:A.length=na)(hE:E.length=nb)(hna:na≤100000000)(hnb:nb≤100000000)(sA:Sts Qz w (.slice pa na ca) A)(sE:Sts Qz w (.slice pb nb cb) E)
 (hb:B3 w W) (g1:w.heap.size≤B1) (g2:w.heap.size≤B2) (hB:B1≠B2) (k1:Blk W B1 [.slice pa na ca] 105) (k2:Blk W B2 [.slice pb nb cb] 105) :
 ∃ ga oa gb ob,SeqL Tryz.prog 83 #[P0 B1,P0 B2] (encR ga oa gb ob) (Keeps fun b=>b=B1∨b=B2∨(na≠0∧b=ga)∨(nb≠0∧b=gb)) (fun r=>r=B1∨r=B2) (Xn 0 0 A E) W∧(na≠0→pa=some ⟨ga,oa,none⟩)∧(nb≠0→pb=some ⟨gb,ob,none⟩):=by
 obtain⟨ga,oa,ra,ka,ea⟩:=rest_of hA sA hb
 obtain⟨gb,ob,rb,kb,eb⟩:=rest_of hE sE hb
 refine⟨ga,oa,gb,ob,?_,ea,eb⟩
 intro l J Jx V hV hJ hY h0
 have ha:na≠0→ga<w.heap.size:=fun h=>(ka 0 (by omega)).2
 have he:nb≠0→gb<w.heap.size:=fun h=>(kb 0 (by omega)).2
 have hT:¬ ((na≠0∧B1=ga)∨(nb≠0∧B1=gb)):=by
  rintro(⟨h,e⟩|⟨h,e⟩)
  ·have:=ha h;omega
  ·have:=he h;omega
 have a1:¬ ((na≠0∧B2=ga)∨(nb≠0∧B2=gb)):=by
  rintro(⟨h,e⟩|⟨h,e⟩)
  ·have:=ha h;omega
  ·have:=he h;omega
 have a0:Blk V B1 _ _:=k1.below hV
 have a2:Blk V B2 _ _:=k2.below hV
 exact pairs1_in l B1 B2 ga oa na ca gb ob nb cb A E hA hE hna hnb hB (fun b=>(na≠0∧b=ga)∨(nb≠0∧b=gb)) hT a1 J Jx hJ hY V _ _ a0 a2 ra rb
  (fun i hi=>⟨Cu hV (ka i hi).1,.inl ⟨by omega,rfl⟩⟩) (fun i hi=>⟨Cu hV (kb i hi).1,.inr ⟨by omega,rfl⟩⟩) h0
end Go.Proofs.YtceeiinepijokaaGreat
namespace Go.Proofs.YtceeiinepijokaaGreat
set_option maxHeartbeats 8000000
set_option maxRecDepth 100000
open Go.RowKit
set_option linter.unusedVariables false
theorem Zd7{P:Program}{l n:Nat}{ops:Array Oper}{Q:Exit→Act→World→Prop}(hQ:¬ LetsOut Q):∀ (r:List Oper) (a:Act) (w:World),(∀ o∈r,∀ c,o.op≠.defer c)→wpList P ops Q r a w→wpListIn (Fence.wide.inRound l) n P ops Q r a w
 | [],_,_,_,h=>h
 | o::r,a,w,hd,h=>by
  unfold wpList at h
  unfold wpListIn
  split at h
  ·rename_i hw
   rw[if_pos hw]
   exact Oper.wpIn_mono (fun a w=>Zd7 hQ r a w (fun o ho=>hd o (by simp[ho]))) (oper_in (hd o (by simp)) (h.resolve_right fun q=>hQ q.2))
  ·rename_i hw
   rw[if_neg hw]
   exact⟨fun _ _=>trivial,Zd7 hQ r _ _ (fun o ho=>hd o (by simp[ho])) h⟩
theorem Vf{P:Program}{l0 n0 id:Nat}{l:List Oper}{Q:Exit→Act→World→Prop}{a:Act}{w:World}(hQ:¬ LetsOut Q)(hd:∀ o∈l,∀ c,o.op≠.defer c)(h:wpList P l.toArray Q l a w):(Code.region id l.toArray false).wpIn (Fence.wide.inRound l0) n0 P Q a w :=
 wpIn_region_lit (Zd7 hQ l a w hd h)
structure RdS(w0:World)(S:List Nat)(W V:World):Prop where
 ko:KeepsOthers W V
 fr:∀ k,k<w0.heap.size→k∉S→V.heap[k]? = W.heap[k]?
 le:W.heap.size≤V.heap.size
 l0:w0.heap.size≤W.heap.size
theorem RdS.refl{w0 W:World}(S:List Nat)(h:w0.heap.size≤W.heap.size):RdS w0 S W W:=⟨⟨Nat.le_refl _,fun _ _ h _=>h⟩,fun _ _ _=>rfl,Nat.le_refl _,h⟩
theorem RdS.below{w0 W V U:World}{S:List Nat}(h:RdS w0 S W V)(hb:Below V.heap.size V U):RdS w0 S W U :=
 ⟨h.ko.trans (Gj hb),fun k hk hn=>(hb.block k (Nat.lt_of_lt_of_le hk (Nat.le_trans h.l0 h.le))).trans (h.fr k hk hn),Nat.le_trans h.le hb.size,h.l0⟩
theorem RdS.upd{w0 W V U:World}{S:List Nat}{b:Nat}{cs:List Value}{t:TypeId}(h:RdS w0 S W V)(u:Upd V b U)(k:Blk V b cs t)(hb:b∈S∨w0.heap.size≤b):RdS w0 S W U :=
 ⟨h.ko.trans (Ik u k),fun i hi hn=>(u.block i (fun e=>by subst e;rcases hb with hb|hb;exact hn hb;omega)).trans (h.fr i hi hn),Nat.le_trans h.le (Nat.le_of_eq u.size.symm),h.l0⟩
theorem RdS.frm{w0 W V U:World}{S:List Nat}{b:Nat}{cs:List Value}{t:TypeId}(h:RdS w0 S W V)(u:Fr [b] V U)(k:Blk V b cs t)(hb:b∈S):RdS w0 S W U :=
 ⟨h.ko.trans ⟨u.size,fun i o hi ho=>(u.block i (Array.getElem?_eq_some_iff.1 hi).1 (by
  simp only[List.mem_singleton]
  rintro rfl
  rw[show V.heap[i]? = _ from k] at hi
  cases hi;cases ho)).trans hi⟩,fun i hi hn=>(u.block i (Nat.lt_of_lt_of_le hi (Nat.le_trans h.l0 h.le)) (by simp only[List.mem_singleton];rintro rfl;exact hn hb)).trans (h.fr i hi hn),Nat.le_trans h.le u.size,h.l0⟩
theorem RdS.grown{w0 W V U:World}{S:List Nat}{size n:Nat}{e:TypeId}{v:Value}{xs:List Value}(h:RdS w0 S W V)(hg:V.grownBy U v.ownBlock)(k:V.ownsRow w0.heap.size e size v n xs):RdS w0 S W U :=
 ⟨h.ko.trans ⟨hg.size,fun i o hi ho=>by
   rw[hg.block i (Array.getElem?_eq_some_iff.1 hi).1 (fun q=>by
    rcases k.2 with ⟨rfl,_⟩|⟨g,a1,a0,rfl,_,hh,_⟩
    ·cases q
    ·simp only[Value.ownBlock,Option.some.injEq] at q
     subst q
     rw[hh] at hi
     cases hi
     cases ho)]
   exact hi⟩,
  fun i hi hn=>(hg.block i (Nat.lt_of_lt_of_le hi (Nat.le_trans h.l0 h.le)) (fun e=>by have:=(k.lt i e.symm).1;omega)).trans (h.fr i hi hn),Nat.le_trans h.le hg.size,h.l0⟩
def Turns(q:Nat→Prop)(n:Nat)(A:World)(row:Option Nat):Prop:=∀ r,row=some r→q r∨n≤r∧∃ o:Obj,A.heap[r]? = some o∧o.isCells=false
theorem fr_ab{S:List Nat}{q:Nat→Prop}{w0 A B:World}{row:Option Nat}(h:Fr S w0 A)(hg:A.grownBy B row)(hr:Turns q w0.heap.size A row)(hq:∀ r,q r→r∈S):Fr S w0 B :=
 ⟨Nat.le_trans h.size hg.size,fun k hk hn=>(hg.block k (Nat.lt_of_lt_of_le hk h.size) (fun e=>by
  rcases hr k e.symm with h1|h1
  ·exact hn (hq _ h1)
  ·omega)).trans (h.block k hk hn)⟩
theorem Iy{n m:Nat}{q:Nat→Prop}{w A B:World}{row:Option Nat}(h:Below n w A)(hg:A.grownBy B row)(hr:Turns q m A row)(hn:n≤w.heap.size)(hm:n≤m)(hq:∀ r,q r→n≤r):Below n w B :=
 h.grown hg (Nat.le_trans hn h.size) (fun r e=>by rcases hr r e with h1|h1;exact hq _ h1;omega)
theorem own_ab{q:Nat→Prop}{A B:World}{row:Option Nat}{base size n m:Nat}{e:TypeId}{v:Value}{xs:List Value}(k:A.ownsRow base e size v n xs)(hg:A.grownBy B row)(hr:Turns q m A row)(hq:∀ r,q r→r<base):B.ownsRow base e size v n xs:=by
 obtain⟨h1,h2⟩:=k
 refine⟨h1,?_⟩
 rcases h2 with h2|⟨g,a1,a0,hv,hb,hh,r⟩
 ·exact Or.inl h2
 ·refine Or.inr ⟨g,a1,a0,hv,hb,?_,r⟩
  rw[hg.block g (Array.getElem?_eq_some_iff.1 hh).1 (fun q=>by
   rcases hr g q.symm with h3|⟨_,o,ho,hc⟩
   ·have:=hq _ h3;omega
   ·rw[hh] at ho
    cases ho
    cases hc)]
  exact hh
theorem Zbn{q:Nat→Prop}{A B:World}{row:Option Nat}{b m:Nat}{cs:List Value}{t:TypeId}(k:Blk A b cs t)(hg:A.grownBy B row)(hr:Turns q m A row)(hq:∀ r,q r→b≠r):Blk B b cs t :=
 k.kept hg (fun e'=>by
  rcases hr b e'.symm with h3|⟨_,o,ho,hc⟩
  ·exact hq _ h3 rfl
  ·rw[show A.heap[b]? = _ from k] at ho;cases ho;cases hc)
theorem Zca{F:Fence}{n:Nat}{P:Program}{c:Code}{Q:Exit→Act→World→Prop}{a:Act}{w:World}(a':Act)(h:a=a')(k:c.wpIn F n P Q a' w):c.wpIn F n P Q a w:=h▸k
theorem fr_join{S S2:List Nat}{w0 W V:World}(h:Fr S w0 W)(z:RdS w0 S2 W V)(hs:∀ k,k∈S2→k∈S∨V.heap[k]? = w0.heap[k]?):Fr S w0 V :=
 ⟨Nat.le_trans h.size z.le,fun k hk hn=>by
  by_cases h2:k∈S2
  ·exact(hs k h2).resolve_left hn
  ·exact(z.fr k hk h2).trans (h.block k hk hn)⟩
theorem Dfr.put{D D2:Nat}{w:World}(h:Dfr D w)(hne:D≠D2)(o:Obj):Dfr D (w.putObj D2 o):=(World.putObj_heap_other hne).trans h
theorem Va.pt{D:Nat}{w:World}{l:List (Option Int)}{c:Option Int}{v:Value}(h:Va w l c v)(hK:Dfr D w)(o:Obj):Va (w.putObj D o) l c v:=h.kept fun _ _ k=>k.put hK rfl o
theorem own_pt{D:Nat}{w:World}{base size n:Nat}{e:TypeId}{v:Value}{xs:List Value}(k:w.ownsRow base e size v n xs)(hK:Dfr D w)(o:Obj):(w.putObj D o).ownsRow base e size v n xs:=(Upd.of_put w D o).own3 k (hK.row k)
theorem Ly{n D:Nat}{w W:World}(h:Below n w W)(hn:n≤W.heap.size)(hD:n≤D)(o:Obj):Below n w (W.putObj D o):=h.grown (grownBy_putObj' W D o) hn (fun r e=>by cases e;exact hD)
theorem ret0{P:Program}{fn:Func}{R:Ending→World→Prop}{a:Act}{w:World}{v:Value}{b10 b11:Nat}{x y:Value}{t t':TypeId}(k10:Blk w b10 [x] t)(k11:Blk w b11 [y] t')(hr:∀ U,Blk U b10 [x] t→Blk U b11 [y] t'→(results fn a.tmps).run P U=.ok v U)(hd:a.defers=[])(h:R (.returned v) w):bodyPostM Fence.wide 4 P fn R .ret a w:=by
 show LeavesInM _ _ _ _ a.tmps R a.defers .returning w
 rw[hd]
 exact⟨v,hr w k10 k11,h⟩
theorem ret1{P:Program}{fn:Func}{R:Ending→World→Prop}{a:Act}{w:World}{v:Value}{b10 b11 D:Nat}{x y:Value}{t t':TypeId}(k10:Blk w b10 [x] t)(k11:Blk w b11 [y] t')(hK:Dfr D w)(hr:∀ U,Blk U b10 [x] t→Blk U b11 [y] t'→(results fn a.tmps).run P U=.ok v U)(hd:a.defers=[{ target:=.collected D,args:=#[] }])(h:R (.returned v) (w.putObj D (.deferred none))):bodyPostM Fence.wide 4 P fn R .ret a w:=by
 show LeavesInM _ _ _ _ a.tmps R a.defers .returning w
 rw[hd]
 exact⟨by simp,.inl ⟨_,_,rfl,run_takeDeferred hK,v,hr _ (k10.put hK rfl _) (k11.put hK rfl _),h⟩⟩
theorem ret2{P:Program}{fn:Func}{R:Ending→World→Prop}{a:Act}{w:World}{v:Value}{b10 b11 D E:Nat}{x y:Value}{t t':TypeId}(k10:Blk w b10 [x] t)(k11:Blk w b11 [y] t')(hK:Dfr D w)(hE:Dfr E w)(hne:D≠E)(hr:∀ U,Blk U b10 [x] t→Blk U b11 [y] t'→(results fn a.tmps).run P U=.ok v U)(hd:a.defers=[{ target:=.collected E,args:=#[] },{ target:=.collected D,args:=#[] }])(h:R (.returned v) ((w.putObj E (.deferred none)).putObj D (.deferred none))):bodyPostM Fence.wide 4 P fn R .ret a w:=by
 have hD:=hK.put hne (.deferred none)
 show LeavesInM _ _ _ _ a.tmps R a.defers .returning w
 rw[hd]
 exact⟨by simp,.inl ⟨_,_,rfl,run_takeDeferred hE,by simp,.inl ⟨_,_,rfl,run_takeDeferred hD,v,hr _ ((k10.put hE rfl _).put hD rfl _) ((k11.put hE rfl _).put hD rfl _),h⟩⟩⟩
end Go.Proofs.YtceeiinepijokaaGreat
