/- The rounds of package load's iterator 'pairs'. -/
import Derived.RangeFuncNested
import Derived.RangeFuncBound
import Derived.RangeFuncCalls
import Derived.RangeFuncLeaves
import Derived.Shelf.Abstract
import Derived.Shelf.RegionOpen
import Derived.OwnWalkIn
import Derived.TacticsInMore
import Derived.LoopNIn
import Derived.LoopIn
import Derived.Sort.BigQuietIn
import Derived.Lib.SmallJoins
import Derived.Test.YtgphgaehfdfjjaaGreatMg4
namespace Go.Proofs.YtgphgaehfdfjjaaGreat
set_option maxHeartbeats 8000000
set_option maxRecDepth 100000
open Go.RowKit
set_option linter.unusedVariables false
attribute [local go_sem] Oper.semAt_some
def Oc(g off n cap:Nat)(i:Nat)(v:Value):Prop:=(i=n∧∃ a c,v=.slice a 0 c)∨(i<n∧n≤cap∧v=.slice (some ⟨g,off+3*i,none⟩) (n-i) (cap-i))
def Lf(g off:Nat):Option Nat→Value
 | none=>.pointer none
 | some i=>.pointer (some ⟨g,off+3*i,none⟩)
def encR(ga oa gb ob:Nat)(r:Rnd):Array Value:=#[Lf ga oa r.1,Lf gb ob r.2]
def lenAt(W:World)(b:Nat):Nat:=match W.cell? ⟨b,0,none⟩ with
 | some (.slice _ n _)=>n
 | _=>0
theorem Xu{W:World}{b n c:Nat}{a:O0}{t:TypeId}(h:Blk W b [.slice a n c] t):lenAt W b=n:=by
 unfold lenAt
 rw[h.cell (i:=0) rfl]
theorem Gq{α:Type}{L:List α}{k:Nat}{x:α}{r:List α}(h:L.drop k=x::r):L[k]? = some x∧k<L.length∧L.drop (k+1)=r:=by
 have h1:k<L.length:=by
  rcases Nat.lt_or_ge k L.length with q|q
  ·exact q
  ·rw[List.drop_eq_nil_of_le q] at h;cases h
 rw[List.drop_eq_getElem_cons h1] at h
 simp only[List.cons.injEq] at h
 exact⟨by rw[List.getElem?_eq_getElem h1,h.1],h1,h.2⟩
theorem Jw{A:List Ent}{i n:Nat}(hA:A.length=n)(hi:i<n):A.drop i=A.getD i Zi::A.drop (i+1):=by
 subst hA
 rw[List.drop_eq_getElem_cons hi,show A.getD i Zi=A[i] from by simp[List.getD,hi]]
theorem Us{T:Nat→Prop}{W X V:World}{B k B1 B2:Nat}{u x:Value}{t:TypeId}{J:Nat→World→Prop}(hV:X.setCell ⟨B,0,none⟩ u=V)(m:Blk X B [x] t)(hT:¬ T B)(hB:B=B1∨B=B2)
 (hJ:∀ k X Y row,J k X→X.grownBy Y row→(∀ r,row=some r→r=B1∨r=B2)→J k Y) (hK:Keeps T W X) (h:J k X):Blk V B [u] t∧Keeps T W V∧J k V∧∀ b cs t',b≠B→Blk X b cs t'→Blk V b cs t':=by
 subst hV
 exact⟨m.set 0 u,hK.setCell hT u,hJ _ _ _ _ h (grownBy_setCell' X B u) (fun r e=>by cases e;exact hB),fun b cs t' hb h'=>h'.other (p:=⟨B,0,none⟩) hb u⟩
theorem Hd{T:Nat→Prop}{W X:World}{N k B1 B2:Nat}{J:Nat→World→Prop}(hJ:∀ k X Y row,J k X→X.grownBy Y row→(∀ r,row=some r→r=B1∨r=B2)→J k Y)(hK:Keeps T W X)(h:J k X):Keeps T W (X.drewN N)∧J k (X.drewN N) :=
 ⟨hK.trans ⟨Nat.le_refl _,fun _ _=>rfl⟩,hJ _ _ _ none h ⟨rfl,rfl,rfl,Nat.le_refl _,fun _ _ _=>rfl⟩ (fun _ e=>by cases e)⟩
theorem Ki{g off n cap i m:Nat}(hi:i<n)(hm:n-i=m+1)(hc:n≤cap):(cap-i=1→Oc g off n cap (i+1) (.slice (some ⟨g,off+3*i,none⟩) m 0))∧(Oc g off n cap (i+1) (.slice (some ⟨g,off+3*i+3,none⟩) m (cap-i-1))):=by
 refine⟨fun h=>?_,?_⟩
 ·obtain rfl:m=0:=by omega
  exact .inl ⟨by omega,_,_,rfl⟩
 ·by_cases h:m=0
  ·subst h;exact .inl ⟨by omega,_,_,rfl⟩
  ·refine .inr ⟨by omega,hc,?_⟩
   rw[show off+3*(i+1)=off+3*i+3 by omega,show n-(i+1)=m by omega,show cap-(i+1)=cap-i-1 by omega]
theorem Qt{T:Nat→Prop}{V U:World}{b:Nat}{cs:List Value}{t:TypeId}(h:Keeps T V U)(hb:T b)(m:Blk V b cs t):Blk U b cs t:=(h.block b hb).trans m
theorem Zer(l B1 B2:Nat)(ga oa na ca gb ob nb cb:Nat)(A E:List Ent)(hA:A.length=na)(hE:E.length=nb)(hna:na≤1000000)(hnb:nb≤1000000)(hB:B1≠B2)(T:Nat→Prop)(hT1:¬ T B1)(hT2:¬ T B2)
  (J Jx:Nat→World→Prop)
  (hJ:∀ k X Y row,J k X→X.grownBy Y row→(∀ r,row=some r→r=B1∨r=B2)→J k Y)
  (hY:∀ k x V,(Xe 0 0 A E)[k]? = some x→J k V→YieldAt Fence.wide 2 Tryz.prog l (encR ga oa gb ob x) V fun e U =>
   (e=.returned (.bool true)∧J (k+1) U∧Keeps (fun b=>b=B1∨b=B2∨T b) V U)∨(e=.returned (.bool false)∧Jx k U))
  (W:World) (va vb:Value) (k1:Blk W B1 [va] 37) (k2:Blk W B2 [vb] 37) (hva:Oc ga oa na ca 0 va) (hvb:Oc gb ob nb cb 0 vb)
  (hkA:∀ i,i<na→W.cell? ⟨ga,oa+3*i,none⟩=some (V0 (A.getD i Zi).1)∧T ga) (hkE:∀ i,i<nb→W.cell? ⟨gb,ob+3*i,none⟩=some (V0 (E.getD i Zi).1)∧T gb) (h0:J 0 W) :
  CallsIn Fence.wide 3 Tryz.prog 56 #[.func (.yield l) #[] #[],P0 B1,P0 B2] W fun e W'=>(∃ v,e=.returned v)∧(J (Xe 0 0 A E).length W'∨∃ k,k<(Xe 0 0 A E).length∧Jx k W'):=by
 refine callsIn_of_wp Tryz.func56 rfl trivial ?_ rfl
 simp only[Tryz.ntmps56,List.size_toArray,List.length_cons,List.length_nil,Nat.reduceAdd,Nat.reduceSub,Array.replicate_succ,Array.replicate_zero,List.push_toArray,List.append_toArray,List.nil_append,List.cons_append]
 gi_wp2
 gi_loopw [] (fun wr=>∃ (k i j:Nat) (va vb:Value),i≤na∧j≤nb∧k≤(Xe 0 0 A E).length∧(Xe 0 0 A E).drop k=Xe i j (A.drop i) (E.drop j)∧Blk wr B1 [va] 37∧Blk wr B2 [vb] 37∧Oc ga oa na ca i va∧Oc gb ob nb cb j vb∧J k wr∧Keeps T W wr)
  (fun wr=>lenAt wr B1+lenAt wr B2)
 case atStart=>exact⟨0,0,0,va,vb,Nat.zero_le _,Nat.zero_le _,Nat.zero_le _,by simp,k1,k2,hva,hvb,h0,Keeps.refl _ _⟩
 case round =>
  obtain⟨k,i,j,va,vb,hi,hj,hk,d4,m1,m2,hva,hvb,b3,a8⟩:=hrel
  have c9:=hva
  have d3:=hvb
  rcases hva with ⟨rfl,a1,c1,rfl⟩|⟨a4,c5,rfl⟩
  ·rcases hvb with ⟨rfl,a2,c2,rfl⟩|⟨a3,d6,rfl⟩
   ·have d8:(Xe 0 0 A E).drop k=[]:=by rw[d4,show A.drop i=[] from List.drop_eq_nil_of_le (by omega),show E.drop j=[] from List.drop_eq_nil_of_le (by omega),Bm]
    have e0:k=(Xe 0 0 A E).length:=by
     have:=List.drop_eq_nil_iff.1 d8;omega
    have z1:=m1.cell (i:=0) rfl
    have z2:=m2.cell (i:=0) rfl
    have f1:=m1.frozen 0
    have f2:=m2.frozen 0
    gi_wp2
    go_end0
    exact⟨⟨_,rfl⟩,.inl (e0▸b3)⟩
   ·have c3:(Xe 0 0 A E).drop k=(none,some j)::Xe i (j+1) (A.drop i) (E.drop (j+1)):=by rw[d4,show A.drop i=[] from List.drop_eq_nil_of_le (by omega),Jw hE a3,Bq]
    obtain⟨hx,b0,a6⟩:=Gq c3
    obtain⟨p,hp⟩:∃ m,nb-j=m+1:=⟨nb-j-1,by omega⟩
    rw[hp] at m2
    have c7:=Ki (g:=gb) (off:=ob) a3 hp d6
    have d5:=Lib.hid hp;clear hp
    have y2:wr.cell? ⟨gb,ob+3*j,none⟩=some (V0 (E.getD j Zi).1):=(a8.cell (hkE j a3).2).trans (hkE j a3).1
    have c8:=Xu m1
    have b4:=Xu m2
    have z1:=m1.cell (i:=0) rfl
    have z2:=m2.cell (i:=0) rfl
    have f1:=m1.frozen 0
    have f2:=m2.frozen 0
    gi_wp2
    gi_big_quiet_th (fail)
    gi_wp2
    gi_big_quiet_th (fail)
    gi_wp2
    all_goals
     generalize hV:World.setCell _ _ _=V
     obtain⟨q2,b5,b8,b6⟩:=Us (x:=_) (B1:=B1) (B2:=B2) hV m2 hT2 (.inr rfl) hJ (Hd hJ a8 b3).1 (Hd hJ a8 b3).2
     have q1:=b6 _ _ _ hB m1
     obtain⟨fn,b9,a7,c6,hy,hR⟩:=hY k (none,some j) V hx b8
     have a9:=hy;clear hy
     simp only[encR,Lf] at a9
     rw[a9]
     refine⟨fun _=>by omega,hR.mono ?_⟩
     rintro e U (⟨rfl,b7,a0⟩|⟨rfl,a5⟩)
     ·have r1:=Qt a0 (.inl rfl) q1
      have r2:=Qt a0 (.inr (.inl rfl)) q2
      have c4:=Xu r1
      have d0:=Xu r2
      gi_wp2
      go_roundw
      case rel =>
       exact⟨k+1,_,j+1,_,_,hi,a3,b0,a6,r1,r2,(by first|exact c9|(rw[←d7.out];exact c9)),(by first|exact c7.2|exact c7.1 (by omega)),b7,b5.trans ⟨a0.size,fun b hb=>a0.block b (.inr (.inr hb))⟩⟩
      case measure=>rw[c4,d0,c8,b4];omega
     ·gi_wp2
      refine bodyPost_ret (results_none rfl _ _ _) rfl ?_
      exact⟨⟨_,rfl⟩,.inr ⟨k,b0,a5⟩⟩
  ·rcases hvb with ⟨rfl,a2,c2,rfl⟩|⟨a3,d6,rfl⟩
   ·have c3:(Xe 0 0 A E).drop k=(some i,none)::Xe (i+1) j (A.drop (i+1)) (E.drop j):=by rw[d4,show E.drop j=[] from List.drop_eq_nil_of_le (by omega),Jw hA a4,Cm]
    obtain⟨hx,b0,a6⟩:=Gq c3
    obtain⟨m,hm⟩:∃ m,na-i=m+1:=⟨na-i-1,by omega⟩
    rw[hm] at m1
    have c0:=Ki (g:=ga) (off:=oa) a4 hm c5
    have d7:=Lib.hid hm;clear hm
    have y1:wr.cell? ⟨ga,oa+3*i,none⟩=some (V0 (A.getD i Zi).1):=(a8.cell (hkA i a4).2).trans (hkA i a4).1
    have c8:=Xu m1
    have b4:=Xu m2
    have z1:=m1.cell (i:=0) rfl
    have z2:=m2.cell (i:=0) rfl
    have f1:=m1.frozen 0
    have f2:=m2.frozen 0
    gi_wp2
    gi_big_quiet_th (fail)
    gi_wp2
    gi_big_quiet_th (fail)
    gi_wp2
    all_goals
     generalize hV:World.setCell _ _ _=V
     obtain⟨q1,b5,b8,b6⟩:=Us (x:=_) (B1:=B1) (B2:=B2) hV m1 hT1 (.inl rfl) hJ (Hd hJ a8 b3).1 (Hd hJ a8 b3).2
     have q2:=b6 _ _ _ (Ne.symm hB) m2
     obtain⟨fn,b9,a7,c6,hy,hR⟩:=hY k (some i,none) V hx b8
     have a9:=hy;clear hy
     simp only[encR,Lf] at a9
     rw[a9]
     refine⟨fun _=>by omega,hR.mono ?_⟩
     rintro e U (⟨rfl,b7,a0⟩|⟨rfl,a5⟩)
     ·have r1:=Qt a0 (.inl rfl) q1
      have r2:=Qt a0 (.inr (.inl rfl)) q2
      have c4:=Xu r1
      have d0:=Xu r2
      gi_wp2
      go_roundw
      case rel =>
       exact⟨k+1,i+1,_,_,_,a4,hj,b0,a6,r1,r2,(by first|exact c0.2|exact c0.1 (by omega)),(by first|exact d3|(rw[←d5.out];exact d3)),b7,b5.trans ⟨a0.size,fun b hb=>a0.block b (.inr (.inr hb))⟩⟩
      case measure=>rw[c4,d0,c8,b4];omega
     ·gi_wp2
      refine bodyPost_ret (results_none rfl _ _ _) rfl ?_
      exact⟨⟨_,rfl⟩,.inr ⟨k,b0,a5⟩⟩
   ·by_cases hc:(A.getD i Zi).1=(E.getD j Zi).1
    ·have c3:(Xe 0 0 A E).drop k=(some i,some j)::Xe (i+1) (j+1) (A.drop (i+1)) (E.drop (j+1)):=by rw[d4,Jw hA a4,Jw hE a3,Co hc]
     obtain⟨hx,b0,a6⟩:=Gq c3
     obtain⟨m,hm⟩:∃ m,na-i=m+1:=⟨na-i-1,by omega⟩
     rw[hm] at m1
     have c0:=Ki (g:=ga) (off:=oa) a4 hm c5
     have d7:=Lib.hid hm;clear hm
     have y1:wr.cell? ⟨ga,oa+3*i,none⟩=some (V0 (A.getD i Zi).1):=(a8.cell (hkA i a4).2).trans (hkA i a4).1
     obtain⟨p,hp⟩:∃ m,nb-j=m+1:=⟨nb-j-1,by omega⟩
     rw[hp] at m2
     have c7:=Ki (g:=gb) (off:=ob) a3 hp d6
     have d5:=Lib.hid hp;clear hp
     have y2:wr.cell? ⟨gb,ob+3*j,none⟩=some (V0 (E.getD j Zi).1):=(a8.cell (hkE j a3).2).trans (hkE j a3).1
     have c8:=Xu m1
     have b4:=Xu m2
     obtain⟨ya,b1⟩:∃ y,(A.getD i Zi).1=y:=⟨_,rfl⟩
     obtain⟨yb,b2⟩:∃ y,(E.getD j Zi).1=y:=⟨_,rfl⟩
     rw[b1] at y1
     rw[b2] at y2
     have d1:decide (ya≤yb)=true:=by simp;omega
     have d2:decide (yb≤ya)=true:=by simp;omega
     have w1:(ya≤yb)=True:=by simp;omega
     have w2:(yb≤ya)=True:=by simp;omega
     have e1:((p:Int)+1==0)=false:=beq_false_of_ne (by omega)
     have e2:((m:Int)+1==0)=false:=beq_false_of_ne (by omega)
     have b1:=Lib.hid b1
     have b2:=Lib.hid b2
     clear d1 d2
     have z1:=m1.cell (i:=0) rfl
     have z2:=m2.cell (i:=0) rfl
     have f1:=m1.frozen 0
     have f2:=m2.frozen 0
     gi_wp2
     gi_big_quiet_th (fail)
     gi_wp2
     gi_big_quiet_th (fail)
     gi_wp2
     all_goals
      generalize hV:World.setCell (World.setCell _ _ _) _ _=V
      generalize hX:World.setCell (World.drewN _ _) _ _=X at hV
      obtain⟨q1,e3,d9,e4⟩:=Us (x:=_) (B1:=B1) (B2:=B2) hX m1 hT1 (.inl rfl) hJ (Hd hJ a8 b3).1 (Hd hJ a8 b3).2
      obtain⟨q2,b5,b8,b6⟩:=Us (x:=_) (B1:=B1) (B2:=B2) hV (e4 _ _ _ (Ne.symm hB) m2) hT2 (.inr rfl) hJ e3 d9
      replace q1:=b6 _ _ _ hB q1
      obtain⟨fn,b9,a7,c6,hy,hR⟩:=hY k (some i,some j) V hx b8
      have a9:=hy;clear hy
      simp only[encR,Lf] at a9
      rw[a9]
      refine⟨fun _=>by omega,hR.mono ?_⟩
      rintro e U (⟨rfl,b7,a0⟩|⟨rfl,a5⟩)
      ·have r1:=Qt a0 (.inl rfl) q1
       have r2:=Qt a0 (.inr (.inl rfl)) q2
       have c4:=Xu r1
       have d0:=Xu r2
       gi_wp2
       go_roundw
       case rel =>
        exact⟨k+1,i+1,j+1,_,_,a4,a3,b0,a6,r1,r2,(by first|exact c0.2|exact c0.1 (by omega)),(by first|exact c7.2|exact c7.1 (by omega)),b7,b5.trans ⟨a0.size,fun b hb=>a0.block b (.inr (.inr hb))⟩⟩
       case measure=>rw[c4,d0,c8,b4];omega
      ·gi_wp2
       refine bodyPost_ret (results_none rfl _ _ _) rfl ?_
       exact⟨⟨_,rfl⟩,.inr ⟨k,b0,a5⟩⟩
    ·by_cases hl:(A.getD i Zi).1<(E.getD j Zi).1
     ·have c3:(Xe 0 0 A E).drop k=(some i,none)::Xe (i+1) j (A.drop (i+1)) (E.drop j):=by rw[d4,Jw hA a4,Jw hE a3,Ct hl]
      obtain⟨hx,b0,a6⟩:=Gq c3
      obtain⟨m,hm⟩:∃ m,na-i=m+1:=⟨na-i-1,by omega⟩
      rw[hm] at m1
      have c0:=Ki (g:=ga) (off:=oa) a4 hm c5
      have d7:=Lib.hid hm;clear hm
      have y1:wr.cell? ⟨ga,oa+3*i,none⟩=some (V0 (A.getD i Zi).1):=(a8.cell (hkA i a4).2).trans (hkA i a4).1
      obtain⟨p,hp⟩:∃ m,nb-j=m+1:=⟨nb-j-1,by omega⟩
      rw[hp] at m2
      have c7:=Ki (g:=gb) (off:=ob) a3 hp d6
      have d5:=Lib.hid hp;clear hp
      have y2:wr.cell? ⟨gb,ob+3*j,none⟩=some (V0 (E.getD j Zi).1):=(a8.cell (hkE j a3).2).trans (hkE j a3).1
      have c8:=Xu m1
      have b4:=Xu m2
      obtain⟨ya,b1⟩:∃ y,(A.getD i Zi).1=y:=⟨_,rfl⟩
      obtain⟨yb,b2⟩:∃ y,(E.getD j Zi).1=y:=⟨_,rfl⟩
      rw[b1] at y1
      rw[b2] at y2
      have d1:decide (ya≤yb)=true:=by simp;omega
      have d2:decide (yb≤ya)=false:=by simp;omega
      have w1:(ya≤yb)=True:=by simp;omega
      have w2:(yb≤ya)=False:=by simp;omega
      have e1:((p:Int)+1==0)=false:=beq_false_of_ne (by omega)
      have e2:((m:Int)+1==0)=false:=beq_false_of_ne (by omega)
      have b1:=Lib.hid b1
      have b2:=Lib.hid b2
      clear d1 d2
      have z1:=m1.cell (i:=0) rfl
      have z2:=m2.cell (i:=0) rfl
      have f1:=m1.frozen 0
      have f2:=m2.frozen 0
      gi_wp2
      gi_big_quiet_th (fail)
      gi_wp2
      gi_big_quiet_th (fail)
      gi_wp2
      all_goals
       generalize hV:World.setCell _ _ _=V
       obtain⟨q1,b5,b8,b6⟩:=Us (x:=_) (B1:=B1) (B2:=B2) hV m1 hT1 (.inl rfl) hJ (Hd hJ a8 b3).1 (Hd hJ a8 b3).2
       have q2:=b6 _ _ _ (Ne.symm hB) m2
       obtain⟨fn,b9,a7,c6,hy,hR⟩:=hY k (some i,none) V hx b8
       have a9:=hy;clear hy
       simp only[encR,Lf] at a9
       rw[a9]
       refine⟨fun _=>by omega,hR.mono ?_⟩
       rintro e U (⟨rfl,b7,a0⟩|⟨rfl,a5⟩)
       ·have r1:=Qt a0 (.inl rfl) q1
        have r2:=Qt a0 (.inr (.inl rfl)) q2
        have c4:=Xu r1
        have d0:=Xu r2
        gi_wp2
        go_roundw
        case rel =>
         exact⟨k+1,i+1,_,_,_,a4,hj,b0,a6,r1,r2,(by first|exact c0.2|exact c0.1 (by omega)),(by first|exact d3|(rw[←d5.out];exact d3)),b7,b5.trans ⟨a0.size,fun b hb=>a0.block b (.inr (.inr hb))⟩⟩
        case measure=>rw[c4,d0,c8,b4];omega
       ·gi_wp2
        refine bodyPost_ret (results_none rfl _ _ _) rfl ?_
        exact⟨⟨_,rfl⟩,.inr ⟨k,b0,a5⟩⟩
     ·have c3:(Xe 0 0 A E).drop k=(none,some j)::Xe i (j+1) (A.drop i) (E.drop (j+1)):=by rw[d4,Jw hA a4,Jw hE a3,Ba (show(E.getD j Zi).1<(A.getD i Zi).1 by omega)]
      obtain⟨hx,b0,a6⟩:=Gq c3
      obtain⟨m,hm⟩:∃ m,na-i=m+1:=⟨na-i-1,by omega⟩
      rw[hm] at m1
      have c0:=Ki (g:=ga) (off:=oa) a4 hm c5
      have d7:=Lib.hid hm;clear hm
      have y1:wr.cell? ⟨ga,oa+3*i,none⟩=some (V0 (A.getD i Zi).1):=(a8.cell (hkA i a4).2).trans (hkA i a4).1
      obtain⟨p,hp⟩:∃ m,nb-j=m+1:=⟨nb-j-1,by omega⟩
      rw[hp] at m2
      have c7:=Ki (g:=gb) (off:=ob) a3 hp d6
      have d5:=Lib.hid hp;clear hp
      have y2:wr.cell? ⟨gb,ob+3*j,none⟩=some (V0 (E.getD j Zi).1):=(a8.cell (hkE j a3).2).trans (hkE j a3).1
      have c8:=Xu m1
      have b4:=Xu m2
      obtain⟨ya,b1⟩:∃ y,(A.getD i Zi).1=y:=⟨_,rfl⟩
      obtain⟨yb,b2⟩:∃ y,(E.getD j Zi).1=y:=⟨_,rfl⟩
      rw[b1] at y1
      rw[b2] at y2
      have d1:decide (ya≤yb)=false:=by simp;omega
      have d2:decide (yb≤ya)=true:=by simp;omega
      have w1:(ya≤yb)=False:=by simp;omega
      have w2:(yb≤ya)=True:=by simp;omega
      have e1:((p:Int)+1==0)=false:=beq_false_of_ne (by omega)
      have e2:((m:Int)+1==0)=false:=beq_false_of_ne (by omega)
      have b1:=Lib.hid b1
      have b2:=Lib.hid b2
      clear d1 d2
      have z1:=m1.cell (i:=0) rfl
      have z2:=m2.cell (i:=0) rfl
      have f1:=m1.frozen 0
      have f2:=m2.frozen 0
      gi_wp2
      gi_big_quiet_th (fail)
      gi_wp2
      gi_big_quiet_th (fail)
      gi_wp2
      all_goals
       generalize hV:World.setCell _ _ _=V
       obtain⟨q2,b5,b8,b6⟩:=Us (x:=_) (B1:=B1) (B2:=B2) hV m2 hT2 (.inr rfl) hJ (Hd hJ a8 b3).1 (Hd hJ a8 b3).2
       have q1:=b6 _ _ _ hB m1
       obtain⟨fn,b9,a7,c6,hy,hR⟩:=hY k (none,some j) V hx b8
       have a9:=hy;clear hy
       simp only[encR,Lf] at a9
       rw[a9]
       refine⟨fun _=>by omega,hR.mono ?_⟩
       rintro e U (⟨rfl,b7,a0⟩|⟨rfl,a5⟩)
       ·have r1:=Qt a0 (.inl rfl) q1
        have r2:=Qt a0 (.inr (.inl rfl)) q2
        have c4:=Xu r1
        have d0:=Xu r2
        gi_wp2
        go_roundw
        case rel =>
         exact⟨k+1,_,j+1,_,_,hi,a3,b0,a6,r1,r2,(by first|exact c9|(rw[←d7.out];exact c9)),(by first|exact c7.2|exact c7.1 (by omega)),b7,b5.trans ⟨a0.size,fun b hb=>a0.block b (.inr (.inr hb))⟩⟩
        case measure=>rw[c4,d0,c8,b4];omega
       ·gi_wp2
        refine bodyPost_ret (results_none rfl _ _ _) rfl ?_
        exact⟨⟨_,rfl⟩,.inr ⟨k,b0,a5⟩⟩
theorem Zca(a:O0)(n c:Nat)(b:O0)(m d:Nat)(w:World):C0 36 #[.slice a n c,.slice b m d] w fun e w' =>
 e=.returned (.func (.func 56) #[] #[.pointer (some ⟨w.heap.size,0,none⟩),.pointer (some ⟨w.heap.size+1,0,none⟩)]) ∧
 w'=(w.alloc (.cells #[.slice a n c] 37)).alloc (.cells #[.slice b m d] 37):=by
 go_enter Tryz.func36,Tryz.ntmps36
 go_wp2
 go_ret
 exact⟨rfl,rfl⟩
theorem Zep{w W:World}{p:O0}{n c:Nat}{A:List Ent}(hA:A.length=n)(s:Sts Va w (.slice p n c) A)(hb:B0 w W) :
 ∃ g o,Oc g o n c 0 (.slice p n c)∧(∀ i,i<n→W.cell? ⟨g,o+3*i,none⟩=some (V0 (A.getD i Zi).1)∧g<w.heap.size)∧(n≠0→p=some ⟨g,o,none⟩):=by
 subst hA
 by_cases h0:A.length=0
 ·exact⟨0,0,.inl ⟨h0.symm,p,c,by rw[h0]⟩,fun i hi=>by omega,fun h=>absurd h0 h⟩
 ·have s':Sl w (.slice p A.length c) A.length (A.flatMap Va):=s
  rcases s' with ⟨a,d,h1,h2,_⟩|⟨g,o,a0,h1,h2,_,h4⟩
  ·simp only[Value.slice.injEq] at h1;omega
  ·simp only[Value.slice.injEq] at h1
   obtain⟨rfl,_,rfl⟩:=h1
   refine⟨g,o,.inr ⟨by omega,h2,by simp⟩,fun i hi=>?_,fun _=>rfl⟩
   have hc:=Fw Xn A i 0 Zi hi (by decide)
   have h5:=h4 (i*3+0) (V0 (A.getD i Zi).1) (hc.trans rfl)
   rw[show o+(i*3+0)=o+3*i by omega] at h5
   refine⟨Cp hb h5,?_⟩
   rcases Nat.lt_or_ge g w.heap.size with q|q
   ·exact q
   ·rw[World.cell?,Array.getElem?_eq_none q] at h5;simp at h5
theorem Cs(a:O0)(n c:Nat)(b:O0)(m d:Nat)(w:World):C0 36 #[.slice a n c,.slice b m d] w (fun e w'=>∃ b1 b2,e=.returned (.func (.func 56) #[] #[P0 b1,P0 b2])∧B0 w w'∧w.heap.size≤b1∧w.heap.size≤b2∧b1≠b2∧Blk w' b1 [.slice a n c] 37∧Blk w' b2 [.slice b m d] 37) :=
 (Zca a n c b m d w).mono fun e w' ⟨h1,h2⟩=>by
  subst h1 h2
  have h3:(w.alloc (.cells #[.slice a n c] 37)).heap.size=w.heap.size+1:=World.size_alloc _ _
  have k2:=Blk.new (w.alloc (.cells #[.slice a n c] 37)) [.slice b m d] 37
  rw[h3] at k2
  exact⟨_,_,rfl,((Below.refl _ w).alloc (Nat.le_refl _) _).alloc (by simp) _,Nat.le_refl _,Nat.le_succ _,by omega,(Blk.new w [.slice a n c] 37).alloc _,k2⟩
theorem Ti{w W:World}{B1 B2 na ca nb cb:Nat}{pa pb:O0}{A E:List Ent}(hA:A.length=na)(hE:E.length=nb)(hna:na≤1000000)(hnb:nb≤1000000)(sA:Sts Va w (.slice pa na ca) A)(sE:Sts Va w (.slice pb nb cb) E)
 (hb:B0 w W) (g1:w.heap.size≤B1) (g2:w.heap.size≤B2) (hB:B1≠B2) (k1:Blk W B1 [.slice pa na ca] 37) (k2:Blk W B2 [.slice pb nb cb] 37) :
 ∃ ga oa gb ob,SeqL Tryz.prog 56 #[P0 B1,P0 B2] (encR ga oa gb ob) (Keeps fun b=>b=B1∨b=B2∨(na≠0∧b=ga)∨(nb≠0∧b=gb)) (fun r=>r=B1∨r=B2) (Xe 0 0 A E) W∧(na≠0→pa=some ⟨ga,oa,none⟩)∧(nb≠0→pb=some ⟨gb,ob,none⟩):=by
 obtain⟨ga,oa,ra,ka,ea⟩:=Zep hA sA hb
 obtain⟨gb,ob,rb,kb,eb⟩:=Zep hE sE hb
 refine⟨ga,oa,gb,ob,?_,ea,eb⟩
 intro l J Jx V hV hJ hY h0
 have ha:na≠0→ga<w.heap.size:=fun h=>(ka 0 (by omega)).2
 have he:nb≠0→gb<w.heap.size:=fun h=>(kb 0 (by omega)).2
 have hT:¬ ((na≠0∧B1=ga)∨(nb≠0∧B1=gb)):=by
  rintro(⟨h,e⟩|⟨h,e⟩)
  ·have:=ha h;omega
  ·have:=he h;omega
 have a0:¬ ((na≠0∧B2=ga)∨(nb≠0∧B2=gb)):=by
  rintro(⟨h,e⟩|⟨h,e⟩)
  ·have:=ha h;omega
  ·have:=he h;omega
 have a1:Blk V B1 _ _:=k1.below hV
 have a2:Blk V B2 _ _:=k2.below hV
 exact Zer l B1 B2 ga oa na ca gb ob nb cb A E hA hE hna hnb hB (fun b=>(na≠0∧b=ga)∨(nb≠0∧b=gb)) hT a0 J Jx hJ hY V _ _ a1 a2 ra rb
  (fun i hi=>⟨Cp hV (ka i hi).1,.inl ⟨by omega,rfl⟩⟩) (fun i hi=>⟨Cp hV (kb i hi).1,.inr ⟨by omega,rfl⟩⟩) h0
end Go.Proofs.YtgphgaehfdfjjaaGreat
namespace Go.Proofs.YtgphgaehfdfjjaaGreat
set_option maxHeartbeats 8000000
set_option maxRecDepth 100000
open Go.RowKit
set_option linter.unusedVariables false
theorem Aw{P:Program}{l n:Nat}{ops:Array Oper}{Q:Exit→Act→World→Prop}(hQ:¬ LetsOut Q):∀ (r:List Oper) (a:Act) (w:World),(∀ o∈r,∀ c,o.op≠.defer c)→wpList P ops Q r a w→wpListIn (Fence.wide.inRound l) n P ops Q r a w
 | [],_,_,_,h=>h
 | o::r,a,w,hd,h=>by
  unfold wpList at h
  unfold wpListIn
  split at h
  ·rename_i hw
   rw[if_pos hw]
   exact Oper.wpIn_mono (fun a w=>Aw hQ r a w (fun o ho=>hd o (by simp[ho]))) (Ze7 (hd o (by simp)) (h.resolve_right fun q=>hQ q.2))
  ·rename_i hw
   rw[if_neg hw]
   exact⟨fun _ _=>trivial,Aw hQ r _ _ (fun o ho=>hd o (by simp[ho])) h⟩
theorem Qv{P:Program}{l0 n0 id:Nat}{l:List Oper}{Q:Exit→Act→World→Prop}{a:Act}{w:World}(hQ:¬ LetsOut Q)(hd:∀ o∈l,∀ c,o.op≠.defer c)(h:wpList P l.toArray Q l a w):(Code.region id l.toArray false).wpIn (Fence.wide.inRound l0) n0 P Q a w :=
 wpIn_region_lit (Aw hQ l a w hd h)
structure RdS(w0:World)(S:List Nat)(W V:World):Prop where
 ko:KeepsOthers W V
 fr:∀ k,k<w0.heap.size→k∉S→V.heap[k]? = W.heap[k]?
 le:W.heap.size≤V.heap.size
 l0:w0.heap.size≤W.heap.size
theorem RdS.refl{w0 W:World}(S:List Nat)(h:w0.heap.size≤W.heap.size):RdS w0 S W W:=⟨⟨Nat.le_refl _,fun _ _ h _=>h⟩,fun _ _ _=>rfl,Nat.le_refl _,h⟩
theorem RdS.below{w0 W V U:World}{S:List Nat}(h:RdS w0 S W V)(hb:Below V.heap.size V U):RdS w0 S W U :=
 ⟨h.ko.trans (Nt hb),fun k hk hn=>(hb.block k (Nat.lt_of_lt_of_le hk (Nat.le_trans h.l0 h.le))).trans (h.fr k hk hn),Nat.le_trans h.le hb.size,h.l0⟩
theorem RdS.upd{w0 W V U:World}{S:List Nat}{b:Nat}{cs:List Value}{t:TypeId}(h:RdS w0 S W V)(u:Upd V b U)(k:Blk V b cs t)(hb:b∈S∨w0.heap.size≤b):RdS w0 S W U :=
 ⟨h.ko.trans (Zb0 u k),fun i hi hn=>(u.block i (fun e=>by subst e;rcases hb with hb|hb;exact hn hb;omega)).trans (h.fr i hi hn),Nat.le_trans h.le (Nat.le_of_eq u.size.symm),h.l0⟩
theorem RdS.frm{w0 W V U:World}{S:List Nat}{b:Nat}{cs:List Value}{t:TypeId}(h:RdS w0 S W V)(u:Fr [b] V U)(k:Blk V b cs t)(hb:b∈S):RdS w0 S W U :=
 ⟨h.ko.trans ⟨u.size,fun i o hi ho=>(u.block i (Array.getElem?_eq_some_iff.1 hi).1 (by
  simp only[List.mem_singleton]
  rintro rfl
  rw[show V.heap[i]? = _ from k] at hi
  cases hi;cases ho)).trans hi⟩,fun i hi hn=>(u.block i (Nat.lt_of_lt_of_le hi (Nat.le_trans h.l0 h.le)) (by simp only[List.mem_singleton];rintro rfl;exact hn hb)).trans (h.fr i hi hn),Nat.le_trans h.le u.size,h.l0⟩
theorem RdS.grown{w0 W V U:World}{S:List Nat}{size n:Nat}{e:TypeId}{v:Value}{xs:List Value}(h:RdS w0 S W V)(hg:V.grownBy U v.ownBlock)(k:V.ownsRow w0.heap.size e size v n xs):RdS w0 S W U :=
 ⟨h.ko.trans ⟨hg.size,fun i o hi ho=>by
   rw[hg.block i (Array.getElem?_eq_some_iff.1 hi).1 (fun q=>by
    rcases k.2 with ⟨rfl,_⟩|⟨g,a1,a0,rfl,_,hh,_⟩
    ·cases q
    ·simp only[Value.ownBlock,Option.some.injEq] at q
     subst q
     rw[hh] at hi
     cases hi
     cases ho)]
   exact hi⟩,
  fun i hi hn=>(hg.block i (Nat.lt_of_lt_of_le hi (Nat.le_trans h.l0 h.le)) (fun e=>by have:=(k.lt i e.symm).1;omega)).trans (h.fr i hi hn),Nat.le_trans h.le hg.size,h.l0⟩
def Zew(q:Nat→Prop)(n:Nat)(A:World)(row:Option Nat):Prop:=∀ r,row=some r→q r∨n≤r∧∃ o:Obj,A.heap[r]? = some o∧o.isCells=false
theorem fr_ab{S:List Nat}{q:Nat→Prop}{w0 A B:World}{row:Option Nat}(h:Fr S w0 A)(hg:A.grownBy B row)(hr:Zew q w0.heap.size A row)(hq:∀ r,q r→r∈S):Fr S w0 B :=
 ⟨Nat.le_trans h.size hg.size,fun k hk hn=>(hg.block k (Nat.lt_of_lt_of_le hk h.size) (fun e=>by
  rcases hr k e.symm with h1|h1
  ·exact hn (hq _ h1)
  ·omega)).trans (h.block k hk hn)⟩
theorem Oj{n m:Nat}{q:Nat→Prop}{w A B:World}{row:Option Nat}(h:Below n w A)(hg:A.grownBy B row)(hr:Zew q m A row)(hn:n≤w.heap.size)(hm:n≤m)(hq:∀ r,q r→n≤r):Below n w B :=
 h.grown hg (Nat.le_trans hn h.size) (fun r e=>by rcases hr r e with h1|h1;exact hq _ h1;omega)
theorem own_ab{q:Nat→Prop}{A B:World}{row:Option Nat}{base size n m:Nat}{e:TypeId}{v:Value}{xs:List Value}(k:A.ownsRow base e size v n xs)(hg:A.grownBy B row)(hr:Zew q m A row)(hq:∀ r,q r→r<base):B.ownsRow base e size v n xs:=by
 obtain⟨h1,h2⟩:=k
 refine⟨h1,?_⟩
 rcases h2 with h2|⟨g,a1,a0,hv,hb,hh,r⟩
 ·exact Or.inl h2
 ·refine Or.inr ⟨g,a1,a0,hv,hb,?_,r⟩
  rw[hg.block g (Array.getElem?_eq_some_iff.1 hh).1 (fun q=>by
   rcases hr g q.symm with h3|⟨_,o,ho,hc⟩
   ·have:=hq _ h3;omega
   ·rw[hh] at ho
    cases ho
    cases hc)]
  exact hh
theorem blk_ab{q:Nat→Prop}{A B:World}{row:Option Nat}{b m:Nat}{cs:List Value}{t:TypeId}(k:Blk A b cs t)(hg:A.grownBy B row)(hr:Zew q m A row)(hq:∀ r,q r→b≠r):Blk B b cs t :=
 k.kept hg (fun e'=>by
  rcases hr b e'.symm with h3|⟨_,o,ho,hc⟩
  ·exact hq _ h3 rfl
  ·rw[show A.heap[b]? = _ from k] at ho;cases ho;cases hc)
theorem Af{F:Fence}{n:Nat}{P:Program}{c:Code}{Q:Exit→Act→World→Prop}{a:Act}{w:World}(a':Act)(h:a=a')(k:c.wpIn F n P Q a' w):c.wpIn F n P Q a w:=h▸k
theorem Zec{S S2:List Nat}{w0 W V:World}(h:Fr S w0 W)(z:RdS w0 S2 W V)(hs:∀ k,k∈S2→k∈S∨V.heap[k]? = w0.heap[k]?):Fr S w0 V :=
 ⟨Nat.le_trans h.size z.le,fun k hk hn=>by
  by_cases h2:k∈S2
  ·exact(hs k h2).resolve_left hn
  ·exact(z.fr k hk h2).trans (h.block k hk hn)⟩
theorem Dfr.put{D D2:Nat}{w:World}(h:Dfr D w)(hne:D≠D2)(o:Obj):Dfr D (w.putObj D2 o):=(World.putObj_heap_other hne).trans h
theorem Vx.pt{D:Nat}{w:World}{l:List (Option Int)}{c:Option Int}{v:Value}(h:Vx w l c v)(hK:Dfr D w)(o:Obj):Vx (w.putObj D o) l c v:=h.kept fun _ _ k=>k.put hK rfl o
theorem Zfa{D:Nat}{w:World}{base size n:Nat}{e:TypeId}{v:Value}{xs:List Value}(k:w.ownsRow base e size v n xs)(hK:Dfr D w)(o:Obj):(w.putObj D o).ownsRow base e size v n xs:=(Upd.of_put w D o).own3 k (hK.row k)
theorem Po{n D:Nat}{w W:World}(h:Below n w W)(hn:n≤W.heap.size)(hD:n≤D)(o:Obj):Below n w (W.putObj D o):=h.grown (grownBy_putObj' W D o) hn (fun r e=>by cases e;exact hD)
theorem ret0{P:Program}{fn:Func}{R:Ending→World→Prop}{a:Act}{w:World}{v:Value}{b10 b11:Nat}{x y:Value}{t t':TypeId}(k10:Blk w b10 [x] t)(k11:Blk w b11 [y] t')(hr:∀ U,Blk U b10 [x] t→Blk U b11 [y] t'→(results fn a.tmps).run P U=.ok v U)(hd:a.defers=[])(h:R (.returned v) w):bodyPostM Fence.wide 4 P fn R .ret a w:=by
 show LeavesInM _ _ _ _ a.tmps R a.defers .returning w
 rw[hd]
 exact⟨v,hr w k10 k11,h⟩
theorem ret1{P:Program}{fn:Func}{R:Ending→World→Prop}{a:Act}{w:World}{v:Value}{b10 b11 D:Nat}{x y:Value}{t t':TypeId}(k10:Blk w b10 [x] t)(k11:Blk w b11 [y] t')(hK:Dfr D w)(hr:∀ U,Blk U b10 [x] t→Blk U b11 [y] t'→(results fn a.tmps).run P U=.ok v U)(hd:a.defers=[{ target:=.collected D,args:=#[] }])(h:R (.returned v) (w.putObj D (.deferred none))):bodyPostM Fence.wide 4 P fn R .ret a w:=by
 show LeavesInM _ _ _ _ a.tmps R a.defers .returning w
 rw[hd]
 exact⟨by simp,.inl ⟨_,_,rfl,run_takeDeferred hK,v,hr _ (k10.put hK rfl _) (k11.put hK rfl _),h⟩⟩
theorem ret2{P:Program}{fn:Func}{R:Ending→World→Prop}{a:Act}{w:World}{v:Value}{b10 b11 D E:Nat}{x y:Value}{t t':TypeId}(k10:Blk w b10 [x] t)(k11:Blk w b11 [y] t')(hK:Dfr D w)(hE:Dfr E w)(hne:D≠E)(hr:∀ U,Blk U b10 [x] t→Blk U b11 [y] t'→(results fn a.tmps).run P U=.ok v U)(hd:a.defers=[{ target:=.collected E,args:=#[] },{ target:=.collected D,args:=#[] }])(h:R (.returned v) ((w.putObj E (.deferred none)).putObj D (.deferred none))):bodyPostM Fence.wide 4 P fn R .ret a w:=by
 have hD:=hK.put hne (.deferred none)
 show LeavesInM _ _ _ _ a.tmps R a.defers .returning w
 rw[hd]
 exact⟨by simp,.inl ⟨_,_,rfl,run_takeDeferred hE,by simp,.inl ⟨_,_,rfl,run_takeDeferred hD,v,hr _ ((k10.put hE rfl _).put hD rfl _) ((k11.put hE rfl _).put hD rfl _),h⟩⟩⟩
end Go.Proofs.YtgphgaehfdfjjaaGreat
namespace Go.Proofs.YtgphgaehfdfjjaaGreat
set_option maxHeartbeats 8000000
set_option maxRecDepth 100000
open Go.RowKit Go.Extern.Stop Go.Stop Go.Extern
set_option linter.unusedVariables false
attribute [local irreducible] wpList wpAnyH Code.wp Oper.wp Go
def Zdz(O:List Int×Int×List Dv)(w:World)(e:Ending)(w':World):Prop :=
 (O.2.1≠0∧∃ ty v,e=.returned (.tuple #[S0,.iface ty v])∧B0 w w'∧Vx w' (O.1.map some) (some O.2.1) (.iface ty v)) ∨
 (O.2.1=0∧∃ p c Z,e=.returned (.tuple #[.slice p O.2.2.length c,.nilIface])∧B0 w w'∧Z.map Prod.fst=O.2.2∧Xr w.heap.size w' Z∧w'.ownsRow w.heap.size 40 5 (.slice p O.2.2.length c) O.2.2.length (Z.flatMap Cx))
theorem Ud{O:List Int×Int×List Dv}{bl:List Int}{er:Int}{w W:World}{ty:TypeId}{v:Value}(h:O=(bl,er,[]))(her:er≠0)(hb:B0 w W)(hv:Vx W (bl.map some) (some er) (.iface ty v)):Zdz O w (.returned (.tuple #[S0,.iface ty v])) W:=by
 subst h;exact .inl ⟨her,ty,v,rfl,hb,hv⟩
theorem ldevs_ok{O:List Int×Int×List Dv}{L:List Dv}{Z:List Zv}{n c:Nat}{w W:World}{p:O0}(h:O=([],0,L))(hn:Z.length=n)(hZ:Z.map Prod.fst=L)(hb:B0 w W)(hM:Xr w.heap.size W Z)(ho:W.ownsRow w.heap.size 40 5 (.slice p n c) n (Z.flatMap Cx)):Zdz O w (.returned (.tuple #[.slice p n c,.nilIface])) W:=by
 subst h
 have hl:L.length=n:=by rw[←hZ,List.length_map,hn]
 subst hl
 exact .inr ⟨rfl,p,c,Z,rfl,hb,hZ,hM,ho⟩
theorem Xr.mono{B B':Nat}{w:World}{Z:List Zv}(h:Xr B' w Z)(hB:B≤B'):Xr B w Z:=fun i hi=>Zh (h i hi) hB
theorem Xr.ab{q:Nat→Prop}{A C:World}{row:Option Nat}{B m:Nat}{Z:List Zv}(h:Xr B A Z)(hg:A.grownBy C row)(hr:Zew q m A row)(hq:∀ r,q r→r<B):Xr B C Z:=fun i hi=>own_ab (h i hi) hg hr hq
theorem Xr.pt{D B:Nat}{w:World}{Z:List Zv}(h:Xr B w Z)(hK:Dfr D w)(o:Obj):Xr B (w.putObj D o) Z:=fun i hi=>Zfa (h i hi) hK o
theorem Zdj{B1 B2:Nat}{a:O0}{n c:Nat}{y:Value}{t t':TypeId}(hy:y=.nilIface∨∃ ty v,y=.iface ty v){tmps:Array Value}(e:tmps.getD 10 undef=P0 B1)(e2:tmps.getD 11 undef=P0 B2) :
 ∀ U,Blk U B1 [.slice a n c] t→Blk U B2 [y] t'→(results Tryz.f14 tmps).run Tryz.prog U=.ok (.tuple #[.slice a n c,y]) U:=by
 intro U h h2
 have c0:=h.cell (i:=0) rfl
 have c1:=h2.cell (i:=0) rfl
 have e':tmps[10]?.getD undef=P0 B1:=by simpa using e
 have a0:tmps[11]?.getD undef=P0 B2:=by simpa using e2
 rcases hy with rfl|⟨ty,v,rfl⟩<;>simp[results,Tryz.results14,go_sem,c0,c1,e',a0]
def Zfj(O:List Int×Int×List Dv)(w:World)(b10 b11:Nat)(V:World):Prop :=
 ∃ ty v bl er,O=(bl,er,[])∧er≠0∧Blk V b10 [S0] 22∧Blk V b11 [.iface ty v] 31∧Vx V (bl.map some) (some er) (.iface ty v)∧B0 w V
theorem Zfj.ab{q:Nat→Prop}{O:List Int×Int×List Dv}{w A B:World}{row:Option Nat}{b10 b11 m:Nat}(h:Zfj O w b10 b11 A)(hg:A.grownBy B row)(hr:∀ r,row=some r→m≤r∧∃ o:Obj,A.heap[r]? = some o∧o.isCells=false)(hm:w.heap.size≤m):Zfj O w b10 b11 B:=by
 obtain⟨ty,v,bl,er,h1,h2,k1,k2,hv,hb⟩:=h
 have ht:∀ r,row=some r→∃ o:Obj,A.heap[r]? = some o∧o.isCells=false:=fun r e=>(hr r e).2
 exact⟨ty,v,bl,er,h1,h2,k1.turn hg ht,k2.turn hg ht,hv.turn hg ht,hb.grown hg hb.size (fun r e=>Nat.le_trans hm (hr r e).1)⟩
theorem Em{A E:List Ent}(h:(Xe 0 0 A E).all Tt=true):(Xe 0 0 A E).length=A.length∧∀ k x,(Xe 0 0 A E)[k]? = some x→k<A.length∧x=(some k,some k):=by
 obtain⟨_,h2⟩:=Lv A E 0 0 h
 rw[h2]
 refine⟨by simp,fun k x hx=>?_⟩
 rw[List.getElem?_map] at hx
 by_cases hk:k<A.length
 ·rw[List.getElem?_range hk] at hx
  simp only[Option.map_some,Option.some.injEq,Nat.zero_add] at hx
  exact⟨hk,hx.symm⟩
 ·rw[List.getElem?_eq_none (by simp;omega)] at hx;cases hx
theorem Fc{α:Type}{L:List α}{p:α→Bool}{k:Nat}{x:α}(h:(L.take k).all p=true)(hx:L[k]? = some x)(hp:p x=true):(L.take (k+1)).all p=true:=by
 obtain⟨hk,rfl⟩:=List.getElem?_eq_some_iff.1 hx
 rw[List.take_succ_eq_append_getElem hk,List.all_append,h];simpa using hp
theorem Ze9{l:Bl}{x y:Ent}{data fuel:Int}{sum:Nat}(h:(Mx l x y data fuel sum).2=0):sum+(ownO l y data fuel).2.2.length≤16384:=by
 unfold Mx at h
 repeat' split at h
 all_goals first|omega|(simp at h;done)|(exact absurd h (by assumption))
theorem Ot{ga oa i:Nat}{p:O0}(h:p=some ⟨ga,oa,none⟩):Lf ga oa (some i)=.pointer (some (Zw p (i*3))):=by
 subst h
 show Value.pointer (some ⟨ga,oa+3*i,none⟩)=_
 simp[Zw,Addr.add_mid,Nat.mul_comm]
theorem Gz(Bi b:Nat)(pi:O0)(ni ci:Nat)(l:Bl)(top details data fuel:Int)(w:World)(hI:ImgR Bi b pi ni ci l w)(hfu:fuel≤1000) :
 C0 14 #[P0 b,V0 top,V0 details,V0 data,V0 fuel] w (Zdz (Vv l top details data fuel) w):=by
 have kn:=(Ug l details 3 fuel hfu).1
 have iw:=(Ug l top 1 fuel hfu).1
 refine Hh Tryz.func14 rfl ?_
 refine g_fr ⟨#[P0 b,V0 top,V0 details,V0 data,V0 fuel,undef,undef,undef,undef,undef,undef,undef,undef,undef,undef,undef,undef,undef,undef,undef,undef,undef,undef,undef,undef,undef,undef,undef,undef,undef,undef,undef,undef,undef,undef,undef,undef,undef,undef,undef,undef,undef,undef,undef,undef,undef,undef,undef,undef,undef,undef,undef,undef,undef,undef,undef,undef,undef,undef,undef,undef,undef,undef,undef,undef,undef,undef,undef,undef,undef,undef,undef,undef,undef,undef,undef,undef,undef,undef,undef,undef,undef,undef,undef,undef,undef,undef,undef,undef,undef,undef,undef,undef,undef,undef,undef,undef],[]⟩ (by kernel_rfl) ?_
 refine wp_seq ?_
 refine wp_region_lit ?_
 refine Qn (by kernel_rfl) (Tp [V0 top] rfl (by kernel_rfl) ?_)
 intro b1 W1 n1
 have g1:=n1.ge (B3 w)
 have hB:=n1.below
 have k1:=n1.blk
 refine Qn (by kernel_rfl) (Tp [V0 details] rfl (by kernel_rfl) ?_)
 intro b2 W2 n2
 have jr:=n2.ne k1
 have g2:=n2.ge hB
 replace hB:=bln hB n2.below
 replace k1:=k1.below n2.below
 have k2:=n2.blk
 refine Qn (by kernel_rfl) (Qw [S0] rfl (by kernel_rfl) ?_)
 intro b3 W3 n3
 have j7:=n3.ne k1
 have j8:=n3.ne k2
 have g3:=n3.ge hB
 replace hB:=bln hB n3.below
 replace k1:=k1.below n3.below
 replace k2:=k2.below n3.below
 have k3:=n3.blk
 refine Qn (by kernel_rfl) (Qw [.nilIface] rfl (by kernel_rfl) ?_)
 intro b4 W4 n4
 have k0:=n4.ne k1
 have j4:=n4.ne k2
 have c8:=n4.ne k3
 have g4:=n4.ge hB
 replace hB:=bln hB n4.below
 replace k1:=k1.below n4.below
 replace k2:=k2.below n4.below
 replace k3:=k3.below n4.below
 have k4:=n4.blk
 refine wpList_nil ?_
 refine wp_seq ?_
 refine wp_region_lit ?_
 refine Hj 1 [(24,P0 b)] (by kernel_rfl) ?_
 refine Qn (by kernel_rfl) (Yk ⟨b2,0,none⟩ (V0 details) rfl (by kernel_rfl) (by kernel_rfl) (k2.cell (i:=0) rfl) ?_)
 refine Hj 1 [(26,V0 fuel)] (by kernel_rfl) ?_
 have kb:w.heap.size≤(W4).heap.size:=hB.size
 refine Qn (by kernel_rfl) (Kj (lb:=#[]) 34 #[P0 b,V0 details,V0 3,V0 fuel] rfl (by kernel_rfl) (fun _ _=>by kernel_rfl) (by kernel_rfl) ((Gb Bi b pi ni ci l details 3 fuel _ hfu (hI.below hB)).mono ?_))
 rintro e W5 jx
 rcases jx with ⟨t7,pe,ce,pb,cb,pf,cf,p4,vw,rfl,u5,d8⟩|⟨t7,pd,cd,d9,e0,e1,e5,e3,e4,e2,rfl,u5,hd⟩
 ·refine⟨_,rfl,?_⟩
  replace hB:=bln hB u5
  replace k1:=k1.below u5
  replace k2:=k2.below u5
  replace k3:=k3.below u5
  replace k4:=k4.below u5
  refine Hj 3 [(23,.tuple #[.agg #[.slice pe 0 ce,.slice pb 0 cb,V0 0,V0 0,.slice pf 0 cf],.iface p4 (vw)]),(28,.agg #[.slice pe 0 ce,.slice pb 0 cb,V0 0,V0 0,.slice pf 0 cf]),(29,.iface p4 (vw))] (by kernel_rfl) ?_
  refine Qn (by kernel_rfl) (Qw [S0,S0,V0 0,V0 0,S0] rfl (by kernel_rfl) ?_)
  intro b6 W6 n6
  have jd:=n6.ne k1
  have jh:=n6.ne k2
  have df:=n6.ne k3
  have cv:=n6.ne k4
  have g6:=n6.ge hB
  replace hB:=bln hB n6.below
  replace k3:=k3.below n6.below
  replace k4:=k4.below n6.below
  replace d8:=d8.below n6.below
  have k6:=n6.blk
  refine Qn (by kernel_rfl) (Vk (b:=b6) (off:=0) [.slice pe 0 ce,.slice pb 0 cb,V0 0,V0 0,.slice pf 0 cf] rfl (by kernel_rfl) (by kernel_rfl) (by kernel_rfl) (by first|decide|simp[Value.oneCell']) k6 (by first|decide|simp) ?_)
  intro W7 u7 k7
  change Blk _ _ [.slice pe 0 ce,.slice pb 0 cb,V0 0,V0 0,.slice pf 0 cf] _ at k7
  replace hB:=u7.below hB g6
  replace k3:=u7.blk k3 (Ne.symm (Ne.symm df))
  replace k4:=u7.blk k4 (Ne.symm (Ne.symm cv))
  replace d8:=d8.only (Ze.of_upd (T:=[87]) u7 k6 (by decide)) (by decide)
  refine Hj 1 [(13,.iface p4 (vw))] (by kernel_rfl) ?_
  refine wpList_nil ?_
  refine wp_seq ?_
  refine wp_seq ?_
  refine wp_region_lit ?_
  refine Hj 2 [(30,.iface p4 (vw)),(31,.bool true)] (by kernel_rfl) ?_
  refine wpList_nil ?_
  refine wp_cond_true (by kernel_rfl) ?_
  refine wp_seq ?_
  refine wp_region_lit ?_
  refine Hj 1 [(32,.iface p4 (vw))] (by kernel_rfl) ?_
  refine Qn (by kernel_rfl) (Xj (v:=S0) (b:=b3) (off:=0) rfl (by kernel_rfl) (by kernel_rfl) (by kernel_rfl) rfl k3 (by first|decide|simp) ?_)
  intro W8 u8 k8
  change Blk _ _ [S0] _ at k8
  replace hB:=u8.below hB g3
  replace k4:=u8.blk k4 (Ne.symm c8)
  replace d8:=d8.only (Ze.of_upd (T:=[22]) u8 k3 (by decide)) (by decide)
  refine Qn (by kernel_rfl) (Xj (v:=.iface p4 (vw)) (b:=b4) (off:=0) rfl (by kernel_rfl) (by kernel_rfl) (by kernel_rfl) rfl k4 (by first|decide|simp) ?_)
  intro W9 u9 k9
  change Blk _ _ [.iface p4 (vw)] _ at k9
  replace hB:=u9.below hB g4
  replace k8:=u9.blk k8 (Ne.symm (Ne.symm c8))
  replace d8:=d8.only (Ze.of_upd (T:=[31]) u9 k4 (by decide)) (by decide)
  refine wpList_nil ?_
  exact wp_ret (ret0 k8 k9 (Zdj (.inr ⟨_,_,rfl⟩) (by kernel_rfl) (by kernel_rfl)) rfl (Ud (devsO_d t7) (Pk t7) hB d8))
 ·refine⟨_,rfl,?_⟩
  replace hB:=bln hB u5
  replace k1:=k1.below u5
  replace k2:=k2.below u5
  replace k3:=k3.below u5
  replace k4:=k4.below u5
  replace hd:=Zh hd kb
  refine Hj 3 [(23,.tuple #[.agg #[.slice pd ((Zd l details 3 fuel).es.length) cd,.slice d9 e0 e1,V0 e5,V0 e3,.slice e4 0 e2],.nilIface]),(28,.agg #[.slice pd ((Zd l details 3 fuel).es.length) cd,.slice d9 e0 e1,V0 e5,V0 e3,.slice e4 0 e2]),(29,.nilIface)] (by kernel_rfl) ?_
  refine Qn (by kernel_rfl) (Qw [S0,S0,V0 0,V0 0,S0] rfl (by kernel_rfl) ?_)
  intro d5 ls s8
  have ai:=s8.ne k1
  have bi:=s8.ne k2
  have e7:=s8.ne k3
  have f2:=s8.ne k4
  have kx:=s8.ge hB
  replace hB:=bln hB s8.below
  replace k1:=k1.below s8.below
  replace k2:=k2.below s8.below
  replace k3:=k3.below s8.below
  replace k4:=k4.below s8.below
  replace hd:=Zb hd s8.below
  have cg:=s8.blk
  refine Qn (by kernel_rfl) (Vk (b:=d5) (off:=0) [.slice pd ((Zd l details 3 fuel).es.length) cd,.slice d9 e0 e1,V0 e5,V0 e3,.slice e4 0 e2] rfl (by kernel_rfl) (by kernel_rfl) (by kernel_rfl) (by first|decide|simp[Value.oneCell']) cg (by first|decide|simp) ?_)
  intro kv bx j1
  change Blk _ _ [.slice pd ((Zd l details 3 fuel).es.length) cd,.slice d9 e0 e1,V0 e5,V0 e3,.slice e4 0 e2] _ at j1
  replace hB:=bx.below hB kx
  replace k1:=bx.blk k1 (Ne.symm (Ne.symm ai))
  replace k2:=bx.blk k2 (Ne.symm (Ne.symm bi))
  replace k3:=bx.blk k3 (Ne.symm (Ne.symm e7))
  replace k4:=bx.blk k4 (Ne.symm (Ne.symm f2))
  replace hd:=bx.own2 hd cg (by decide)
  refine Hj 1 [(13,.nilIface)] (by kernel_rfl) ?_
  refine wpList_nil ?_
  refine wp_seq ?_
  refine wp_seq ?_
  refine wp_region_lit ?_
  refine Hj 2 [(30,.nilIface),(31,.bool false)] (by kernel_rfl) ?_
  refine wpList_nil ?_
  refine wp_cond_false (by kernel_rfl) ?_
  refine wp_skip ?_
  refine wp_seq ?_
  refine wp_region_lit ?_
  refine Hj 1 [(34,P0 b)] (by kernel_rfl) ?_
  refine Qn (by kernel_rfl) (Yk ⟨b1,0,none⟩ (V0 top) rfl (by kernel_rfl) (by kernel_rfl) (k1.cell (i:=0) rfl) ?_)
  refine Hj 1 [(36,V0 fuel)] (by kernel_rfl) ?_
  have gv:w.heap.size≤(kv).heap.size:=hB.size
  refine Qn (by kernel_rfl) (Kj (lb:=#[]) 34 #[P0 b,V0 top,V0 1,V0 fuel] rfl (by kernel_rfl) (fun _ _=>by kernel_rfl) (by kernel_rfl) ((Gb Bi b pi ni ci l top 1 fuel _ hfu (hI.below hB)).mono ?_))
  rintro e ly fq
  rcases fq with ⟨w3,pe,ce,pb,cb,pf,cf,p4,vw,rfl,f9,d8⟩|⟨w3,pt,ct,b9,b8,b5,a9,c0,b7,b0,rfl,f9,ht⟩
  ·refine⟨_,rfl,?_⟩
   replace hB:=bln hB f9
   replace k1:=k1.below f9
   replace k2:=k2.below f9
   replace k3:=k3.below f9
   replace k4:=k4.below f9
   replace j1:=j1.below f9
   refine Hj 3 [(33,.tuple #[.agg #[.slice pe 0 ce,.slice pb 0 cb,V0 0,V0 0,.slice pf 0 cf],.iface p4 (vw)]),(38,.agg #[.slice pe 0 ce,.slice pb 0 cb,V0 0,V0 0,.slice pf 0 cf]),(39,.iface p4 (vw))] (by kernel_rfl) ?_
   refine Qn (by kernel_rfl) (Qw [S0,S0,V0 0,V0 0,S0] rfl (by kernel_rfl) ?_)
   intro kp lm t9
   have gj:=t9.ne k1
   have ia:=t9.ne k2
   have ae:=t9.ne k3
   have bq:=t9.ne k4
   have fj:=t9.ne j1
   have kz:=t9.ge hB
   replace hB:=bln hB t9.below
   replace k3:=k3.below t9.below
   replace k4:=k4.below t9.below
   replace d8:=d8.below t9.below
   have jv:=t9.blk
   refine Qn (by kernel_rfl) (Vk (b:=kp) (off:=0) [.slice pe 0 ce,.slice pb 0 cb,V0 0,V0 0,.slice pf 0 cf] rfl (by kernel_rfl) (by kernel_rfl) (by kernel_rfl) (by first|decide|simp[Value.oneCell']) jv (by first|decide|simp) ?_)
   intro lo em kc
   change Blk _ _ [.slice pe 0 ce,.slice pb 0 cb,V0 0,V0 0,.slice pf 0 cf] _ at kc
   replace hB:=em.below hB kz
   replace k3:=em.blk k3 (Ne.symm (Ne.symm ae))
   replace k4:=em.blk k4 (Ne.symm (Ne.symm bq))
   replace d8:=d8.only (Ze.of_upd (T:=[87]) em jv (by decide)) (by decide)
   refine Hj 1 [(13,.iface p4 (vw))] (by kernel_rfl) ?_
   refine wpList_nil ?_
   refine wp_seq ?_
   refine wp_seq ?_
   refine wp_region_lit ?_
   refine Hj 2 [(40,.iface p4 (vw)),(41,.bool true)] (by kernel_rfl) ?_
   refine wpList_nil ?_
   refine wp_cond_true (by kernel_rfl) ?_
   refine wp_seq ?_
   refine wp_region_lit ?_
   refine Hj 1 [(42,.iface p4 (vw))] (by kernel_rfl) ?_
   refine Qn (by kernel_rfl) (Xj (v:=S0) (b:=b3) (off:=0) rfl (by kernel_rfl) (by kernel_rfl) (by kernel_rfl) rfl k3 (by first|decide|simp) ?_)
   intro lz hw ee
   change Blk _ _ [S0] _ at ee
   replace hB:=hw.below hB g3
   replace k4:=hw.blk k4 (Ne.symm c8)
   replace d8:=d8.only (Ze.of_upd (T:=[22]) hw k3 (by decide)) (by decide)
   refine Qn (by kernel_rfl) (Xj (v:=.iface p4 (vw)) (b:=b4) (off:=0) rfl (by kernel_rfl) (by kernel_rfl) (by kernel_rfl) rfl k4 (by first|decide|simp) ?_)
   intro mo gr ir
   change Blk _ _ [.iface p4 (vw)] _ at ir
   replace hB:=gr.below hB g4
   replace ee:=gr.blk ee (Ne.symm (Ne.symm c8))
   replace d8:=d8.only (Ze.of_upd (T:=[31]) gr k4 (by decide)) (by decide)
   refine wpList_nil ?_
   exact wp_ret (ret0 ee ir (Zdj (.inr ⟨_,_,rfl⟩) (by kernel_rfl) (by kernel_rfl)) rfl (Ud (devsO_t t7 w3) (Pk w3) hB d8))
  ·refine⟨_,rfl,?_⟩
   replace hB:=bln hB f9
   replace k1:=k1.below f9
   replace k2:=k2.below f9
   replace k3:=k3.below f9
   replace k4:=k4.below f9
   replace j1:=j1.below f9
   replace hd:=Zb hd f9
   replace ht:=Zh ht gv
   refine Hj 3 [(33,.tuple #[.agg #[.slice pt ((Zd l top 1 fuel).es.length) ct,.slice b9 b8 b5,V0 a9,V0 c0,.slice b7 0 b0],.nilIface]),(38,.agg #[.slice pt ((Zd l top 1 fuel).es.length) ct,.slice b9 b8 b5,V0 a9,V0 c0,.slice b7 0 b0]),(39,.nilIface)] (by kernel_rfl) ?_
   refine Qn (by kernel_rfl) (Qw [S0,S0,V0 0,V0 0,S0] rfl (by kernel_rfl) ?_)
   intro e6 mb p7
   have az:=p7.ne k1
   have ao:=p7.ne k2
   have e8:=p7.ne k3
   have e9:=p7.ne k4
   have y3:=p7.ne j1
   have kr:=p7.ge hB
   replace hB:=bln hB p7.below
   replace k1:=k1.below p7.below
   replace k2:=k2.below p7.below
   replace k3:=k3.below p7.below
   replace k4:=k4.below p7.below
   replace j1:=j1.below p7.below
   replace hd:=Zb hd p7.below
   replace ht:=Zb ht p7.below
   have gq:=p7.blk
   refine Qn (by kernel_rfl) (Vk (b:=e6) (off:=0) [.slice pt ((Zd l top 1 fuel).es.length) ct,.slice b9 b8 b5,V0 a9,V0 c0,.slice b7 0 b0] rfl (by kernel_rfl) (by kernel_rfl) (by kernel_rfl) (by first|decide|simp[Value.oneCell']) gq (by first|decide|simp) ?_)
   intro ma y6 ca
   change Blk _ _ [.slice pt ((Zd l top 1 fuel).es.length) ct,.slice b9 b8 b5,V0 a9,V0 c0,.slice b7 0 b0] _ at ca
   replace hB:=y6.below hB kr
   replace k1:=y6.blk k1 (Ne.symm (Ne.symm az))
   replace k2:=y6.blk k2 (Ne.symm (Ne.symm ao))
   replace k3:=y6.blk k3 (Ne.symm (Ne.symm e8))
   replace k4:=y6.blk k4 (Ne.symm (Ne.symm e9))
   replace j1:=y6.blk j1 (Ne.symm (Ne.symm y3))
   replace hd:=y6.own2 hd gq (by decide)
   replace ht:=y6.own2 ht gq (by decide)
   refine Hj 1 [(13,.nilIface)] (by kernel_rfl) ?_
   refine wpList_nil ?_
   refine wp_seq ?_
   refine wp_seq ?_
   refine wp_region_lit ?_
   refine Hj 2 [(40,.nilIface),(41,.bool false)] (by kernel_rfl) ?_
   refine wpList_nil ?_
   refine wp_cond_false (by kernel_rfl) ?_
   refine wp_skip ?_
   refine wp_seq ?_
   refine wp_seq ?_
   refine wp_region_lit ?_
   refine Hj 1 [(43,P0 d5)] (by kernel_rfl) ?_
   refine Qn (by kernel_rfl) (Yk ⟨d5,0,none⟩ (.slice pd ((Zd l details 3 fuel).es.length) cd) rfl (by kernel_rfl) (by kernel_rfl) (j1.cell (i:=0) rfl) ?_)
   refine Hj 2 [(45,V0 (↑((Zd l details 3 fuel).es.length):Int)),(46,.bool (decide ((↑((Zd l details 3 fuel).es.length):Int)>(4096:Int))))] (by kernel_rfl) ?_
   refine wpList_nil ?_
   refine wp_cond_split (t:=decide ((↑((Zd l details 3 fuel).es.length):Int)>(4096:Int))) (by kernel_rfl) (fun t8=>?_) (fun t8=>?_)
   ·have t8:=of_decide_eq_true t8
    refine wp_seq ?_
    refine wp_region_lit ?_
    refine Qn (by kernel_rfl) (Yk ⟨b2,0,none⟩ (V0 details) rfl (by kernel_rfl) (by kernel_rfl) (k2.cell (i:=0) rfl) ?_)
    refine Qn (by kernel_rfl) (Kj (lb:=#[]) 35 #[V0 details,V0 2] rfl (by kernel_rfl) (fun _ _=>by kernel_rfl) (by kernel_rfl) ((Km details 2 _ (by omega)).mono ?_))
    rintro e mi ⟨dn,ji,rfl,bf,i2⟩
    refine⟨_,rfl,?_⟩
    replace hB:=bln hB bf
    replace k3:=k3.below bf
    replace k4:=k4.below bf
    refine Qn (by kernel_rfl) (Xj (v:=S0) (b:=b3) (off:=0) rfl (by kernel_rfl) (by kernel_rfl) (by kernel_rfl) rfl k3 (by first|decide|simp) ?_)
    intro md hy dt
    change Blk _ _ [S0] _ at dt
    replace hB:=hy.below hB g3
    replace k4:=hy.blk k4 (Ne.symm c8)
    replace i2:=i2.only (Ze.of_upd (T:=[22]) hy k3 (by decide)) (by decide)
    refine Qn (by kernel_rfl) (Xj (v:=.iface dn (ji)) (b:=b4) (off:=0) rfl (by kernel_rfl) (by kernel_rfl) (by kernel_rfl) rfl k4 (by first|decide|simp) ?_)
    intro mp gm im
    change Blk _ _ [.iface dn (ji)] _ at im
    replace hB:=gm.below hB g4
    replace dt:=gm.blk dt (Ne.symm (Ne.symm c8))
    replace i2:=i2.only (Ze.of_upd (T:=[31]) gm k4 (by decide)) (by decide)
    refine wpList_nil ?_
    exact wp_ret (ret0 dt im (Zdj (.inr ⟨_,_,rfl⟩) (by kernel_rfl) (by kernel_rfl)) rfl (Ud (Zbv t7 w3 (by omega)) (by decide) hB i2))
   ·have t8:=of_decide_eq_false t8
    refine wp_skip ?_
    refine wp_seq ?_
    refine wp_seq ?_
    refine wp_region_lit ?_
    refine Hj 1 [(49,P0 d5)] (by kernel_rfl) ?_
    refine Qn (by kernel_rfl) (Yk ⟨d5,0,none⟩ (.slice pd ((Zd l details 3 fuel).es.length) cd) rfl (by kernel_rfl) (by kernel_rfl) (j1.cell (i:=0) rfl) ?_)
    refine Hj 1 [(51,P0 e6)] (by kernel_rfl) ?_
    refine Qn (by kernel_rfl) (Yk ⟨e6,0,none⟩ (.slice pt ((Zd l top 1 fuel).es.length) ct) rfl (by kernel_rfl) (by kernel_rfl) (ca.cell (i:=0) rfl) ?_)
    have gn:=Zf hd
    have hi:=Zf ht
    have cz:=hB.size
    have gu:=k1.lt
    have gi:=k2.lt
    have fv:=k3.lt
    have hc:=k4.lt
    have fh:=j1.lt
    have ez:=ca.lt
    refine Qn (by kernel_rfl) (Kj (lb:=#[]) 36 #[.slice pd ((Zd l details 3 fuel).es.length) cd,.slice pt ((Zd l top 1 fuel).es.length) ct] rfl (by kernel_rfl) (fun _ _=>by kernel_rfl) (by kernel_rfl) ((Cs pd (Zd l details 3 fuel).es.length cd pt (Zd l top 1 fuel).es.length ct _).mono ?_))
    rintro e ba ⟨p1,q1,rfl,j3,dc,dk,ic,bb,ag⟩
    refine⟨_,rfl,?_⟩
    replace hB:=bln hB j3
    replace k1:=k1.below j3
    replace k2:=k2.below j3
    replace k3:=k3.below j3
    replace k4:=k4.below j3
    replace j1:=j1.below j3
    replace ca:=ca.below j3
    replace hd:=Zb hd j3
    replace ht:=Zb ht j3
    refine wpList_nil ?_
    refine wp_block ?_
    obtain⟨s2,w2,s6,w4,gp,bk,ak⟩:=Ti (A:=(Zd l details 3 fuel).es) (E:=(Zd l top 1 fuel).es) rfl rfl (by omega) (by omega) gn hi j3 dc dk ic bb ag
    have l1:w.heap.size≤ba.heap.size:=hB.size
    have kq:w.heap.size≤p1:=Nat.le_trans cz dc
    have kg:w.heap.size≤q1:=Nat.le_trans cz dk
    have cl:=bb.lt
    have cq:=ag.lt
    have ib:=hB
    have n5:=k1
    have m6:=k2
    have i3:=k3
    have i1:=k4
    have i9:=j1
    have i7:=ca
    have z1:=bb
    have y7:=ag
    have bz:=hd
    have cc:=ht
    have gz:∀ d,(fun d=>d=p1∨d=q1∨((Zd l details 3 fuel).es.length≠0∧d=s2)∨((Zd l top 1 fuel).es.length≠0∧d=s6)) d→d<ba.heap.size:=by
     rintro d (rfl|rfl|⟨h,rfl⟩|⟨h,rfl⟩)
     ·exact cl
     ·exact cq
     ·exact(bz.lt _ (by rw[bk h];rfl)).2
     ·exact(cc.lt _ (by rw[ak h];rfl)).2
    have ky:∀ d,(fun d=>d=p1∨d=q1∨((Zd l details 3 fuel).es.length≠0∧d=s2)∨((Zd l top 1 fuel).es.length≠0∧d=s6)) d→d∉[b3,b4]:=by
     rintro d (rfl|rfl|⟨h,rfl⟩|⟨h,rfl⟩)<;>simp only[List.mem_cons,List.not_mem_nil,or_false]
     ·omega
     ·omega
     ·rintro(h9|h9)
      ·exact Xc bz i3 (by decide) _ (by rw[bk h];rfl) h9
      ·exact Xc bz i1 (by decide) _ (by rw[bk h];rfl) h9
     ·rintro(h9|h9)
      ·exact Xc cc i3 (by decide) _ (by rw[ak h];rfl) h9
      ·exact Xc cc i1 (by decide) _ (by rw[ak h];rfl) h9
    refine g_fr ⟨#[P0 b,V0 top,V0 details,V0 data,V0 fuel,undef,P0 b1,P0 b2,undef,undef,P0 b3,P0 b4,P0 d5,.nilIface,P0 e6,undef,undef,undef,undef,undef,undef,undef,undef,.tuple #[.agg #[.slice pd ((Zd l details 3 fuel).es.length) cd,.slice d9 e0 e1,V0 e5,V0 e3,.slice e4 0 e2],.nilIface],P0 b,V0 details,V0 fuel,.tuple #[.agg #[.slice pd ((Zd l details 3 fuel).es.length) cd,.slice d9 e0 e1,V0 e5,V0 e3,.slice e4 0 e2],.nilIface],.agg #[.slice pd ((Zd l details 3 fuel).es.length) cd,.slice d9 e0 e1,V0 e5,V0 e3,.slice e4 0 e2],.nilIface,.nilIface,.bool false,undef,.tuple #[.agg #[.slice pt ((Zd l top 1 fuel).es.length) ct,.slice b9 b8 b5,V0 a9,V0 c0,.slice b7 0 b0],.nilIface],P0 b,V0 top,V0 fuel,.tuple #[.agg #[.slice pt ((Zd l top 1 fuel).es.length) ct,.slice b9 b8 b5,V0 a9,V0 c0,.slice b7 0 b0],.nilIface],.agg #[.slice pt ((Zd l top 1 fuel).es.length) ct,.slice b9 b8 b5,V0 a9,V0 c0,.slice b7 0 b0],.nilIface,.nilIface,.bool false,undef,P0 d5,.slice pd ((Zd l details 3 fuel).es.length) cd,V0 (↑((Zd l details 3 fuel).es.length):Int),.bool (decide ((↑((Zd l details 3 fuel).es.length):Int)>(4096:Int))),undef,undef,P0 d5,.slice pd ((Zd l details 3 fuel).es.length) cd,P0 e6,.slice pt ((Zd l top 1 fuel).es.length) ct,.func (.func 56) #[] #[P0 p1,P0 q1],undef,undef,undef,undef,undef,undef,undef,undef,undef,undef,undef,undef,undef,undef,undef,undef,undef,undef,undef,undef,undef,undef,undef,undef,undef,undef,undef,undef,undef,undef,undef,undef,undef,undef,undef,undef,undef,undef,undef,undef,undef,undef,undef],[]⟩ (by kernel_rfl) ?_
    refine Tb (g:=.tmp 53) (gf:=56) (lb:=#[P0 p1,P0 q1]) rfl (enters_of Tryz.func56 (by kernel_rfl) rfl) (fun d=>d=p1∨d=q1∨((Zd l details 3 fuel).es.length≠0∧d=s2)∨((Zd l top 1 fuel).es.length≠0∧d=s6)) (fun d=>d=p1∨d=q1) gz (fun d h=>h.elim (fun q=>q▸cl) (fun q=>q▸cq)) gp (fun _=>rfl)
     (fun i V=>B0 w V∧Fr [p1,q1] ba V∧((Xe 0 0 (Zd l details 3 fuel).es (Zd l top 1 fuel).es).take i).all Tt=true)
     (fun c i V=>c=.ret∧Zfj (Vv l top details data fuel) w b3 b4 V) ?own (fun c k A B ha h hg hr=>⟨h.1,h.2.ab (q:=fun _=>False) hg hr l1⟩) ?start
     (fun x=>{ tmps:=#[P0 b,V0 top,V0 details,V0 data,V0 fuel,undef,P0 b1,P0 b2,undef,undef,P0 b3,P0 b4,P0 d5,.nilIface,P0 e6,(Lf s2 w2 x.1),(Lf s6 w4 x.2),undef,undef,undef,undef,undef,undef,.tuple #[.agg #[.slice pd ((Zd l details 3 fuel).es.length) cd,.slice d9 e0 e1,V0 e5,V0 e3,.slice e4 0 e2],.nilIface],P0 b,V0 details,V0 fuel,.tuple #[.agg #[.slice pd ((Zd l details 3 fuel).es.length) cd,.slice d9 e0 e1,V0 e5,V0 e3,.slice e4 0 e2],.nilIface],.agg #[.slice pd ((Zd l details 3 fuel).es.length) cd,.slice d9 e0 e1,V0 e5,V0 e3,.slice e4 0 e2],.nilIface,.nilIface,.bool false,undef,.tuple #[.agg #[.slice pt ((Zd l top 1 fuel).es.length) ct,.slice b9 b8 b5,V0 a9,V0 c0,.slice b7 0 b0],.nilIface],P0 b,V0 top,V0 fuel,.tuple #[.agg #[.slice pt ((Zd l top 1 fuel).es.length) ct,.slice b9 b8 b5,V0 a9,V0 c0,.slice b7 0 b0],.nilIface],.agg #[.slice pt ((Zd l top 1 fuel).es.length) ct,.slice b9 b8 b5,V0 a9,V0 c0,.slice b7 0 b0],.nilIface,.nilIface,.bool false,undef,P0 d5,.slice pd ((Zd l details 3 fuel).es.length) cd,V0 (↑((Zd l details 3 fuel).es.length):Int),.bool (decide ((↑((Zd l details 3 fuel).es.length):Int)>(4096:Int))),undef,undef,P0 d5,.slice pd ((Zd l details 3 fuel).es.length) cd,P0 e6,.slice pt ((Zd l top 1 fuel).es.length) ct,.func (.func 56) #[] #[P0 p1,P0 q1],(Lf s2 w2 x.1),(Lf s6 w4 x.2),undef,undef,undef,undef,undef,undef,undef,undef,undef,undef,undef,undef,undef,undef,undef,undef,undef,undef,undef,undef,undef,undef,undef,undef,undef,undef,undef,undef,undef,undef,undef,undef,undef,undef,undef,undef,undef,undef,undef,undef,undef],defers:=[] }) ?assign ?body ?done ?stop
    case own =>
     exact fun k A B ha h hg hr=>⟨Oj h.1 hg hr (Nat.le_refl _) l1 (fun r q=>by rcases q with rfl|rfl;exact kq;exact kg),fr_ab h.2.1 hg hr (fun r h=>by rcases h with rfl|rfl<;>simp),h.2.2⟩
    case start =>
     exact⟨ib,Fr.refl _ _,by simp⟩
    case assign =>
     intro lr i x W K hx hK
     refine Af { tmps:=#[P0 b,V0 top,V0 details,V0 data,V0 fuel,undef,P0 b1,P0 b2,undef,undef,P0 b3,P0 b4,P0 d5,.nilIface,P0 e6,undef,undef,undef,undef,undef,undef,undef,undef,.tuple #[.agg #[.slice pd ((Zd l details 3 fuel).es.length) cd,.slice d9 e0 e1,V0 e5,V0 e3,.slice e4 0 e2],.nilIface],P0 b,V0 details,V0 fuel,.tuple #[.agg #[.slice pd ((Zd l details 3 fuel).es.length) cd,.slice d9 e0 e1,V0 e5,V0 e3,.slice e4 0 e2],.nilIface],.agg #[.slice pd ((Zd l details 3 fuel).es.length) cd,.slice d9 e0 e1,V0 e5,V0 e3,.slice e4 0 e2],.nilIface,.nilIface,.bool false,undef,.tuple #[.agg #[.slice pt ((Zd l top 1 fuel).es.length) ct,.slice b9 b8 b5,V0 a9,V0 c0,.slice b7 0 b0],.nilIface],P0 b,V0 top,V0 fuel,.tuple #[.agg #[.slice pt ((Zd l top 1 fuel).es.length) ct,.slice b9 b8 b5,V0 a9,V0 c0,.slice b7 0 b0],.nilIface],.agg #[.slice pt ((Zd l top 1 fuel).es.length) ct,.slice b9 b8 b5,V0 a9,V0 c0,.slice b7 0 b0],.nilIface,.nilIface,.bool false,undef,P0 d5,.slice pd ((Zd l details 3 fuel).es.length) cd,V0 (↑((Zd l details 3 fuel).es.length):Int),.bool (decide ((↑((Zd l details 3 fuel).es.length):Int)>(4096:Int))),undef,undef,P0 d5,.slice pd ((Zd l details 3 fuel).es.length) cd,P0 e6,.slice pt ((Zd l top 1 fuel).es.length) ct,.func (.func 56) #[] #[P0 p1,P0 q1],(Lf s2 w2 x.1),(Lf s6 w4 x.2),undef,undef,undef,undef,undef,undef,undef,undef,undef,undef,undef,undef,undef,undef,undef,undef,undef,undef,undef,undef,undef,undef,undef,undef,undef,undef,undef,undef,undef,undef,undef,undef,undef,undef,undef,undef,undef,undef,undef,undef,undef],defers:=[] } (by kernel_rfl) ?_
     refine wpIn_seq ?_
     refine Qv (fun⟨_,_,q⟩=>q) (by simp) ?_
     refine Hj 1 [(15,(Lf s2 w2 x.1))] (by kernel_rfl) ?_
     refine wpList_nil ?_
     refine Qv (fun⟨_,_,q⟩=>q) (by simp) ?_
     refine Hj 1 [(16,(Lf s6 w4 x.2))] (by kernel_rfl) ?_
     refine wpList_nil ?_
     exact hK
    case body =>
     rintro lr i x W kk hx ⟨o5,hF,ek⟩
     obtain⟨xa,xb⟩:=x
     rcases xa with _|ja<;>rcases xb with _|jb
     ·
      have g8:w.heap.size≤W.heap.size:=Nat.le_trans l1 hF.size
      have ef:=hI.below o5
      have hZ:RdS ba [b3,b4] W W:=RdS.refl _ hF.size
      have c3:=n5.fr hF (by simp only[List.mem_cons,List.not_mem_nil,or_false];omega)
      have c2:=m6.fr hF (by simp only[List.mem_cons,List.not_mem_nil,or_false];omega)
      have c7:=i3.fr hF (by simp only[List.mem_cons,List.not_mem_nil,or_false];omega)
      have c1:=i1.fr hF (by simp only[List.mem_cons,List.not_mem_nil,or_false];omega)
      have a8:=i9.fr hF (by simp only[List.mem_cons,List.not_mem_nil,or_false];omega)
      have a7:=i7.fr hF (by simp only[List.mem_cons,List.not_mem_nil,or_false];omega)
      refine Af { tmps:=#[P0 b,V0 top,V0 details,V0 data,V0 fuel,undef,P0 b1,P0 b2,undef,undef,P0 b3,P0 b4,P0 d5,.nilIface,P0 e6,.pointer none,.pointer none,undef,undef,undef,undef,undef,undef,.tuple #[.agg #[.slice pd ((Zd l details 3 fuel).es.length) cd,.slice d9 e0 e1,V0 e5,V0 e3,.slice e4 0 e2],.nilIface],P0 b,V0 details,V0 fuel,.tuple #[.agg #[.slice pd ((Zd l details 3 fuel).es.length) cd,.slice d9 e0 e1,V0 e5,V0 e3,.slice e4 0 e2],.nilIface],.agg #[.slice pd ((Zd l details 3 fuel).es.length) cd,.slice d9 e0 e1,V0 e5,V0 e3,.slice e4 0 e2],.nilIface,.nilIface,.bool false,undef,.tuple #[.agg #[.slice pt ((Zd l top 1 fuel).es.length) ct,.slice b9 b8 b5,V0 a9,V0 c0,.slice b7 0 b0],.nilIface],P0 b,V0 top,V0 fuel,.tuple #[.agg #[.slice pt ((Zd l top 1 fuel).es.length) ct,.slice b9 b8 b5,V0 a9,V0 c0,.slice b7 0 b0],.nilIface],.agg #[.slice pt ((Zd l top 1 fuel).es.length) ct,.slice b9 b8 b5,V0 a9,V0 c0,.slice b7 0 b0],.nilIface,.nilIface,.bool false,undef,P0 d5,.slice pd ((Zd l details 3 fuel).es.length) cd,V0 (↑((Zd l details 3 fuel).es.length):Int),.bool (decide ((↑((Zd l details 3 fuel).es.length):Int)>(4096:Int))),undef,undef,P0 d5,.slice pd ((Zd l details 3 fuel).es.length) cd,P0 e6,.slice pt ((Zd l top 1 fuel).es.length) ct,.func (.func 56) #[] #[P0 p1,P0 q1],.pointer none,.pointer none,undef,undef,undef,undef,undef,undef,undef,undef,undef,undef,undef,undef,undef,undef,undef,undef,undef,undef,undef,undef,undef,undef,undef,undef,undef,undef,undef,undef,undef,undef,undef,undef,undef,undef,undef,undef,undef,undef,undef,undef,undef],defers:=[] } rfl ?_
      refine wpIn_block ?_
      refine wpIn_block ?_
      refine wpIn_seq ?_
      refine Qv (fun⟨_,_,q⟩=>q) (by simp) ?_
      refine Hj 3 [(57,.pointer none),(58,.bool true),(56,.bool true)] (by kernel_rfl) ?_
      refine wpList_nil ?_
      refine wpIn_cond_true (by kernel_rfl) ?_
      refine wpIn_seq ?_
      refine Qv (fun⟨_,_,q⟩=>q) (by simp) ?_
      refine Qn (by kernel_rfl) (Yk ⟨b2,0,none⟩ (V0 details) rfl (by kernel_rfl) (by kernel_rfl) (c2.cell (i:=0) rfl) ?_)
      refine Qn (by kernel_rfl) (Kj (lb:=#[]) 35 #[V0 details,V0 18] rfl (by kernel_rfl) (fun _ _=>by kernel_rfl) (by kernel_rfl) ((Km details 18 _ (by omega)).mono ?_))
      rintro e lp ⟨cw,jc,rfl,n7,i2⟩
      refine⟨_,rfl,?_⟩
      have hB:=blB (Below.refl w.heap.size W) g8 n7
      replace c3:=c3.below n7
      replace c2:=c2.below n7
      replace c7:=c7.below n7
      replace c1:=c1.below n7
      replace a8:=a8.below n7
      replace a7:=a7.below n7
      replace hZ:=hZ.below n7
      refine Qn (by kernel_rfl) (Xj (v:=S0) (b:=b3) (off:=0) rfl (by kernel_rfl) (by kernel_rfl) (by kernel_rfl) rfl c7 (by first|decide|simp) ?_)
      intro mv z2 ep
      change Blk _ _ [S0] _ at ep
      replace hB:=z2.below hB g3
      replace c3:=z2.blk c3 (Ne.symm (Ne.symm j7))
      replace c2:=z2.blk c2 (Ne.symm (Ne.symm j8))
      replace c1:=z2.blk c1 (Ne.symm c8)
      replace a8:=z2.blk a8 (Ne.symm e7)
      replace a7:=z2.blk a7 (Ne.symm e8)
      replace hZ:=hZ.upd z2 c7 (.inl (by simp))
      replace i2:=i2.only (Ze.of_upd (T:=[22]) z2 c7 (by decide)) (by decide)
      refine Qn (by kernel_rfl) (Xj (v:=.iface cw (jc)) (b:=b4) (off:=0) rfl (by kernel_rfl) (by kernel_rfl) (by kernel_rfl) rfl c1 (by first|decide|simp) ?_)
      intro mm y9 jm
      change Blk _ _ [.iface cw (jc)] _ at jm
      replace hB:=y9.below hB g4
      replace c3:=y9.blk c3 (Ne.symm (Ne.symm k0))
      replace c2:=y9.blk c2 (Ne.symm (Ne.symm j4))
      replace ep:=y9.blk ep (Ne.symm (Ne.symm c8))
      replace a8:=y9.blk a8 (Ne.symm f2)
      replace a7:=y9.blk a7 (Ne.symm e9)
      replace hZ:=hZ.upd y9 c1 (.inl (by simp))
      replace i2:=i2.only (Ze.of_upd (T:=[31]) y9 c1 (by decide)) (by decide)
      refine wpList_nil ?_
      refine wpIn_ret (Yg (Yg ?_))
      exact⟨hZ.ko.from _,rfl,_,_,_,_,(Zat t7 w3 (by omega) ((Hx _ _ 0 0 i _ ek hx rfl).trans rfl)),(by decide),ep,jm,i2,o5.trans hB⟩
     ·
      have g8:w.heap.size≤W.heap.size:=Nat.le_trans l1 hF.size
      have ef:=hI.below o5
      have hZ:RdS ba [b3,b4] W W:=RdS.refl _ hF.size
      have c3:=n5.fr hF (by simp only[List.mem_cons,List.not_mem_nil,or_false];omega)
      have c2:=m6.fr hF (by simp only[List.mem_cons,List.not_mem_nil,or_false];omega)
      have c7:=i3.fr hF (by simp only[List.mem_cons,List.not_mem_nil,or_false];omega)
      have c1:=i1.fr hF (by simp only[List.mem_cons,List.not_mem_nil,or_false];omega)
      have a8:=i9.fr hF (by simp only[List.mem_cons,List.not_mem_nil,or_false];omega)
      have a7:=i7.fr hF (by simp only[List.mem_cons,List.not_mem_nil,or_false];omega)
      refine Af { tmps:=#[P0 b,V0 top,V0 details,V0 data,V0 fuel,undef,P0 b1,P0 b2,undef,undef,P0 b3,P0 b4,P0 d5,.nilIface,P0 e6,.pointer none,.pointer (some ⟨s6,w4+3*jb,none⟩),undef,undef,undef,undef,undef,undef,.tuple #[.agg #[.slice pd ((Zd l details 3 fuel).es.length) cd,.slice d9 e0 e1,V0 e5,V0 e3,.slice e4 0 e2],.nilIface],P0 b,V0 details,V0 fuel,.tuple #[.agg #[.slice pd ((Zd l details 3 fuel).es.length) cd,.slice d9 e0 e1,V0 e5,V0 e3,.slice e4 0 e2],.nilIface],.agg #[.slice pd ((Zd l details 3 fuel).es.length) cd,.slice d9 e0 e1,V0 e5,V0 e3,.slice e4 0 e2],.nilIface,.nilIface,.bool false,undef,.tuple #[.agg #[.slice pt ((Zd l top 1 fuel).es.length) ct,.slice b9 b8 b5,V0 a9,V0 c0,.slice b7 0 b0],.nilIface],P0 b,V0 top,V0 fuel,.tuple #[.agg #[.slice pt ((Zd l top 1 fuel).es.length) ct,.slice b9 b8 b5,V0 a9,V0 c0,.slice b7 0 b0],.nilIface],.agg #[.slice pt ((Zd l top 1 fuel).es.length) ct,.slice b9 b8 b5,V0 a9,V0 c0,.slice b7 0 b0],.nilIface,.nilIface,.bool false,undef,P0 d5,.slice pd ((Zd l details 3 fuel).es.length) cd,V0 (↑((Zd l details 3 fuel).es.length):Int),.bool (decide ((↑((Zd l details 3 fuel).es.length):Int)>(4096:Int))),undef,undef,P0 d5,.slice pd ((Zd l details 3 fuel).es.length) cd,P0 e6,.slice pt ((Zd l top 1 fuel).es.length) ct,.func (.func 56) #[] #[P0 p1,P0 q1],.pointer none,.pointer (some ⟨s6,w4+3*jb,none⟩),undef,undef,undef,undef,undef,undef,undef,undef,undef,undef,undef,undef,undef,undef,undef,undef,undef,undef,undef,undef,undef,undef,undef,undef,undef,undef,undef,undef,undef,undef,undef,undef,undef,undef,undef,undef,undef,undef,undef,undef,undef],defers:=[] } rfl ?_
      refine wpIn_block ?_
      refine wpIn_block ?_
      refine wpIn_seq ?_
      refine Qv (fun⟨_,_,q⟩=>q) (by simp) ?_
      refine Hj 3 [(57,.pointer none),(58,.bool true),(56,.bool true)] (by kernel_rfl) ?_
      refine wpList_nil ?_
      refine wpIn_cond_true (by kernel_rfl) ?_
      refine wpIn_seq ?_
      refine Qv (fun⟨_,_,q⟩=>q) (by simp) ?_
      refine Qn (by kernel_rfl) (Yk ⟨b2,0,none⟩ (V0 details) rfl (by kernel_rfl) (by kernel_rfl) (c2.cell (i:=0) rfl) ?_)
      refine Qn (by kernel_rfl) (Kj (lb:=#[]) 35 #[V0 details,V0 18] rfl (by kernel_rfl) (fun _ _=>by kernel_rfl) (by kernel_rfl) ((Km details 18 _ (by omega)).mono ?_))
      rintro e la ⟨db,jt,rfl,n8,i2⟩
      refine⟨_,rfl,?_⟩
      have hB:=blB (Below.refl w.heap.size W) g8 n8
      replace c3:=c3.below n8
      replace c2:=c2.below n8
      replace c7:=c7.below n8
      replace c1:=c1.below n8
      replace a8:=a8.below n8
      replace a7:=a7.below n8
      replace hZ:=hZ.below n8
      refine Qn (by kernel_rfl) (Xj (v:=S0) (b:=b3) (off:=0) rfl (by kernel_rfl) (by kernel_rfl) (by kernel_rfl) rfl c7 (by first|decide|simp) ?_)
      intro lq z8 ey
      change Blk _ _ [S0] _ at ey
      replace hB:=z8.below hB g3
      replace c3:=z8.blk c3 (Ne.symm (Ne.symm j7))
      replace c2:=z8.blk c2 (Ne.symm (Ne.symm j8))
      replace c1:=z8.blk c1 (Ne.symm c8)
      replace a8:=z8.blk a8 (Ne.symm e7)
      replace a7:=z8.blk a7 (Ne.symm e8)
      replace hZ:=hZ.upd z8 c7 (.inl (by simp))
      replace i2:=i2.only (Ze.of_upd (T:=[22]) z8 c7 (by decide)) (by decide)
      refine Qn (by kernel_rfl) (Xj (v:=.iface db (jt)) (b:=b4) (off:=0) rfl (by kernel_rfl) (by kernel_rfl) (by kernel_rfl) rfl c1 (by first|decide|simp) ?_)
      intro lv z7 jq
      change Blk _ _ [.iface db (jt)] _ at jq
      replace hB:=z7.below hB g4
      replace c3:=z7.blk c3 (Ne.symm (Ne.symm k0))
      replace c2:=z7.blk c2 (Ne.symm (Ne.symm j4))
      replace ey:=z7.blk ey (Ne.symm (Ne.symm c8))
      replace a8:=z7.blk a8 (Ne.symm f2)
      replace a7:=z7.blk a7 (Ne.symm e9)
      replace hZ:=hZ.upd z7 c1 (.inl (by simp))
      replace i2:=i2.only (Ze.of_upd (T:=[31]) z7 c1 (by decide)) (by decide)
      refine wpList_nil ?_
      refine wpIn_ret (Yg (Yg ?_))
      exact⟨hZ.ko.from _,rfl,_,_,_,_,(Zat t7 w3 (by omega) ((Hx _ _ 0 0 i _ ek hx rfl).trans rfl)),(by decide),ey,jq,i2,o5.trans hB⟩
     ·
      have g8:w.heap.size≤W.heap.size:=Nat.le_trans l1 hF.size
      have ef:=hI.below o5
      have hZ:RdS ba [b3,b4] W W:=RdS.refl _ hF.size
      have c3:=n5.fr hF (by simp only[List.mem_cons,List.not_mem_nil,or_false];omega)
      have c2:=m6.fr hF (by simp only[List.mem_cons,List.not_mem_nil,or_false];omega)
      have c7:=i3.fr hF (by simp only[List.mem_cons,List.not_mem_nil,or_false];omega)
      have c1:=i1.fr hF (by simp only[List.mem_cons,List.not_mem_nil,or_false];omega)
      have a8:=i9.fr hF (by simp only[List.mem_cons,List.not_mem_nil,or_false];omega)
      have a7:=i7.fr hF (by simp only[List.mem_cons,List.not_mem_nil,or_false];omega)
      refine Af { tmps:=#[P0 b,V0 top,V0 details,V0 data,V0 fuel,undef,P0 b1,P0 b2,undef,undef,P0 b3,P0 b4,P0 d5,.nilIface,P0 e6,.pointer (some ⟨s2,w2+3*ja,none⟩),.pointer none,undef,undef,undef,undef,undef,undef,.tuple #[.agg #[.slice pd ((Zd l details 3 fuel).es.length) cd,.slice d9 e0 e1,V0 e5,V0 e3,.slice e4 0 e2],.nilIface],P0 b,V0 details,V0 fuel,.tuple #[.agg #[.slice pd ((Zd l details 3 fuel).es.length) cd,.slice d9 e0 e1,V0 e5,V0 e3,.slice e4 0 e2],.nilIface],.agg #[.slice pd ((Zd l details 3 fuel).es.length) cd,.slice d9 e0 e1,V0 e5,V0 e3,.slice e4 0 e2],.nilIface,.nilIface,.bool false,undef,.tuple #[.agg #[.slice pt ((Zd l top 1 fuel).es.length) ct,.slice b9 b8 b5,V0 a9,V0 c0,.slice b7 0 b0],.nilIface],P0 b,V0 top,V0 fuel,.tuple #[.agg #[.slice pt ((Zd l top 1 fuel).es.length) ct,.slice b9 b8 b5,V0 a9,V0 c0,.slice b7 0 b0],.nilIface],.agg #[.slice pt ((Zd l top 1 fuel).es.length) ct,.slice b9 b8 b5,V0 a9,V0 c0,.slice b7 0 b0],.nilIface,.nilIface,.bool false,undef,P0 d5,.slice pd ((Zd l details 3 fuel).es.length) cd,V0 (↑((Zd l details 3 fuel).es.length):Int),.bool (decide ((↑((Zd l details 3 fuel).es.length):Int)>(4096:Int))),undef,undef,P0 d5,.slice pd ((Zd l details 3 fuel).es.length) cd,P0 e6,.slice pt ((Zd l top 1 fuel).es.length) ct,.func (.func 56) #[] #[P0 p1,P0 q1],.pointer (some ⟨s2,w2+3*ja,none⟩),.pointer none,undef,undef,undef,undef,undef,undef,undef,undef,undef,undef,undef,undef,undef,undef,undef,undef,undef,undef,undef,undef,undef,undef,undef,undef,undef,undef,undef,undef,undef,undef,undef,undef,undef,undef,undef,undef,undef,undef,undef,undef,undef],defers:=[] } rfl ?_
      refine wpIn_block ?_
      refine wpIn_block ?_
      refine wpIn_seq ?_
      refine Qv (fun⟨_,_,q⟩=>q) (by simp) ?_
      refine Hj 3 [(57,.pointer (some ⟨s2,w2+3*ja,none⟩)),(58,.bool false),(56,.bool false)] (by kernel_rfl) ?_
      refine wpList_nil ?_
      refine wpIn_cond_false (by kernel_rfl) ?_
      refine wpIn_seq ?_
      refine Qv (fun⟨_,_,q⟩=>q) (by simp) ?_
      refine Hj 3 [(62,.pointer none),(63,.bool true),(61,.bool true)] (by kernel_rfl) ?_
      refine wpList_nil ?_
      refine wpIn_cond_true (by kernel_rfl) ?_
      refine wpIn_seq ?_
      refine Qv (fun⟨_,_,q⟩=>q) (by simp) ?_
      refine Qn (by kernel_rfl) (Yk ⟨b1,0,none⟩ (V0 top) rfl (by kernel_rfl) (by kernel_rfl) (c3.cell (i:=0) rfl) ?_)
      refine Qn (by kernel_rfl) (Kj (lb:=#[]) 35 #[V0 top,V0 18] rfl (by kernel_rfl) (fun _ _=>by kernel_rfl) (by kernel_rfl) ((Km top 18 _ (by omega)).mono ?_))
      rintro e mt ⟨cn,je,rfl,m9,i2⟩
      refine⟨_,rfl,?_⟩
      have hB:=blB (Below.refl w.heap.size W) g8 m9
      replace c3:=c3.below m9
      replace c2:=c2.below m9
      replace c7:=c7.below m9
      replace c1:=c1.below m9
      replace a8:=a8.below m9
      replace a7:=a7.below m9
      replace hZ:=hZ.below m9
      refine Qn (by kernel_rfl) (Xj (v:=S0) (b:=b3) (off:=0) rfl (by kernel_rfl) (by kernel_rfl) (by kernel_rfl) rfl c7 (by first|decide|simp) ?_)
      intro ld z3 ej
      change Blk _ _ [S0] _ at ej
      replace hB:=z3.below hB g3
      replace c3:=z3.blk c3 (Ne.symm (Ne.symm j7))
      replace c2:=z3.blk c2 (Ne.symm (Ne.symm j8))
      replace c1:=z3.blk c1 (Ne.symm c8)
      replace a8:=z3.blk a8 (Ne.symm e7)
      replace a7:=z3.blk a7 (Ne.symm e8)
      replace hZ:=hZ.upd z3 c7 (.inl (by simp))
      replace i2:=i2.only (Ze.of_upd (T:=[22]) z3 c7 (by decide)) (by decide)
      refine Qn (by kernel_rfl) (Xj (v:=.iface cn (je)) (b:=b4) (off:=0) rfl (by kernel_rfl) (by kernel_rfl) (by kernel_rfl) rfl c1 (by first|decide|simp) ?_)
      intro mg aa iq
      change Blk _ _ [.iface cn (je)] _ at iq
      replace hB:=aa.below hB g4
      replace c3:=aa.blk c3 (Ne.symm (Ne.symm k0))
      replace c2:=aa.blk c2 (Ne.symm (Ne.symm j4))
      replace ej:=aa.blk ej (Ne.symm (Ne.symm c8))
      replace a8:=aa.blk a8 (Ne.symm f2)
      replace a7:=aa.blk a7 (Ne.symm e9)
      replace hZ:=hZ.upd aa c1 (.inl (by simp))
      replace i2:=i2.only (Ze.of_upd (T:=[31]) aa c1 (by decide)) (by decide)
      refine wpList_nil ?_
      refine wpIn_ret (Yg (Yg ?_))
      exact⟨hZ.ko.from _,rfl,_,_,_,_,(devsO_p2 t7 w3 (by omega) ((Hx _ _ 0 0 i _ ek hx rfl).trans rfl)),(by decide),ej,iq,i2,o5.trans hB⟩
     ·
      have g8:w.heap.size≤W.heap.size:=Nat.le_trans l1 hF.size
      have ef:=hI.below o5
      have hZ:RdS ba [b3,b4] W W:=RdS.refl _ hF.size
      have c3:=n5.fr hF (by simp only[List.mem_cons,List.not_mem_nil,or_false];omega)
      have c2:=m6.fr hF (by simp only[List.mem_cons,List.not_mem_nil,or_false];omega)
      have c7:=i3.fr hF (by simp only[List.mem_cons,List.not_mem_nil,or_false];omega)
      have c1:=i1.fr hF (by simp only[List.mem_cons,List.not_mem_nil,or_false];omega)
      have a8:=i9.fr hF (by simp only[List.mem_cons,List.not_mem_nil,or_false];omega)
      have a7:=i7.fr hF (by simp only[List.mem_cons,List.not_mem_nil,or_false];omega)
      refine Af { tmps:=#[P0 b,V0 top,V0 details,V0 data,V0 fuel,undef,P0 b1,P0 b2,undef,undef,P0 b3,P0 b4,P0 d5,.nilIface,P0 e6,.pointer (some ⟨s2,w2+3*ja,none⟩),.pointer (some ⟨s6,w4+3*jb,none⟩),undef,undef,undef,undef,undef,undef,.tuple #[.agg #[.slice pd ((Zd l details 3 fuel).es.length) cd,.slice d9 e0 e1,V0 e5,V0 e3,.slice e4 0 e2],.nilIface],P0 b,V0 details,V0 fuel,.tuple #[.agg #[.slice pd ((Zd l details 3 fuel).es.length) cd,.slice d9 e0 e1,V0 e5,V0 e3,.slice e4 0 e2],.nilIface],.agg #[.slice pd ((Zd l details 3 fuel).es.length) cd,.slice d9 e0 e1,V0 e5,V0 e3,.slice e4 0 e2],.nilIface,.nilIface,.bool false,undef,.tuple #[.agg #[.slice pt ((Zd l top 1 fuel).es.length) ct,.slice b9 b8 b5,V0 a9,V0 c0,.slice b7 0 b0],.nilIface],P0 b,V0 top,V0 fuel,.tuple #[.agg #[.slice pt ((Zd l top 1 fuel).es.length) ct,.slice b9 b8 b5,V0 a9,V0 c0,.slice b7 0 b0],.nilIface],.agg #[.slice pt ((Zd l top 1 fuel).es.length) ct,.slice b9 b8 b5,V0 a9,V0 c0,.slice b7 0 b0],.nilIface,.nilIface,.bool false,undef,P0 d5,.slice pd ((Zd l details 3 fuel).es.length) cd,V0 (↑((Zd l details 3 fuel).es.length):Int),.bool (decide ((↑((Zd l details 3 fuel).es.length):Int)>(4096:Int))),undef,undef,P0 d5,.slice pd ((Zd l details 3 fuel).es.length) cd,P0 e6,.slice pt ((Zd l top 1 fuel).es.length) ct,.func (.func 56) #[] #[P0 p1,P0 q1],.pointer (some ⟨s2,w2+3*ja,none⟩),.pointer (some ⟨s6,w4+3*jb,none⟩),undef,undef,undef,undef,undef,undef,undef,undef,undef,undef,undef,undef,undef,undef,undef,undef,undef,undef,undef,undef,undef,undef,undef,undef,undef,undef,undef,undef,undef,undef,undef,undef,undef,undef,undef,undef,undef,undef,undef,undef,undef],defers:=[] } rfl ?_
      refine wpIn_block ?_
      refine wpIn_block ?_
      refine wpIn_seq ?_
      refine Qv (fun⟨_,_,q⟩=>q) (by simp) ?_
      refine Hj 3 [(57,.pointer (some ⟨s2,w2+3*ja,none⟩)),(58,.bool false),(56,.bool false)] (by kernel_rfl) ?_
      refine wpList_nil ?_
      refine wpIn_cond_false (by kernel_rfl) ?_
      refine wpIn_seq ?_
      refine Qv (fun⟨_,_,q⟩=>q) (by simp) ?_
      refine Hj 3 [(62,.pointer (some ⟨s6,w4+3*jb,none⟩)),(63,.bool false),(61,.bool false)] (by kernel_rfl) ?_
      refine wpList_nil ?_
      refine wpIn_cond_false (by kernel_rfl) ?_
      refine wpIn_skip ?_
      exact⟨KeepsFrom.refl _ _,Keeps.refl _ _,o5,hF,Fc ek hx rfl⟩
    case stop =>
     rintro D c k V hD hk ⟨rfl,ty,v,bl,er,hO,hp,cg,j1,hv,hb⟩ w5
     have hK:Dfr D V:=w5
     refine wp_ret (Yg (Lc ?_))
     exact ret1 cg j1 hK (Zdj (.inr ⟨_,_,rfl⟩) (by kernel_rfl) (by kernel_rfl)) rfl (Ud hO hp (Po hb hb.size (Nat.le_trans l1 hD) _) (hv.pt hK _))
    case done =>
     rintro D1 W9 ie ⟨ku,z6,ay⟩ w5
     have hK:Dfr D1 W9:=w5;clear w5
     rw[List.take_length] at ay
     have dp:=ay
     have eg:=(Lv _ _ 0 0 ay).1
     have jz:=(Dx eg).1
     have d4:=n5.fr z6 (by simp only[List.mem_cons,List.not_mem_nil,or_false];omega)
     have d1:=m6.fr z6 (by simp only[List.mem_cons,List.not_mem_nil,or_false];omega)
     have d3:=i3.fr z6 (by simp only[List.mem_cons,List.not_mem_nil,or_false];omega)
     have d2:=i1.fr z6 (by simp only[List.mem_cons,List.not_mem_nil,or_false];omega)
     have c4:=i9.fr z6 (by simp only[List.mem_cons,List.not_mem_nil,or_false];omega)
     have c5:=i7.fr z6 (by simp only[List.mem_cons,List.not_mem_nil,or_false];omega)
     have s4:=Dk bz z6 (fun d hd=>by simp only[List.mem_cons,List.not_mem_nil,or_false];rintro(h|h);exact Xc bz z1 (by decide) d hd h;exact Xc bz y7 (by decide) d hd h)
     have s5:=Dk cc z6 (fun d hd=>by simp only[List.mem_cons,List.not_mem_nil,or_false];rintro(h|h);exact Xc cc z1 (by decide) d hd h;exact Xc cc y7 (by decide) d hd h)
     replace hB:=ku
     refine wp_seq ?_
     refine wp_region_lit ?_
     refine Hj 4 [(66,P0 b),(67,V0 data),(68,V0 fuel),(69,.agg #[P0 b,V0 data,V0 fuel,V0 0])] (by kernel_rfl) ?_
     refine Qn (by kernel_rfl) (Tp [P0 b,V0 data,V0 fuel,V0 0] rfl (by kernel_rfl) ?_)
     intro g9 lk m3
     have ah:=m3.ne d4
     have al:=m3.ne d1
     have bp:=m3.ne d3
     have bg:=m3.ne d2
     have x6:=m3.ne c4
     have w9:=m3.ne c5
     have kf:=m3.ge hB
     replace hB:=bln hB m3.below
     replace d4:=d4.below m3.below
     replace d1:=d1.below m3.below
     replace d3:=d3.below m3.below
     replace d2:=d2.below m3.below
     replace c4:=c4.below m3.below
     replace c5:=c5.below m3.below
     replace s4:=Zb s4 m3.below
     replace s5:=Zb s5 m3.below
     replace hK:=hK.below m3.below
     have s1:=m3.blk
     refine Qn (by kernel_rfl) (Qw [.pointer none] rfl (by kernel_rfl) ?_)
     intro z4 li j6
     have bt:=j6.ne d4
     have af:=j6.ne d1
     have m1:=j6.ne d3
     have k5:=j6.ne d2
     have y1:=j6.ne c4
     have w7:=j6.ne c5
     have r7:=j6.ne s1
     have kj:=j6.ge hB
     replace hB:=bln hB j6.below
     replace d4:=d4.below j6.below
     replace d1:=d1.below j6.below
     replace d3:=d3.below j6.below
     replace d2:=d2.below j6.below
     replace c4:=c4.below j6.below
     replace c5:=c5.below j6.below
     replace s1:=s1.below j6.below
     replace s4:=Zb s4 j6.below
     replace s5:=Zb s5 j6.below
     replace hK:=hK.below j6.below
     have dy:=j6.blk
     refine Qn (by kernel_rfl) (Xj (v:=P0 g9) (b:=z4) (off:=0) rfl (by kernel_rfl) (by kernel_rfl) (by kernel_rfl) rfl dy (by first|decide|simp) ?_)
     intro mu t6 y8
     change Blk _ _ [P0 g9] _ at y8
     replace hB:=t6.below hB kj
     replace d4:=t6.blk d4 (Ne.symm (Ne.symm bt))
     replace d1:=t6.blk d1 (Ne.symm (Ne.symm af))
     replace d3:=t6.blk d3 (Ne.symm (Ne.symm m1))
     replace d2:=t6.blk d2 (Ne.symm (Ne.symm k5))
     replace c4:=t6.blk c4 (Ne.symm (Ne.symm y1))
     replace c5:=t6.blk c5 (Ne.symm (Ne.symm w7))
     replace s1:=t6.blk s1 (Ne.symm (Ne.symm r7))
     replace s4:=t6.own2 s4 dy (by decide)
     replace s5:=t6.own2 s5 dy (by decide)
     replace hK:=hK.upd t6 dy
     refine wpList_nil ?_
     refine wp_seq ?_
     refine wp_region_lit ?_
     refine Qn (by kernel_rfl) (Qw [S0] rfl (by kernel_rfl) ?_)
     intro i8 ms j0
     have p9:=j0.ne d4
     have o8:=j0.ne d1
     have g7:=j0.ne d3
     have g5:=j0.ne d2
     have l6:=j0.ne c4
     have l8:=j0.ne c5
     have r3:=j0.ne s1
     have l7:=j0.ne y8
     have ih:=j0.ge hB
     replace hB:=bln hB j0.below
     replace d4:=d4.below j0.below
     replace d1:=d1.below j0.below
     replace d3:=d3.below j0.below
     replace d2:=d2.below j0.below
     replace c4:=c4.below j0.below
     replace c5:=c5.below j0.below
     replace s1:=s1.below j0.below
     replace y8:=y8.below j0.below
     replace s4:=Zb s4 j0.below
     replace s5:=Zb s5 j0.below
     replace hK:=hK.below j0.below
     have cs:=j0.blk
     refine wpList_nil ?_
     refine wp_seq ?_
     refine wp_seq ?_
     refine wp_region_lit ?_
     refine Hj 1 [(71,P0 d5)] (by kernel_rfl) ?_
     refine Qn (by kernel_rfl) (Yk ⟨d5,0,none⟩ (.slice pd ((Zd l details 3 fuel).es.length) cd) rfl (by kernel_rfl) (by kernel_rfl) (c4.cell (i:=0) rfl) ?_)
     refine Hj 1 [(73,P0 e6)] (by kernel_rfl) ?_
     refine Qn (by kernel_rfl) (Yk ⟨e6,0,none⟩ (.slice pt ((Zd l top 1 fuel).es.length) ct) rfl (by kernel_rfl) (by kernel_rfl) (c5.cell (i:=0) rfl) ?_)
     have fs:=Zf s4
     have fu:=Zf s5
     have cy:=hB.size
     have gh:=d4.lt
     have gw:=d1.lt
     have gy:=d3.lt
     have hu:=d2.lt
     have fo:=c4.lt
     have fb:=c5.lt
     have ds:=s1.lt
     have et:=y8.lt
     have du:=cs.lt
     refine Qn (by kernel_rfl) (Kj (lb:=#[]) 36 #[.slice pd ((Zd l details 3 fuel).es.length) cd,.slice pt ((Zd l top 1 fuel).es.length) ct] rfl (by kernel_rfl) (fun _ _=>by kernel_rfl) (by kernel_rfl) ((Cs pd (Zd l details 3 fuel).es.length cd pt (Zd l top 1 fuel).es.length ct _).mono ?_))
     rintro e bd ⟨p2,q2,rfl,f8,dg,dq,gs,bo,br⟩
     refine⟨_,rfl,?_⟩
     replace hB:=bln hB f8
     replace d4:=d4.below f8
     replace d1:=d1.below f8
     replace d3:=d3.below f8
     replace d2:=d2.below f8
     replace c4:=c4.below f8
     replace c5:=c5.below f8
     replace s1:=s1.below f8
     replace y8:=y8.below f8
     replace cs:=cs.below f8
     replace s4:=Zb s4 f8
     replace s5:=Zb s5 f8
     replace hK:=hK.below f8
     refine wpList_nil ?_
     refine wp_block ?_
     obtain⟨ap,fc,bm,ex,gd,s3,s0⟩:=Ti (A:=(Zd l details 3 fuel).es) (E:=(Zd l top 1 fuel).es) rfl rfl (by omega) (by omega) fs fu f8 dg dq gs bo br
     have l5:w.heap.size≤bd.heap.size:=hB.size
     have ks:w.heap.size≤p2:=Nat.le_trans cy dg
     have ke:w.heap.size≤q2:=Nat.le_trans cy dq
     have x8:=bo.lt
     have x3:=br.lt
     have gk:=hB
     have z5:=d4
     have z9:=d1
     have j5:=d3
     have j9:=d2
     have t3:=c4
     have v4:=c5
     have i5:=s1
     have v6:=y8
     have i4:=cs
     have v5:=bo
     have v8:=br
     have v9:=s4
     have w0:=s5
     have ix:w.heap.size≤g9:=kf
     have q6:b1≠g9:=(Ne.symm (Ne.symm ah))
     have r2:b1≠i8:=(Ne.symm (Ne.symm p9))
     have r1:b2≠g9:=(Ne.symm (Ne.symm al))
     have q9:b2≠i8:=(Ne.symm (Ne.symm o8))
     have r4:b3≠g9:=(Ne.symm (Ne.symm bp))
     have q7:b3≠i8:=(Ne.symm (Ne.symm g7))
     have r5:b4≠g9:=(Ne.symm (Ne.symm bg))
     have r8:b4≠i8:=(Ne.symm (Ne.symm g5))
     have n9:d5≠g9:=(Ne.symm (Ne.symm x6))
     have o0:d5≠i8:=(Ne.symm (Ne.symm l6))
     have o2:e6≠g9:=(Ne.symm (Ne.symm w9))
     have m7:e6≠i8:=(Ne.symm (Ne.symm l8))
     have m8:z4≠g9:=(Ne.symm r7)
     have n0:z4≠i8:=(Ne.symm (Ne.symm l7))
     have kt:g9≠p2:=by omega
     have jw:g9≠q2:=by omega
     have ka:i8≠p2:=by omega
     have jy:i8≠q2:=by omega
     have bs:∀ d,(fun d=>d=p2∨d=q2∨((Zd l details 3 fuel).es.length≠0∧d=ap)∨((Zd l top 1 fuel).es.length≠0∧d=bm)) d→d<bd.heap.size:=by
      rintro d (rfl|rfl|⟨h,rfl⟩|⟨h,rfl⟩)
      ·exact x8
      ·exact x3
      ·exact(v9.lt _ (by rw[s3 h];rfl)).2
      ·exact(w0.lt _ (by rw[s0 h];rfl)).2
     have cx:∀ d,(fun d=>d=p2∨d=q2∨((Zd l details 3 fuel).es.length≠0∧d=ap)∨((Zd l top 1 fuel).es.length≠0∧d=bm)) d→d∉[b3,b4,g9,i8]:=by
      rintro d (rfl|rfl|⟨h,rfl⟩|⟨h,rfl⟩)<;>simp only[List.mem_cons,List.not_mem_nil,or_false]
      ·omega
      ·omega
      ·rintro(h9|h9|h9|h9)
       ·exact Xc v9 j5 (by decide) _ (by rw[s3 h];rfl) h9
       ·exact Xc v9 j9 (by decide) _ (by rw[s3 h];rfl) h9
       ·exact Xc v9 i5 (by decide) _ (by rw[s3 h];rfl) h9
       ·exact Xc v9 i4 (by decide) _ (by rw[s3 h];rfl) h9
      ·rintro(h9|h9|h9|h9)
       ·exact Xc w0 j5 (by decide) _ (by rw[s0 h];rfl) h9
       ·exact Xc w0 j9 (by decide) _ (by rw[s0 h];rfl) h9
       ·exact Xc w0 i5 (by decide) _ (by rw[s0 h];rfl) h9
       ·exact Xc w0 i4 (by decide) _ (by rw[s0 h];rfl) h9
     have bc:D1<bd.heap.size:=(Array.getElem?_eq_some_iff.1 hK).1
     have fx:D1∉[p2,q2,g9,i8]:=by simp only[List.mem_cons,List.not_mem_nil,or_false];rintro(h9|h9|h9|h9);exact(hK.ne v5) h9.symm;exact(hK.ne v8) h9.symm;exact(hK.ne i5) h9.symm;exact(hK.ne i4) h9.symm
     have fz:=hK
     refine g_fr ⟨#[P0 b,V0 top,V0 details,V0 data,V0 fuel,undef,P0 b1,P0 b2,undef,undef,P0 b3,P0 b4,P0 d5,.nilIface,P0 e6,undef,undef,P0 z4,P0 i8,undef,undef,undef,undef,.tuple #[.agg #[.slice pd ((Zd l details 3 fuel).es.length) cd,.slice d9 e0 e1,V0 e5,V0 e3,.slice e4 0 e2],.nilIface],P0 b,V0 details,V0 fuel,.tuple #[.agg #[.slice pd ((Zd l details 3 fuel).es.length) cd,.slice d9 e0 e1,V0 e5,V0 e3,.slice e4 0 e2],.nilIface],.agg #[.slice pd ((Zd l details 3 fuel).es.length) cd,.slice d9 e0 e1,V0 e5,V0 e3,.slice e4 0 e2],.nilIface,.nilIface,.bool false,undef,.tuple #[.agg #[.slice pt ((Zd l top 1 fuel).es.length) ct,.slice b9 b8 b5,V0 a9,V0 c0,.slice b7 0 b0],.nilIface],P0 b,V0 top,V0 fuel,.tuple #[.agg #[.slice pt ((Zd l top 1 fuel).es.length) ct,.slice b9 b8 b5,V0 a9,V0 c0,.slice b7 0 b0],.nilIface],.agg #[.slice pt ((Zd l top 1 fuel).es.length) ct,.slice b9 b8 b5,V0 a9,V0 c0,.slice b7 0 b0],.nilIface,.nilIface,.bool false,undef,P0 d5,.slice pd ((Zd l details 3 fuel).es.length) cd,V0 (↑((Zd l details 3 fuel).es.length):Int),.bool (decide ((↑((Zd l details 3 fuel).es.length):Int)>(4096:Int))),undef,undef,P0 d5,.slice pd ((Zd l details 3 fuel).es.length) cd,P0 e6,.slice pt ((Zd l top 1 fuel).es.length) ct,.func (.func 56) #[] #[P0 p1,P0 q1],undef,undef,undef,undef,undef,undef,undef,undef,undef,undef,undef,undef,P0 b,V0 data,V0 fuel,.agg #[P0 b,V0 data,V0 fuel,V0 0],P0 g9,P0 d5,.slice pd ((Zd l details 3 fuel).es.length) cd,P0 e6,.slice pt ((Zd l top 1 fuel).es.length) ct,.func (.func 56) #[] #[P0 p2,P0 q2],undef,undef,undef,undef,undef,undef,undef,undef,undef,undef,undef,undef,undef,undef,undef,undef,undef,undef,undef,undef,undef],[{ target:=.collected D1,args:=#[] }]⟩ (by kernel_rfl) ?_
     refine Tb (g:=.tmp 75) (gf:=56) (lb:=#[P0 p2,P0 q2]) rfl (enters_of Tryz.func56 (by kernel_rfl) rfl) (fun d=>d=p2∨d=q2∨((Zd l details 3 fuel).es.length≠0∧d=ap)∨((Zd l top 1 fuel).es.length≠0∧d=bm)) (fun d=>d=p2∨d=q2) bs (fun d h=>h.elim (fun q=>q▸x8) (fun q=>q▸x3)) gd (fun _=>rfl)
      (fun i V=>B0 w V∧Fr [p2,q2,g9,i8] bd V∧Blk V g9 [P0 b,V0 data,V0 fuel,V0 (↑(sumL l (Zd l top 1 fuel).es data fuel i):Int)] 97∧(sumL l (Zd l top 1 fuel).es data fuel i)≤16384∧devK l (Zd l details 3 fuel).es (Zd l top 1 fuel).es data fuel i∧∃ (p:O0) (c:Nat) (Z:List Zv),Blk V i8 [.slice p i c] 22∧V.ownsRow bd.heap.size 40 5 (.slice p i c) i (Z.flatMap Cx)∧Xr bd.heap.size V Z∧Z.length=i∧Z.map Prod.fst=devL l (Zd l details 3 fuel).es (Zd l top 1 fuel).es data fuel i)
      (fun c i V=>c=.ret∧Dfr D1 V∧Zfj (Vv l top details data fuel) w b3 b4 V) ?own (fun c k A B ha h hg hr=>⟨h.1,(hg.block D1 (Array.getElem?_eq_some_iff.1 h.2.1).1 (fun e=>by have:=(hr _ e.symm).1;omega)).trans h.2.1,h.2.2.ab (q:=fun _=>False) hg hr l5⟩) ?start
      (fun x=>{ tmps:=#[P0 b,V0 top,V0 details,V0 data,V0 fuel,undef,P0 b1,P0 b2,undef,undef,P0 b3,P0 b4,P0 d5,.nilIface,P0 e6,undef,undef,P0 z4,P0 i8,(Lf ap fc x.1),(Lf bm ex x.2),undef,undef,.tuple #[.agg #[.slice pd ((Zd l details 3 fuel).es.length) cd,.slice d9 e0 e1,V0 e5,V0 e3,.slice e4 0 e2],.nilIface],P0 b,V0 details,V0 fuel,.tuple #[.agg #[.slice pd ((Zd l details 3 fuel).es.length) cd,.slice d9 e0 e1,V0 e5,V0 e3,.slice e4 0 e2],.nilIface],.agg #[.slice pd ((Zd l details 3 fuel).es.length) cd,.slice d9 e0 e1,V0 e5,V0 e3,.slice e4 0 e2],.nilIface,.nilIface,.bool false,undef,.tuple #[.agg #[.slice pt ((Zd l top 1 fuel).es.length) ct,.slice b9 b8 b5,V0 a9,V0 c0,.slice b7 0 b0],.nilIface],P0 b,V0 top,V0 fuel,.tuple #[.agg #[.slice pt ((Zd l top 1 fuel).es.length) ct,.slice b9 b8 b5,V0 a9,V0 c0,.slice b7 0 b0],.nilIface],.agg #[.slice pt ((Zd l top 1 fuel).es.length) ct,.slice b9 b8 b5,V0 a9,V0 c0,.slice b7 0 b0],.nilIface,.nilIface,.bool false,undef,P0 d5,.slice pd ((Zd l details 3 fuel).es.length) cd,V0 (↑((Zd l details 3 fuel).es.length):Int),.bool (decide ((↑((Zd l details 3 fuel).es.length):Int)>(4096:Int))),undef,undef,P0 d5,.slice pd ((Zd l details 3 fuel).es.length) cd,P0 e6,.slice pt ((Zd l top 1 fuel).es.length) ct,.func (.func 56) #[] #[P0 p1,P0 q1],undef,undef,undef,undef,undef,undef,undef,undef,undef,undef,undef,undef,P0 b,V0 data,V0 fuel,.agg #[P0 b,V0 data,V0 fuel,V0 0],P0 g9,P0 d5,.slice pd ((Zd l details 3 fuel).es.length) cd,P0 e6,.slice pt ((Zd l top 1 fuel).es.length) ct,.func (.func 56) #[] #[P0 p2,P0 q2],(Lf ap fc x.1),(Lf bm ex x.2),undef,undef,undef,undef,undef,undef,undef,undef,undef,undef,undef,undef,undef,undef,undef,undef,undef,undef,undef],defers:=[] }) ?assign ?body ?done ?stop
     case own =>
      rintro k A B ha ⟨h1,h2,h3,h4,h5,p,c,Z,h6,h7,h8,h9,ki⟩ hg hr
      exact⟨Oj h1 hg hr (Nat.le_refl _) l5 (fun r q=>by rcases q with rfl|rfl;exact ks;exact ke),fr_ab h2 hg hr (fun r h=>by rcases h with rfl|rfl<;>simp),blk_ab h3 hg hr (fun r q=>by rcases q with rfl|rfl;exact kt;exact jw),h4,h5,p,c,Z,blk_ab h6 hg hr (fun r q=>by rcases q with rfl|rfl;exact ka;exact jy),own_ab h7 hg hr (fun r q=>by rcases q with rfl|rfl;exact x8;exact x3),h8.ab hg hr (fun r q=>by rcases q with rfl|rfl;exact x8;exact x3),h9,ki⟩
     case start =>
      exact⟨gk,Fr.refl _ _,s1,Nat.zero_le _,fun j hj=>absurd hj (by omega),none,0,[],cs,World.ownsRow_nil _ _ _ _,Xr.nil _ _,rfl,rfl⟩
     case assign =>
      intro lr i x W K hx hK
      refine Af { tmps:=#[P0 b,V0 top,V0 details,V0 data,V0 fuel,undef,P0 b1,P0 b2,undef,undef,P0 b3,P0 b4,P0 d5,.nilIface,P0 e6,undef,undef,P0 z4,P0 i8,undef,undef,undef,undef,.tuple #[.agg #[.slice pd ((Zd l details 3 fuel).es.length) cd,.slice d9 e0 e1,V0 e5,V0 e3,.slice e4 0 e2],.nilIface],P0 b,V0 details,V0 fuel,.tuple #[.agg #[.slice pd ((Zd l details 3 fuel).es.length) cd,.slice d9 e0 e1,V0 e5,V0 e3,.slice e4 0 e2],.nilIface],.agg #[.slice pd ((Zd l details 3 fuel).es.length) cd,.slice d9 e0 e1,V0 e5,V0 e3,.slice e4 0 e2],.nilIface,.nilIface,.bool false,undef,.tuple #[.agg #[.slice pt ((Zd l top 1 fuel).es.length) ct,.slice b9 b8 b5,V0 a9,V0 c0,.slice b7 0 b0],.nilIface],P0 b,V0 top,V0 fuel,.tuple #[.agg #[.slice pt ((Zd l top 1 fuel).es.length) ct,.slice b9 b8 b5,V0 a9,V0 c0,.slice b7 0 b0],.nilIface],.agg #[.slice pt ((Zd l top 1 fuel).es.length) ct,.slice b9 b8 b5,V0 a9,V0 c0,.slice b7 0 b0],.nilIface,.nilIface,.bool false,undef,P0 d5,.slice pd ((Zd l details 3 fuel).es.length) cd,V0 (↑((Zd l details 3 fuel).es.length):Int),.bool (decide ((↑((Zd l details 3 fuel).es.length):Int)>(4096:Int))),undef,undef,P0 d5,.slice pd ((Zd l details 3 fuel).es.length) cd,P0 e6,.slice pt ((Zd l top 1 fuel).es.length) ct,.func (.func 56) #[] #[P0 p1,P0 q1],undef,undef,undef,undef,undef,undef,undef,undef,undef,undef,undef,undef,P0 b,V0 data,V0 fuel,.agg #[P0 b,V0 data,V0 fuel,V0 0],P0 g9,P0 d5,.slice pd ((Zd l details 3 fuel).es.length) cd,P0 e6,.slice pt ((Zd l top 1 fuel).es.length) ct,.func (.func 56) #[] #[P0 p2,P0 q2],(Lf ap fc x.1),(Lf bm ex x.2),undef,undef,undef,undef,undef,undef,undef,undef,undef,undef,undef,undef,undef,undef,undef,undef,undef,undef,undef],defers:=[] } (by kernel_rfl) ?_
      refine wpIn_seq ?_
      refine Qv (fun⟨_,_,q⟩=>q) (by simp) ?_
      refine Hj 1 [(19,(Lf ap fc x.1))] (by kernel_rfl) ?_
      refine wpList_nil ?_
      refine Qv (fun⟨_,_,q⟩=>q) (by simp) ?_
      refine Hj 1 [(20,(Lf bm ex x.2))] (by kernel_rfl) ?_
      refine wpList_nil ?_
      exact hK
     case body =>
      rintro lr i x W kk hx ⟨o5,hF,kl,hn,bj,p,cp,Z,k8,ho,d0,dl,di⟩
      obtain⟨mj,rfl⟩:=(Em dp).2 _ _ hx
      have mc:(Zd l details 3 fuel).es.length=(Zd l top 1 fuel).es.length:=jz
      have g8:w.heap.size≤W.heap.size:=Nat.le_trans l5 hF.size
      have ef:=hI.below o5
      have hZ:RdS bd [b3,b4,g9,i8] W W:=RdS.refl _ hF.size
      have a6:=z5.fr hF (by simp only[List.mem_cons,List.not_mem_nil,or_false];rintro(h|h|h|h);omega;omega;exact q6 h;exact r2 h)
      have a5:=z9.fr hF (by simp only[List.mem_cons,List.not_mem_nil,or_false];rintro(h|h|h|h);omega;omega;exact r1 h;exact q9 h)
      have a4:=j5.fr hF (by simp only[List.mem_cons,List.not_mem_nil,or_false];rintro(h|h|h|h);omega;omega;exact r4 h;exact q7 h)
      have a3:=j9.fr hF (by simp only[List.mem_cons,List.not_mem_nil,or_false];rintro(h|h|h|h);omega;omega;exact r5 h;exact r8 h)
      have a0:=t3.fr hF (by simp only[List.mem_cons,List.not_mem_nil,or_false];rintro(h|h|h|h);omega;omega;exact n9 h;exact o0 h)
      have a1:=v4.fr hF (by simp only[List.mem_cons,List.not_mem_nil,or_false];rintro(h|h|h|h);omega;omega;exact o2 h;exact m7 h)
      have a2:=v6.fr hF (by simp only[List.mem_cons,List.not_mem_nil,or_false];rintro(h|h|h|h);omega;omega;exact m8 h;exact n0 h)
      have ea:=Ot (i:=i) (s3 (by omega))
      have eb:=Ot (i:=i) (s0 (by omega))
      refine Af { tmps:=#[P0 b,V0 top,V0 details,V0 data,V0 fuel,undef,P0 b1,P0 b2,undef,undef,P0 b3,P0 b4,P0 d5,.nilIface,P0 e6,undef,undef,P0 z4,P0 i8,.pointer (some (Zw pd (i*3))),.pointer (some (Zw pt (i*3))),undef,undef,.tuple #[.agg #[.slice pd ((Zd l details 3 fuel).es.length) cd,.slice d9 e0 e1,V0 e5,V0 e3,.slice e4 0 e2],.nilIface],P0 b,V0 details,V0 fuel,.tuple #[.agg #[.slice pd ((Zd l details 3 fuel).es.length) cd,.slice d9 e0 e1,V0 e5,V0 e3,.slice e4 0 e2],.nilIface],.agg #[.slice pd ((Zd l details 3 fuel).es.length) cd,.slice d9 e0 e1,V0 e5,V0 e3,.slice e4 0 e2],.nilIface,.nilIface,.bool false,undef,.tuple #[.agg #[.slice pt ((Zd l top 1 fuel).es.length) ct,.slice b9 b8 b5,V0 a9,V0 c0,.slice b7 0 b0],.nilIface],P0 b,V0 top,V0 fuel,.tuple #[.agg #[.slice pt ((Zd l top 1 fuel).es.length) ct,.slice b9 b8 b5,V0 a9,V0 c0,.slice b7 0 b0],.nilIface],.agg #[.slice pt ((Zd l top 1 fuel).es.length) ct,.slice b9 b8 b5,V0 a9,V0 c0,.slice b7 0 b0],.nilIface,.nilIface,.bool false,undef,P0 d5,.slice pd ((Zd l details 3 fuel).es.length) cd,V0 (↑((Zd l details 3 fuel).es.length):Int),.bool (decide ((↑((Zd l details 3 fuel).es.length):Int)>(4096:Int))),undef,undef,P0 d5,.slice pd ((Zd l details 3 fuel).es.length) cd,P0 e6,.slice pt ((Zd l top 1 fuel).es.length) ct,.func (.func 56) #[] #[P0 p1,P0 q1],undef,undef,undef,undef,undef,undef,undef,undef,undef,undef,undef,undef,P0 b,V0 data,V0 fuel,.agg #[P0 b,V0 data,V0 fuel,V0 0],P0 g9,P0 d5,.slice pd ((Zd l details 3 fuel).es.length) cd,P0 e6,.slice pt ((Zd l top 1 fuel).es.length) ct,.func (.func 56) #[] #[P0 p2,P0 q2],.pointer (some (Zw pd (i*3))),.pointer (some (Zw pt (i*3))),undef,undef,undef,undef,undef,undef,undef,undef,undef,undef,undef,undef,undef,undef,undef,undef,undef,undef,undef],defers:=[] } (by simp only[ea,eb]) ?_
      have d6:=Dk v9 hF (fun d hd=>by simp only[List.mem_cons,List.not_mem_nil,or_false];rintro(h|h|h|h);exact Xc v9 v5 (by decide) d hd h;exact Xc v9 v8 (by decide) d hd h;exact Xc v9 i5 (by decide) d hd h;exact Xc v9 i4 (by decide) d hd h)
      have d7:=Dk w0 hF (fun d hd=>by simp only[List.mem_cons,List.not_mem_nil,or_false];rintro(h|h|h|h);exact Xc w0 v5 (by decide) d hd h;exact Xc w0 v8 (by decide) d hd h;exact Xc w0 i5 (by decide) d hd h;exact Xc w0 i4 (by decide) d hd h)
      refine wpIn_block ?_
      refine wpIn_seq ?_
      have hB:=blB (Below.refl w.heap.size W) g8 (Za W)
      replace a6:=a6.below (Za W)
      replace a5:=a5.below (Za W)
      replace a4:=a4.below (Za W)
      replace a3:=a3.below (Za W)
      replace a0:=a0.below (Za W)
      replace a1:=a1.below (Za W)
      replace kl:=kl.below (Za W)
      replace a2:=a2.below (Za W)
      replace k8:=k8.below (Za W)
      replace hZ:=hZ.below (Za W)
      replace d6:=Zb d6 (Za W)
      replace d7:=Zb d7 (Za W)
      replace ho:=Zb ho (Za W)
      replace d0:=d0.below (Za W)
      refine h_regIn (fun V=>Below w.heap.size (W.drew) V∧Ze [97] (W.drew) V) 14 rfl #[false,false,false,false,false,false,false,false,false,false,false,false,false,false] rfl (by kernel_rfl) (fun⟨_,_,q⟩=>q) (by simp) ⟨Below.refl _ _,Ze.refl _ _⟩ ?_
      intro h0
      have t4:=hB
      have fa:=a6
      have fe:=a5
      have ec:=a4
      have dv:=a3
      have dj:=a0
      have dd:=a1
      have dm:=kl
      have u1:=a2
      have da:=k8
      have bh:=d6
      have ac:=d7
      have jn:=ho
      refine h_load 0 13 rfl ⟨z4,0,none⟩ (P0 g9) rfl (by kernel_rfl) (by kernel_rfl) (by kernel_rfl) (fun _ _ _ _ _ h=>h) (by kernel_rfl) rfl (by kernel_rfl) (by kernel_rfl) (fun V hV=>((u1.only hV.2 (by decide)).cell (i:=0) rfl)) h0 ?_
      refine Zan [1,2] 11 rfl #[true,true,true,false,false,false,false,false,false,false,false,false,false,false] [(80,.pointer (some (Zw pd (i*3)))),(81,.pointer (some (Zw pd (i*3))))] (by kernel_rfl) (fun _ _ _ _ _ h=>h) (by kernel_rfl) h0 ?_
      refine h_val 3 10 rfl (.agg #[V0 (((Zd l details 3 fuel).es.getD i Zi).1),.string ⟨(((Zd l details 3 fuel).es.getD i Zi).2.1).toArray⟩,V0 (((Zd l details 3 fuel).es.getD i Zi).2.2)]) rfl (by kernel_rfl) (by kernel_rfl) (by kernel_rfl) (fun _ _ _ _ _ h=>h) (by kernel_rfl) (fun V hV=>Dt (k:=i) Xn Zi _ rfl (by kernel_rfl) (Zf (Zg bh hV.2 (by decide))) (by omega) (by decide) Tryz.underlying45 rfl (by kernel_rfl)) h0 ?_
      refine Zan [4,5] 8 rfl #[true,true,true,true,true,true,false,false,false,false,false,false,false,false] [(83,.pointer (some (Zw pt (i*3)))),(84,.pointer (some (Zw pt (i*3))))] (by kernel_rfl) (fun _ _ _ _ _ h=>h) (by kernel_rfl) h0 ?_
      refine h_val 6 7 rfl (.agg #[V0 (((Zd l top 1 fuel).es.getD i Zi).1),.string ⟨(((Zd l top 1 fuel).es.getD i Zi).2.1).toArray⟩,V0 (((Zd l top 1 fuel).es.getD i Zi).2.2)]) rfl (by kernel_rfl) (by kernel_rfl) (by kernel_rfl) (fun _ _ _ _ _ h=>h) (by kernel_rfl) (fun V hV=>Dt (k:=i) Xn Zi _ rfl (by kernel_rfl) (Zf (Zg ac hV.2 (by decide))) (by omega) (by decide) Tryz.underlying45 rfl (by kernel_rfl)) h0 ?_
      refine h_two 7 11 6 rfl (by kernel_rfl) rfl rfl (by kernel_rfl) (by kernel_rfl) ?_ ?_
      ·have dr:=kl
       have fp:=Nat.le_trans hF.size hZ.le
       refine Kj (lb:=#[]) 37 #[P0 g9,.agg #[V0 (((Zd l details 3 fuel).es.getD i Zi).1),.string ⟨(((Zd l details 3 fuel).es.getD i Zi).2.1).toArray⟩,V0 (((Zd l details 3 fuel).es.getD i Zi).2.2)],.agg #[V0 (((Zd l top 1 fuel).es.getD i Zi).1),.string ⟨(((Zd l top 1 fuel).es.getD i Zi).2.1).toArray⟩,V0 (((Zd l top 1 fuel).es.getD i Zi).2.2)]] rfl (by kernel_rfl) (fun _ _=>by kernel_rfl) (by kernel_rfl) ((Br w.heap.size Bi g9 b pi ni ci l data fuel (sumL l (Zd l top 1 fuel).es data fuel i) ((Zd l details 3 fuel).es.getD i Zi) ((Zd l top 1 fuel).es.getD i Zi) _ (hI.below (o5.trans hB)) kl hfu (Jd _ _ _ _ i (by omega)) (Jd _ _ _ _ i (by omega)) hn ix (Nat.le_trans g8 hB.size)).mono ?_)
       rintro e fd hm
       rcases hm with ⟨t0,q3,vd,rfl,v0,c9,bn,d8⟩|⟨t0,pm,cm,rfl,v0,c9,bn,g0,i0⟩
       ·refine⟨_,rfl,?_⟩
        replace hB:=hB.trans v0
        replace a6:=a6.only c9 (by decide)
        replace a5:=a5.only c9 (by decide)
        replace a4:=a4.only c9 (by decide)
        replace a3:=a3.only c9 (by decide)
        replace a0:=a0.only c9 (by decide)
        replace a1:=a1.only c9 (by decide)
        replace a2:=a2.only c9 (by decide)
        replace k8:=k8.only c9 (by decide)
        replace hZ:=hZ.frm bn dr (by simp)
        replace d6:=Zg d6 c9 (by decide)
        replace d7:=Zg d7 c9 (by decide)
        replace ho:=Zg ho c9 (by decide)
        replace d0:=d0.only c9 (by decide)
        have t5:Below w.heap.size (W.drew) (fd)∧Ze [97] (W.drew) (fd):=⟨h0.1.trans v0,h0.2.trans c9⟩
        refine⟨t5,?_⟩
        refine Zan [8,9,10] 3 rfl #[true,true,true,true,true,true,true,true,true,true,true,false,false,false] [(78,.tuple #[.agg #[V0 0,V0 0,V0 0,V0 0,S0],.iface q3 (vd)]),(87,.agg #[V0 0,V0 0,V0 0,V0 0,S0]),(88,.iface q3 (vd))] (by kernel_rfl) (fun _ _ _ _ _ h=>h) (by kernel_rfl) t5 ?_
        refine Gs 11 2 rfl (by kernel_rfl) rfl (by kernel_rfl) (Qw [V0 0,V0 0,V0 0,V0 0,S0] rfl (by kernel_rfl) ?_)
        intro jp ii f7
        have aj:=f7.ne a6
        have ar:=f7.ne a5
        have t2:=f7.ne a4
        have u0:=f7.ne a3
        have x2:=f7.ne a0
        have x5:=f7.ne a1
        have w6:=f7.ne a2
        have w8:=f7.ne k8
        have jg:=f7.ge0 hB
        have ad:=Xa ho f7
        have t1:(W.drew).heap.size≤jp:=by have:=t5.1.size;have:=f7.at_;omega
        replace hB:=blB hB g8 f7.below
        replace a6:=a6.below f7.below
        replace a5:=a5.below f7.below
        replace a4:=a4.below f7.below
        replace a3:=a3.below f7.below
        replace a0:=a0.below f7.below
        replace a1:=a1.below f7.below
        replace a2:=a2.below f7.below
        replace k8:=k8.below f7.below
        replace hZ:=hZ.below f7.below
        replace d6:=Zb d6 f7.below
        replace d7:=Zb d7 f7.below
        replace ho:=Zb ho f7.below
        replace d0:=d0.below f7.below
        replace d8:=d8.below f7.below
        have ch:=f7.blk
        have aw:Below w.heap.size (W.drew) (ii)∧Ze [97] (W.drew) (ii):=⟨blB t5.1 (Nat.le_trans g8 t4.size) f7.below,t5.2.trans (Ze.of_below f7.below)⟩
        refine⟨aw,?_⟩
        refine Gs 12 1 rfl (by kernel_rfl) rfl (by kernel_rfl) (Vk (b:=jp) (off:=0) [V0 0,V0 0,V0 0,V0 0,S0] rfl (by kernel_rfl) (by kernel_rfl) (by kernel_rfl) (by first|decide|simp[Value.oneCell']) ch (by first|decide|simp) ?_)
        intro ip o1 cu
        change Blk _ _ [V0 0,V0 0,V0 0,V0 0,S0] _ at cu
        replace hB:=o1.below hB (Nat.le_trans g8 jg)
        replace a6:=o1.blk a6 (Ne.symm (Ne.symm aj))
        replace a5:=o1.blk a5 (Ne.symm (Ne.symm ar))
        replace a4:=o1.blk a4 (Ne.symm (Ne.symm t2))
        replace a3:=o1.blk a3 (Ne.symm (Ne.symm u0))
        replace a0:=o1.blk a0 (Ne.symm (Ne.symm x2))
        replace a1:=o1.blk a1 (Ne.symm (Ne.symm x5))
        replace a2:=o1.blk a2 (Ne.symm (Ne.symm w6))
        replace k8:=o1.blk k8 (Ne.symm (Ne.symm w8))
        replace hZ:=hZ.upd o1 ch (.inr (Nat.le_trans hF.size t1))
        replace d6:=o1.own2 d6 ch (by decide)
        replace d7:=o1.own2 d7 ch (by decide)
        replace ho:=o1.own3 ho ad
        replace d0:=d0.only (Ze.of_upd (T:=[40]) o1 ch (by decide)) (by decide)
        replace d8:=d8.only (Ze.of_upd (T:=[40]) o1 ch (by decide)) (by decide)
        have de:Below w.heap.size (W.drew) (ip)∧Ze [97] (W.drew) (ip):=⟨o1.below aw.1 (Nat.le_trans g8 jg),Ze.upd_new aw.2 o1 t1⟩
        refine⟨de,?_⟩
        refine Zan [13] 0 rfl #[true,true,true,true,true,true,true,true,true,true,true,true,true,true] [(22,.iface q3 (vd))] (by kernel_rfl) (fun _ _ _ _ _ h=>h) (by kernel_rfl) de ?_
        refine Lj _ (by kernel_rfl) ?_
        refine wpIn_seq ?_
        refine wpIn_seq ?_
        refine Qv (fun⟨_,_,q⟩=>q) (by simp) ?_
        refine Hj 2 [(89,.iface q3 (vd)),(90,.bool true)] (by kernel_rfl) ?_
        refine wpList_nil ?_
        refine wpIn_cond_true (by kernel_rfl) ?_
        refine wpIn_seq ?_
        refine Qv (fun⟨_,_,q⟩=>q) (by simp) ?_
        refine Hj 1 [(91,.iface q3 (vd))] (by kernel_rfl) ?_
        refine Qn (by kernel_rfl) (Xj (v:=S0) (b:=b3) (off:=0) rfl (by kernel_rfl) (by kernel_rfl) (by kernel_rfl) rfl a4 (by first|decide|simp) ?_)
        intro lw p6 ei
        change Blk _ _ [S0] _ at ei
        replace hB:=p6.below hB g3
        replace a6:=p6.blk a6 (Ne.symm (Ne.symm j7))
        replace a5:=p6.blk a5 (Ne.symm (Ne.symm j8))
        replace a3:=p6.blk a3 (Ne.symm c8)
        replace a0:=p6.blk a0 (Ne.symm e7)
        replace a1:=p6.blk a1 (Ne.symm e8)
        replace a2:=p6.blk a2 (Ne.symm m1)
        replace k8:=p6.blk k8 (Ne.symm g7)
        replace cu:=p6.blk cu (Ne.symm t2)
        replace hZ:=hZ.upd p6 a4 (.inl (by simp))
        replace d6:=p6.own2 d6 a4 (by decide)
        replace d7:=p6.own2 d7 a4 (by decide)
        replace ho:=p6.own2 ho a4 (by decide)
        replace d0:=d0.only (Ze.of_upd (T:=[22]) p6 a4 (by decide)) (by decide)
        replace d8:=d8.only (Ze.of_upd (T:=[22]) p6 a4 (by decide)) (by decide)
        refine Qn (by kernel_rfl) (Xj (v:=.iface q3 (vd)) (b:=b4) (off:=0) rfl (by kernel_rfl) (by kernel_rfl) (by kernel_rfl) rfl a3 (by first|decide|simp) ?_)
        intro mr p5 io
        change Blk _ _ [.iface q3 (vd)] _ at io
        replace hB:=p5.below hB g4
        replace a6:=p5.blk a6 (Ne.symm (Ne.symm k0))
        replace a5:=p5.blk a5 (Ne.symm (Ne.symm j4))
        replace ei:=p5.blk ei (Ne.symm (Ne.symm c8))
        replace a0:=p5.blk a0 (Ne.symm f2)
        replace a1:=p5.blk a1 (Ne.symm e9)
        replace a2:=p5.blk a2 (Ne.symm k5)
        replace k8:=p5.blk k8 (Ne.symm g5)
        replace cu:=p5.blk cu (Ne.symm u0)
        replace hZ:=hZ.upd p5 a3 (.inl (by simp))
        replace d6:=p5.own2 d6 a3 (by decide)
        replace d7:=p5.own2 d7 a3 (by decide)
        replace ho:=p5.own2 ho a3 (by decide)
        replace d0:=d0.only (Ze.of_upd (T:=[31]) p5 a3 (by decide)) (by decide)
        replace d8:=d8.only (Ze.of_upd (T:=[31]) p5 a3 (by decide)) (by decide)
        refine wpList_nil ?_
        refine wpIn_ret (Lc (Yg ?_))
        exact⟨hZ.ko.from _,rfl,hZ.ko.same D1 _ ((hF.block D1 bc fx).trans fz) rfl,_,_,_,_,((Jq t7 w3 (by omega) eg).trans (Sh (i:=i) (by omega) bj t0)),t0,ei,io,d8,o5.trans hB⟩
       ·refine⟨_,rfl,?_⟩
        replace hB:=hB.trans v0
        replace a6:=a6.only c9 (by decide)
        replace a5:=a5.only c9 (by decide)
        replace a4:=a4.only c9 (by decide)
        replace a3:=a3.only c9 (by decide)
        replace a0:=a0.only c9 (by decide)
        replace a1:=a1.only c9 (by decide)
        replace a2:=a2.only c9 (by decide)
        replace k8:=k8.only c9 (by decide)
        replace hZ:=hZ.frm bn dr (by simp)
        replace d6:=Zg d6 c9 (by decide)
        replace d7:=Zg d7 c9 (by decide)
        replace ho:=Zg ho c9 (by decide)
        replace d0:=d0.only c9 (by decide)
        replace i0:=Zh i0 fp
        have v2:Below w.heap.size (W.drew) (fd)∧Ze [97] (W.drew) (fd):=⟨h0.1.trans v0,h0.2.trans c9⟩
        refine⟨v2,?_⟩
        refine Zan [8,9,10] 3 rfl #[true,true,true,true,true,true,true,true,true,true,true,false,false,false] [(78,.tuple #[.agg #[V0 (((Zd l details 3 fuel).es.getD i Zi).1),V0 (↑(Qa ((Zd l details 3 fuel).es.getD i Zi).2.1 1):Int),V0 (↑(Qa ((Zd l details 3 fuel).es.getD i Zi).2.1 2):Int),V0 (↑(Qa ((Zd l details 3 fuel).es.getD i Zi).2.1 3):Int),.slice pm ((ownO l ((Zd l top 1 fuel).es.getD i Zi) data fuel).2.2.length) cm],.nilIface]),(87,.agg #[V0 (((Zd l details 3 fuel).es.getD i Zi).1),V0 (↑(Qa ((Zd l details 3 fuel).es.getD i Zi).2.1 1):Int),V0 (↑(Qa ((Zd l details 3 fuel).es.getD i Zi).2.1 2):Int),V0 (↑(Qa ((Zd l details 3 fuel).es.getD i Zi).2.1 3):Int),.slice pm ((ownO l ((Zd l top 1 fuel).es.getD i Zi) data fuel).2.2.length) cm]),(88,.nilIface)] (by kernel_rfl) (fun _ _ _ _ _ h=>h) (by kernel_rfl) v2 ?_
        refine Gs 11 2 rfl (by kernel_rfl) rfl (by kernel_rfl) (Qw [V0 0,V0 0,V0 0,V0 0,S0] rfl (by kernel_rfl) ?_)
        intro hf jl f3
        have bu:=f3.ne a6
        have ax:=f3.ne a5
        have av:=f3.ne a4
        have au:=f3.ne a3
        have x9:=f3.ne a0
        have y2:=f3.ne a1
        have x4:=f3.ne g0
        have x1:=f3.ne a2
        have q8:=f3.ne k8
        have iv:=f3.ge0 hB
        have u4:=Xa ho f3
        have u2:(W.drew).heap.size≤hf:=by have:=v2.1.size;have:=f3.at_;omega
        replace hB:=blB hB g8 f3.below
        replace a6:=a6.below f3.below
        replace a5:=a5.below f3.below
        replace a4:=a4.below f3.below
        replace a3:=a3.below f3.below
        replace a0:=a0.below f3.below
        replace a1:=a1.below f3.below
        replace g0:=g0.below f3.below
        replace a2:=a2.below f3.below
        replace k8:=k8.below f3.below
        replace hZ:=hZ.below f3.below
        replace d6:=Zb d6 f3.below
        replace d7:=Zb d7 f3.below
        replace ho:=Zb ho f3.below
        replace d0:=d0.below f3.below
        replace i0:=Zb i0 f3.below
        have cj:=f3.blk
        have bw:Below w.heap.size (W.drew) (jl)∧Ze [97] (W.drew) (jl):=⟨blB v2.1 (Nat.le_trans g8 t4.size) f3.below,v2.2.trans (Ze.of_below f3.below)⟩
        refine⟨bw,?_⟩
        refine Gs 12 1 rfl (by kernel_rfl) rfl (by kernel_rfl) (Vk (b:=hf) (off:=0) [V0 (((Zd l details 3 fuel).es.getD i Zi).1),V0 (↑(Qa ((Zd l details 3 fuel).es.getD i Zi).2.1 1):Int),V0 (↑(Qa ((Zd l details 3 fuel).es.getD i Zi).2.1 2):Int),V0 (↑(Qa ((Zd l details 3 fuel).es.getD i Zi).2.1 3):Int),.slice pm ((ownO l ((Zd l top 1 fuel).es.getD i Zi) data fuel).2.2.length) cm] rfl (by kernel_rfl) (by kernel_rfl) (by kernel_rfl) (by first|decide|simp[Value.oneCell']) cj (by first|decide|simp) ?_)
        intro iz m2 y0
        change Blk _ _ [V0 (((Zd l details 3 fuel).es.getD i Zi).1),V0 (↑(Qa ((Zd l details 3 fuel).es.getD i Zi).2.1 1):Int),V0 (↑(Qa ((Zd l details 3 fuel).es.getD i Zi).2.1 2):Int),V0 (↑(Qa ((Zd l details 3 fuel).es.getD i Zi).2.1 3):Int),.slice pm ((ownO l ((Zd l top 1 fuel).es.getD i Zi) data fuel).2.2.length) cm] _ at y0
        replace hB:=m2.below hB (Nat.le_trans g8 iv)
        replace a6:=m2.blk a6 (Ne.symm (Ne.symm bu))
        replace a5:=m2.blk a5 (Ne.symm (Ne.symm ax))
        replace a4:=m2.blk a4 (Ne.symm (Ne.symm av))
        replace a3:=m2.blk a3 (Ne.symm (Ne.symm au))
        replace a0:=m2.blk a0 (Ne.symm (Ne.symm x9))
        replace a1:=m2.blk a1 (Ne.symm (Ne.symm y2))
        replace g0:=m2.blk g0 (Ne.symm (Ne.symm x4))
        replace a2:=m2.blk a2 (Ne.symm (Ne.symm x1))
        replace k8:=m2.blk k8 (Ne.symm (Ne.symm q8))
        replace hZ:=hZ.upd m2 cj (.inr (Nat.le_trans hF.size u2))
        replace d6:=m2.own2 d6 cj (by decide)
        replace d7:=m2.own2 d7 cj (by decide)
        replace ho:=m2.own3 ho u4
        replace d0:=d0.only (Ze.of_upd (T:=[40]) m2 cj (by decide)) (by decide)
        replace i0:=m2.own2 i0 cj (by decide)
        have dh:Below w.heap.size (W.drew) (iz)∧Ze [97] (W.drew) (iz):=⟨m2.below bw.1 (Nat.le_trans g8 iv),Ze.upd_new bw.2 m2 u2⟩
        refine⟨dh,?_⟩
        refine Zan [13] 0 rfl #[true,true,true,true,true,true,true,true,true,true,true,true,true,true] [(22,.nilIface)] (by kernel_rfl) (fun _ _ _ _ _ h=>h) (by kernel_rfl) dh ?_
        refine Lj _ (by kernel_rfl) ?_
        refine wpIn_seq ?_
        refine wpIn_seq ?_
        refine Qv (fun⟨_,_,q⟩=>q) (by simp) ?_
        refine Hj 2 [(89,.nilIface),(90,.bool false)] (by kernel_rfl) ?_
        refine wpList_nil ?_
        refine wpIn_cond_false (by kernel_rfl) ?_
        refine wpIn_skip ?_
        refine Qv (fun⟨_,_,q⟩=>q) (by simp) ?_
        refine Qn (by kernel_rfl) (Yk ⟨i8,0,none⟩ (.slice p i cp) rfl (by kernel_rfl) (by kernel_rfl) (k8.cell (i:=0) rfl) ?_)
        refine Qn (by kernel_rfl) (Za1 (b:=hf) (off:=0) [V0 (((Zd l details 3 fuel).es.getD i Zi).1),V0 (↑(Qa ((Zd l details 3 fuel).es.getD i Zi).2.1 1):Int),V0 (↑(Qa ((Zd l details 3 fuel).es.getD i Zi).2.1 2):Int),V0 (↑(Qa ((Zd l details 3 fuel).es.getD i Zi).2.1 3):Int),.slice pm ((ownO l ((Zd l top 1 fuel).es.getD i Zi) data fuel).2.2.length) cm] _ rfl (by kernel_rfl) Tryz.underlying40 rfl (by kernel_rfl) y0.whole ?_)
        refine Qn (by kernel_rfl) (Ql 40 [V0 (((Zd l details 3 fuel).es.getD i Zi).1),V0 (↑(Qa ((Zd l details 3 fuel).es.getD i Zi).2.1 1):Int),V0 (↑(Qa ((Zd l details 3 fuel).es.getD i Zi).2.1 2):Int),V0 (↑(Qa ((Zd l details 3 fuel).es.getD i Zi).2.1 3):Int),.slice pm ((ownO l ((Zd l top 1 fuel).es.getD i Zi) data fuel).2.2.length) cm] rfl (by kernel_rfl) ?_)
        intro lx mn f4
        have fy:=f4.ne a6
        have gl:=f4.ne a5
        have ft:=f4.ne a4
        have gt:=f4.ne a3
        have fm:=f4.ne a0
        have eu:=f4.ne a1
        have el:=f4.ne g0
        have ev:=f4.ne a2
        have fg:=f4.ne k8
        have fk:=f4.ne y0
        have lj:=f4.ge0 hB
        have hl:=Xa ho f4
        replace hB:=blB hB g8 f4.below
        replace a6:=a6.below f4.below
        replace a5:=a5.below f4.below
        replace a4:=a4.below f4.below
        replace a3:=a3.below f4.below
        replace a0:=a0.below f4.below
        replace a1:=a1.below f4.below
        replace g0:=g0.below f4.below
        replace a2:=a2.below f4.below
        replace k8:=k8.below f4.below
        replace y0:=y0.below f4.below
        replace hZ:=hZ.below f4.below
        replace d6:=Zb d6 f4.below
        replace d7:=Zb d7 f4.below
        replace ho:=Zb ho f4.below
        replace d0:=d0.below f4.below
        replace i0:=Zb i0 f4.below
        have kd:=f4.blk
        refine Qn (by kernel_rfl) (Xk (e:=40) (n:=i) (xs:=(Z.flatMap Cx)) (m:=1) (news:=[V0 (((Zd l details 3 fuel).es.getD i Zi).1),V0 (↑(Qa ((Zd l details 3 fuel).es.getD i Zi).2.1 1):Int),V0 (↑(Qa ((Zd l details 3 fuel).es.getD i Zi).2.1 2):Int),V0 (↑(Qa ((Zd l details 3 fuel).es.getD i Zi).2.1 3):Int),.slice pm ((ownO l ((Zd l top 1 fuel).es.getD i Zi) data fuel).2.2.length) cm]) (.agg #[V0 0,V0 0,V0 0,V0 0,S0]) 5 56 (i+1) (((Z++[(devX l ((Zd l details 3 fuel).es.getD i Zi) ((Zd l top 1 fuel).es.getD i Zi) data fuel,pm,cm)]).flatMap Cx)) rfl Tryz.underlying22 (by kernel_rfl) rfl (by decide) (by kernel_rfl) ho (by kernel_rfl) (kd.sl 1 1 (by decide) (by decide)) rfl (by simp[Value.oneCell']) (by unfold maxLen;omega) (by omega) (Nat.le_trans hZ.l0 hZ.le) (rfl) (by rw[List.flatMap_append];rfl) ?_)
        intro jf jk lg gg f0 fw
        replace a6:=a6.grown f0 ho (by decide)
        replace a5:=a5.grown f0 ho (by decide)
        replace a4:=a4.grown f0 ho (by decide)
        replace a3:=a3.grown f0 ho (by decide)
        replace a0:=a0.grown f0 ho (by decide)
        replace a1:=a1.grown f0 ho (by decide)
        replace g0:=g0.grown f0 ho (by decide)
        replace a2:=a2.grown f0 ho (by decide)
        replace k8:=k8.grown f0 ho (by decide)
        replace y0:=y0.grown3 f0 u4
        replace hZ:=hZ.grown f0 ho
        replace d6:=Zz d6 f0 ho (by decide)
        replace d7:=Zz d7 f0 ho (by decide)
        replace d0:=d0.only (Ze.of_grown (T:=[40]) f0 ho (by decide)) (by decide)
        replace i0:=Zz i0 f0 ho (by decide)
        replace hB:=hB.trans (fw.mono l5)
        refine Qn (by kernel_rfl) (Xj (v:=.slice jf (i+1) jk) (b:=i8) (off:=0) rfl (by kernel_rfl) (by kernel_rfl) (by kernel_rfl) rfl k8 (by first|decide|simp) ?_)
        intro mq o7 ij
        change Blk _ _ [.slice jf (i+1) jk] _ at ij
        replace hB:=o7.below hB ih
        replace a6:=o7.blk a6 (Ne.symm (Ne.symm p9))
        replace a5:=o7.blk a5 (Ne.symm (Ne.symm o8))
        replace a4:=o7.blk a4 (Ne.symm (Ne.symm g7))
        replace a3:=o7.blk a3 (Ne.symm (Ne.symm g5))
        replace a0:=o7.blk a0 (Ne.symm (Ne.symm l6))
        replace a1:=o7.blk a1 (Ne.symm (Ne.symm l8))
        replace g0:=o7.blk g0 (Ne.symm (Ne.symm r3))
        replace a2:=o7.blk a2 (Ne.symm (Ne.symm l7))
        replace y0:=o7.blk y0 (Ne.symm q8)
        replace hZ:=hZ.upd o7 k8 (.inl (by simp))
        replace d6:=o7.own2 d6 k8 (by decide)
        replace d7:=o7.own2 d7 k8 (by decide)
        replace d0:=d0.only (Ze.of_upd (T:=[22]) o7 k8 (by decide)) (by decide)
        replace i0:=o7.own2 i0 k8 (by decide)
        replace gg:=o7.own2 gg k8 (by decide)
        refine wpList_nil ?_
        exact⟨hZ.ko.from _,⟨hZ.le,fun d hd=>hZ.fr d (bs d hd) (cx d hd)⟩,o5.trans hB,Zec hF hZ (fun k hk=>by simp only[List.mem_cons,List.not_mem_nil,or_false] at hk ⊢;rcases hk with rfl|rfl|rfl|rfl;exact .inr ((show _=_ from a4).trans (show _=_ from j5).symm);exact .inr ((show _=_ from a3).trans (show _=_ from j9).symm);exact .inl (by simp);exact .inl (by simp)),g0,Ze9 t0,Th bj t0,_,_,_,ij,gg,(d0.snoc (d:=devX l ((Zd l details 3 fuel).es.getD i Zi) ((Zd l top 1 fuel).es.getD i Zi) data fuel) rfl i0),by simp[dl],by rw[List.map_append,di,Sw];rfl⟩
      ·refine Qw [V0 0,V0 0,V0 0,V0 0,S0] rfl (by kernel_rfl) ?_
       intro eo iu f5
       have v3:=f5.ne a6
       have v1:=f5.ne a5
       have p0:=f5.ne a4
       have q0:=f5.ne a3
       have r0:=f5.ne a0
       have r9:=f5.ne a1
       have x7:=f5.ne kl
       have r6:=f5.ne a2
       have l9:=f5.ne k8
       have ew:=f5.ge0 hB
       have p3:=Xa ho f5
       have m0:(W.drew).heap.size≤eo:=by have:=h0.1.size;have:=f5.at_;omega
       replace hB:=blB hB g8 f5.below
       replace a6:=a6.below f5.below
       replace a5:=a5.below f5.below
       replace a4:=a4.below f5.below
       replace a3:=a3.below f5.below
       replace a0:=a0.below f5.below
       replace a1:=a1.below f5.below
       replace kl:=kl.below f5.below
       replace a2:=a2.below f5.below
       replace k8:=k8.below f5.below
       replace hZ:=hZ.below f5.below
       replace d6:=Zb d6 f5.below
       replace d7:=Zb d7 f5.below
       replace ho:=Zb ho f5.below
       replace d0:=d0.below f5.below
       have o6:=f5.blk
       have u6:Below w.heap.size (W.drew) (iu)∧Ze [97] (W.drew) (iu):=⟨blB h0.1 (Nat.le_trans g8 t4.size) f5.below,h0.2.trans (Ze.of_below f5.below)⟩
       refine⟨u6,?_⟩
       have dr:=kl
       have fp:=Nat.le_trans hF.size hZ.le
       refine Gs 7 5 rfl (by kernel_rfl) rfl (by kernel_rfl) (Kj (lb:=#[]) 37 #[P0 g9,.agg #[V0 (((Zd l details 3 fuel).es.getD i Zi).1),.string ⟨(((Zd l details 3 fuel).es.getD i Zi).2.1).toArray⟩,V0 (((Zd l details 3 fuel).es.getD i Zi).2.2)],.agg #[V0 (((Zd l top 1 fuel).es.getD i Zi).1),.string ⟨(((Zd l top 1 fuel).es.getD i Zi).2.1).toArray⟩,V0 (((Zd l top 1 fuel).es.getD i Zi).2.2)]] rfl (by kernel_rfl) (fun _ _=>by kernel_rfl) (by kernel_rfl) ((Br w.heap.size Bi g9 b pi ni ci l data fuel (sumL l (Zd l top 1 fuel).es data fuel i) ((Zd l details 3 fuel).es.getD i Zi) ((Zd l top 1 fuel).es.getD i Zi) _ (hI.below (o5.trans hB)) kl hfu (Jd _ _ _ _ i (by omega)) (Jd _ _ _ _ i (by omega)) hn ix (Nat.le_trans g8 hB.size)).mono ?_))
       rintro e fi gc
       rcases gc with ⟨t0,q3,vd,rfl,v7,c6,aq,d8⟩|⟨t0,pm,cm,rfl,v7,c6,aq,j2,i0⟩
       ·refine⟨_,rfl,?_⟩
        replace hB:=hB.trans v7
        replace a6:=a6.only c6 (by decide)
        replace a5:=a5.only c6 (by decide)
        replace a4:=a4.only c6 (by decide)
        replace a3:=a3.only c6 (by decide)
        replace a0:=a0.only c6 (by decide)
        replace a1:=a1.only c6 (by decide)
        replace a2:=a2.only c6 (by decide)
        replace k8:=k8.only c6 (by decide)
        replace o6:=o6.only c6 (by decide)
        replace hZ:=hZ.frm aq dr (by simp)
        replace d6:=Zg d6 c6 (by decide)
        replace d7:=Zg d7 c6 (by decide)
        replace ho:=Zg ho c6 (by decide)
        replace d0:=d0.only c6 (by decide)
        have y4:Below w.heap.size (W.drew) (fi)∧Ze [97] (W.drew) (fi):=⟨u6.1.trans v7,u6.2.trans c6⟩
        refine⟨y4,?_⟩
        refine Zan [8,9,10] 2 rfl #[true,true,true,true,true,true,true,true,true,true,true,true,false,false] [(78,.tuple #[.agg #[V0 0,V0 0,V0 0,V0 0,S0],.iface q3 (vd)]),(87,.agg #[V0 0,V0 0,V0 0,V0 0,S0]),(88,.iface q3 (vd))] (by kernel_rfl) (fun _ _ _ _ _ h=>h) (by kernel_rfl) y4 ?_
        refine Gs 12 1 rfl (by kernel_rfl) rfl (by kernel_rfl) (Vk (b:=eo) (off:=0) [V0 0,V0 0,V0 0,V0 0,S0] rfl (by kernel_rfl) (by kernel_rfl) (by kernel_rfl) (by first|decide|simp[Value.oneCell']) o6 (by first|decide|simp) ?_)
        intro jj o3 co
        change Blk _ _ [V0 0,V0 0,V0 0,V0 0,S0] _ at co
        replace hB:=o3.below hB (Nat.le_trans g8 ew)
        replace a6:=o3.blk a6 (Ne.symm (Ne.symm v3))
        replace a5:=o3.blk a5 (Ne.symm (Ne.symm v1))
        replace a4:=o3.blk a4 (Ne.symm (Ne.symm p0))
        replace a3:=o3.blk a3 (Ne.symm (Ne.symm q0))
        replace a0:=o3.blk a0 (Ne.symm (Ne.symm r0))
        replace a1:=o3.blk a1 (Ne.symm (Ne.symm r9))
        replace a2:=o3.blk a2 (Ne.symm (Ne.symm r6))
        replace k8:=o3.blk k8 (Ne.symm (Ne.symm l9))
        replace hZ:=hZ.upd o3 o6 (.inr (Nat.le_trans hF.size m0))
        replace d6:=o3.own2 d6 o6 (by decide)
        replace d7:=o3.own2 d7 o6 (by decide)
        replace ho:=o3.own3 ho p3
        replace d0:=d0.only (Ze.of_upd (T:=[40]) o3 o6 (by decide)) (by decide)
        replace d8:=d8.only (Ze.of_upd (T:=[40]) o3 o6 (by decide)) (by decide)
        have cr:Below w.heap.size (W.drew) (jj)∧Ze [97] (W.drew) (jj):=⟨o3.below y4.1 (Nat.le_trans g8 ew),Ze.upd_new y4.2 o3 m0⟩
        refine⟨cr,?_⟩
        refine Zan [13] 0 rfl #[true,true,true,true,true,true,true,true,true,true,true,true,true,true] [(22,.iface q3 (vd))] (by kernel_rfl) (fun _ _ _ _ _ h=>h) (by kernel_rfl) cr ?_
        refine Lj _ (by kernel_rfl) ?_
        refine wpIn_seq ?_
        refine wpIn_seq ?_
        refine Qv (fun⟨_,_,q⟩=>q) (by simp) ?_
        refine Hj 2 [(89,.iface q3 (vd)),(90,.bool true)] (by kernel_rfl) ?_
        refine wpList_nil ?_
        refine wpIn_cond_true (by kernel_rfl) ?_
        refine wpIn_seq ?_
        refine Qv (fun⟨_,_,q⟩=>q) (by simp) ?_
        refine Hj 1 [(91,.iface q3 (vd))] (by kernel_rfl) ?_
        refine Qn (by kernel_rfl) (Xj (v:=S0) (b:=b3) (off:=0) rfl (by kernel_rfl) (by kernel_rfl) (by kernel_rfl) rfl a4 (by first|decide|simp) ?_)
        intro ml p8 dz
        change Blk _ _ [S0] _ at dz
        replace hB:=p8.below hB g3
        replace a6:=p8.blk a6 (Ne.symm (Ne.symm j7))
        replace a5:=p8.blk a5 (Ne.symm (Ne.symm j8))
        replace a3:=p8.blk a3 (Ne.symm c8)
        replace a0:=p8.blk a0 (Ne.symm e7)
        replace a1:=p8.blk a1 (Ne.symm e8)
        replace a2:=p8.blk a2 (Ne.symm m1)
        replace k8:=p8.blk k8 (Ne.symm g7)
        replace co:=p8.blk co (Ne.symm p0)
        replace hZ:=hZ.upd p8 a4 (.inl (by simp))
        replace d6:=p8.own2 d6 a4 (by decide)
        replace d7:=p8.own2 d7 a4 (by decide)
        replace ho:=p8.own2 ho a4 (by decide)
        replace d0:=d0.only (Ze.of_upd (T:=[22]) p8 a4 (by decide)) (by decide)
        replace d8:=d8.only (Ze.of_upd (T:=[22]) p8 a4 (by decide)) (by decide)
        refine Qn (by kernel_rfl) (Xj (v:=.iface q3 (vd)) (b:=b4) (off:=0) rfl (by kernel_rfl) (by kernel_rfl) (by kernel_rfl) rfl a3 (by first|decide|simp) ?_)
        intro lh o9 ik
        change Blk _ _ [.iface q3 (vd)] _ at ik
        replace hB:=o9.below hB g4
        replace a6:=o9.blk a6 (Ne.symm (Ne.symm k0))
        replace a5:=o9.blk a5 (Ne.symm (Ne.symm j4))
        replace dz:=o9.blk dz (Ne.symm (Ne.symm c8))
        replace a0:=o9.blk a0 (Ne.symm f2)
        replace a1:=o9.blk a1 (Ne.symm e9)
        replace a2:=o9.blk a2 (Ne.symm k5)
        replace k8:=o9.blk k8 (Ne.symm g5)
        replace co:=o9.blk co (Ne.symm q0)
        replace hZ:=hZ.upd o9 a3 (.inl (by simp))
        replace d6:=o9.own2 d6 a3 (by decide)
        replace d7:=o9.own2 d7 a3 (by decide)
        replace ho:=o9.own2 ho a3 (by decide)
        replace d0:=d0.only (Ze.of_upd (T:=[31]) o9 a3 (by decide)) (by decide)
        replace d8:=d8.only (Ze.of_upd (T:=[31]) o9 a3 (by decide)) (by decide)
        refine wpList_nil ?_
        refine wpIn_ret (Lc (Yg ?_))
        exact⟨hZ.ko.from _,rfl,hZ.ko.same D1 _ ((hF.block D1 bc fx).trans fz) rfl,_,_,_,_,((Jq t7 w3 (by omega) eg).trans (Sh (i:=i) (by omega) bj t0)),t0,dz,ik,d8,o5.trans hB⟩
       ·refine⟨_,rfl,?_⟩
        replace hB:=hB.trans v7
        replace a6:=a6.only c6 (by decide)
        replace a5:=a5.only c6 (by decide)
        replace a4:=a4.only c6 (by decide)
        replace a3:=a3.only c6 (by decide)
        replace a0:=a0.only c6 (by decide)
        replace a1:=a1.only c6 (by decide)
        replace a2:=a2.only c6 (by decide)
        replace k8:=k8.only c6 (by decide)
        replace o6:=o6.only c6 (by decide)
        replace hZ:=hZ.frm aq dr (by simp)
        replace d6:=Zg d6 c6 (by decide)
        replace d7:=Zg d7 c6 (by decide)
        replace ho:=Zg ho c6 (by decide)
        replace d0:=d0.only c6 (by decide)
        replace i0:=Zh i0 fp
        have y5:Below w.heap.size (W.drew) (fi)∧Ze [97] (W.drew) (fi):=⟨u6.1.trans v7,u6.2.trans c6⟩
        refine⟨y5,?_⟩
        refine Zan [8,9,10] 2 rfl #[true,true,true,true,true,true,true,true,true,true,true,true,false,false] [(78,.tuple #[.agg #[V0 (((Zd l details 3 fuel).es.getD i Zi).1),V0 (↑(Qa ((Zd l details 3 fuel).es.getD i Zi).2.1 1):Int),V0 (↑(Qa ((Zd l details 3 fuel).es.getD i Zi).2.1 2):Int),V0 (↑(Qa ((Zd l details 3 fuel).es.getD i Zi).2.1 3):Int),.slice pm ((ownO l ((Zd l top 1 fuel).es.getD i Zi) data fuel).2.2.length) cm],.nilIface]),(87,.agg #[V0 (((Zd l details 3 fuel).es.getD i Zi).1),V0 (↑(Qa ((Zd l details 3 fuel).es.getD i Zi).2.1 1):Int),V0 (↑(Qa ((Zd l details 3 fuel).es.getD i Zi).2.1 2):Int),V0 (↑(Qa ((Zd l details 3 fuel).es.getD i Zi).2.1 3):Int),.slice pm ((ownO l ((Zd l top 1 fuel).es.getD i Zi) data fuel).2.2.length) cm]),(88,.nilIface)] (by kernel_rfl) (fun _ _ _ _ _ h=>h) (by kernel_rfl) y5 ?_
        refine Gs 12 1 rfl (by kernel_rfl) rfl (by kernel_rfl) (Vk (b:=eo) (off:=0) [V0 (((Zd l details 3 fuel).es.getD i Zi).1),V0 (↑(Qa ((Zd l details 3 fuel).es.getD i Zi).2.1 1):Int),V0 (↑(Qa ((Zd l details 3 fuel).es.getD i Zi).2.1 2):Int),V0 (↑(Qa ((Zd l details 3 fuel).es.getD i Zi).2.1 3):Int),.slice pm ((ownO l ((Zd l top 1 fuel).es.getD i Zi) data fuel).2.2.length) cm] rfl (by kernel_rfl) (by kernel_rfl) (by kernel_rfl) (by first|decide|simp[Value.oneCell']) o6 (by first|decide|simp) ?_)
        intro ju m4 x0
        change Blk _ _ [V0 (((Zd l details 3 fuel).es.getD i Zi).1),V0 (↑(Qa ((Zd l details 3 fuel).es.getD i Zi).2.1 1):Int),V0 (↑(Qa ((Zd l details 3 fuel).es.getD i Zi).2.1 2):Int),V0 (↑(Qa ((Zd l details 3 fuel).es.getD i Zi).2.1 3):Int),.slice pm ((ownO l ((Zd l top 1 fuel).es.getD i Zi) data fuel).2.2.length) cm] _ at x0
        replace hB:=m4.below hB (Nat.le_trans g8 ew)
        replace a6:=m4.blk a6 (Ne.symm (Ne.symm v3))
        replace a5:=m4.blk a5 (Ne.symm (Ne.symm v1))
        replace a4:=m4.blk a4 (Ne.symm (Ne.symm p0))
        replace a3:=m4.blk a3 (Ne.symm (Ne.symm q0))
        replace a0:=m4.blk a0 (Ne.symm (Ne.symm r0))
        replace a1:=m4.blk a1 (Ne.symm (Ne.symm r9))
        replace j2:=m4.blk j2 (Ne.symm (Ne.symm x7))
        replace a2:=m4.blk a2 (Ne.symm (Ne.symm r6))
        replace k8:=m4.blk k8 (Ne.symm (Ne.symm l9))
        replace hZ:=hZ.upd m4 o6 (.inr (Nat.le_trans hF.size m0))
        replace d6:=m4.own2 d6 o6 (by decide)
        replace d7:=m4.own2 d7 o6 (by decide)
        replace ho:=m4.own3 ho p3
        replace d0:=d0.only (Ze.of_upd (T:=[40]) m4 o6 (by decide)) (by decide)
        replace i0:=m4.own2 i0 o6 (by decide)
        have ck:Below w.heap.size (W.drew) (ju)∧Ze [97] (W.drew) (ju):=⟨m4.below y5.1 (Nat.le_trans g8 ew),Ze.upd_new y5.2 m4 m0⟩
        refine⟨ck,?_⟩
        refine Zan [13] 0 rfl #[true,true,true,true,true,true,true,true,true,true,true,true,true,true] [(22,.nilIface)] (by kernel_rfl) (fun _ _ _ _ _ h=>h) (by kernel_rfl) ck ?_
        refine Lj _ (by kernel_rfl) ?_
        refine wpIn_seq ?_
        refine wpIn_seq ?_
        refine Qv (fun⟨_,_,q⟩=>q) (by simp) ?_
        refine Hj 2 [(89,.nilIface),(90,.bool false)] (by kernel_rfl) ?_
        refine wpList_nil ?_
        refine wpIn_cond_false (by kernel_rfl) ?_
        refine wpIn_skip ?_
        refine Qv (fun⟨_,_,q⟩=>q) (by simp) ?_
        refine Qn (by kernel_rfl) (Yk ⟨i8,0,none⟩ (.slice p i cp) rfl (by kernel_rfl) (by kernel_rfl) (k8.cell (i:=0) rfl) ?_)
        refine Qn (by kernel_rfl) (Za1 (b:=eo) (off:=0) [V0 (((Zd l details 3 fuel).es.getD i Zi).1),V0 (↑(Qa ((Zd l details 3 fuel).es.getD i Zi).2.1 1):Int),V0 (↑(Qa ((Zd l details 3 fuel).es.getD i Zi).2.1 2):Int),V0 (↑(Qa ((Zd l details 3 fuel).es.getD i Zi).2.1 3):Int),.slice pm ((ownO l ((Zd l top 1 fuel).es.getD i Zi) data fuel).2.2.length) cm] _ rfl (by kernel_rfl) Tryz.underlying40 rfl (by kernel_rfl) x0.whole ?_)
        refine Qn (by kernel_rfl) (Ql 40 [V0 (((Zd l details 3 fuel).es.getD i Zi).1),V0 (↑(Qa ((Zd l details 3 fuel).es.getD i Zi).2.1 1):Int),V0 (↑(Qa ((Zd l details 3 fuel).es.getD i Zi).2.1 2):Int),V0 (↑(Qa ((Zd l details 3 fuel).es.getD i Zi).2.1 3):Int),.slice pm ((ownO l ((Zd l top 1 fuel).es.getD i Zi) data fuel).2.2.length) cm] rfl (by kernel_rfl) ?_)
        intro lu mf f6
        have gb:=f6.ne a6
        have hz:=f6.ne a5
        have ga:=f6.ne a4
        have hs:=f6.ne a3
        have ed:=f6.ne a0
        have dw:=f6.ne a1
        have ff:=f6.ne j2
        have eh:=f6.ne a2
        have fn:=f6.ne k8
        have en:=f6.ne x0
        have mh:=f6.ge0 hB
        have gx:=Xa ho f6
        replace hB:=blB hB g8 f6.below
        replace a6:=a6.below f6.below
        replace a5:=a5.below f6.below
        replace a4:=a4.below f6.below
        replace a3:=a3.below f6.below
        replace a0:=a0.below f6.below
        replace a1:=a1.below f6.below
        replace j2:=j2.below f6.below
        replace a2:=a2.below f6.below
        replace k8:=k8.below f6.below
        replace x0:=x0.below f6.below
        replace hZ:=hZ.below f6.below
        replace d6:=Zb d6 f6.below
        replace d7:=Zb d7 f6.below
        replace ho:=Zb ho f6.below
        replace d0:=d0.below f6.below
        replace i0:=Zb i0 f6.below
        have kw:=f6.blk
        refine Qn (by kernel_rfl) (Xk (e:=40) (n:=i) (xs:=(Z.flatMap Cx)) (m:=1) (news:=[V0 (((Zd l details 3 fuel).es.getD i Zi).1),V0 (↑(Qa ((Zd l details 3 fuel).es.getD i Zi).2.1 1):Int),V0 (↑(Qa ((Zd l details 3 fuel).es.getD i Zi).2.1 2):Int),V0 (↑(Qa ((Zd l details 3 fuel).es.getD i Zi).2.1 3):Int),.slice pm ((ownO l ((Zd l top 1 fuel).es.getD i Zi) data fuel).2.2.length) cm]) (.agg #[V0 0,V0 0,V0 0,V0 0,S0]) 5 56 (i+1) (((Z++[(devX l ((Zd l details 3 fuel).es.getD i Zi) ((Zd l top 1 fuel).es.getD i Zi) data fuel,pm,cm)]).flatMap Cx)) rfl Tryz.underlying22 (by kernel_rfl) rfl (by decide) (by kernel_rfl) ho (by kernel_rfl) (kw.sl 1 1 (by decide) (by decide)) rfl (by simp[Value.oneCell']) (by unfold maxLen;omega) (by omega) (Nat.le_trans hZ.l0 hZ.le) (rfl) (by rw[List.flatMap_append];rfl) ?_)
        intro iy ig ll hq f1 hh
        replace a6:=a6.grown f1 ho (by decide)
        replace a5:=a5.grown f1 ho (by decide)
        replace a4:=a4.grown f1 ho (by decide)
        replace a3:=a3.grown f1 ho (by decide)
        replace a0:=a0.grown f1 ho (by decide)
        replace a1:=a1.grown f1 ho (by decide)
        replace j2:=j2.grown f1 ho (by decide)
        replace a2:=a2.grown f1 ho (by decide)
        replace k8:=k8.grown f1 ho (by decide)
        replace x0:=x0.grown3 f1 p3
        replace hZ:=hZ.grown f1 ho
        replace d6:=Zz d6 f1 ho (by decide)
        replace d7:=Zz d7 f1 ho (by decide)
        replace d0:=d0.only (Ze.of_grown (T:=[40]) f1 ho (by decide)) (by decide)
        replace i0:=Zz i0 f1 ho (by decide)
        replace hB:=hB.trans (hh.mono l5)
        refine Qn (by kernel_rfl) (Xj (v:=.slice iy (i+1) ig) (b:=i8) (off:=0) rfl (by kernel_rfl) (by kernel_rfl) (by kernel_rfl) rfl k8 (by first|decide|simp) ?_)
        intro mw o4 js
        change Blk _ _ [.slice iy (i+1) ig] _ at js
        replace hB:=o4.below hB ih
        replace a6:=o4.blk a6 (Ne.symm (Ne.symm p9))
        replace a5:=o4.blk a5 (Ne.symm (Ne.symm o8))
        replace a4:=o4.blk a4 (Ne.symm (Ne.symm g7))
        replace a3:=o4.blk a3 (Ne.symm (Ne.symm g5))
        replace a0:=o4.blk a0 (Ne.symm (Ne.symm l6))
        replace a1:=o4.blk a1 (Ne.symm (Ne.symm l8))
        replace j2:=o4.blk j2 (Ne.symm (Ne.symm r3))
        replace a2:=o4.blk a2 (Ne.symm (Ne.symm l7))
        replace x0:=o4.blk x0 (Ne.symm l9)
        replace hZ:=hZ.upd o4 k8 (.inl (by simp))
        replace d6:=o4.own2 d6 k8 (by decide)
        replace d7:=o4.own2 d7 k8 (by decide)
        replace d0:=d0.only (Ze.of_upd (T:=[22]) o4 k8 (by decide)) (by decide)
        replace i0:=o4.own2 i0 k8 (by decide)
        replace hq:=o4.own2 hq k8 (by decide)
        refine wpList_nil ?_
        exact⟨hZ.ko.from _,⟨hZ.le,fun d hd=>hZ.fr d (bs d hd) (cx d hd)⟩,o5.trans hB,Zec hF hZ (fun k hk=>by simp only[List.mem_cons,List.not_mem_nil,or_false] at hk ⊢;rcases hk with rfl|rfl|rfl|rfl;exact .inr ((show _=_ from a4).trans (show _=_ from j5).symm);exact .inr ((show _=_ from a3).trans (show _=_ from j9).symm);exact .inl (by simp);exact .inl (by simp)),j2,Ze9 t0,Th bj t0,_,_,_,js,hq,(d0.snoc (d:=devX l ((Zd l details 3 fuel).es.getD i Zi) ((Zd l top 1 fuel).es.getD i Zi) data fuel) rfl i0),by simp[dl],by rw[List.map_append,di,Sw];rfl⟩
     case stop =>
      rintro D c k V hD hk ⟨rfl,hK,ty,v,bl,er,hO,hp,cg,j1,hv,hb⟩ w5
      have w1:Dfr D V:=w5
      have u3:D1≠D:=by omega
      refine wp_ret (Yg (Lc ?_))
      exact ret2 cg j1 hK w1 u3 (Zdj (.inr ⟨_,_,rfl⟩) (by kernel_rfl) (by kernel_rfl)) rfl (Ud hO hp (Po (Po hb hb.size (Nat.le_trans l5 hD) _) (by simpa [World.putObj] using hb.size) (Nat.le_trans l1 ie) _) ((hv.pt w1 _).pt (hK.put u3 _) _))
     case done =>
      rintro D2 W8 km ⟨kh,z0,lc,hn,bj,p,cp,Z,k8,ho,d0,dl,di⟩ w5
      have w1:Dfr D2 W8:=w5;clear w5
      have hK:Dfr D1 W8:=(z0.block D1 bc fx).trans fz
      have u3:D1≠D2:=by omega
      rw[(Em dp).1] at bj k8 ho dl di
      have q4:=z5.fr z0 (by simp only[List.mem_cons,List.not_mem_nil,or_false];rintro(h|h|h|h);omega;omega;exact q6 h;exact r2 h)
      have q5:=z9.fr z0 (by simp only[List.mem_cons,List.not_mem_nil,or_false];rintro(h|h|h|h);omega;omega;exact r1 h;exact q9 h)
      have m5:=j5.fr z0 (by simp only[List.mem_cons,List.not_mem_nil,or_false];rintro(h|h|h|h);omega;omega;exact r4 h;exact q7 h)
      have i6:=j9.fr z0 (by simp only[List.mem_cons,List.not_mem_nil,or_false];rintro(h|h|h|h);omega;omega;exact r5 h;exact r8 h)
      have l4:=t3.fr z0 (by simp only[List.mem_cons,List.not_mem_nil,or_false];rintro(h|h|h|h);omega;omega;exact n9 h;exact o0 h)
      have l3:=v4.fr z0 (by simp only[List.mem_cons,List.not_mem_nil,or_false];rintro(h|h|h|h);omega;omega;exact o2 h;exact m7 h)
      have l2:=v6.fr z0 (by simp only[List.mem_cons,List.not_mem_nil,or_false];rintro(h|h|h|h);omega;omega;exact m8 h;exact n0 h)
      replace hB:=kh
      refine wp_seq ?_
      refine wp_region_lit ?_
      refine Qn (by kernel_rfl) (Yk ⟨i8,0,none⟩ (.slice p ((Zd l details 3 fuel).es.length) cp) rfl (by kernel_rfl) (by kernel_rfl) (k8.cell (i:=0) rfl) ?_)
      refine Qn (by kernel_rfl) (Xj (v:=.slice p ((Zd l details 3 fuel).es.length) cp) (b:=b3) (off:=0) rfl (by kernel_rfl) (by kernel_rfl) (by kernel_rfl) rfl m5 (by first|decide|simp) ?_)
      intro ln s7 eq
      change Blk _ _ [.slice p ((Zd l details 3 fuel).es.length) cp] _ at eq
      replace hB:=s7.below hB g3
      replace q4:=s7.blk q4 (Ne.symm (Ne.symm j7))
      replace q5:=s7.blk q5 (Ne.symm (Ne.symm j8))
      replace i6:=s7.blk i6 (Ne.symm c8)
      replace l4:=s7.blk l4 (Ne.symm e7)
      replace l3:=s7.blk l3 (Ne.symm e8)
      replace l2:=s7.blk l2 (Ne.symm m1)
      replace k8:=s7.blk k8 (Ne.symm g7)
      replace ho:=s7.own2 ho m5 (by decide)
      replace d0:=d0.only (Ze.of_upd (T:=[22]) s7 m5 (by decide)) (by decide)
      replace hK:=hK.upd s7 m5
      replace w1:=w1.upd s7 m5
      refine Qn (by kernel_rfl) (Xj (v:=.nilIface) (b:=b4) (off:=0) rfl (by kernel_rfl) (by kernel_rfl) (by kernel_rfl) rfl i6 (by first|decide|simp) ?_)
      intro lf s9 il
      change Blk _ _ [.nilIface] _ at il
      replace hB:=s9.below hB g4
      replace q4:=s9.blk q4 (Ne.symm (Ne.symm k0))
      replace q5:=s9.blk q5 (Ne.symm (Ne.symm j4))
      replace eq:=s9.blk eq (Ne.symm (Ne.symm c8))
      replace l4:=s9.blk l4 (Ne.symm f2)
      replace l3:=s9.blk l3 (Ne.symm e9)
      replace l2:=s9.blk l2 (Ne.symm k5)
      replace k8:=s9.blk k8 (Ne.symm g5)
      replace ho:=s9.own2 ho i6 (by decide)
      replace d0:=d0.only (Ze.of_upd (T:=[31]) s9 i6 (by decide)) (by decide)
      replace hK:=hK.upd s9 i6
      replace w1:=w1.upd s9 i6
      refine wpList_nil ?_
      have jo:=hK.put u3 (.deferred none)
      refine wp_ret ?_
      refine ret2 eq il hK w1 u3 (Zdj (.inl rfl) (by kernel_rfl) (by kernel_rfl)) rfl ?_
      refine ldevs_ok ((Jq t7 w3 (by omega) eg).trans (Lh bj)) dl di (Po (Po hB hB.size (Nat.le_trans l5 km) _) (by simpa [World.putObj] using hB.size) (Nat.le_trans l1 ie) _) ((((d0.mono l5).pt w1 _).pt jo _)) (Zfa (Zfa (Zh ho l5) w1 _) jo _)
theorem Nc(ps:List Gj)(N:List Int)(gl gn:O0)(cl cn n:Nat)(w:World)(hps:Kk ps)(hn:n=ps.length)(hNl:N.length=n)(hP:Sts Rz w (.slice gl ps.length cl) ps)(hN:Sl w (.slice gn n cn) n (N.map V0))(h:Jo ps N n=true) :
  C0 25 #[.slice gl ps.length cl,.slice gn n cn] w (Ret (.string ⟨(Ps ps N ps.length).toArray⟩) w):=(Wo ps N gl gn cl cn n w hps hn hNl hP hN).mono (by
 rintro e W q
 rcases q with ⟨q,_⟩|⟨_,rfl,hb⟩
 ·rw[h] at q;cases q
 ·exact⟨rfl,hb⟩)
def M24:Bl:=Ps Hi [50331652] 1
def D24:Bl:=Ps Jm [1,5,0,0] 4
def R24:Bl:=leB 3 4
def eM:List Ent:=[(7,M24,0)]
def eR:List Ent:=[(2,R24,0)]
def eD:List Ent:=[(2,D24,0)]
def L24:List Yv:=[(1,[]),(3,[]),(2,eM),(1,eR),(3,eD)]
def Z24:Bl:=List.replicate 2560 0
theorem Z24_len:Z24.length=2560:=List.length_replicate
def B24 (k:Nat):Bl:=Hc (L24.take k) 1 Z24
def d24:Dv:=((2,5,0,0),[(7,3,4)])
theorem Sx:M24.length=8∧Xv Hi M24=0∧Mv M24=3∧Du M24=4:=by decide
theorem El:D24.length=24∧Xv Jm D24=0∧Qa D24 0=1∧Qa D24 1=5∧Qa D24 2=0∧Qa D24 3=0:=by decide
theorem Zg1:R24.length=4∧Ys R24=0∧Js R24=3:=by decide
theorem Zbe(w:Nat):EntsOk w []:=⟨fun i hi=>absurd hi (by simp),fun j hj=>absurd hj (by simp),fun i hi=>absurd hi (by simp)⟩
theorem Ev{w:Nat}{k:Int}{v:Bl}(h0:0≤k)(h1:k<281474976710656)(hv:v.length=w):EntsOk w [(k,v,0)]:=by
 refine⟨fun i hi=>?_,fun j hj=>?_,fun i hi=>?_⟩
 ·obtain rfl:i=0:=by simp at hi;omega
  exact⟨h0,by simpa [List.getD] using (by omega:k≤281474976710655)⟩
 ·simp at hj
 ·obtain rfl:i=0:=by simp at hi;omega
  exact hv
theorem Hm{t:Int}{n:Nat}(h:n≤1):Ka t n=1:=by
 have hm:=Yb t true
 have hp:=Xy n (Qq t true)
 have ho:ovN n (Qq t true)=1:=by
  unfold ovN at hp ⊢
  have:n+Qq t true-1<2*Qq t true:=by omega
  have h2:=Nat.div_lt_of_lt_mul (m:=n+Qq t true-1) (n:=Qq t true) (k:=2) (by omega)
  omega
 unfold Ka Jk
 rw[ho,Vq (by decide)];rfl
theorem Zeh:∀ x∈L24,Vf x∧Qe x=1:=by
 intro x hx
 simp only[L24,List.mem_cons,List.not_mem_nil,or_false] at hx
 have h1:=Sx.1
 have h2:=El.1
 have h3:=Zg1.1
 rcases hx with rfl|rfl|rfl|rfl|rfl
 ·exact⟨⟨by decide,by decide,Zbe _,by decide⟩,Hm (by decide)⟩
 ·exact⟨⟨by decide,by decide,Zbe _,by decide⟩,Hm (by decide)⟩
 ·exact⟨⟨by decide,by decide,Ev (by decide) (by decide) (by rw[h1];rfl),by decide⟩,Hm (by decide)⟩
 ·exact⟨⟨by decide,by decide,Ev (by decide) (by decide) (by rw[h3];rfl),by decide⟩,Hm (by decide)⟩
 ·exact⟨⟨by decide,by decide,Ev (by decide) (by decide) (by rw[h2];rfl),by decide⟩,Hm (by decide)⟩
theorem Pd:∀ (L:List Yv),(∀ x∈L,Qe x=1)→Xq L=L.length
 | [],_=>rfl
 | x::r,h=>by
  show Qe x+Xq r=_
  rw[h x (by simp),Pd r fun y hy=>h y (by simp[hy])];simp;omega
theorem Ob(k:Nat):∀ x∈L24.take k,Vf x∧Qe x=1:=fun x hx=>Zeh x (List.mem_of_mem_take hx)
theorem B24_next{k:Nat}(hk:k<5){x:Yv}(hx:L24[k]? = some x):Xw x.1 x.2 (1+k) (B24 k)=(((1+k:Nat):Int),B24 (k+1)):=by
 have a0:k<L24.length:=hk
 have hn:=Zeh x (List.mem_of_getElem? hx)
 have a1:L24[k]=x:=by rw[List.getElem?_eq_getElem a0] at hx;exact Option.some.inj hx
 have h2:B24 (k+1)=(Xw x.1 x.2 (1+k) (B24 k)).2:=by
  unfold B24
  rw[List.take_succ_eq_append_getElem a0,We,a1,Pd _ fun x hx=>(Ob k x hx).2,List.length_take,Nat.min_eq_left (by omega)]
  rfl
 have h1:=Ur (t:=x.1) (l:=x.2) (q:=1+k) (bs:=B24 k) (by omega)
 rw[show Ka x.1 x.2.length=1 from hn.2] at h1
 rw[h2]
 exact Prod.ext h1 rfl
theorem Tl{k i:Nat}{t:Int}{e:List Ent}(r:Int)(hk:k≤5)(hi:i<k)(hx0:L24[i]? = some (t,e))(hr:((1+i:Nat):Int)=r):∃ es:List Ent,es.map kvE=e.map kvE∧(Zd (B24 k) r t 9).es=es∧(Zd (B24 k) r t 9).fs=[]:=by
 subst hr
 obtain⟨x,a2⟩:∃ x:Yv,x=(t,e):=⟨_,rfl⟩
 have hx:L24[i]? = some x:=by rw[a2];exact hx0
 have ht:t=x.1:=by rw[a2]
 have he:e=x.2:=by rw[a2]
 rw[ht,he]
 clear a2 hx0
 have a9:i<(L24.take k).length:=by rw[List.length_take];exact Nat.lt_min.2 ⟨hi,Nat.lt_of_lt_of_le hi hk⟩
 have a5:i<L24.length:=Nat.lt_of_lt_of_le hi hk
 have a7:(L24.take k)[i]=x:=by rw[List.getElem_take];rw[List.getElem?_eq_getElem a5] at hx;exact Option.some.inj hx
 have a1:L24.take k=(L24.take k).take i++x::(L24.take k).drop (i+1):=by rw[←a7,←List.drop_eq_getElem_cons a9,List.take_append_drop]
 have a0:∀ y∈(L24.take k).take i++x::(L24.take k).drop (i+1),Vf y∧Qe y=1:=by rw[←a1];exact Ob k
 have a3:=Pd _ fun y hy=>(a0 y hy).2
 rw[←a1] at a3
 have a8:(L24.take k).length≤5:=by rw[List.length_take];exact Nat.min_le_right _ _
 have a4:=(a0 x (by simp)).2
 have s:=Zap (q:=1) (bs:=Z24) (fuel:=9) (fun y hy=>(a0 y hy).1) (by decide) (by rw[←a1,a3,Z24_len];omega) (by rw[←a1,a3];omega) (by rw[a4];decide)
 rw[←a1] at s
 have a6:(L24.take k).take i=L24.take i:=by rw[List.take_take,Nat.min_eq_left (by omega)]
 have b0:=Pd (L24.take i) fun y hy=>(Ob i y hy).2
 rw[a6,b0,List.length_take,Nat.min_eq_left (Nat.le_of_lt a5),Ur (by omega),show Ka x.1 x.2.length=1 from a4] at s
 obtain⟨es,bl,h1,_,h3⟩:=s
 refine⟨es,h1,?_⟩
 have h4:Zd (B24 k) ((1+i:Nat):Int) x.1 9=_:=h3
 rw[h4];exact⟨rfl,rfl⟩
theorem Zfd{es:List Ent}{k:Int}{v:Bl}{a:Int}(h:es.map kvE=([(k,v,a)]:List Ent).map kvE):∃ a',es=[(k,v,a')]:=by
 match es,h with
 | [],h=>simp at h
 | [(k',v',a')],h =>
  simp only[kvE,List.map_cons,List.map_nil,List.cons.injEq,Prod.mk.injEq,and_true] at h
  obtain⟨rfl,rfl⟩:=h
  exact⟨a',rfl⟩
 | _::_::_,h=>simp at h
theorem load24a:Vv (B24 2) 1 2 5 9=([],0,[]):=by
 obtain⟨e1,h1,a5,a4⟩:=Tl (k:=2) (i:=0) (t:=1) (e:=[]) 1 (by decide) (by decide) rfl rfl
 obtain⟨e2,h2,a0,a3⟩:=Tl (k:=2) (i:=1) (t:=3) (e:=[]) 2 (by decide) (by decide) rfl rfl
 have a1:e1=[]:=by simpa using h1
 have a2:e2=[]:=by simpa using h2
 subst a1 a2
 rw[Jq a3 a4 (by rw[a0];decide) (by rw[a0,a5];rfl),a0]
 exact Lh (fun j hj=>absurd hj (by simp))
theorem load24b:Vv (B24 5) 4 5 5 9=([],0,[d24]):=by
 obtain⟨e1,h1,a4,a7⟩:=Tl (k:=5) (i:=3) (t:=1) (e:=eR) 4 (by decide) (by decide) rfl rfl
 obtain⟨e2,h2,a0,a5⟩:=Tl (k:=5) (i:=4) (t:=3) (e:=eD) 5 (by decide) (by decide) rfl rfl
 obtain⟨e3,h3,a6,a8⟩:=Tl (k:=5) (i:=2) (t:=2) (e:=eM) 3 (by decide) (by decide) rfl rfl
 obtain⟨a1,rfl⟩:=Zfd h1
 obtain⟨a2,rfl⟩:=Zfd h2
 obtain⟨a3,rfl⟩:=Zfd h3
 have hm:Ir (B24 5) 3 5 9=([],0,[(7,3,4)]):=by
  rw[Uj a8,a6]
  rw[Li (fun j hj=>by
   obtain rfl:j=0:=by simp at hj;omega
   show Fo 5 M24=0
   exact Oe Sx.2.1 (by rw[Sx.2.2.1];decide))]
  show([],0,[Zdm (7,M24,a3)])=_
  unfold Zdm
  rw[Sx.2.2.1,Sx.2.2.2];rfl
 have ho:ownO (B24 5) (2,R24,a1) 5 9=([],0,[(7,3,4)]):=by
  unfold ownO
  rw[Zg1.2.2];exact hm
 rw[Jq a5 a7 (by rw[a0];exact(by decide:¬ (4096:Nat)<1)) (by rw[a0,a4];rfl),a0,a4]
 rw[Lh (fun j hj=>by
  obtain rfl:j=0:=by simp at hj;omega
  show(Mx (B24 5) (2,D24,a2) (2,R24,a1) 5 9 0).2=0
  rw[dev_7 (by exact(by decide:¬ (16777215:Int)<2)) El.2.1 Zg1.2.1 (by rw[ho]) (by rw[ho,El.2.2.1];rfl) (by rw[ho];decide)])]
 show([],0,[devX (B24 5) (2,D24,a2) (2,R24,a1) 5 9])=_
 unfold devX
 rw[ho,El.2.2.2.1,El.2.2.2.2.1,El.2.2.2.2.2];rfl
theorem Bh(B ba b g c:Nat)(pa:O0)(ca k n:Nat)(t:Int)(e:List Ent)(a:O0)(cc:Nat)(r:Int)(w:World)(hk:k<5)(hx:L24[k]? = some (t,e))(hr:((1+k:Nat):Int)=r)(hn:e.length=n)(hC:AlC B ba 2560 c ca 1 9)(hA:Al B ba b g 2560 c pa ca 1 9 k (B24 k) w)
 (hin:∀ W,Below B w W→Ze [72,5,31] w W→Sts Va W (.slice a e.length cc) e) (hBw:B≤w.heap.size) :
 C0 11 #[P0 ba,V0 t,.slice a n cc] w (fun e' w'=>e'=.returned (.tuple #[V0 r,.nilIface])∧Below B w w'∧Ze [72,5,31] w w'∧Fr [ba,g] w w'∧Al B ba b g 2560 c pa ca 1 9 (k+1) (B24 (k+1)) w'):=by
 subst hr
 have a0:=Zeh _ (List.mem_of_getElem? hx)
 have a2:Ka t e.length=1:=a0.2
 refine(Ca B ba b g 2560 c pa ca 1 9 k (B24 k) t a cc e n w hn hC hA a0.1.1 a0.1.2.1 a0.1.2.2.1 (by rw[←hn];exact a0.1.2.2.2) (by decide) (by omega) (by rw[←hn,a2];omega) hin hBw).mono ?_
 rintro e' w' ⟨rfl,hb,hO,hX,a3⟩
 have a1:=B24_next hk hx
 rw[show(1+k)=1+k from rfl] at a1
 simp only at a1
 rw[a2,a1] at a3
 rw[a1]
 exact⟨rfl,hb,hO,hX,a3⟩
theorem Pb(Bi b:Nat)(pi:O0)(ni ci:Nat)(l:Bl)(top details data fuel:Int)(n:Nat)(L:List Dv)(w:World)(hI:ImgR Bi b pi ni ci l w)(hfu:fuel≤1000)(hO:Vv l top details data fuel=([],0,L))(hn:L.length=n) :
 C0 14 #[P0 b,V0 top,V0 details,V0 data,V0 fuel] w (Ky (fun w' r=>∃ p c Z,r=.tuple #[.slice p n c,.nilIface]∧Z.map Prod.fst=L∧Xr w.heap.size w' Z∧w'.ownsRow w.heap.size 40 5 (.slice p n c) n (Z.flatMap Cx)) w):=by
 subst hn
 refine(Gz Bi b pi ni ci l top details data fuel w hI hfu).mono ?_
 rintro e W q
 rw[hO] at q
 rcases q with ⟨h,_⟩|⟨_,p,c,Z,rfl,hb,hZ,hM,ho⟩
 ·exact absurd rfl h
 ·exact⟨_,rfl,hb,p,c,Z,rfl,hZ,hM,ho⟩
theorem one_dev{Z:List Zv}{d:Dv}(h:Z.map Prod.fst=[d]):∃ p c,Z=[(d,p,c)]:=by
 match Z,h with
 | [],h=>simp at h
 | [(d',p,c)],h =>
  simp only[List.map_cons,List.map_nil,List.cons.injEq,and_true] at h
  subst h
  exact⟨p,c,rfl⟩
 | _::_::_,h=>simp at h
theorem Eu(Bi b:Nat)(pi:O0)(ni ci:Nat)(l:Bl)(top details data fuel:Int)(w:World)(hI:ImgR Bi b pi ni ci l w)(hfu:fuel≤1000)(hO:Vv l top details data fuel=([],0,[d24])) :
 C0 14 #[P0 b,V0 top,V0 details,V0 data,V0 fuel] w (Ky (fun w' r=>∃ p c pm cm,r=.tuple #[.slice p 1 c,.nilIface]∧w'.ownsRow w.heap.size 40 5 (.slice p 1 c) 1 (([(d24,pm,cm)]:List Zv).flatMap Cx)∧w'.ownsRow w.heap.size 42 3 (.slice pm 1 cm) 1 (([(7,3,4)]:List Mp).flatMap Uu)) w):=by
 refine(Pb Bi b pi ni ci l top details data fuel 1 [d24] w hI hfu hO rfl).mono ?_
 rintro e W ⟨_,rfl,hb,p,c,Z,rfl,hZ,hM,ho⟩
 obtain⟨pm,cm,rfl⟩:=one_dev hZ
 exact⟨_,rfl,hb,p,c,pm,cm,rfl,ho,hM 0 Nat.one_pos⟩
theorem As(w:World) :
 C0 10 #[V0 3,V0 4] w (Ret (.string ⟨M24.toArray⟩) w):=by
 refine zin 26 Tryz.func10 ?_
 refine xc 29 (args:=#[]) (Hb _) ?_
 rintro _ W1 ⟨_,rfl,a2,gl,rfl,gg,kl⟩
 refine xbs 4 1 [V0 50331652] 3 fun b2 W2 n2=>?_
 have a0:=kl.below n2.below
 refine xr 0 (args:=#[.slice (S1 gl) 1 1,.slice (S1 b2) 1 1]) (Nc Hi [50331652] (S1 gl) (S1 b2) 1 1 1 _ Fd rfl rfl (a0.sl 1 1 (by decide) (by decide)) (n2.blk.sl 1 1 (by decide) (by decide)) (by decide)) fun W3 a1=>?_
 have hB:=bln (bln a2 n2.below) a1
 exact xe 4 (.string ⟨M24.toArray⟩) ⟨rfl,hB⟩
theorem Db(w:World) :
 C0 13 #[.agg #[V0 1,V0 5,V0 0,V0 0]] w (Ret (.string ⟨D24.toArray⟩) w):=by
 refine zin 14 Tryz.func13 ?_
 refine xa 2 [V0 1,V0 5,V0 0,V0 0] 51 fun b1 W1 n1=>?_
 refine xd 4 .z ?_
 have k1:=n1.blk.below (Za W1)
 refine xb (.e [1] 2) 0 k1 ?_
 refine xb (.e [3] 4) 1 k1 ?_
 refine xb (.e [5] 6) 2 k1 ?_
 refine xb (.e [7] 8) 3 k1 ?_
 refine xm2 0 0 9 ?_ ?_
 ·refine yc 0 (args:=#[]) .z (Qs _) ?_
  rintro _ W2 ⟨_,rfl,a2,gl,rfl,gg,kl⟩
  refine⟨a2,?_⟩
  refine xbs (.o [] 9) 4 [V0 1,V0 5,V0 0,V0 0] 3 fun b3 W3 n3=>?_
  have a1:=kl.below n3.below
  refine xr (.o [] 10) (args:=#[.slice (S1 gl) 4 4,.slice (S1 b3) 4 4]) (Nc Jm [1,5,0,0] (S1 gl) (S1 b3) 4 4 4 _ Pu rfl rfl (a1.sl 4 4 (by decide) (by decide)) (n3.blk.sl 4 4 (by decide) (by decide)) (by decide)) fun W4 a4=>?_
  have hB:=bln (bln (bln (bln n1.below (Za W1)) a2) n3.below) a4
  exact xe (.r [11] 3) (.string ⟨D24.toArray⟩) ⟨rfl,hB⟩
 refine xbs 0 4 [V0 1,V0 5,V0 0,V0 0] 3 fun b5 W5 n5=>?_
 refine yc (.o [] 0) (args:=#[]) .z (Qs _) ?_
 rintro _ W6 ⟨_,rfl,a0,gl,rfl,gg,kl⟩
 refine⟨a0,?_⟩
 have k5:=n5.blk.below a0
 refine xr (.o [] 10) (args:=#[.slice (S1 gl) 4 4,.slice (S1 b5) 4 4]) (Nc Jm [1,5,0,0] (S1 gl) (S1 b5) 4 4 4 _ Pu rfl rfl (kl.sl 4 4 (by decide) (by decide)) (k5.sl 4 4 (by decide) (by decide)) (by decide)) fun W7 a3=>?_
 have hB:=bln (bln (bln (bln n1.below (Za W1)) n5.below) a0) a3
 exact xe (.r [11] 3) (.string ⟨D24.toArray⟩) ⟨rfl,hB⟩
theorem Bz(w:World) :
 C0 7 #[] w (Ret (.bool true) w):=by
 refine zin 113 Tryz.func7 ?_
 refine xmk 7 fun _ _ _ _ zJ zQ zo zx zy zK=>Hf 2560 (.int .u8 0) 1 1 ((List.replicate 2560 (0:UInt8)).map bv) zo zx zy Tryz.underlying36 (by kernel_rfl) rfl (by omega) (by omega) (Oz 2560) fun b1 W1 n1=>?_
 refine zK _ _ ?_
 have o1:=Xo (size:=1) (n:=2560) n1.blk (n1.ge (B3 w)) (by rw[List.length_map,List.length_replicate]) (by unfold maxLen;omega)
 refine xc 0 (args:=#[.slice (S1 b1) 2560 2560]) (Si (S1 b1) 2560 2560 2560 (List.replicate 2560 (0:UInt8)) _ List.length_replicate (by omega) (Jh (Zf o1) List.length_replicate) (by omega) (Nat.le_refl _)) ?_
 rintro _ W2 ⟨_,rfl,e8,bi,pi,ci,rfl,gi,ki,hd⟩
 have a7:=Zh hd n1.below.size
 rw[List.take_of_length_le (by rw[List.length_replicate];omega)] at a7
 obtain⟨g,rfl,f7⟩:=Lm a7 (by omega)
 have hB:=bln n1.below e8
 have e9:=hB.size
 refine xc 0 (args:=#[P0 bi,V0 1]) (En bi (S1 g) 2560 ci 1 9 (1:Int) rfl (by omega) _ ki (by omega) (by decide) (by omega)) ?_
 rintro _ W3 ⟨_,rfl,d4,ba,pa,ca,rfl,ga,ka,ho⟩
 replace ga:=Nat.le_trans e9 ga
 have d0:=ki.below d4
 have d8:=Zb a7 d4
 have c4:=Zh ho hB.size
 have hA:Al w.heap.size ba bi g 2560 ci pa ca 1 9 0 (B24 0) _:=⟨ka,d0,d8,c4⟩
 have f3:9≤ca:=Lk c4 (by decide)
 have hC:AlC w.heap.size ba 2560 ci ca 1 9:=⟨by omega,f7,f3,by omega,ga⟩
 have b4:=bln hB d4
 refine xc 24 (args:=#[P0 ba,V0 1,S0]) (Bh w.heap.size ba bi g _ pa ca 0 0 1 [] none 0 1 _ (by decide) rfl rfl rfl hC hA (fun W _ h2=>.inl ⟨_,_,rfl,rfl,rfl⟩) b4.size) ?_
 rintro _ W4 ⟨rfl,f1,h0,h1,hA⟩
 have c3:=b4.trans f1
 refine xc 10 (args:=#[P0 ba,V0 3,S0]) (Bh w.heap.size ba bi g _ pa ca 1 0 3 [] none 0 2 _ (by decide) rfl rfl rfl hC hA (fun W _ h2=>.inl ⟨_,_,rfl,rfl,rfl⟩) c3.size) ?_
 rintro _ W5 ⟨rfl,f2,h4,g3,hA⟩
 refine xr 10 (args:=#[P0 ba]) (Qz ba bi _ _ _ hA.blkA) fun W6 e3=>?_
 have a8:=hA.below e3
 refine xc 2 (args:=#[P0 bi,V0 1,V0 2,V0 5,V0 9]) (Pb w.heap.size bi (S1 g) 2560 ci (B24 2) 1 2 5 9 0 [] _ ⟨a8.blkI,a8.data,by omega⟩ (by decide) load24a rfl) ?_
 rintro _ W7 ⟨_,rfl,e2,px,cx,Zx,rfl,h6,_,_⟩
 refine xr 25 (args:=#[V0 3,V0 4]) (As _) fun W8 e1=>?_
 refine xbs 1 1 [V0 7,.string ⟨M24.toArray⟩,V0 0] 45 fun b9 W9 n9=>?_
 have c5:=bln (bln (bln (c3.trans f2) e3) e2) e1
 have g9:=n9.ge c5
 have d7:=((a8.below e2).below e1).below n9.below
 have c1:=bln c5 n9.below
 refine xc 0 (args:=#[P0 ba,V0 2,.slice (S1 b9) 1 1]) (Bh w.heap.size ba bi g _ pa ca 2 1 2 eM (S1 b9) 1 3 _ (by decide) rfl rfl rfl hC d7 (fun W _ h2=>((n9.blk.only h2 (by decide)).sl 1 1 (by decide) (by decide))) c1.size) ?_
 rintro _ f9 ⟨rfl,e0,c8,f4,hA⟩
 refine xr 11 (args:=#[V0 3]) (Nk 3 (by decide) (by decide) _) fun g8 a3=>?_
 refine xbs 1 1 [V0 2,.string ⟨R24.toArray⟩,V0 0] 45 fun e4 g5 a5=>?_
 have c0:=(n9.blk.only c8 (by decide)).below a3
 have d5:=a5.ne c0
 have b8:=bln (c1.trans e0) a3
 have g2:=a5.ge b8
 have c9:=(hA.below a3).below a5.below
 have c2:=bln b8 a5.below
 refine xc 0 (args:=#[P0 ba,V0 1,.slice (S1 e4) 1 1]) (Bh w.heap.size ba bi g _ pa ca 3 1 1 eR (S1 e4) 1 4 _ (by decide) rfl rfl rfl hC c9 (fun W _ h2=>((a5.blk.only h2 (by decide)).sl 1 1 (by decide) (by decide))) c2.size) ?_
 rintro _ g0 ⟨rfl,c7,b7,f0,hA⟩
 refine xr 10 (args:=#[.agg #[V0 1,V0 5,V0 0,V0 0]]) (Db _) fun g7 a1=>?_
 refine xbs 1 1 [V0 2,.string ⟨D24.toArray⟩,V0 0] 45 fun e5 g6 a9=>?_
 have d3:=((c0.below a5.below).only b7 (by decide)).below a1
 have d1:=a9.ne d3
 have b5:=(a5.blk.only b7 (by decide)).below a1
 have c6:=a9.ne b5
 have b6:=bln (c2.trans c7) a1
 have g1:=a9.ge b6
 have d2:=(hA.below a1).below a9.below
 have a6:=bln b6 a9.below
 refine xc 0 (args:=#[P0 ba,V0 3,.slice (S1 e5) 1 1]) (Bh w.heap.size ba bi g _ pa ca 4 1 3 eD (S1 e5) 1 5 _ (by decide) rfl rfl rfl hC d2 (fun W _ h2=>((a9.blk.only h2 (by decide)).sl 1 1 (by decide) (by decide))) a6.size) ?_
 rintro _ f8 ⟨rfl,b0,f5,e7,hA⟩
 refine xr 9 (args:=#[P0 ba]) (Qz ba bi _ _ _ hA.blkA) fun h3 a4=>?_
 have b3:=hA.below a4
 refine xc 2 (args:=#[P0 bi,V0 4,V0 5,V0 5,V0 9]) (Eu w.heap.size bi (S1 g) 2560 ci (B24 5) 4 5 5 9 _ ⟨b3.blkI,b3.data,by omega⟩ (by decide) load24b) ?_
 rintro _ h5 ⟨_,rfl,d6,pz,cz,pm,cm,rfl,f6,e6⟩
 have b2:=(bln (a6.trans b0) a4).size
 have a0:=Zh f6 b2
 refine xx 18 _ 1 0 5 (Sts.cell (f:=Cx) (l:=[(d24,pm,cm)]) (Zf a0) Yc zvD (k:=0) (i:=0) Nat.one_pos rfl).1 ?_
 refine xl 1 ((Sts.cell (f:=Cx) (l:=[(d24,pm,cm)]) (Zf a0) Yc zvD (k:=0) (i:=1) Nat.one_pos rfl).2) ?_
 refine xx 4 _ 1 0 5 (Sts.cell (f:=Cx) (l:=[(d24,pm,cm)]) (Zf a0) Yc zvD (k:=0) (i:=0) Nat.one_pos rfl).1 ?_
 refine xl 1 ((Sts.cell (f:=Cx) (l:=[(d24,pm,cm)]) (Zf a0) Yc zvD (k:=0) (i:=4) Nat.one_pos rfl).2) ?_
 refine xx 5 _ 1 0 5 (Sts.cell (f:=Cx) (l:=[(d24,pm,cm)]) (Zf a0) Yc zvD (k:=0) (i:=0) Nat.one_pos rfl).1 ?_
 refine xl 1 ((Sts.cell (f:=Cx) (l:=[(d24,pm,cm)]) (Zf a0) Yc zvD (k:=0) (i:=4) Nat.one_pos rfl).2) ?_
 have a2:=Zh e6 b2
 refine xx 0 _ 1 0 3 (Sts.cell (f:=Uu) (l:=[(7,3,4)]) (Zf a2) Yo (0,0,0) (k:=0) (i:=0) (by decide) rfl).1 ?_
 refine xlv 0 (Sts.rp (k:=0) (show Sts Uu _ (.slice pm ([(7,3,4)]:List Mp).length cm) [(7,3,4)] from(Zf a2)) Yo (0,0,0) (by decide) (by decide)) ?_
 have d9:=bln (bln (a6.trans b0) a4) d6
 exact xe 7 (.bool true) ⟨rfl,d9⟩
end Go.Proofs.YtgphgaehfdfjjaaGreat
namespace Go.Proofs.YtgphgaehfdfjjaaGreat
set_option maxHeartbeats 8000000
set_option maxRecDepth 100000
open Go.RowKit Go.Extern.Stop Go.Stop Go.Extern
set_option linter.unusedVariables false
attribute [local irreducible] wpList wpAnyH Code.wp Oper.wp Go
section
variable {P:Program} {a:Act} {w:World} {K:Act→World→Prop} {Q:Exit→Act→World→Prop}
theorem Tn{o:Oper}{t e:TypeId}{x y:Operand}{p:Addr}{g n c base size:Nat}{xs:List Value}{v:Value}(k off:Nat)(ho:o.op=.store t x y)(hx:a.eval x=.pointer (some p))(hp:p=⟨g,k*size+off,none⟩)(hy:a.eval y=v)
 (hi:(P.info? t).map (·.size)=some 1) (h1:v.oneCell'=true) (hown:w.ownsRow base e size (.slice (S1 g) n c) n xs) (hk:k*size+off<n*size)
 (h:∀ W,Upd w g W→W.ownsRow base e size (.slice (S1 g) n c) n (xs.set (k*size+off) v)→K (a.put o.dst undef) W):o.wp P a w K Q:=by
 subst hp
 obtain⟨hl,h2⟩:=hown
 rcases h2 with ⟨h2,_⟩|⟨g',a3,a0,hv,hg,hh,hc,hm,a1,a2⟩
 ·cases h2
 ·simp only[Value.slice.injEq,Option.some.injEq,Addr.mk.injEq] at hv
  obtain⟨⟨rfl,_⟩,_,rfl⟩:=hv
  have hb:Blk w g a0.toList e:=by unfold Blk;simpa using hh
  have a4:n*size≤c*size:=Nat.mul_le_mul_right size hc
  refine Xj ho hx hy hi h1 hb (by simp;omega) fun W hu hW=>h W hu ⟨by simpa using hl,.inr ⟨g,c,(a0.toList.set (k*size+off) v).toArray,rfl,hg,hW,hc,hm,by simpa using a1,?_⟩⟩
  rw[←a2]
  simp[List.take_set]
theorem elemF(g k size off:Nat):(Zw (S1 g) (k*size)).add off=⟨g,k*size+off,none⟩:=by rw[Mk,Addr.add_mid,Nat.zero_add]
end
end Go.Proofs.YtgphgaehfdfjjaaGreat
namespace Go.Proofs.YtgphgaehfdfjjaaGreat
set_option maxHeartbeats 8000000
set_option maxRecDepth 100000
open Go.RowKit Go.Extern.Stop Go.Stop Go.Extern
set_option linter.unusedVariables false
attribute [local irreducible] wpList wpAnyH Code.wp Oper.wp Go
def Nb:Bl:=List.replicate 51200 0
theorem Hu:Nb.length=51200:=List.length_replicate
theorem Fx{Z:List Zv}{L:List Dv}(hL:Z.map Prod.fst=L){i:Nat}(h:i<Z.length):L.getD i dvD=(Z.getD i zvD).1:=by rw[←hL];exact zfst h _
theorem Ig(B ba b g cc:Nat)(pa:O0)(ca:Nat)(F:List Yv)(x y data:Int)(L:List Dv)(n:Nat)(w:World)(hA:AlF B ba b g 51200 cc pa ca 199 Nb F w)(hcc:51200≤cc)(hO:Vv (Hc F 1 Nb) x y data 300=([],0,L))(hn:L.length=n) :
 C0 14 #[P0 b,V0 x,V0 y,V0 data,V0 300] w (Ky (fun w' r=>∃ p c Y,r=.tuple #[.slice p n c,.nilIface]∧Y.map Prod.fst=L∧DevsR w' p c Y) w):=by
 subst hn
 refine(Gz B b (S1 g) 51200 cc (Hc F 1 Nb) x y data 300 w ⟨hA.blkI,hA.data,by omega⟩ (by decide)).mono ?_
 rintro e W q
 rw[hO] at q
 rcases q with ⟨h,_⟩|⟨_,p,c,Y,rfl,hb,hZ,hM,ho⟩
 ·exact absurd rfl h
 ·have hZ:Y.map Prod.fst=L:=hZ
  have hl:Y.length=L.length:=by rw[←hZ,List.length_map]
  have ho:W.ownsRow w.heap.size 40 5 (.slice p L.length c) L.length (Y.flatMap Cx):=ho
  rw[←hl] at ho
  exact⟨_,rfl,hb,p,c,Y,rfl,hZ,Ze3 hM ho⟩
theorem Nl(B ba b g cc:Nat)(pa:O0)(ca:Nat)(F:List Yv)(x y data:Int)(w:World)(hA:AlF B ba b g 51200 cc pa ca 199 Nb F w)(hcc:51200≤cc)(hO:(Vv (Hc F 1 Nb) x y data 300).2.1≠0) :
 C0 14 #[P0 b,V0 x,V0 y,V0 data,V0 300] w (Ky (fun w' r=>∃ ty v,r=.tuple #[S0,.iface ty v]) w):=by
 refine(Gz B b (S1 g) 51200 cc (Hc F 1 Nb) x y data 300 w ⟨hA.blkI,hA.data,by omega⟩ (by decide)).mono ?_
 rintro e W q
 rcases q with ⟨_,ty,v,rfl,hb,_⟩|⟨h,_⟩
 ·exact⟨_,rfl,hb,ty,v,rfl⟩
 ·exact absurd h hO
theorem fst_all{Z Y:List Zv}{L:List Dv}(hZ:Z.map Prod.fst=L)(hY:Y.map Prod.fst=L)(n:Nat)(hn:L.length=n):∀ i,i<n→(Y.getD i zvD).1=(Z.getD i zvD).1:=by
 intro i hi
 have h1:i<Z.length:=by have:=congrArg List.length hZ;rw[List.length_map] at this;omega
 have h2:i<Y.length:=by have:=congrArg List.length hY;rw[List.length_map] at this;omega
 rw[←Fx hZ h1,←Fx hY h2]
def F1 (L:List Dv):List Yv:=Ju L++[(1,Yx L (Yy L))]
def F2 (L:List Dv):List Yv:=F1 L++[(3,Xm L (Xf L))]
def Qj(E:List Ent)(j:Nat):List Ent:=E.take j++E.drop (j+1)
def F3 (L:List Dv)(j:Nat):List Yv:=F2 L++[(1,Qj (Yx L (Yy L)) j)]
def F4 (L:List Dv)(j:Nat):List Yv:=F3 L j++[(3,Qj (Xm L (Xf L)) j)]
def F5 (L:List Dv)(j:Nat):List Yv:=F4 L j++[(3,Xm L (Vy L j))]
structure Few(data:Int)(L:List Dv):Prop where
 hd:data≤65536
 ok:DevsOk data L
 few:L.length≤30
 sum:Gf L≤300
theorem F1_n{data:Int}{L:List Dv}(h:Few data L):Xq (F1 L)≤108∧Xq (F2 L)≤117:=by
 have a:=devT_all h.few h.sum
 have b:=Zfu (n:=(Yx L (Yy L)).length) (by rw[Xg];exact h.few)
 have c:=Iu (n:=(Xm L (Xf L)).length) (by rw[Zr];exact h.few)
 have e1:Xq (F1 L)=Xq (Ju L)+Ka 1 (Yx L (Yy L)).length:=Yq _ _
 have e2:Xq (F2 L)=Xq (F1 L)+Ka 3 (Xm L (Xf L)).length:=Yq _ _
 omega
theorem F5_n{data:Int}{L:List Dv}(h:Few data L){j:Nat}(hj:j<L.length):Xq (F3 L j)≤120∧Xq (F4 L j)≤129∧Xq (F5 L j)≤138:=by
 have a:=(F1_n h).2
 have b:=Zfu (n:=(Qj (Yx L (Yy L)) j).length) (by unfold Qj;rw[Jy (by rw[Xg];exact hj),Xg];have:=h.few;omega)
 have c:=Iu (n:=(Qj (Xm L (Xf L)) j).length) (by unfold Qj;rw[Jy (by rw[Zr];exact hj),Zr];have:=h.few;omega)
 have d:=Iu (n:=(Xm L (Vy L j)).length) (by rw[Zr];exact h.few)
 have e1:Xq (F3 L j)=Xq (F2 L)+Ka 1 (Qj (Yx L (Yy L)) j).length:=Yq _ _
 have e2:Xq (F4 L j)=Xq (F3 L j)+Ka 3 (Qj (Xm L (Xf L)) j).length:=Yq _ _
 have e3:Xq (F5 L j)=Xq (F4 L j)+Ka 3 (Xm L (Vy L j)).length:=Yq _ _
 omega
theorem Zar{data:Int}{L:List Dv}(h:Few data L){j:Nat}(hj:j<L.length):Vf (1,Qj (Yx L (Yy L)) j):=by
 have:=h.few
 exact⟨show(1:Int)≤1 by decide,show(1:Int)≤5 by decide,Sg (Ou h.ok) j (by rw[Xg];exact hj),by unfold Qj;rw[Jy (by rw[Xg];exact hj),Xg];omega⟩
theorem Zaz{data:Int}{L:List Dv}(h:Few data L){j:Nat}(hj:j<L.length):Vf (3,Qj (Xm L (Xf L)) j):=by
 have:=h.few
 exact⟨show(1:Int)≤3 by decide,show(3:Int)≤5 by decide,Sg (Zac h.ok) j (by rw[Zr];exact hj),by unfold Qj;rw[Jy (by rw[Zr];exact hj),Zr];omega⟩
theorem Zbm{data:Int}{L:List Dv}(h:Few data L){j:Nat}(hj:j<L.length):∀ x∈F5 L j,Vf x:=by
 intro x hx
 simp only[F5,F4,F3,F2,F1,List.mem_append,List.mem_singleton] at hx
 rcases hx with (((((hx|rfl)|rfl)|rfl)|rfl)|rfl)
 ·exact Av h.ok x hx
 ·exact Ze5 h.ok
 ·exact St h.ok
 ·exact Zar h hj
 ·exact Zaz h hj
 ·exact St h.ok
theorem F2_ok{data:Int}{L:List Dv}(h:Few data L):∀ x∈F2 L,Vf x:=by
 intro x hx
 simp only[F2,F1,List.mem_append,List.mem_singleton] at hx
 rcases hx with ((hx|rfl)|rfl)
 ·exact Av h.ok x hx
 ·exact Ze5 h.ok
 ·exact St h.ok
theorem Kc{F a b:List Yv}{y:Yv}(e:F=a++y::b)(h:∀ x∈F,Vf x)(hn:Xq F≤199):Ko (Hc F 1 Nb) 300 y.1 y.2 (Xq (a++[y]):Int):=by
 subst e
 have a0:Xq (a++y::b)=Xq a+(Qe y+Xq b):=Hy _ _
 exact Dm h (by rw[Hu];omega) (by omega) (by omega)
theorem F2_stand{data:Int}{L:List Dv}(h:Few data L):DevsStand (Hc (F2 L) 1 Nb) 300 data L (Yy L) (Xf L) (Xq (F1 L):Int) (Xq (F2 L):Int):=by
 have hn:=F1_n h
 have e:F2 L=Ju L++[(1,Yx L (Yy L)),(3,Xm L (Xf L))]:=by simp[F2,F1]
 have hd:=Dh (L:=L) (R:=[(1,Yx L (Yy L)),(3,Xm L (Xf L))]) (bs:=Nb) (fuel:=300) (by rw[←e];exact F2_ok h) (by rw[←e,Hu];omega) (by rw[←e];omega) (by rw[←e];omega)
 rw[←e] at hd
 exact⟨Kc (a:=F1 L) (y:=(3,Xm L (Xf L))) (b:=[]) rfl (F2_ok h) (by omega),Kc (a:=Ju L) (y:=(1,Yx L (Yy L))) (b:=[(3,Xm L (Xf L))]) e (F2_ok h) (by omega),fun i hi=>(hd i hi).1,fun i hi=>(hd i hi).2⟩
theorem F2_load{data:Int}{L:List Dv}(h:Few data L):Vv (Hc (F2 L) 1 Nb) (Xq (F1 L):Int) (Xq (F2 L):Int) data 300=([],0,L):=Zcs h.hd h.ok (F2_stand h)
theorem F5_app(L:List Dv)(j:Nat):F5 L j=Ju L++[(1,Yx L (Yy L)),(3,Xm L (Xf L)),(1,Qj (Yx L (Yy L)) j),(3,Qj (Xm L (Xf L)) j),(3,Xm L (Vy L j))]:=by simp[F5,F4,F3,F2,F1]
theorem F5_top{data:Int}{L:List Dv}(h:Few data L){j:Nat}(hj:j<L.length):Ko (Hc (F5 L j) 1 Nb) 300 1 (Yx L (Yy L)) (Xq (F1 L):Int):=by
 have hn:=F5_n h hj
 exact Kc (a:=Ju L) (y:=(1,Yx L (Yy L))) (F5_app L j) (Zbm h hj) (by omega)
theorem F5_det{data:Int}{L:List Dv}(h:Few data L){j:Nat}(hj:j<L.length):Ko (Hc (F5 L j) 1 Nb) 300 3 (Xm L (Xf L)) (Xq (F2 L):Int):=by
 have hn:=F5_n h hj
 exact Kc (a:=F1 L) (y:=(3,Xm L (Xf L))) (b:=[(1,Qj (Yx L (Yy L)) j),(3,Qj (Xm L (Xf L)) j),(3,Xm L (Vy L j))]) (by simp[F5,F4,F3,F2]) (Zbm h hj) (by omega)
theorem F5_less{data:Int}{L:List Dv}(h:Few data L){j:Nat}(hj:j<L.length):(Vv (Hc (F5 L j) 1 Nb) (Xq (F3 L j):Int) (Xq (F2 L):Int) data 300).2.1≠0:=by
 have hn:=F5_n h hj
 have s:=Kc (F:=F5 L j) (a:=F2 L) (y:=(1,Qj (Yx L (Yy L)) j)) (b:=[(3,Qj (Xm L (Xf L)) j),(3,Xm L (Vy L j))]) (by simp[F5,F4,F3]) (Zbm h hj) (by omega)
 exact Rx (F5_det h hj) s (by unfold Qj;rw[Zr,Jy (by rw[Xg];exact hj),Xg];omega)
theorem F5_fewer{data:Int}{L:List Dv}(h:Few data L){j:Nat}(hj:j<L.length):(Vv (Hc (F5 L j) 1 Nb) (Xq (F1 L):Int) (Xq (F4 L j):Int) data 300).2.1≠0:=by
 have hn:=F5_n h hj
 have s:=Kc (F:=F5 L j) (a:=F3 L j) (y:=(3,Qj (Xm L (Xf L)) j)) (b:=[(3,Xm L (Vy L j))]) (by simp[F5,F4]) (Zbm h hj) (by omega)
 exact Rx s (F5_top h hj) (by unfold Qj;rw[Xg,Jy (by rw[Zr];exact hj),Zr];omega)
theorem F5_other{data:Int}{L:List Dv}(h:Few data L){j:Nat}(hj:j<L.length):(Vv (Hc (F5 L j) 1 Nb) (Xq (F1 L):Int) (Xq (F5 L j):Int) data 300).2.1≠0:=by
 have hn:=F5_n h hj
 have e:=F5_app L j
 have hd:=Dh (L:=L) (R:=[(1,Yx L (Yy L)),(3,Xm L (Xf L)),(1,Qj (Yx L (Yy L)) j),(3,Qj (Xm L (Xf L)) j),(3,Xm L (Vy L j))]) (bs:=Nb) (fuel:=300) (by rw[←e];exact Zbm h hj) (by rw[←e,Hu];omega) (by rw[←e];omega) (by rw[←e];omega)
 rw[←e] at hd
 have s:=Kc (F:=F5 L j) (a:=F4 L j) (y:=(3,Xm L (Vy L j))) (b:=[]) rfl (Zbm h hj) (by omega)
 have hm:=Ex hj
 have a0:=h.sum
 exact Zdg h.hd h.ok ⟨s,F5_top h hj,fun i hi=>(hd i hi).1,fun i hi=>(hd i hi).2⟩ hj (by unfold Vy;rw[if_pos rfl];omega) (by unfold Vy;rw[if_pos rfl];omega)
theorem few_of{t u v x:Int}{Z:List Zv}{L:List Dv}{n:Nat}(hZ:Z.length=n)(hL:Z.map Prod.fst=L)(h1:¬ (n:Int)>30)(h2:¬ wsum (Z.map Prod.fst)>300)(h3:Sq t u v x (Z.map Prod.fst)=0):Few x L:=by
 rw[hL] at h2 h3
 have hk:=poolE_ok.1 h3
 have hl:L.length=n:=by rw[←hL,List.length_map];exact hZ
 have:=Il hk.devs.few hk.devs.each
 exact⟨hk.hdata.2,hk.devs,by omega,by omega⟩
theorem Ty(p q:O0)(c d n:Nat)(Z Y:List Zv)(w:World)(hZ:Z.length=n)(hY:Y.length=n)(hZY:∀ i,i<n→(Z.getD i zvD).1=(Y.getD i zvD).1)(hP:DevsR w p c Z)(hQ:DevsR w q d Y) :
 C0 16 #[.slice p n c,.slice q n d] w (Ret (.bool true) w):=by
 refine zin 10 Tryz.func16 ?_
 refine xr 11 (args:=#[.agg #[V0 0,V0 0,V0 0,V0 0,.slice p n c],.agg #[V0 0,V0 0,V0 0,V0 0,.slice q n d]]) (Zcy p q c d n 0 0 0 0 Z Y _ hZ hY hZY (hP.below (B3 w)) (hQ.below (B3 w))) fun W1 a0=>?_
 exact xe 4 (.bool true) ⟨rfl,a0⟩
theorem Ta(p:O0)(c n:Nat)(t u v x:Int)(Z:List Zv)(L:List Dv)(out:Int)(w:World)(hZ:Z.length=n)(hL:Z.map Prod.fst=L)(hP:DevsR w p c Z) :
 C0 3 #[.agg #[V0 t,V0 u,V0 v,V0 x,.slice p n c],V0 out] w (Ret (.bool true) w):=by
 refine zin 311 Tryz.func3 ?_
 refine xa 2 [V0 t,V0 u,V0 v,V0 x,.slice p n c] 24 fun b1 W1 n1=>?_
 refine xb 7 4 n1.blk ?_
 refine xg 3 [30,31] (decide ((n:Int)>(30:Int))) (fun j6=>?_) (fun j6=>?_)
 ·have j6:=of_decide_eq_true j6
  refine xr 14 (args:=#[]) (Bz _) fun W3 x9=>?_
  have hB:=bln n1.below x9
  exact xe 5 (.bool true) ⟨rfl,hB⟩
 have j6:=of_decide_eq_false j6
 refine xlv 0 n1.blk.rp ?_
 refine xr 0 (args:=#[.agg #[V0 t,V0 u,V0 v,V0 x,.slice p n c]]) (Dy p c n t u v x Z _ hZ (hP.below n1.below)) fun W4 q3=>?_
 refine xg 3 [34,35,36] (decide ((wsum (Z.map Prod.fst))>(300:Int))) (fun j4=>?_) (fun j4=>?_)
 ·have j4:=of_decide_eq_true j4
  refine xr 9 (args:=#[]) (Bz _) fun W6 w7=>?_
  have v4:=bln (bln n1.below q3) w7
  exact xe 5 (.bool true) ⟨rfl,v4⟩
 have j4:=of_decide_eq_false j4
 have k3:=n1.blk.below q3
 refine xlv 0 k3.rp ?_
 have i8:=bln n1.below q3
 refine xr 0 (args:=#[.agg #[V0 t,V0 u,V0 v,V0 x,.slice p n c]]) (Zcf p c n t u v x Z _ hZ (hP.below i8)) fun W7 s7=>?_
 refine xin 4 (Sq t u v x (Z.map Prod.fst)) (0:Int) (fun w2=>?_) (fun w2=>?_)
 ·refine xr 2 (args:=#[]) (Bz _) fun W9 aa=>?_
  have q6:=bln (bln i8 s7) aa
  exact xe 5 (.bool true) ⟨rfl,q6⟩
 have hF:=few_of hZ hL j6 j4 w2
 have y9:=hF.few
 have y7:=hF.sum
 have t1:L.length=n:=by rw[←hL,List.length_map];exact hZ
 refine xmk 4 fun _ _ _ _ zJ zQ zo zx zy zK=>Hf 51200 (.int .u8 0) 1 1 (Nb.map bv) zo zx zy Tryz.underlying36 (by kernel_rfl) rfl (by omega) (by omega) (Oz 51200) fun v6 bm n0=>?_
 have i0:=bln i8 s7
 have ae:=n0.ge i0
 refine zK _ _ ?_
 have x6:=Xo (size:=1) (n:=51200) n0.blk ae (by rw[List.length_map,Hu]) (by unfold maxLen;omega)
 refine xc 0 (args:=#[.slice (S1 v6) 51200 51200]) (Si (S1 v6) 51200 51200 51200 Nb _ Hu (by omega) (Jh (Zf x6) Hu) (by omega) (Nat.le_refl _)) ?_
 rintro _ cr ⟨_,rfl,p3,bi,pi,ci,rfl,gi,ki,hd⟩
 have t8:=(bln i0 n0.below).size
 have i3:=Zh hd t8
 rw[List.take_of_length_le (by rw[Hu];omega)] at i3
 obtain⟨g,rfl,m9⟩:=Lm i3 (by omega)
 have i9:=bln (bln i0 n0.below) p3
 have af:=i9.size
 refine xc 0 (args:=#[P0 bi,V0 1]) (En bi (S1 g) 51200 ci 1 199 (1:Int) rfl (by omega) _ ki (by omega) (by decide) (by omega)) ?_
 rintro _ bt ⟨_,rfl,g1,ba,pa,ca,rfl,ga,ka,ho⟩
 replace ga:=Nat.le_trans af ga
 have s9:=ki.below g1
 have r2:=Zb i3 g1
 have k6:=Zh ho i9.size
 have hA:AlF w.heap.size ba bi g 51200 ci pa ca 199 Nb [] _:=⟨ka,s9,r2,k6⟩
 have x7:199≤ca:=Lk k6 (by decide)
 have hC:AlC w.heap.size ba 51200 ci ca 1 199:=⟨by omega,m9,x7,by omega,ga⟩
 have q4:=bln i9 g1
 have s8:=(((k3.below s7).below n0.below).below p3).below g1
 refine zl 34 311 (fun zm q0 V=>∃ (i:Nat) (p7:O0) (c7:Nat) (p8:O0) (c8:Nat),q0=[(1,V0 out),(2,P0 b1),(5,P0 ba),(6,.nilIface),(7,.slice p7 i c7),(8,.slice p8 i c8),(9,V0 (i:Int))]∧zm=n-((i:Int)).toNat∧B0 w V∧Blk V b1 ([V0 t,V0 u,V0 v,V0 x,.slice p n c]) 24∧V.ownsRow w.heap.size 45 3 (.slice p7 i c7) i (((Yx L (Yy L)).take i).flatMap Va)∧V.ownsRow w.heap.size 45 3 (.slice p8 i c8) i (((Xm L (Xf L)).take i).flatMap Va)∧AlF w.heap.size ba bi g 51200 ci pa ca 199 Nb (Ju (L.take i)) V∧i≤n∧He (.slice p7 i c7) (.slice p8 i c8)) ⟨0,none,0,none,0,rfl,rfl,q4,s8,World.ownsRow_nil _ _ _ _,World.ownsRow_nil _ _ _ _,hA,Nat.zero_le _,He.nil _⟩ ?_
 rintro _ _ bg ⟨i,p7,c7,p8,c8,rfl,rfl,b4,a7,g0,i6,hA,hi,i1⟩ cv q2 ax
 refine xb 5 4 a7 ?_
 refine xid 4 ((i:Int)<(n:Int)) (fun u0=>?_) (fun u0=>?_)
 ·have j5:=Fx hL (i:=i) (by omega)
  have w9:=Ex (L:=L) (i:=i) (by omega)
  rw[j5] at w9
  have k0:=(hF.ok.each (L.getD i dvD) (Zbb _ (by omega))).maps
  have l9:=hF.ok.each (L.getD i dvD) (Zbb _ (by omega))
  rw[j5] at k0 l9
  have w3:Ju (L.take i)++[(2,Jf (Z.getD i zvD).1.2)]=Ju (L.take (i+1)):=by rw[Bp (by omega),j5]
  have y1:Vf (2,Jf (Z.getD i zvD).1.2):=by rw[←j5];exact Zc4 hF.ok (by omega)
  have bz:=Zf2 (L:=L) (i:=i) (by omega)
  have bn:=Zah hF.few hF.sum (i+1)
  have hM:=hP.each i (by omega)
  refine xb 7 4 a7 ?_
  refine xx 1 _ n i 5 (hP.someN hZ (i:=i) (by omega)) ?_
  refine xlv 0 (Sts.rp (k:=i) (hP.below b4).row Yc zvD (by omega) (by decide)) ?_
  refine xa 0 [V0 0,V0 0,V0 0,V0 0,S0] 40 fun y2 bu e2=>?_
  have y4:=e2.ge b4
  refine xsv 0 e2.blk [V0 ((Z.getD i zvD).1.1.1),V0 ((Z.getD i zvD).1.1.2.1),V0 ((Z.getD i zvD).1.1.2.2.1),V0 ((Z.getD i zvD).1.1.2.2.2),.slice ((Z.getD i zvD).2.1) ((Z.getD i zvD).1.2.length) ((Z.getD i zvD).2.2)] fun b7 m0 l3=>?_
  have t0:=m0.below (bln b4 e2.below) y4
  have j1:=t0
  have hB:=Below.refl b7.heap.size b7
  refine zl 14 311 (fun zm q0 V=>∃ (k:Nat) (p1:O0) (c1:Nat),q0=[(1,V0 out),(2,P0 b1),(5,P0 ba),(6,.nilIface),(7,.slice p7 i c7),(8,.slice p8 i c8),(9,V0 (i:Int)),(10,P0 y2),(11,.slice p1 k c1),(12,V0 (k:Int))]∧zm=(Z.getD i zvD).1.2.length-((k:Int)).toNat∧Below b7.heap.size b7 V∧V.ownsRow b7.heap.size 45 3 (.slice p1 k c1) k (((Jf (Z.getD i zvD).1.2).take k).flatMap Va)∧k≤(Z.getD i zvD).1.2.length) ⟨0,none,0,rfl,rfl,hB,World.ownsRow_nil _ _ _ _,Nat.zero_le _⟩ ?_
  rintro _ _ s3 ⟨k,p1,c1,rfl,rfl,d7,hl,hk⟩ co u1 bf
  refine xl 5 ((l3.below d7).cell (i:=4) rfl) ?_
  refine xid 4 ((k:Int)<(↑((Z.getD i zvD).1.2.length):Int)) (fun s1=>?_) (fun s1=>?_)
  ·have bh:=k0.each ((Z.getD i zvD).1.2.getD k mpD) (Zbb _ (by omega))
   have bq:=hF.hd
   refine xd 4 (.t b7.heap.size [45]) ?_
   have c2:=bln d7 (Za s3)
   refine xlt (.e [0,1] 2) (.t b7.heap.size [45]) (fun V hV=>((l3.below (Ya c2 hV (Nat.le_refl _))).cell (i:=4) rfl)) ?_
   refine xx (.e [3] 4) _ ((Z.getD i zvD).1.2.length) k 3 (Sts.cell hM Yo mpD (k:=k) (i:=0) (by omega) rfl).1 ?_
   have a8:=hM.below j1
   refine xlt (.e [5] 6) (.t b7.heap.size [45]) (fun V hV=>(Sts.cell (a8.below (Ya c2 hV (Nat.le_refl _))) Yo mpD (k:=k) (i:=0) (by omega) rfl).2) ?_
   refine xlt (.e [7] 8) (.t b7.heap.size [45]) (fun V hV=>((l3.below (Ya c2 hV (Nat.le_refl _))).cell (i:=4) rfl)) ?_
   refine xx (.e [9] 10) _ ((Z.getD i zvD).1.2.length) k 3 (Sts.cell hM Yo mpD (k:=k) (i:=0) (by omega) rfl).1 ?_
   refine xlt (.e [11] 12) (.t b7.heap.size [45]) (fun V hV=>(Sts.cell (a8.below (Ya c2 hV (Nat.le_refl _))) Yo mpD (k:=k) (i:=1) (by omega) rfl).2) ?_
   refine xlt (.e [13] 14) (.t b7.heap.size [45]) (fun V hV=>((l3.below (Ya c2 hV (Nat.le_refl _))).cell (i:=4) rfl)) ?_
   refine xx (.e [15] 16) _ ((Z.getD i zvD).1.2.length) k 3 (Sts.cell hM Yo mpD (k:=k) (i:=0) (by omega) rfl).1 ?_
   refine xlt (.e [17] 18) (.t b7.heap.size [45]) (fun V hV=>(Sts.cell (a8.below (Ya c2 hV (Nat.le_refl _))) Yo mpD (k:=k) (i:=2) (by omega) rfl).2) ?_
   refine xr (.o [] 19) (args:=#[V0 (((Z.getD i zvD).1.2.getD k mpD).2.1),V0 (((Z.getD i zvD).1.2.getD k mpD).2.2)]) (Zdh ((Z.getD i zvD).1.2.getD k mpD) _ ⟨by omega,by omega⟩ ⟨by omega,by omega⟩) fun ce n3=>?_
   refine xbs (.o [20] 21) 1 [V0 (((Z.getD i zvD).1.2.getD k mpD).1),.string ⟨(Zdx ((Z.getD i zvD).1.2.getD k mpD)).toArray⟩,V0 0] 45 fun cb bw n4=>?_
   have n7:=bln c2 n3
   have ar:=n4.ge n7
   have k1:=Zb (Zb hl (Za s3)) n3
   have q5:=Xa k1 n4
   have l5:=Zb k1 n4.below
   have g8:=bln n7 n4.below
   refine ybi (.o [] 22) (.t b7.heap.size [45]) fun _ _ _ _ zJ zQ zo zx zy zK=>Xk (m:=1) (news:=[V0 (((Z.getD i zvD).1.2.getD k mpD).1),.string ⟨(Zdx ((Z.getD i zvD).1.2.getD k mpD)).toArray⟩,V0 0]) (.agg #[V0 0,.string ⟨#[]⟩,V0 0]) 3 32 (k+1) ((((Jf (Z.getD i zvD).1.2).take (k+1)).flatMap Va)) zo Tryz.underlying37 (by kernel_rfl) rfl (by decide) zx l5 zy (n4.blk.sl 1 1 (by decide) (by decide)) rfl (by simp[Value.oneCell']) (by unfold maxLen;omega) (by omega) g8.size (by rfl) (by exact Au (by rw[Vi];omega) (Hs (by omega))) fun z5 ah cp ag p9 m6=>?_
   refine zK _ _ (Yd m6 p9 l5 (by decide)) ?_
   refine xwm (.r [23] 5) ((k:Int)+1) (↑(k+1):Int) ?_
   have l8:=g8.trans m6
   exact ze 2 (u1 _ _ _ ⟨k+1,_,_,rfl,rfl,l8,ag,by omega⟩ (by omega))
  have d2:Below b7.heap.size b7 s3:=d7
  have r7:w.heap.size≤b7.heap.size:=j1.size
  have x2:(k:Int)=(↑(Z.getD i zvD).1.2.length:Int):=by omega
  have i4:=Zh hl r7
  rw[List.take_of_length_le (by rw[Vi];omega)] at i4
  have t3:=((hA.below e2.below).only (Ze.of_upd (T:=[40]) m0 e2.blk (by decide)) (by decide)).below d2
  have hB:=bln j1 d2
  refine xc 9 (args:=#[P0 ba,V0 2,.slice p1 k c1]) (by have q:=Nd w.heap.size ba bi g 51200 ci pa ca 199 Nb (Ju (L.take i)) 2 p1 c1 k (Jf (Z.getD i zvD).1.2) _ (by rw[Vi];omega) hC t3 (y1) (by rw[w3];have:=Zah hF.few hF.sum (i+1);omega) (fun W _ h2=>Zf (Zg i4 h2 (by decide))) hB.size ;rw[w3] at q;exact q) ?_
  rintro _ i2 ⟨rfl,s2,d5,z2,hA⟩
  refine xd 18 (.t w.heap.size [45]) ?_
  have g9:=((l3.below d2).only d5 (by decide)).below (Za i2)
  refine xbt (.e [0,1] 2) 0 w.heap.size [45] g9 ?_
  refine xr (.o [3] 4) (args:=#[V0 (↑(Xq (Ju (L.take (i+1)))):Int)]) (Nk (↑(Xq (Ju (L.take (i+1)))):Int) (by omega) (by omega) _) fun cw b8=>?_
  refine xbs (.o [5] 6) 1 [V0 ((Z.getD i zvD).1.1.1),.string ⟨(leB (↑(Xq (Ju (L.take (i+1)))):Int) 4).toArray⟩,V0 0] 45 fun x3 cl f1=>?_
  have h0:=bln (bln (hB.trans s2) (Za i2)) b8
  have bl:=f1.ge h0
  have d9:=Zb (Zb (Zg (Zb (m0.own2 (Zb g0 e2.below) e2.blk (by decide)) d2) d5 (by decide)) (Za i2)) b8
  have m8:=Xa d9 f1
  have e6:=Zb (Zb (Zg (Zb (m0.own2 (Zb i6 e2.below) e2.blk (by decide)) d2) d5 (by decide)) (Za i2)) b8
  have n6:=Xa e6 f1
  have u5:=Zb (Zb (Zg i4 d5 (by decide)) (Za i2)) b8
  have p5:=Xa u5 f1
  have a4:=Zb d9 f1.below
  have h3:=bln h0 f1.below
  refine ybi (.o [] 7) (.t w.heap.size [45]) fun _ _ _ _ zJ zQ zo zx zy zK=>Wu (b:=x3) (c:=1) (m:=1) (news:=[V0 ((Z.getD i zvD).1.1.1),.string ⟨(leB (↑(Xq (Ju (L.take (i+1)))):Int) 4).toArray⟩,V0 0]) (.agg #[V0 0,.string ⟨#[]⟩,V0 0]) 3 32 (i+1) ((((Yx L (Yy L)).take (i+1)).flatMap Va)) zo Tryz.underlying37 (by kernel_rfl) rfl (by decide) zx a4 zy f1.blk rfl (by simp[Value.oneCell']) (by unfold maxLen;omega) (by omega) h3.size (by rfl) (by have e:=Ji (L:=L) (R:=Yy L) (i:=i) (by omega);rw[j5] at e;exact Au (by rw[Xg];omega) e) fun x8 x4 j3 z6 e7 l6 t6=>?_
  have d8:=Zb e6 f1.below
  have d4:=i1.row d8 e7
  replace i1:=(i1.grow d8 t6)
  have f9:=d4
  refine zK _ _ (Yd l6 e7 a4 (by decide)) ?_
  refine xd (.r [8] 2) (.t w.heap.size [45]) ?_
  have c3:=(((g9.below b8).below f1.below).grown e7 a4 (by decide)).below (Za j3)
  refine xbt (.e [0,1] 2) 0 w.heap.size [45] c3 ?_
  refine xbt (.e [3,4,5] 6) 1 w.heap.size [45] c3 ?_
  refine xbt (.e [7] 8) 2 w.heap.size [45] c3 ?_
  refine xbt (.e [9] 10) 3 w.heap.size [45] c3 ?_
  refine xr (.o [11] 12) (args:=#[.agg #[V0 (k:Int),V0 ((Z.getD i zvD).1.1.2.1),V0 ((Z.getD i zvD).1.1.2.2.1),V0 ((Z.getD i zvD).1.1.2.2.2)]]) (Pm x (k:Int) (Z.getD i zvD).1 _ l9 ⟨by omega,by omega⟩) fun bk e5=>?_
  refine xbs (.o [13] 14) 1 [V0 ((Z.getD i zvD).1.1.1),.string ⟨(Vd (k:Int) (Z.getD i zvD).1).toArray⟩,V0 0] 45 fun ad bo f5=>?_
  have h1:=bln (bln (h3.trans l6) (Za j3)) e5
  have ck:=f5.ge h1
  have e3:=Zb (Zb f9 (Za j3)) e5
  have m3:=Xa e3 f5
  have h6:=Zb (Zb z6 (Za j3)) e5
  have p4:=Xa h6 f5
  have a9:=Zb e3 f5.below
  have g3:=bln h1 f5.below
  refine ybi (.o [] 15) (.t w.heap.size [45]) fun _ _ _ _ zJ zQ zo zx zy zK=>Wu (b:=ad) (c:=1) (m:=1) (news:=[V0 ((Z.getD i zvD).1.1.1),.string ⟨(Vd (k:Int) (Z.getD i zvD).1).toArray⟩,V0 0]) (.agg #[V0 0,.string ⟨#[]⟩,V0 0]) 3 32 (i+1) ((((Xm L (Xf L)).take (i+1)).flatMap Va)) zo Tryz.underlying37 (by kernel_rfl) rfl (by decide) zx a9 zy f5.blk rfl (by simp[Value.oneCell']) (by unfold maxLen;omega) (by omega) g3.size (by rfl) (by have e:=Qg (L:=L) (C:=Xf L) (i:=i) (by omega);unfold Xf at e;rw[j5,←x2] at e;exact Au (by rw[Zr];omega) e) fun z8 z1 cu y8 f7 k8 u4=>?_
  have g7:=Zb h6 f5.below
  have f6:=i1.symm.row g7 f7
  replace i1:=(i1.symm.grow g7 u4).symm
  have i7:=f6
  refine zK _ _ (Yd k8 f7 a9 (by decide)) ?_
  refine xwm (.r [16] 5) ((i:Int)+1) (↑(i+1):Int) ?_
  have j8:=g3.trans k8
  have e4:=((((((((((m0.blkT (a7.below e2.below) e2.blk (by decide)).below d2).only d5 (by decide)).below (Za i2)).below b8).below f1.below).grown e7 a4 (by decide)).below (Za j3)).below e5).below f5.below).grown f7 a9 (by decide)
  have q1:=(((((((hA.below (Za i2)).below b8).below f1.below).only (Ze.of_grown (T:=[45]) e7 a4 (by decide)) (by decide)).below (Za j3)).below e5).below f5.below).only (Ze.of_grown (T:=[45]) f7 a9 (by decide)) (by decide)
  exact ze 2 (q2 _ _ _ ⟨i+1,_,_,_,_,rfl,rfl,j8,e4,i7,y8,q1,by omega,i1⟩ (by omega))
 have cf:i=n:=by omega
 rw[List.take_of_length_le (by rw[Xg];omega)] at g0
 rw[List.take_of_length_le (by rw[Zr];omega)] at i6
 rw[show L.take i=L from List.take_of_length_le (by omega)] at hA
 refine xc 9 (args:=#[P0 ba,V0 1,.slice p7 i c7]) (by have q:=Nd w.heap.size ba bi g 51200 ci pa ca 199 Nb (Ju L) 1 p7 c7 i ((Yx L (Yy L))) _ (by rw[Xg];omega) hC hA (Ze5 hF.ok) (by rw[show Ju L++[(1,(Yx L (Yy L)))]=F1 L from rfl];have:=F1_n hF;omega) (fun W _ h2=>Zf (Zg g0 h2 (by decide))) b4.size ;rw[show Ju L++[(1,(Yx L (Yy L)))]=F1 L from rfl] at q;exact q) ?_
 rintro _ ap ⟨rfl,t7,h9,w6,hA⟩
 have f3:=Zg i6 h9 (by decide)
 have g5:=b4.trans t7
 refine xc 11 (args:=#[P0 ba,V0 3,.slice p8 i c8]) (by have q:=Nd w.heap.size ba bi g 51200 ci pa ca 199 Nb (F1 L) 3 p8 c8 i ((Xm L (Xf L))) _ (by rw[Zr];omega) hC hA (St hF.ok) (by rw[show F1 L++[(3,(Xm L (Xf L)))]=F2 L from rfl];have:=F1_n hF;omega) (fun W _ h2=>Zf (Zg f3 h2 (by decide))) g5.size ;rw[show F1 L++[(3,(Xm L (Xf L)))]=F2 L from rfl] at q;exact q) ?_
 rintro _ m4 ⟨rfl,s0,i5,y3,hA⟩
 refine xd 8 .z ?_
 have b5:=((a7.only h9 (by decide)).only i5 (by decide)).below (Za m4)
 refine xb (.e [0,2,3,4] 5) 3 b5 ?_
 have o1:=hA.below (Za m4)
 refine xr (.o [] 1) (args:=#[P0 ba]) (Qz ba bi _ _ _ o1.blkA) fun bb f0=>?_
 have k9:=o1.below f0
 refine yc (.o [] 6) (args:=#[P0 bi,V0 (↑(Xq (F1 L)):Int),V0 (↑(Xq (F2 L)):Int),V0 x,V0 300]) .z (Ig w.heap.size ba bi g ci pa ca (F2 L) _ _ x L n _ k9 m9 (F2_load hF) t1) ?_
 rintro _ ay ⟨_,rfl,c9,pq,cq,Y,rfl,hY,hQ⟩
 refine⟨c9,?_⟩
 have z7:Y.length=n:=by rw[←t1,←hY,List.length_map]
 have b0:=(b5.below f0).below c9
 refine xb (.r [7,8,9,10,11] 18) 4 b0 ?_
 have d6:=bln (bln (bln (g5.trans s0) (Za m4)) f0) c9
 refine xr 0 (args:=#[.slice pq n cq,.slice p n c]) (Ty pq p cq c n Y Z _ z7 hZ (fst_all hL hY n t1) hQ (hP.below d6)) fun c5 d3=>?_
 have b3:=b0.below d3
 refine xb 11 4 b3 ?_
 refine xie 4 (n:Int) (0:Int) (fun s4=>?_) (fun s4=>?_)
 ·refine xr 2 (args:=#[]) (Bz _) fun cc u2=>?_
  have n9:=bln (bln d6 d3) u2
  exact xe 5 (.bool true) ⟨rfl,n9⟩
 have f2:=Zb (Zb (Zb (Zb (Zg (Zg g0 h9 (by decide)) i5 (by decide)) (Za m4)) f0) c9) d3
 have ak:=Lk f2 (by omega)
 have c0:=Zb (Zb (Zb (Zb (Zg f3 i5 (by decide)) (Za m4)) f0) c9) d3
 have al:=Lk c0 (by omega)
 obtain⟨r1,j,x1,hj,cj,bd,aq⟩:=tmod_ok out (n:=n) (by omega)
 have t9:=Fx hL (i:=j) (by omega)
 have ab:=Ex (L:=L) (i:=j) (by omega)
 rw[t9] at ab
 have v9:=hF.ok.each (L.getD j dvD) (Zbb _ (by omega))
 rw[t9] at v9
 refine xd 3 .z ?_
 have a1:=b3.below (Za c5)
 refine xb (.e [0,1] 2) 4 a1 ?_
 refine xbo (.e [3] 4) (t:=3) (t2:=3) (fun _ _ _ _ zo zx zy V hV=>Zhc (k:=.i64) (p:=out) (q:=(n:Int)) (r:=r1) zo zx zy (by omega) x1 V) ?_
 refine xb (.e [5] 6) 4 a1 ?_
 refine xw (.e [7] 8) (r1+(n:Int)) ?_
 refine xb (.e [9] 10) 4 a1 ?_
 refine xbo (.e [11] 12) (t:=3) (t2:=3) (fun _ _ _ _ zo zx zy V hV=>Zhc (k:=.i64) (p:=r1+(n:Int)) (q:=(n:Int)) (r:=(j:Int)) zo zx zy (by omega) hj V) ?_
 have n8:=bln (bln d6 d3) (Za c5)
 have o4:=n8
 refine xd (.r [13] 3) (.t c5.drew.heap.size [45]) ?_
 refine xsH (.e [1,2] 3) (fun _ _ _ _ zo zx zy V=>Xz (k:=j) (b:=p7) (n:=i) (c:=c7) (i:=(j:Int)) (ki:=.i64) zo zx zy rfl (by omega) Tryz.underlying37 (by kernel_rfl) V) ?_
 refine xwm (.e [5,6] 7) ((j:Int)+1) (↑(j+1):Int) ?_
 refine xsL (.e [] 8) (fun _ _ _ _ zo zx zy V=>Jr (k:=(j+1)) (b:=p7) (n:=i) (c:=c7) (i:=(↑(j+1):Int)) (ki:=.i64) 3 zo zx zy rfl (by omega) Tryz.underlying37 (by kernel_rfl) V) ?_
 refine xb0 (.o [] 0) 45 fun br aw s5=>?_
 have a6:=Zf (Zb f2 (Za c5))
 have hB:=bln (Za c5.drew) s5.below
 have w5:=Xo (size:=3) (n:=0) s5.blk (s5.ge (Za c5.drew)) rfl (by decide)
 refine ybi (.o [] 4) (.t c5.drew.heap.size [45]) fun _ _ _ _ zJ zQ zo zx zy zK=>Xk (m:=j) (news:=(((Yx L (Yy L)).take j).flatMap Va)) (.agg #[V0 0,.string ⟨#[]⟩,V0 0]) 3 32 (j) ((((Yx L (Yy L)).take j).flatMap Va)) zo Tryz.underlying37 (by kernel_rfl) rfl (by decide) zx w5 zy (Zal Xn (a6.below hB) (by rw[Xg];omega) (by omega)) (Sj (by rw[Xg];omega)) (Pg _) (by unfold maxLen;omega) (by omega) hB.size (by omega) (by rfl) fun y0 z9 cd v7 q7 n2=>?_
 refine zK _ _ (Yd n2 q7 w5 (by decide)) ?_
 have e8:=hB.trans n2
 refine ybi (.o [] 9) (.t c5.drew.heap.size [45]) fun _ _ _ _ zJ zQ zo zx zy zK=>Xk (m:=(i-(j+1))) (news:=(((Yx L (Yy L)).drop (j+1)).flatMap Va)) (.agg #[V0 0,.string ⟨#[]⟩,V0 0]) 3 32 ((i-1)) (((Qj (Yx L (Yy L)) j).flatMap Va)) zo Tryz.underlying37 (by kernel_rfl) rfl (by decide) zx v7 zy (Zao Xn (a6.below e8) (by rw[Xg];omega) (by omega)) (Sv (by rw[Xg];omega)) (Pg _) (by unfold maxLen;omega) (by omega) e8.size (by omega) (by unfold Qj;rw[List.flatMap_append]) fun l7 l1 f8 aj r3 o0=>?_
 refine zK _ _ (Yd o0 r3 v7 (by decide)) ?_
 have o6:=e8.trans o0
 have d1:Below c5.drew.heap.size c5.drew f8:=o6
 have u6:w.heap.size≤c5.drew.heap.size:=o4.size
 have hB:=bln o4 d1
 have k7:=hB
 refine xd (.r [10] 3) (.t f8.heap.size [45]) ?_
 refine xsH (.e [1,2] 3) (fun _ _ _ _ zo zx zy V=>Xz (k:=j) (b:=p8) (n:=i) (c:=c8) (i:=(j:Int)) (ki:=.i64) zo zx zy rfl (by omega) Tryz.underlying37 (by kernel_rfl) V) ?_
 refine xwm (.e [5,6] 7) ((j:Int)+1) (↑(j+1):Int) ?_
 refine xsL (.e [] 8) (fun _ _ _ _ zo zx zy V=>Jr (k:=(j+1)) (b:=p8) (n:=i) (c:=c8) (i:=(↑(j+1):Int)) (ki:=.i64) 3 zo zx zy rfl (by omega) Tryz.underlying37 (by kernel_rfl) V) ?_
 refine xb0 (.o [] 0) 45 fun ao av t4=>?_
 have a5:=Zf (Zb (Zb c0 (Za c5)) d1)
 have hB:=bln (Za f8) t4.below
 have v5:=Xo (size:=3) (n:=0) t4.blk (t4.ge (Za f8)) rfl (by decide)
 refine ybi (.o [] 4) (.t f8.heap.size [45]) fun _ _ _ _ zJ zQ zo zx zy zK=>Xk (m:=j) (news:=(((Xm L (Xf L)).take j).flatMap Va)) (.agg #[V0 0,.string ⟨#[]⟩,V0 0]) 3 32 (j) ((((Xm L (Xf L)).take j).flatMap Va)) zo Tryz.underlying37 (by kernel_rfl) rfl (by decide) zx v5 zy (Zal Xn (a5.below hB) (by rw[Zr];omega) (by omega)) (Sj (by rw[Zr];omega)) (Pg _) (by unfold maxLen;omega) (by omega) hB.size (by omega) (by rfl) fun w8 y6 bp v8 s6 o3=>?_
 refine zK _ _ (Yd o3 s6 v5 (by decide)) ?_
 have e9:=hB.trans o3
 refine ybi (.o [] 9) (.t f8.heap.size [45]) fun _ _ _ _ zJ zQ zo zx zy zK=>Xk (m:=(i-(j+1))) (news:=(((Xm L (Xf L)).drop (j+1)).flatMap Va)) (.agg #[V0 0,.string ⟨#[]⟩,V0 0]) 3 32 ((i-1)) (((Qj (Xm L (Xf L)) j).flatMap Va)) zo Tryz.underlying37 (by kernel_rfl) rfl (by decide) zx v8 zy (Zao Xn (a5.below e9) (by rw[Zr];omega) (by omega)) (Sv (by rw[Zr];omega)) (Pg _) (by unfold maxLen;omega) (by omega) e9.size (by omega) (by unfold Qj;rw[List.flatMap_append]) fun m1 m5 b9 z3 q8 p2=>?_
 refine zK _ _ (Yd p2 q8 v8 (by decide)) ?_
 have l0:=e9.trans p2
 have d0:Below f8.heap.size f8 b9:=l0
 have q9:w.heap.size≤f8.heap.size:=k7.size
 have hB:=bln k7 d0
 have h8:=hB
 refine xb0 (.r [10] 4) 45 fun cx bc o9=>?_
 have c6:=Zf (Zb (Zb (Zb c0 (Za c5)) d1) d0)
 have z4:=Xo (size:=3) (n:=0) o9.blk (o9.ge (Below.refl b9.heap.size _)) rfl (by decide)
 refine xbi 1 fun _ _ _ _ zJ zQ zo zx zy zK=>Xk (m:=i) (news:=((Xm L (Xf L)).flatMap Va)) (.agg #[V0 0,.string ⟨#[]⟩,V0 0]) 3 32 (i) (((Xm L (Xf L)).flatMap Va)) zo Tryz.underlying37 (by kernel_rfl) rfl (by decide) zx z4 zy (c6.below o9.below) (all_len3 (by rw[Zr];omega)) (Pg _) (by unfold maxLen;omega) (by omega) o9.below.size (by omega) (by rfl) fun z0 k2 w4 w0 x0 u9=>?_
 refine zK _ _ ?_
 obtain⟨go,rfl,_⟩:=Lm w0 (by omega)
 refine xd 4 (.t b9.heap.size [45,9]) ?_
 have a0:=(a1.below d1).below d0
 have a2:=bln (o9.below.trans u9) (Za w4)
 refine xlt (.e [0,1,2] 3) (.t b9.heap.size [45,9]) (fun V hV=>((a0.below (Ya a2 hV (Nat.le_refl _))).cell (i:=4) rfl)) ?_
 refine xx (.e [4] 5) _ n j 5 (hP.someN hZ (i:=j) (by omega)) ?_
 have a3:=hP.below h8
 refine xlt (.e [6] 7) (.t b9.heap.size [45,9]) (fun V hV=>(Sts.cell (a3.below (Ya a2 hV (Nat.le_refl _))).row Yc zvD (k:=j) (i:=4) (by omega) rfl).2) ?_
 refine xwm (.e [8] 9) ((↑((Z.getD j zvD).1.2.length):Int)+1) (↑(((Z.getD j zvD).1.2.length)+1):Int) ?_
 refine xlt (.e [10] 11) (.t b9.heap.size [45,9]) (fun V hV=>((a0.below (Ya a2 hV (Nat.le_refl _))).cell (i:=4) rfl)) ?_
 refine xx (.e [12] 13) _ n j 5 (hP.someN hZ (i:=j) (by omega)) ?_
 refine xlt (.e [14] 15) (.t b9.heap.size [45,9]) (fun V hV=>(Sts.cell (a3.below (Ya a2 hV (Nat.le_refl _))).row Yc zvD (k:=j) (i:=1) (by omega) rfl).2) ?_
 refine xlt (.e [16] 17) (.t b9.heap.size [45,9]) (fun V hV=>((a0.below (Ya a2 hV (Nat.le_refl _))).cell (i:=4) rfl)) ?_
 refine xx (.e [18] 19) _ n j 5 (hP.someN hZ (i:=j) (by omega)) ?_
 refine xlt (.e [20] 21) (.t b9.heap.size [45,9]) (fun V hV=>(Sts.cell (a3.below (Ya a2 hV (Nat.le_refl _))).row Yc zvD (k:=j) (i:=2) (by omega) rfl).2) ?_
 refine xlt (.e [22] 23) (.t b9.heap.size [45,9]) (fun V hV=>((a0.below (Ya a2 hV (Nat.le_refl _))).cell (i:=4) rfl)) ?_
 refine xx (.e [24] 25) _ n j 5 (hP.someN hZ (i:=j) (by omega)) ?_
 refine xlt (.e [26] 27) (.t b9.heap.size [45,9]) (fun V hV=>(Sts.cell (a3.below (Ya a2 hV (Nat.le_refl _))).row Yc zvD (k:=j) (i:=3) (by omega) rfl).2) ?_
 refine xr (.o [28] 29) (args:=#[.agg #[V0 (↑(((Z.getD j zvD).1.2.length)+1):Int),V0 ((Z.getD j zvD).1.1.2.1),V0 ((Z.getD j zvD).1.1.2.2.1),V0 ((Z.getD j zvD).1.1.2.2.2)]]) (Pm x (↑((Z.getD j zvD).1.2.length+1):Int) (Z.getD j zvD).1 _ v9 ⟨by omega,by omega⟩) fun az k5=>?_
 refine xx (.e [] 30) _ i j 3 (show(some (⟨go,0,none⟩:Addr)).isSome=true from rfl) ?_
 have c4:=Zb (Zb w0 (Za w4)) k5
 refine yst (.o [31] 32) (.t b9.heap.size [45,9]) fun _ _ _ _ zJ zQ zo zx zy zK=>Tn (t:=9) (v:=.string ⟨(Vd (↑((Z.getD j zvD).1.2.length+1):Int) (Z.getD j zvD).1).toArray⟩) j 1 zo zx (elemF _ _ _ _) zy (by kernel_rfl) rfl c4 (by omega) fun y5 r6 w1=>?_
 rw[det_set (L:=L) (j:=j) (by omega) t9] at w1
 refine zK _ _ (Zai (T:=[45]) (r6.below (Below.refl _ _) (own_ge c4)) (Ze.of_updRow r6 c4 (by decide))) ?_
 have k4:=r6.below (bln a2 k5) (own_ge c4)
 have e1:Below b9.heap.size b9 y5:=k4
 have r4:w.heap.size≤b9.heap.size:=h8.size
 have m2:=Zb (Zb (Zh aj u6) d0) e1
 have r8:=(((((k9.below c9).below d3).below (Za c5)).below d1).below d0).below e1
 have hB:=bln h8 e1
 refine xc 6 (args:=#[P0 ba,V0 1,.slice l7 (i-1) l1]) (by have q:=Nd w.heap.size ba bi g 51200 ci pa ca 199 Nb (F2 L) 1 l7 l1 (i-1) (Qj (Yx L (Yy L)) j) _ (by unfold Qj;rw[Jy (by rw[Xg];omega),Xg];omega) hC r8 (Zar hF (by omega)) (by rw[show F2 L++[(1,Qj (Yx L (Yy L)) j)]=F3 L j from rfl];have:=F5_n hF (j:=j) (by omega);omega) (fun W _ h2=>Zf (Zg m2 h2 (by decide))) hB.size ;rw[show F2 L++[(1,Qj (Yx L (Yy L)) j)]=F3 L j from rfl] at q;exact q) ?_
 rintro _ cm ⟨rfl,r0,j0,x5,hA⟩
 have j9:=Zg (Zb (Zh z3 q9) e1) j0 (by decide)
 have h5:=hB.trans r0
 refine xc 11 (args:=#[P0 ba,V0 3,.slice m1 (i-1) m5]) (by have q:=Nd w.heap.size ba bi g 51200 ci pa ca 199 Nb (F3 L j) 3 m1 m5 (i-1) (Qj (Xm L (Xf L)) j) _ (by unfold Qj;rw[Jy (by rw[Zr];omega),Zr];omega) hC hA (Zaz hF (by omega)) (by rw[show F3 L j++[(3,Qj (Xm L (Xf L)) j)]=F4 L j from rfl];have:=F5_n hF (j:=j) (by omega);omega) (fun W _ h2=>Zf (Zg j9 h2 (by decide))) h5.size ;rw[show F3 L j++[(3,Qj (Xm L (Xf L)) j)]=F4 L j from rfl] at q;exact q) ?_
 rintro _ au ⟨rfl,r5,n5,ac,hA⟩
 have l4:=Zg (Zg (Zh w1 r4) j0 (by decide)) n5 (by decide)
 have g6:=h5.trans r5
 refine xc 11 (args:=#[P0 ba,V0 3,.slice (S1 go) i k2]) (by have q:=Nd w.heap.size ba bi g 51200 ci pa ca 199 Nb (F4 L j) 3 (S1 go) k2 i (Xm L (Vy L j)) _ (by rw[Zr];omega) hC hA (St hF.ok) (by rw[show F4 L j++[(3,Xm L (Vy L j))]=F5 L j from rfl];have:=F5_n hF (j:=j) (by omega);omega) (fun W _ h2=>Zf (Zg l4 h2 (by decide))) g6.size ;rw[show F4 L j++[(3,Xm L (Vy L j))]=F5 L j from rfl] at q;exact q) ?_
 rintro _ v0 ⟨rfl,u7,u3,ai,hA⟩
 refine xd 26 .z ?_
 have b2:=((((((a1.below d1).below d0).below e1).only j0 (by decide)).only n5 (by decide)).only u3 (by decide)).below (Za v0)
 refine xb (.e [0,2,3,4] 5) 3 b2 ?_
 have o2:=hA.below (Za v0)
 refine xr (.o [] 1) (args:=#[P0 ba]) (Qz ba bi _ _ _ o2.blkA) fun bs h7=>?_
 have p0:=o2.below h7
 refine yc (.o [] 6) (args:=#[P0 bi,V0 (↑(Xq (F3 L j)):Int),V0 (↑(Xq (F2 L)):Int),V0 x,V0 300]) .z (Nl w.heap.size ba bi g ci pa ca (F5 L j) _ _ x _ p0 m9 (F5_less hF (j:=j) (by omega))) ?_
 rintro _ p6 ⟨_,rfl,f4,cs,v1,rfl⟩
 refine⟨f4,?_⟩
 refine xd (.r [7,8,9,10] 3) .z ?_
 have b6:=((b2.below h7).below f4).below (Za p6)
 refine xb (.e [0,2,3,4] 5) 3 b6 ?_
 have o5:=(p0.below f4).below (Za p6)
 refine xr (.o [] 1) (args:=#[P0 ba]) (Qz ba bi _ _ _ o5.blkA) fun ct j2=>?_
 have l2:=o5.below j2
 refine yc (.o [] 6) (args:=#[P0 bi,V0 (↑(Xq (F1 L)):Int),V0 (↑(Xq (F4 L j)):Int),V0 x,V0 300]) .z (Nl w.heap.size ba bi g ci pa ca (F5 L j) _ _ x _ l2 m9 (F5_fewer hF (j:=j) (by omega))) ?_
 rintro _ t5 ⟨_,rfl,g2,cn,v2,rfl⟩
 refine⟨g2,?_⟩
 refine xd (.r [7,8,9,10] 3) .z ?_
 have e0:=((b6.below j2).below g2).below (Za t5)
 refine xb (.e [0,2,3,4] 5) 3 e0 ?_
 have h4:=(l2.below g2).below (Za t5)
 refine xr (.o [] 1) (args:=#[P0 ba]) (Qz ba bi _ _ _ h4.blkA) fun ch o8=>?_
 have j7:=h4.below o8
 refine yc (.o [] 6) (args:=#[P0 bi,V0 (↑(Xq (F1 L)):Int),V0 (↑(Xq (F5 L j)):Int),V0 x,V0 300]) .z (Nl w.heap.size ba bi g ci pa ca (F5 L j) _ _ x _ j7 m9 (F5_other hF (j:=j) (by omega))) ?_
 rintro _ bj ⟨_,rfl,o7,bx,v3,rfl⟩
 refine⟨o7,?_⟩
 refine xr (.r [7,8,9,10] 15) (args:=#[]) (Bz _) fun cg r9=>?_
 have m7:=bln (bln (bln (bln (bln (bln (bln (bln (bln (bln (g6.trans u7) (Za v0)) h7) f4) (Za p6)) j2) g2) (Za t5)) o8) o7) r9
 exact xe 5 (.bool true) ⟨rfl,m7⟩
end Go.Proofs.YtgphgaehfdfjjaaGreat
namespace Go.Proofs.YtgphgaehfdfjjaaGreat
set_option maxHeartbeats 8000000
set_option maxRecDepth 100000
open Go.ChangeShapes Go.WideShapes Go.ChangeAt Go.RowKit Go.Joins Go.Deep
set_option linter.unusedVariables false
attribute [local irreducible] wpList wpAnyH Code.wp Oper.wp Go
theorem flatm{α:Type}{f:α→List Value}{m:Nat}(hf:∀ x,(f x).length=m):∀ (T:List α) (j:Nat) (x:Value),(T.flatMap f)[j]? = some x→∃ i,∃ h:i<T.length,∃ r,r<m∧j=i*m+r∧(f T[i])[r]? = some x
 | [],j,x,h=>by simp at h
 | y::T,j,x,h=>by
  rw[List.flatMap_cons,List.getElem?_append] at h
  by_cases hj:j<m
  ·rw[if_pos (by rw[hf];exact hj)] at h
   exact⟨0,by simp,j,hj,by omega,by simpa using h⟩
  ·rw[if_neg (by rw[hf];exact hj),hf] at h
   obtain⟨i,hi,r,hr,e,hx⟩:=flatm hf T (j-m) x h
   exact⟨i+1,by simpa using hi,r,hr,by rw[Nat.add_mul];omega,by simpa using hx⟩
theorem Sc{α H:Type}{enc:TypeId×Value→H}{P:Program}{W:World}{t e:TypeId}{v:Value}{y:DataW H×List MemPlace}{fuel m:Nat}{f:α→List Value}{G:α→Prop}(hf:∀ x,(f x).length=m)(hm:0<m)(ht:P.underlying t=some (.slice e))(hC:P.cellsOf e=m)
 (each:∀ n cs z,cs.length=m→DataW.trod enc P W 0 (fun _=>true) true n e cs=some z→∃ q,cs=f q∧G q) (h:DataW.trod enc P W 0 (fun _=>true) true fuel t [v]=some y) :
 ∃ (L:List α) (a:O0) (c:Nat),v=.slice a L.length c∧Sl W (.slice a L.length c) L.length (L.flatMap f)∧∀ q∈L,G q:=by
 rcases open_slice ht h with ⟨a3,_⟩|⟨x,l,c,k,n,D,Pl,a3,_,hl,b1,b0,_,hi⟩
 ·simp at a3
  subst a3
  exact⟨[],none,0,rfl,.inl ⟨none,0,rfl,rfl,rfl⟩,fun q hq=>by cases hq⟩
 ·simp at a3
  subst a3
  obtain⟨b,a5,a6⟩:=x
  have b2:l≤k:=by rw[b0];simp;omega
  by_cases hlen:l=0
  ·subst hlen
   exact⟨[],_,_,rfl,.inl ⟨_,_,rfl,rfl,rfl⟩,fun q hq=>by cases hq⟩
  have a2:a6=none:=by
   obtain⟨cs,hc,a7⟩:=hi 0 (by omega)
   rw[hC] at hc
   obtain⟨_,a8,a4⟩:=World.cells?_some hc
   have a0:=a4 0 (by omega)
   rw[List.getElem?_eq_getElem (by omega)] at a0
   simpa [Addr.add] using World.cell?_spot a0
  subst a2
  have eA:∀ o n,(⟨b,o,none⟩:Addr).add n=⟨b,o+n,none⟩:=by intro o n;unfold Addr.add;split<;>simp_all
  have a1:∀ i:Fin l,∃ q:α,(∀ r x,(f q)[r]? = some x→W.cell? ⟨b,a5+(i.val*m+r),none⟩=some x)∧G q:=by
   intro i
   obtain⟨cs,hc,a7⟩:=hi i.val (by have:=i.2;omega)
   rw[hC] at hc
   obtain⟨_,a8,a4⟩:=World.cells?_some hc
   obtain⟨q,hq,hG⟩:=each n cs _ a8 a7
   refine⟨q,fun r x hr=>?_,hG⟩
   rw[←hq] at hr
   have a9:r<m:=by have:=(List.getElem?_eq_some_iff.1 hr).1;omega
   have a0:=a4 r a9
   rw[hr,eA,eA] at a0
   rw[←Nat.add_assoc];exact a0
  refine⟨List.ofFn fun i=>Classical.choose (a1 i),some ⟨b,a5,none⟩,c,by rw[List.length_ofFn],?_,fun q hq=>?_⟩
  ·rw[List.length_ofFn]
   refine .inr ⟨b,a5,c,rfl,hl,b1,fun j x hj=>?_⟩
   obtain⟨i,hi,r,hr,e,hx⟩:=flatm hf _ j x hj
   rw[List.getElem_ofFn] at hx
   rw[e]
   exact(Classical.choose_spec (a1 ⟨i,by simpa using hi⟩)).1 r x hx
  ·obtain⟨i,rfl⟩:=List.mem_ofFn.1 hq
   exact(Classical.choose_spec (a1 i)).2
theorem map_each{H:Type}{enc:TypeId×Value→H}{P:Program}{W:World}{e:TypeId}{f0 f1 f2:Field}(he:P.underlying e=some (.struct #[f0,f1,f2]))(hone:oneCellFields P #[f0,f1,f2]=true)(h0:P.underlying f0.type=some (.int .i64))(h1:P.underlying f1.type=some (.int .i64))(h2:P.underlying f2.type=some (.int .i64)) :
 ∀ n cs z,cs.length=3→DataW.trod enc P W 0 (fun _=>true) true n e cs=some z→∃ q:Mp,cs=Uu q∧True:=by
 intro n cs z a4 a3
 obtain⟨y0,y1,y2,n',_,_,t0,t1,t2⟩:=trod_struct3 he a3
 obtain⟨o0,k0⟩:=hone_of hone 0 f0 rfl
 obtain⟨o1,k1⟩:=hone_of hone 1 f1 rfl
 obtain⟨o2,k2⟩:=hone_of hone 2 f2 rfl
 match cs,a4 with
 | [c0,c1,c2],_ =>
  rw[o0,k0] at t0
  rw[o1,k1] at t1
  rw[o2,k2] at t2
  obtain⟨z0,a0,_,_⟩:=DataW.trod_int (cs:=[c0]) h0 (by simpa using t0)
  obtain⟨z1,a2,_,_⟩:=DataW.trod_int (cs:=[c1]) h1 (by simpa using t1)
  obtain⟨z2,a1,_,_⟩:=DataW.trod_int (cs:=[c2]) h2 (by simpa using t2)
  simp only[List.cons.injEq,and_true] at a0 a2 a1
  subst a0 a2 a1
  exact⟨(z0,z1,z2),rfl,trivial⟩
theorem dev_each{H:Type}{enc:TypeId×Value→H}{P:Program}{W:World}{e em:TypeId}{f0 f1 f2 f3 f4 m0 m1 m2:Field}(he:P.underlying e=some (.struct #[f0,f1,f2,f3,f4]))(hone:oneCellFields P #[f0,f1,f2,f3,f4]=true)(h0:P.underlying f0.type=some (.int .i64))(h1:P.underlying f1.type=some (.int .i64))(h2:P.underlying f2.type=some (.int .i64))(h3:P.underlying f3.type=some (.int .i64))(h4:P.underlying f4.type=some (.slice em))
 (hme:P.underlying em=some (.struct #[m0,m1,m2])) (hmone:oneCellFields P #[m0,m1,m2]=true) (hmC:P.cellsOf em=3) (hm0:P.underlying m0.type=some (.int .i64)) (hm1:P.underlying m1.type=some (.int .i64)) (hm2:P.underlying m2.type=some (.int .i64)) :
 ∀ n cs z,cs.length=5→DataW.trod enc P W 0 (fun _=>true) true n e cs=some z→∃ q:Zv,cs=Cx q∧Sts Uu W (.slice q.2.1 q.1.2.length q.2.2) q.1.2:=by
 intro n cs z a6 a5
 obtain⟨xs,n',_,rfl,hl,a0,hf⟩:=DataW.trod_struct he a5
 obtain⟨o0,k0⟩:=hone_of hone 0 f0 rfl
 obtain⟨o1,k1⟩:=hone_of hone 1 f1 rfl
 obtain⟨o2,k2⟩:=hone_of hone 2 f2 rfl
 obtain⟨o3,k3⟩:=hone_of hone 3 f3 rfl
 obtain⟨o4,k4⟩:=hone_of hone 4 f4 rfl
 match xs,a0 with
 | [y0,y1,y2,y3,y4],_ =>
  have t0:=hf 0 f0 rfl
  have t1:=hf 1 f1 rfl
  have t2:=hf 2 f2 rfl
  have t3:=hf 3 f3 rfl
  have t4:=hf 4 f4 rfl
  match cs,a6 with
  | [c0,c1,c2,c3,c4],_ =>
   rw[o0,k0] at t0
   rw[o1,k1] at t1
   rw[o2,k2] at t2
   rw[o3,k3] at t3
   rw[o4,k4] at t4
   obtain⟨z0,a1,_,_⟩:=DataW.trod_int (cs:=[c0]) h0 (by simpa using t0)
   obtain⟨z1,a4,_,_⟩:=DataW.trod_int (cs:=[c1]) h1 (by simpa using t1)
   obtain⟨z2,a2,_,_⟩:=DataW.trod_int (cs:=[c2]) h2 (by simpa using t2)
   obtain⟨z3,a3,_,_⟩:=DataW.trod_int (cs:=[c3]) h3 (by simpa using t3)
   obtain⟨M,a,c,rfl,hM,_⟩:=Sc (v:=c4) (G:=fun _:Mp=>True) Yo (by decide) h4 hmC (map_each hme hmone hm0 hm1 hm2) (by simpa using t4)
   simp only[List.cons.injEq,and_true] at a1 a4 a2 a3
   subst a1 a4 a2 a3
   exact⟨(((z0,z1,z2,z3),M),a,c),rfl,hM⟩
theorem Zgw{H:Type}{enc:TypeId×Value→H}{P:Program}{W:World}{r:Reach}{b0:Nat}{t:TypeId}{fs:Array Field}{v:Value}{d:DataW H}{p:List MemPlace}(hs:P.underlying t=some (.struct fs))(h5:fs.size=5)(hone:oneCellFields P fs=true)(hC:P.cellsOf t=5)(hv:Value.okWide P W r b0 t v)(h:DataW.Trod enc P W 0 (fun _=>true) true t v d p) :
 ∃ c0 c1 c2 c3 c4 n,v=.agg #[c0,c1,c2,c3,c4]∧∀ i f,fs[i]? = some f→∃ y,DataW.trod enc P W 0 (fun _=>true) true n f.type (([c0,c1,c2,c3,c4].drop i).take 1)=some y:=by
 obtain⟨cs,rfl,a4⟩:=okWide_struct hs hv
 obtain⟨a3,hx⟩:=h
 obtain⟨xs,n,_,_,hl,a1,a2⟩:=DataW.trod_struct hs hx
 have a0:cs.toList.length=5:=by simp;omega
 obtain⟨L⟩:=cs
 match L,a0 with
 | [c0,c1,c2,c3,c4],_ =>
  refine⟨c0,c1,c2,c3,c4,n,rfl,fun i f hi=>?_⟩
  obtain⟨o,k⟩:=hone_of hone i f hi
  have hq:=a2 i f hi
  rw[o,k] at hq
  have a5:i<fs.size:=(Array.getElem?_eq_some_iff.1 hi).1
  refine⟨xs[i]'(by omega),?_⟩
  rw[List.getElem?_eq_getElem (by omega)] at hq
  exact hq
theorem Zfc{H:Type}{enc:TypeId×Value→H}{P:Program}{W:World}{r:Reach}{b0:Nat}{t ed em:TypeId}{p0 p1 p2 p3 p4 f0 f1 f2 f3 f4 m0 m1 m2:Field}{v:Value}{d:DataW H}{p:List MemPlace}(hs:P.underlying t=some (.struct #[p0,p1,p2,p3,p4]))(hsone:oneCellFields P #[p0,p1,p2,p3,p4]=true)(hsC:P.cellsOf t=5)
  (g0:P.underlying p0.type=some (.int .i64)) (g1:P.underlying p1.type=some (.int .i64)) (g2:P.underlying p2.type=some (.int .i64)) (g3:P.underlying p3.type=some (.int .i64)) (g4:P.underlying p4.type=some (.slice ed))
  (he:P.underlying ed=some (.struct #[f0,f1,f2,f3,f4])) (hone:oneCellFields P #[f0,f1,f2,f3,f4]=true) (hC:P.cellsOf ed=5) (h0:P.underlying f0.type=some (.int .i64)) (h1:P.underlying f1.type=some (.int .i64)) (h2:P.underlying f2.type=some (.int .i64)) (h3:P.underlying f3.type=some (.int .i64)) (h4:P.underlying f4.type=some (.slice em))
  (hme:P.underlying em=some (.struct #[m0,m1,m2])) (hmone:oneCellFields P #[m0,m1,m2]=true) (hmC:P.cellsOf em=3) (hm0:P.underlying m0.type=some (.int .i64)) (hm1:P.underlying m1.type=some (.int .i64)) (hm2:P.underlying m2.type=some (.int .i64))
  (hv:Value.okWide P W r b0 t v) (h:DataW.Trod enc P W 0 (fun _=>true) true t v d p) :
  ∃ (tx time unit data:Int) (q:O0) (c:Nat) (Z:List Zv),v=.agg #[V0 tx,V0 time,V0 unit,V0 data,.slice q Z.length c]∧DevsR W q c Z:=by
 obtain⟨c0,c1,c2,c3,c4,n,rfl,hf⟩:=Zgw hs rfl hsone hsC hv h
 obtain⟨_,t0⟩:=hf 0 p0 rfl
 obtain⟨_,t1⟩:=hf 1 p1 rfl
 obtain⟨_,t2⟩:=hf 2 p2 rfl
 obtain⟨_,t3⟩:=hf 3 p3 rfl
 obtain⟨_,t4⟩:=hf 4 p4 rfl
 obtain⟨z0,a1,_,_⟩:=DataW.trod_int (cs:=[c0]) g0 (by simpa using t0)
 obtain⟨z1,a0,_,_⟩:=DataW.trod_int (cs:=[c1]) g1 (by simpa using t1)
 obtain⟨z2,a3,_,_⟩:=DataW.trod_int (cs:=[c2]) g2 (by simpa using t2)
 obtain⟨z3,a2,_,_⟩:=DataW.trod_int (cs:=[c3]) g3 (by simpa using t3)
 obtain⟨Z,a,c,rfl,hZ,hG⟩:=Sc (v:=c4) (f:=Cx) (G:=fun q:Zv=>Sts Uu W (.slice q.2.1 q.1.2.length q.2.2) q.1.2) Yc (by decide) g4 hC (dev_each he hone h0 h1 h2 h3 h4 hme hmone hmC hm0 hm1 hm2) (by simpa using t4)
 simp only[List.cons.injEq,and_true] at a1 a0 a3 a2
 subst a1 a0 a3 a2
 exact⟨z0,z1,z2,z3,a,c,Z,rfl,hZ,fun i hi=>hG _ (by simp[List.getD,hi])⟩
end Go.Proofs.YtgphgaehfdfjjaaGreat
