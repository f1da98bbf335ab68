/- What the iterator of slices.Chunk hands over: chunks of 960 of a slice of ints. -/
import Derived.RangeFuncNested
import Derived.RangeFuncBound
import Derived.RangeFuncCalls
import Derived.RangeFuncLeaves
import Derived.Shelf.Abstract
import Derived.Shelf.RegionOpen
import Derived.OwnWalkIn
import Derived.TacticsInMore
import Derived.LoopNIn
import Derived.LoopIn
import Derived.Sort.BigQuietIn
import Derived.Defers
import Derived.Recover
import Derived.Test.YthhilbkandcbmaaGreatDoorMg5
namespace Go.Proofs.YthhilbkandcbmaaGreatDoor
set_option maxHeartbeats 8000000
set_option maxRecDepth 100000
open Go.RowKit
set_option linter.unusedVariables false
attribute [local go_sem] Oper.semAt_some
def encK(b off n:Nat)(j:Fin (bmN n)):Array Value:=#[.slice (some ⟨b,off+j.val*960,none⟩) (min 960 (n-j.val*960)) (min 960 (n-j.val*960))]
theorem chunk1_in(l B1 B2:Nat)(p:Nat→Prop)(b off n cap:Nat)(hlen:n≤1000000)(hcap:n≤cap)(hB1:p B1)(hB2:p B2)(J Jx:List (Fin (bmN n))→World→Prop)
  (hY:∀ pre x W,J pre W→pre.length<bmN n→YieldAt Fence.wide 2 Tryz.prog l (encK b off n x) W fun e W' =>
   (e=.returned (.bool true)∧J (pre++[x]) W'∧Keeps p W W')∨(e=.returned (.bool false)∧Jx (pre++[x]) W'))
  (W:World) (hck:W.cell? ⟨B1,0,none⟩=some (.slice (some ⟨b,off,none⟩) n cap)) (hcn:W.cell? ⟨B2,0,none⟩=some (V0 960)) (hJa:AbidesFrom W.heap.size J) (h0:J [] W) :
  CallsIn Fence.wide 3 Tryz.prog 192 #[.func (.yield l) #[] #[],P0 B1,P0 B2] W fun e W'=>(∃ v,e=.returned v) ∧
   ((∃ ys,ys=List.finRange (bmN n)∧J ys W')∨(∃ pre,(∃ k,k≤bmN n∧pre=(List.finRange (bmN n)).take k)∧Jx pre W')):=by
 refine callsIn_of_wp Tryz.func192 rfl trivial ?_ rfl
 simp only[Tryz.ntmps192,List.size_toArray,List.length_cons,List.length_nil,Nat.reduceAdd,Nat.reduceSub,Array.replicate_succ,Array.replicate_zero,List.push_toArray,List.append_toArray,List.nil_append,List.cons_append]
 gi_wp2
 gi_loopw [4] (fun i wr=>∃ k:Nat,k≤bmN n∧i=V0 ((k*960:Nat):Int)∧J ((List.finRange (bmN n)).take k) wr∧Keeps p W wr)
  (fun i _=>(n-(intOf i)).toNat)
 case atStart=>exact⟨0,Nat.zero_le _,by simp,h0,Keeps.refl _ _⟩
 case round =>
  obtain⟨k,hk,rfl,a0,a2⟩:=hrel
  have b0:=(a2.cell (a:=⟨B1,0,none⟩) hB1).trans hck
  have a4:=(a2.cell (a:=⟨B2,0,none⟩) hB2).trans hcn
  by_cases hlt:k<bmN n
  ·have b3:=bmN_lt hlt
   gi_wp2
   gi_big_quiet_th (fail)
   obtain⟨fn,a8,a3,a6,hy,hR⟩:=hY _ ⟨k,hlt⟩ (wr.drewN nq) (hJa _ wr _ none a0 ⟨rfl,rfl,rfl,Nat.le_refl _,fun _ _ _=>rfl⟩ (fun _ e=>by cases e)) (by rw[We hk];exact hlt)
   have hE:encK b off n ⟨k,hlt⟩=#[.slice (some ⟨b,off+k*960,none⟩) (min 960 (n-k*960)) (min 960 (n-k*960))]:=rfl
   rw[hE] at hy
   have HE:=Lib.hid hE;clear hE
   first|rw[show(if((n-k*960:Nat):Int)<960 then((n-k*960:Nat):Int) else 960)=((min 960 (n-k*960):Nat):Int) from by split<;>omega]|rw[show(min 960 ((n-k*960:Nat):Int):Int)=((min 960 (n-k*960):Nat):Int) from by omega]
   obtain⟨m,hm⟩:∃ m,min 960 (n-k*960)=m:=⟨_,rfl⟩
   rw[hm] at hy ⊢
   have b1:k*960+m≤n:=by omega
   have b5:k*960+m≤cap:=by omega
   have b6:k*960+m-k*960=m:=by omega
   gi_wp2
   refine hR.mono ?_
   rintro e W3 (⟨rfl,a7,a5⟩|⟨rfl,a1⟩)
   ·have a9:W3.cell? ⟨B2,0,none⟩=some (V0 960):=(a5.cell (a:=⟨B2,0,none⟩) hB2).trans a4
    gi_wp2
    go_roundw
    case rel =>
     refine⟨k+1,by omega,?_,by rw[Kz hlt];exact a7,(a2.trans (show Keeps p wr (wr.drewN nq) from⟨Nat.le_refl _,fun _ _=>rfl⟩)).trans a5⟩
     exact congrArg V0 (by omega)
    case measure=>simp only[intOf];omega
   ·gi_wp2
    refine bodyPost_ret (results_none rfl _ _ _) rfl ?_
    exact⟨⟨_,rfl⟩,.inr ⟨_,⟨k+1,by omega,by rw[Kz hlt]⟩,a1⟩⟩
  ·obtain rfl:k=bmN n:=by omega
   have b2:=bmN_done (n:=n) rfl
   have b4:¬ (((bmN n*960:Nat):Int)<(n:Int)):=by omega
   rw[Bm] at a0
   have HJ:=Lib.hid a0;clear a0
   gi_wp2
   go_end0
   exact⟨⟨_,rfl⟩,.inl HJ.out⟩
theorem Ac{α:Type}(l B1 B2:Nat)(J:List α→World→Prop)(W:World){a0:O0}{c0:Nat}(hck:W.cell? ⟨B1,0,none⟩=some (.slice a0 0 c0))(h0:J [] W) :
 CallsIn Fence.wide 3 Tryz.prog 192 #[.func (.yield l) #[] #[],P0 B1,P0 B2] W fun e W'=>(∃ v,e=.returned v)∧J [] W':=by
 refine callsIn_of_wp Tryz.func192 rfl trivial ?_ rfl
 simp only[Tryz.ntmps192,List.size_toArray,List.length_cons,List.length_nil,Nat.reduceAdd,Nat.reduceSub,Array.replicate_succ,Array.replicate_zero,List.push_toArray,List.append_toArray,List.nil_append,List.cons_append]
 gi_wp2
 gi_loopw [4] (fun i wr=>i=V0 0∧J [] wr∧wr.cell? ⟨B1,0,none⟩=some (.slice a0 0 c0)) (fun _ _=>0)
 case atStart=>exact⟨rfl,h0,hck⟩
 case round =>
  obtain⟨rfl,a1,a2⟩:=hrel
  have HJ:=Lib.hid a1;clear a1
  gi_wp2
  go_end0
  exact⟨⟨_,rfl⟩,HJ.out⟩
theorem Zcp(B1 B2:Nat)(p:Nat→Prop)(b off n cap:Nat)(v:Value)(w:World)(hp:∀ b,p b→b<w.heap.size)(h1:p B1)(h2:p B2)(hlen:n≤1000000)(hv:(n=0∧∃ a c,v=.slice a 0 c)∨v=.slice (some ⟨b,off,none⟩) n cap∧n≤cap)(hck:w.cell? ⟨B1,0,none⟩=some v)(hcn:w.cell? ⟨B2,0,none⟩=some (V0 960)) :
  SeqStopsK Fence.wide 3 Tryz.prog 192 #[P0 B1,P0 B2] (encK b off n) (Keeps p)
   (fun ys=>ys=List.finRange (bmN n)) (fun pre=>∃ k,k≤bmN n∧pre=(List.finRange (bmN n)).take k) (bmN n) w:=fun l J Jx W hW a3 _ hY h0=>by
 have a0:=Zd8 hW hck
 have a2:=Zd8 hW hcn
 rcases hv with ⟨rfl,a,c,rfl⟩|⟨rfl,a1⟩
 ·exact(Ac l B1 B2 J W a0 h0).mono fun e W' ⟨he,hj⟩=>⟨he,.inl ⟨_,rfl,hj⟩⟩
 ·exact chunk1_in l B1 B2 p b off n cap hlen a1 h1 h2 J Jx hY W a0 a2 a3 h0
end Go.Proofs.YthhilbkandcbmaaGreatDoor
namespace Go.Proofs.YthhilbkandcbmaaGreatDoor
set_option maxHeartbeats 8000000
set_option maxRecDepth 100000
open Go.RowKit Go.Extern.Stop Go.Stop Go.Extern
set_option linter.unusedVariables false
attribute [local irreducible] wpList wpAnyH Code.wp Oper.wp Go
theorem Od(p:O0)(n c:Nat)(w:World) :
 C0 158 #[.slice p n c,V0 960] w (fun e w'=>∃ b1 b2,e=.returned (.func (.func 192) #[] #[P0 b1,P0 b2])∧B3 w w'∧w.heap.size≤b1∧w.heap.size≤b2∧b1≠b2∧Blk w' b1 [.slice p n c] 28∧Blk w' b2 [V0 960] 3):=by
 refine zin 9 Tryz.func158 ?_
 refine xa 2 [.slice p n c] 28 fun b1 W1 n1=>?_
 refine xa 0 [V0 960] 3 fun b2 W2 n2=>?_
 refine xb 6 0 n2.blk ?_
 have k1:=n1.blk.below n2.below
 have hB:=bln n1.below n2.below
 have g1:=n1.ge (B4 w)
 have g2:=n2.ge n1.below
 exact xe 13 (.func (.func 192) #[] #[P0 b1,P0 b2]) ⟨_,_,rfl,hB,g1,g2,(Blk.tne k1 n2.blk (by decide)),k1,n2.blk⟩
end Go.Proofs.YthhilbkandcbmaaGreatDoor
namespace Go.Proofs.YthhilbkandcbmaaGreatDoor
set_option maxHeartbeats 8000000
set_option maxRecDepth 100000
open Go.RowKit
set_option linter.unusedVariables false
theorem Zd6{A B:World}{row:Option Nat}{base size n:Nat}{e:TypeId}{v:Value}{xs:List Value}(k:A.ownsRow base e size v n xs)(hg:A.grownBy B row)(hr:∀ r,row=some r→∃ o:Obj,A.heap[r]? = some o∧o.isCells=false):B.ownsRow base e size v n xs:=by
 obtain⟨h1,h2⟩:=k
 refine⟨h1,?_⟩
 rcases h2 with h2|⟨g,a1,a0,hv,hb,hh,r⟩
 ·exact Or.inl h2
 ·refine Or.inr ⟨g,a1,a0,hv,hb,?_,r⟩
  rw[hg.block g (Array.getElem?_eq_some_iff.1 hh).1 (fun q=>by
   obtain⟨o,ho,hc⟩:=hr g q.symm
   rw[hh] at ho
   cases ho
   cases hc)]
  exact hh
theorem Lists.turn{A B:World}{row:Option Nat}{base:Nat}{v:Value}{gs:List (Nat×Nat)}{L:List (List Int)}(h:Lists A base v gs L)(hg:A.grownBy B row)(hr:∀ r,row=some r→∃ o:Obj,A.heap[r]? = some o∧o.isCells=false):Lists B base v gs L:=⟨Zd6 h.row hg hr,fun i hi=>Zd6 (h.each i hi) hg hr⟩
structure RdZ(w0:World)(b:Nat)(W V:World):Prop where
 bb:BelowBut w0 b V
 ko:KeepsOthers W V
 fr:∀ k,k<w0.heap.size→k≠b→V.heap[k]? = W.heap[k]?
 le:W.heap.size≤V.heap.size
theorem RdZ.refl{w0 W:World}{b:Nat}(h:BelowBut w0 b W):RdZ w0 b W W:=⟨h,⟨Nat.le_refl _,fun _ _ h _=>h⟩,fun _ _ _=>rfl,Nat.le_refl _⟩
theorem RdZ.below{w0 W V U:World}{b:Nat}(h:RdZ w0 b W V)(hb:Below V.heap.size V U):RdZ w0 b W U :=
 ⟨h.bb.next hb,h.ko.trans (Ce hb),fun k hk hn=>(hb.block k (Nat.lt_of_lt_of_le hk h.bb.size)).trans (h.fr k hk hn),Nat.le_trans h.le hb.size⟩
theorem RdZ.upd{w0 W V U:World}{b:Nat}{cs:List Value}{t:TypeId}(h:RdZ w0 b W V)(u:Upd V b U)(k:Blk V b cs t):RdZ w0 b W U :=
 ⟨h.bb.upd u,h.ko.trans (Ze1 u k),fun k hk hn=>(u.block k hn).trans (h.fr k hk hn),Nat.le_trans h.le (Nat.le_of_eq u.size.symm)⟩
theorem RdZ.grown{w0 W V U:World}{b size n:Nat}{e:TypeId}{v:Value}{xs:List Value}(h:RdZ w0 b W V)(hg:V.grownBy U v.ownBlock)(k:V.ownsRow w0.heap.size e size v n xs):RdZ w0 b W U :=
 ⟨⟨hg.os.trans h.bb.os,hg.tape.trans h.bb.tape,hg.output.trans h.bb.output,Nat.le_trans h.bb.size hg.size,fun i hi hn=>(hg.block i (Nat.lt_of_lt_of_le hi h.bb.size) (fun e=>by have:=(k.lt i e.symm).1;omega)).trans (h.bb.block i hi hn)⟩,
  ⟨Nat.le_trans h.ko.size hg.size,fun i o hi ho=>by
   have h1:=h.ko.same i o hi ho
   rw[hg.block i (Array.getElem?_eq_some_iff.1 h1).1 (fun q=>by
    rcases k.2 with ⟨rfl,_⟩|⟨g,a1,a0,rfl,_,hh,_⟩
    ·cases q
    ·simp only[Value.ownBlock,Option.some.injEq] at q
     subst q
     rw[hh] at h1
     cases h1
     cases ho)]
   exact h1⟩,
  fun i hi hn=>(hg.block i (Nat.lt_of_lt_of_le hi h.bb.size) (fun e=>by have:=(k.lt i e.symm).1;omega)).trans (h.fr i hi hn),Nat.le_trans h.le hg.size⟩
theorem row_or{w:World}{base e n c:Nat}{p:O0}{xs:List Value}(k:w.ownsRow base e 1 (.slice p n c) n xs):∃ g,(n=0∧∃ a c',Value.slice p n c=.slice a 0 c')∨Value.slice p n c=.slice (S1 g) n c∧n≤c:=by
 rcases k.2 with ⟨h,_⟩|⟨g,a1,a0,hv,_,_,hc,_⟩
 ·simp only[Value.slice.injEq] at h
  exact⟨0,.inl ⟨h.2.1,none,0,by rw[h.1,h.2.1,h.2.2]⟩⟩
 ·simp only[Value.slice.injEq] at hv
  obtain⟨rfl,_,rfl⟩:=hv
  exact⟨g,.inr ⟨rfl,hc⟩⟩
def Each(w:World)(base:Nat)(gs:List (Nat×Nat))(L:List (List Int)):Prop:=∀ i,i<L.length→w.ownsRow base 3 1 (Iu gs L i) (L.getD i []).length ((L.getD i []).map V0)
theorem Each.below{w W:World}{base:Nat}{gs:List (Nat×Nat)}{L:List (List Int)}(h:Each w base gs L)(hb:B3 w W):Each W base gs L:=fun i hi=>Zb (h i hi) hb
theorem Each.only{T:List TypeId}{w W:World}{base:Nat}{gs:List (Nat×Nat)}{L:List (List Int)}(h:Each w base gs L)(hO:Zg T w W)(hT:T.contains 3=false):Each W base gs L:=fun i hi=>Zr (h i hi) hO hT
theorem Zej{gs:List (Nat×Nat)}{L:List (List Int)}{g c i:Nat}{ch:List Int}(hg:gs.length=L.length)(hi:i<L.length):Iu (gs++[(g,c)]) (L++[ch]) i=Iu gs L i:=by
 unfold Iu
 simp[List.getD,List.getElem?_append_left,hi,hg]
theorem Zer{gs:List (Nat×Nat)}{L:List (List Int)}{g c:Nat}{ch:List Int}(hg:gs.length=L.length):Iu (gs++[(g,c)]) (L++[ch]) L.length=.slice (S1 g) ch.length c:=by
 unfold Iu
 rw[show(gs++[(g,c)]).getD L.length (0,0)=(g,c) from by rw[←hg];simp[List.getD],show(L++[ch]).getD L.length []=ch from by simp[List.getD]]
theorem Lists.snoc{w:World}{base g c n:Nat}{v:Value}{gs:List (Nat×Nat)}{L:List (List Int)}{ch:List Int}(hn:n=L.length+1)(hrow:w.ownsRow base 28 1 v n ((List.range L.length).map (Iu gs L)++[.slice (S1 g) ch.length c]))(he:Each w base gs L)(hnew:w.ownsRow base 3 1 (.slice (S1 g) ch.length c) ch.length (ch.map V0))(hg:gs.length=L.length):Lists w base v (gs++[(g,c)]) (L++[ch]):=by
 subst hn
 refine⟨?_,fun i hi=>?_⟩
 ·rw[show(L++[ch]).length=L.length+1 from by simp,List.range_succ,List.map_append]
  rw[show(List.range L.length).map (Iu (gs++[(g,c)]) (L++[ch]))=(List.range L.length).map (Iu gs L) from List.map_congr_left fun i hi=>Zej hg (List.mem_range.1 hi),List.map_singleton,Zer hg]
  exact hrow
 ·by_cases h:i<L.length
  ·rw[Zej hg h,show(L++[ch]).getD i []=L.getD i [] from by simp[List.getD,List.getElem?_append_left,h]]
   exact he i h
  ·obtain rfl:i=L.length:=by simp at hi;omega
   rw[Zer hg,show(L++[ch]).getD L.length []=ch from by simp[List.getD]]
   exact hnew
theorem Sl.midI{w:World}{g n c:Nat}{xs:List Value}(h:Sl w (.slice (S1 g) n c) n xs)(hl:xs.length=n)(k m:Nat)(hm:0<m)(hk:k+m≤n):Sl w (.slice (some ⟨g,0+k,none⟩) m m) m ((xs.drop k).take m):=by
 rcases h with ⟨a',c',h1,h2,h3⟩|⟨g',a1,a2,h1,h2,h3,h4⟩
 ·omega
 ·simp only[Value.slice.injEq,Option.some.injEq,Addr.mk.injEq] at h1
  obtain⟨⟨rfl,rfl,_⟩,_,rfl⟩:=h1
  refine .inr ⟨g,0+k,m,rfl,Nat.le_refl _,by omega,fun j x hj=>?_⟩
  have a0:j<m:=by
   rcases Nat.lt_or_ge j m with q|q
   ·exact q
   ·rw[List.getElem?_eq_none (by simp;omega)] at hj;cases hj
  rw[List.getElem?_take_of_lt a0,List.getElem?_drop] at hj
  have:=h4 (k+j) x hj
  rw[show 0+k+j=0+(k+j) from by omega]
  exact this
end Go.Proofs.YthhilbkandcbmaaGreatDoor
namespace Go.Proofs.YthhilbkandcbmaaGreatDoor
set_option maxHeartbeats 8000000
set_option maxRecDepth 100000
open Go.RowKit Go.Extern.Stop Go.Stop Go.Extern
set_option linter.unusedVariables false
attribute [local irreducible] wpList wpAnyH Code.wp Oper.wp Go
theorem Zbj(w:World) :
 C0 191 #[] w (Qd (fun w' r=>∃ b,r=.slice (S1 b) 1 1∧w.heap.size≤b∧Blk w' b [V0 4,V0 3,V0 2147483647] 234) w):=by
 refine zin 3 Tryz.func191 ?_
 refine xbs 8 1 [V0 4,V0 3,V0 2147483647] 234 fun b1 W1 n1=>?_
 have g1:=n1.ge (B4 w)
 exact xe 4 (.slice (S1 b1) 1 1) ⟨_,rfl,n1.below,_,rfl,g1,n1.blk⟩
theorem Fi(gl gn:Nat)(n:Int)(h1:3≤n)(h2:n≤2147483647)(w:World)(hl:Blk w gl [V0 4,V0 3,V0 2147483647] 234)(hn:Blk w gn [V0 n] 3) :
 C0 128 #[.slice (S1 gl) 1 1,.slice (S1 gn) 1 1] w (Ret (.string ⟨(leB n 4).toArray⟩) w):=by
 refine zin 51 Tryz.func128 ?_
 refine xu 19 2 ?_
 refine xlv 15 hl.rp ?_
 refine xa 0 [V0 0,V0 0,V0 0] 234 fun b1 W1 n1=>?_
 have a8:=n1.ne hl
 refine xsv 1 n1.blk [V0 4,V0 3,V0 2147483647] fun W2 u2 k2=>?_
 have g1:=n1.ge (B4 w)
 refine xd 4 .z ?_
 have a2:=(u2.blkT (hn.below n1.below) n1.blk (by decide)).below (Za W2)
 refine xb (.e [0,1,2] 3) 0 a2 ?_
 have a0:=k2.below (Za W2)
 refine xb (.e [4] 5) 1 a0 ?_
 refine xgk (.b [6,7]) [23,24] (show(decide (n<(3:Int)):Bool)=false from decide_eq_false (by omega)) ?_
 refine xb (.e [8,9,10] 11) 0 a2 ?_
 refine xb (.e [12] 13) 2 a0 ?_
 refine xk (.r [14,15] 2) (show(decide (n>(2147483647:Int)):Bool)=false from decide_eq_false (by omega)) ?_
 refine xd 3 .z ?_
 have a4:=a0.below (Za W2.drew)
 refine xb (.e [0] 1) 0 a4 ?_
 have a3:=a2.below (Za W2.drew)
 refine xb (.e [2,3,4] 5) 0 a3 ?_
 refine xbs (.o [6] 7) 1 [V0 4,V0 n] 221 fun b4 W4 n4=>?_
 refine yc (.o [] 8) (args:=#[.slice (S1 b4) 1 1]) .z (Cc b4 n (by omega) (by omega) _ n4.blk) ?_
 rintro _ W5 ⟨_,rfl,a7,b0,a9,rfl,a5⟩
 have b3:=(bln (bln (bln (u2.below n1.below g1) (Za W2)) (Za W2.drew)) n4.below).size
 refine⟨a7,?_⟩
 have o6:=World.ownsRow_nil W5 w.heap.size 5 1
 have a1:=Ze a5 b3
 have hB:=bln (bln (bln (bln (u2.below n1.below g1) (Za W2)) (Za W2.drew)) n4.below) a7
 refine xbi (.r [9,10,11,12,13] 5) fun _ _ _ _ zJ zQ zo zx zy zK=>Zo (m:=4) (news:=(leB n 4).map bv) (.int .u8 0) 1 1 (4) ((leB n 4).map bv) zo Tryz.underlying22 (by kernel_rfl) rfl (by decide) zx o6 zy (Zd a1) (by simp[Zm]) (Yw _) (by unfold maxLen;omega) (by omega) hB.size (by rfl) (by simp) fun b5 b6 W7 o7 b7 b2=>?_
 refine zK _ _ ?_
 refine xcv0 24 (fun _ _ _ zo zx=>Vb zo zx (Yr (Zd o7) (by simp[Zm])) (by simp[Zm]) Tryz.underlying22 Tryz.underlying5 Tryz.underlying9) ?_
 have a6:=hB.trans b2
 exact xe 4 (.string ⟨(leB n 4).toArray⟩) ⟨rfl,a6⟩
theorem Zb1(n:Int)(h1:3≤n)(h2:n≤2147483647)(w:World) :
 C0 157 #[V0 n] w (Ret (.string ⟨(leB n 4).toArray⟩) w):=by
 refine zin 7 Tryz.func157 ?_
 refine xc 7 (args:=#[]) (Zbj _) ?_
 rintro _ W1 ⟨_,rfl,a1,gl,rfl,gg,kl⟩
 refine xbs 1 1 [V0 n] 3 fun b2 W2 n2=>?_
 have a0:=kl.below n2.below
 refine xr 0 (args:=#[.slice (S1 gl) 1 1,.slice (S1 b2) 1 1]) (Fi gl b2 n h1 h2 _ a0 n2.blk) fun W3 a2=>?_
 have hB:=bln (bln a1 n2.below) a2
 exact xe 4 (.string ⟨(leB n 4).toArray⟩) ⟨rfl,hB⟩
theorem Sj(w:World) :
 C0 163 #[] w (Qd (fun w' r=>∃ b,r=.slice (S1 b) 3 3∧w.heap.size≤b∧Blk w' b [V0 8,V0 1,V0 14399,V0 4,V0 0,V0 960,V0 4,V0 0,V0 960] 234) w):=by
 refine zin 5 Tryz.func163 ?_
 refine xbs 10 3 [V0 8,V0 1,V0 14399,V0 4,V0 0,V0 960,V0 4,V0 0,V0 960] 234 fun b1 W1 n1=>?_
 have g1:=n1.ge (B4 w)
 exact xe 4 (.slice (S1 b1) 3 3) ⟨_,rfl,n1.below,_,rfl,g1,n1.blk⟩
theorem Pg(gl gn:Nat)(n f g:Int)(h1:1≤n)(h2:n≤14399)(h3:0≤f)(h4:f≤960)(h5:0≤g)(h6:g≤960)(w:World)(hl:Blk w gl [V0 8,V0 1,V0 14399,V0 4,V0 0,V0 960,V0 4,V0 0,V0 960] 234)(hn:Blk w gn [V0 n,V0 f,V0 g] 3) :
 C0 128 #[.slice (S1 gl) 3 3,.slice (S1 gn) 3 3] w (Ret (.string ⟨(leB n 8++leB f 4++leB g 4).toArray⟩) w):=by
 refine zin 51 Tryz.func128 ?_
 refine xu 19 4 ?_
 refine xlv 15 (hl.rpp 0 3) ?_
 refine xa 0 [V0 0,V0 0,V0 0] 234 fun b1 W1 n1=>?_
 have c9:=n1.ne hl
 refine xsv 1 n1.blk [V0 8,V0 1,V0 14399] fun W2 u2 k2=>?_
 have g1:=n1.ge (B4 w)
 refine xd 4 .z ?_
 have b7:=(u2.blkT (hn.below n1.below) n1.blk (by decide)).below (Za W2)
 refine xb (.e [0,1,2] 3) 0 b7 ?_
 have a9:=k2.below (Za W2)
 refine xb (.e [4] 5) 1 a9 ?_
 refine xgk (.b [6,7]) [23,24] (show(decide (n<(1:Int)):Bool)=false from decide_eq_false (by omega)) ?_
 refine xb (.e [8,9,10] 11) 0 b7 ?_
 refine xb (.e [12] 13) 2 a9 ?_
 refine xk (.r [14,15] 2) (show(decide (n>(14399:Int)):Bool)=false from decide_eq_false (by omega)) ?_
 refine xd 3 .z ?_
 have c5:=a9.below (Za W2.drew)
 refine xb (.e [0] 1) 0 c5 ?_
 have d8:=b7.below (Za W2.drew)
 refine xb (.e [2,3,4] 5) 0 d8 ?_
 refine xbs (.o [6] 7) 1 [V0 8,V0 n] 221 fun b4 W4 n4=>?_
 refine yc (.o [] 8) (args:=#[.slice (S1 b4) 1 1]) .z (Pack_8 b4 n (by omega) _ n4.blk) ?_
 rintro _ W5 ⟨_,rfl,c3,i2,g5,rfl,e4⟩
 have i8:=(bln (bln (bln (u2.below n1.below g1) (Za W2)) (Za W2.drew)) n4.below).size
 refine⟨c3,?_⟩
 have o6:=World.ownsRow_nil W5 w.heap.size 5 1
 have c2:=Ze e4 i8
 have hB:=bln (bln (bln (bln (u2.below n1.below g1) (Za W2)) (Za W2.drew)) n4.below) c3
 refine xbi (.r [9,10,11,12,13] 5) fun _ _ _ _ zJ zQ zo zx zy zK=>Zo (m:=8) (news:=(leB n 8).map bv) (.int .u8 0) 1 1 (8) ((leB n 8).map bv) zo Tryz.underlying22 (by kernel_rfl) rfl (by decide) zx o6 zy (Zd c2) (by simp[Zm]) (Yw _) (by unfold maxLen;omega) (by omega) hB.size (by rfl) (by simp) fun k0 j4 W7 o7 e2 h0=>?_
 refine zK _ _ ?_
 have a8:=(((((u2.blk (hl.below n1.below) (Ne.symm (Ne.symm c9))).below (Za W2)).below (Za W2.drew)).below n4.below).below c3).grown e2 o6 (by decide)
 refine xlv 24 (a8.rpp 3 3) ?_
 refine xa 0 [V0 0,V0 0,V0 0] 234 fun b8 W8 n8=>?_
 have d1:=n8.ne a8
 have e0:=((c5.below n4.below).below c3).grown e2 o6 (by decide)
 have d5:=n8.ne e0
 have d9:=hB.trans h0
 have g8:=n8.ge d9
 refine xsv 1 n8.blk [V0 4,V0 0,V0 960] fun W9 u9 k9=>?_
 refine xd 4 .z ?_
 have b2:=(u9.blkT ((((d8.below n4.below).below c3).grown e2 o6 (by decide)).below n8.below) n8.blk (by decide)).below (Za W9)
 refine xb (.e [0,1,2] 3) 1 b2 ?_
 have b5:=k9.below (Za W9)
 refine xb (.e [4] 5) 1 b5 ?_
 refine xgk (.b [6,7]) [23,24] (show(decide (f<(0:Int)):Bool)=false from decide_eq_false (by omega)) ?_
 refine xb (.e [8,9,10] 11) 1 b2 ?_
 refine xb (.e [12] 13) 2 b5 ?_
 refine xk (.r [14,15] 2) (show(decide (f>(960:Int)):Bool)=false from decide_eq_false (by omega)) ?_
 refine xd 3 .z ?_
 have d0:=b5.below (Za W9.drew)
 refine xb (.e [0] 1) 0 d0 ?_
 have d3:=b2.below (Za W9.drew)
 refine xb (.e [2,3,4] 5) 1 d3 ?_
 refine xbs (.o [6] 7) 1 [V0 4,V0 f] 221 fun g2 j3 a4=>?_
 have d7:=((u9.blkT (((n4.blk.below c3).grown e2 o6 (by decide)).below n8.below) n8.blk (by decide)).below (Za W9)).below (Za W9.drew)
 have f9:=a4.ne d7
 have c0:=bln (bln (u9.below (bln d9 n8.below) g8) (Za W9)) (Za W9.drew)
 have j0:=a4.ge c0
 refine yc (.o [] 8) (args:=#[.slice (S1 g2) 1 1]) .z (Cc g2 f (by omega) (by omega) _ a4.blk) ?_
 rintro _ j1 ⟨_,rfl,a0,i5,i7,rfl,f8⟩
 have e5:=(bln c0 a4.below).size
 refine⟨a0,?_⟩
 have a1:=Zb (Zb (Zb (Zb (u9.own2 (Zb o7 n8.below) n8.blk (by decide)) (Za W9)) (Za W9.drew)) a4.below) a0
 have c1:=Ze f8 e5
 have c4:=bln (bln c0 a4.below) a0
 refine xbi (.r [9,10,11,12,13] 5) fun _ _ _ _ zJ zQ zo zx zy zK=>Zo (m:=4) (news:=(leB f 4).map bv) (.int .u8 0) 1 1 (12) ((leB n 8++leB f 4).map bv) zo Tryz.underlying22 (by kernel_rfl) rfl (by decide) zx a1 zy (Zd c1) (by simp[Zm]) (Yw _) (by unfold maxLen;omega) (by omega) c4.size (by rfl) (by simp) fun h7 h9 j2 i3 a3 e8=>?_
 refine zK _ _ ?_
 have e1:=(((((u9.blk (a8.below n8.below) (Ne.symm (Ne.symm d1))).below (Za W9)).below (Za W9.drew)).below a4.below).below a0).grown a3 a1 (by decide)
 refine xlv 24 (e1.rpp 6 3) ?_
 refine xa 0 [V0 0,V0 0,V0 0] 234 fun j5 i9 a2=>?_
 have f5:=a2.ne e1
 have f0:=(((((u9.blk (e0.below n8.below) (Ne.symm (Ne.symm d5))).below (Za W9)).below (Za W9.drew)).below a4.below).below a0).grown a3 a1 (by decide)
 have e6:=a2.ne f0
 have f6:=((d0.below a4.below).below a0).grown a3 a1 (by decide)
 have g0:=a2.ne f6
 have d2:=c4.trans e8
 have i1:=a2.ge d2
 refine xsv 1 a2.blk [V0 4,V0 0,V0 960] fun a5 c8 g6=>?_
 refine xd 4 .z ?_
 have b3:=(c8.blkT ((((d3.below a4.below).below a0).grown a3 a1 (by decide)).below a2.below) a2.blk (by decide)).below (Za a5)
 refine xb (.e [0,1,2] 3) 2 b3 ?_
 have a6:=g6.below (Za a5)
 refine xb (.e [4] 5) 1 a6 ?_
 refine xgk (.b [6,7]) [23,24] (show(decide (g<(0:Int)):Bool)=false from decide_eq_false (by omega)) ?_
 refine xb (.e [8,9,10] 11) 2 b3 ?_
 refine xb (.e [12] 13) 2 a6 ?_
 refine xk (.r [14,15] 2) (show(decide (g>(960:Int)):Bool)=false from decide_eq_false (by omega)) ?_
 refine xd 3 .z ?_
 have d4:=a6.below (Za a5.drew)
 refine xb (.e [0] 1) 0 d4 ?_
 have f2:=b3.below (Za a5.drew)
 refine xb (.e [2,3,4] 5) 2 f2 ?_
 refine xbs (.o [6] 7) 1 [V0 4,V0 g] 221 fun g3 j8 a7=>?_
 have f4:=((c8.blkT ((((d7.below a4.below).below a0).grown a3 a1 (by decide)).below a2.below) a2.blk (by decide)).below (Za a5)).below (Za a5.drew)
 have e9:=a7.ne f4
 have d6:=((c8.blkT (((a4.blk.below a0).grown a3 a1 (by decide)).below a2.below) a2.blk (by decide)).below (Za a5)).below (Za a5.drew)
 have e3:=a7.ne d6
 have b6:=bln (bln (c8.below (bln d2 a2.below) i1) (Za a5)) (Za a5.drew)
 have j7:=a7.ge b6
 refine yc (.o [] 8) (args:=#[.slice (S1 g3) 1 1]) .z (Cc g3 g (by omega) (by omega) _ a7.blk) ?_
 rintro _ j6 ⟨_,rfl,b9,i6,i0,rfl,f1⟩
 have f3:=(bln b6 a7.below).size
 refine⟨b9,?_⟩
 have c6:=Zb (Zb (Zb (Zb (c8.own2 (Zb i3 a2.below) a2.blk (by decide)) (Za a5)) (Za a5.drew)) a7.below) b9
 have b0:=Ze f1 f3
 have c7:=bln (bln b6 a7.below) b9
 refine xbi (.r [9,10,11,12,13] 5) fun _ _ _ _ zJ zQ zo zx zy zK=>Zo (m:=4) (news:=(leB g 4).map bv) (.int .u8 0) 1 1 (16) ((leB n 8++leB f 4++leB g 4).map bv) zo Tryz.underlying22 (by kernel_rfl) rfl (by decide) zx c6 zy (Zd b0) (by simp[Zm]) (Yw _) (by unfold maxLen;omega) (by omega) c7.size (by rfl) (by simp) fun g9 g7 j9 h8 i4 f7=>?_
 refine zK _ _ ?_
 refine xcv0 24 (fun _ _ _ zo zx=>Vb zo zx (Yr (Zd h8) (by simp[Zm])) (by simp[Zm]) Tryz.underlying22 Tryz.underlying5 Tryz.underlying9) ?_
 have e7:=c7.trans f7
 exact xe 4 (.string ⟨(leB n 8++leB f 4++leB g 4).toArray⟩) ⟨rfl,e7⟩
theorem Jb(n f g:Int)(h1:1≤n)(h2:n≤14399)(h3:0≤f)(h4:f≤960)(h5:0≤g)(h6:g≤960)(w:World) :
 C0 103 #[.agg #[V0 n,V0 f,V0 g]] w (Ret (.string ⟨(leB n 8++leB f 4++leB g 4).toArray⟩) w):=by
 refine zin 12 Tryz.func103 ?_
 refine xa 2 [V0 n,V0 f,V0 g] 202 fun b1 W1 n1=>?_
 refine xd 4 .z ?_
 have k1:=n1.blk.below (Za W1)
 refine xb (.e [1] 2) 0 k1 ?_
 refine xb (.e [3] 4) 1 k1 ?_
 refine xb (.e [5] 6) 2 k1 ?_
 refine xm2 0 0 7 ?_ ?_
 ·refine yc 0 (args:=#[]) .z (Sj _) ?_
  rintro _ W2 ⟨_,rfl,a2,gl,rfl,gg,kl⟩
  refine⟨a2,?_⟩
  refine xbs (.o [] 7) 3 [V0 n,V0 f,V0 g] 3 fun b3 W3 n3=>?_
  have a1:=kl.below n3.below
  refine xr (.o [] 8) (args:=#[.slice (S1 gl) 3 3,.slice (S1 b3) 3 3]) (Pg gl b3 n f g h1 h2 h3 h4 h5 h6 _ a1 n3.blk) fun W4 a4=>?_
  have hB:=bln (bln (bln (bln n1.below (Za W1)) a2) n3.below) a4
  exact xe (.r [9] 3) (.string ⟨(leB n 8++leB f 4++leB g 4).toArray⟩) ⟨rfl,hB⟩
 refine xbs 0 3 [V0 n,V0 f,V0 g] 3 fun b5 W5 n5=>?_
 refine yc (.o [] 0) (args:=#[]) .z (Sj _) ?_
 rintro _ W6 ⟨_,rfl,a0,gl,rfl,gg,kl⟩
 refine⟨a0,?_⟩
 have k5:=n5.blk.below a0
 refine xr (.o [] 8) (args:=#[.slice (S1 gl) 3 3,.slice (S1 b5) 3 3]) (Pg gl b5 n f g h1 h2 h3 h4 h5 h6 _ kl k5) fun W7 a3=>?_
 have hB:=bln (bln (bln (bln n1.below (Za W1)) n5.below) a0) a3
 exact xe (.r [9] 3) (.string ⟨(leB n 8++leB f 4++leB g 4).toArray⟩) ⟨rfl,hB⟩
end Go.Proofs.YthhilbkandcbmaaGreatDoor
namespace Go.Proofs.YthhilbkandcbmaaGreatDoor
set_option maxHeartbeats 8000000
set_option maxRecDepth 100000
open Go.RowKit Go.Extern.Stop Go.Stop Go.Extern
set_option linter.unusedVariables false
attribute [local irreducible] wpList wpAnyH Code.wp Oper.wp Go
def SplitP(l:List Int)(w:World)(e:Ending)(w':World):Prop :=
 (Kt l≠0∧e=.returned (.tuple #[S0,S0,V0 2])∧B3 w w') ∨
 (Kt l=0∧∃ pb cb gs po co,e=.returned (.tuple #[.slice pb (bmN l.length) cb,.slice po (Zx l l.length).length co,V0 0])∧B3 w w'∧Lists w' w.heap.size (.slice pb (bmN l.length) cb) gs (Xn (Zu l) (bmN l.length))∧w'.ownsRow w.heap.size 192 3 (.slice po (Zx l l.length).length co) (Zx l l.length).length ((Zx l l.length).flatMap Ku))
theorem Rp{l:List Int}{i:Nat}(hl:l.length≤65536)(hi:i<l.length)(h:¬ Uk (l.getD i 0)):Kt l≠0:=fun q=>h ((Ew q).2 i hi)
theorem Zcf{l:List Int}(hl:l.length≤65536)(h:∀ k,k<l.length→Uk (l.getD k 0)):Kt l=0:=by
 unfold Kt;rw[if_neg (by omega),if_pos h]
attribute [local go_sem] Oper.semAt_some
theorem g_retM{P:Program}{fn:Func}{R:Ending→World→Prop}{a:Act}{w:World}(v:Value)(hd:a.defers=[])(hr:(results fn a.tmps).run P w=.ok v w)(h:R (.returned v) w):bodyPostM Fence.wide 4 P fn R .ret a w:=by
 show LeavesInM _ _ _ _ a.tmps R a.defers .returning w
 rw[hd]
 exact⟨v,hr,h⟩
theorem Lists.put{W U:World}{D base:Nat}{v:Value}{gs:List (Nat×Nat)}{L:List (List Int)}(h:Lists W base v gs L)(u:Upd W D U)(hK:Dfr D W):Lists U base v gs L:=⟨u.own3 h.row (hK.row h.row),fun i hi=>u.own3 (h.each i hi) (hK.row (h.each i hi))⟩
theorem mn3_if(n:Int):(if 3<n then 3 else n)=mn3 n:=by unfold mn3;split<;>split<;>omega
def Gk(s:List Int){n:Nat}(pre:List (Fin n)):List (List Int):=pre.map fun j=>Gz s j.val
theorem Hx(s:List Int){n:Nat}(pre:List (Fin n))(x:Fin n):Gk s (pre++[x])=Gk s pre++[Gz s x.val]:=by simp[Gk]
theorem preC_all(s:List Int)(n:Nat):Gk s (List.finRange n)=Xn s n:=by
 unfold Gk Xn
 apply List.ext_getElem
 ·simp
 ·intro i h1 h2;simp
theorem Zcd(a:O0)(c:Nat)(l:List Int)(w:World)(h:Sl w (.slice a l.length c) l.length (l.map V0))(hl:l.length≤65536) :
 C0 98 #[.slice a l.length c] w (SplitP l w):=by
 refine Hm Tryz.func98 rfl ?_
 refine g_fr ⟨#[.slice a l.length c,undef,undef,undef,undef,undef,undef,undef,undef,undef,undef,undef,undef,undef,undef,undef,undef,undef,undef,undef,undef,undef,undef,undef,undef,undef,undef,undef,undef,undef,undef,undef,undef,undef,undef,undef,undef,undef,undef,undef,undef,undef,undef,undef,undef,undef,undef,undef,undef,undef,undef,undef],[]⟩ (by kernel_rfl) ?_
 refine wp_seq ?_
 refine wp_region_lit ?_
 refine Hk 3 [(2,S0),(3,S0),(4,V0 0)] (by kernel_rfl) ?_
 refine wpList_nil ?_
 refine wp_seq ?_
 refine wp_seq ?_
 refine wp_region_lit ?_
 refine Hk 3 [(11,.slice a l.length c),(12,V0 (l.length:Int)),(13,.bool (decide ((l.length:Int)>(65536:Int))))] (by kernel_rfl) ?_
 refine wpList_nil ?_
 refine wp_cond_split (t:=decide ((l.length:Int)>(65536:Int))) (by kernel_rfl) (fun hh=>absurd (hh.symm.trans (show(decide ((l.length:Int)>(65536:Int)):Bool)=false from decide_eq_false (by omega))) (by decide)) (fun _=>?_)
 refine wp_skip ?_
 refine wp_seq ?_
 refine wp_region_lit ?_
 refine Hk 1 [(5,S0)] (by kernel_rfl) ?_
 refine wpList_nil ?_
 refine wp_seq ?_
 refine wp_region_lit ?_
 refine Hk 1 [(6,S0)] (by kernel_rfl) ?_
 refine wpList_nil ?_
 refine wp_seq ?_
 refine wp_seq ?_
 refine wp_region_lit ?_
 refine Hk 3 [(14,.slice a l.length c),(15,V0 (l.length:Int)),(16,V0 0)] (by kernel_rfl) ?_
 refine wpList_nil ?_
 refine wp_block ?_
 refine g_fr ⟨#[.slice a l.length c,undef,S0,S0,V0 0,S0,S0,undef,undef,undef,undef,.slice a l.length c,V0 (l.length:Int),.bool (decide ((l.length:Int)>(65536:Int))),.slice a l.length c,V0 (l.length:Int),V0 0,undef,undef,undef,undef,undef,undef,undef,undef,undef,undef,undef,undef,undef,undef,undef,undef,undef,undef,undef,undef,undef,undef,undef,undef,undef,undef,undef,undef,undef,undef,undef,undef,undef,undef,undef],[]⟩ (by kernel_rfl) ?_
 have hB:=Below.refl w.heap.size w
 refine wp_loop (fun i3 V=>∃ (i:Nat) (ps:O0) (cs:Nat) (po:O0) (co:Nat) (x2:Nat→Value),i3=⟨#[.slice a l.length c,undef,(x2 0),(x2 1),(x2 2),.slice ps i cs,.slice po ((Zx l i).length) co,(x2 3),(x2 4),undef,undef,.slice a l.length c,V0 (l.length:Int),.bool (decide ((l.length:Int)>(65536:Int))),.slice a l.length c,V0 (l.length:Int),V0 (i:Int),(x2 5),(x2 6),(x2 7),(x2 8),(x2 9),(x2 10),(x2 11),(x2 12),(x2 13),(x2 14),(x2 15),(x2 16),(x2 17),(x2 18),(x2 19),(x2 20),(x2 21),(x2 22),(x2 23),(x2 24),(x2 25),(x2 26),(x2 27),(x2 28),(x2 29),undef,undef,undef,undef,undef,undef,undef,undef,undef,undef],[]⟩∧B3 w V∧V.ownsRow w.heap.size 3 1 (.slice ps i cs) i ((Zu (l.take i)).map V0)∧V.ownsRow w.heap.size 192 3 (.slice po (Zx l i).length co) (Zx l i).length ((Zx l i).flatMap Ku)∧i≤l.length∧((∀ j,j<i→Uk (l.getD j 0)))) (fun i3 V=>l.length-((intOf (i3.tmps.getD 16 undef))).toNat) ⟨0,none,0,none,0,(pk [S0,S0,V0 0,undef,undef,undef,undef,undef,undef,undef,undef,undef,undef,undef,undef,undef,undef,undef,undef,undef,undef,undef,undef,undef,undef,undef,undef,undef,undef,undef]),rfl,hB,World.ownsRow_nil _ _ _ _,World.ownsRow_nil _ _ _ _,Nat.zero_le _,?_⟩ ?_
 ·exact fun j hj=>absurd hj (by omega)
 rintro _ W2 ⟨i,ps,cs,po,co,x2,rfl,hB,hs,ho,hi,hz⟩
 refine wp_seq ?_
 refine wp_region_lit ?_
 refine Hk 1 [(17,.bool (decide ((i:Int)<(l.length:Int))))] (by kernel_rfl) ?_
 refine wpList_nil ?_
 refine wp_seq ?_
 refine wp_cond_split (t:=decide ((i:Int)<(l.length:Int))) (by kernel_rfl) (fun e7=>?_) (fun e7=>?_)
 ·have e7:=of_decide_eq_true e7
  refine wp_skip ?_
  refine wp_seq ?_
  refine wp_block ?_
  refine wp_seq ?_
  refine wp_region_lit ?_
  refine Hk 1 [(18,V0 (i:Int))] (by kernel_rfl) ?_
  refine Ko (by kernel_rfl) (Hv (Td (size:=1) (k:=i) (b:=a) (n:=l.length) (c:=c) (i:=(i:Int)) (ki:=.i64) rfl (by kernel_rfl) (by kernel_rfl) rfl (by omega) (Ints.elem h (k:=i) (by omega)).1 Tryz.underlying28 (by kernel_rfl) W2) ?_)
  refine Ko (by kernel_rfl) (Vi (Xe a (i*1)) (V0 (l.getD i 0)) rfl (by kernel_rfl) (by kernel_rfl) (Ints.elem (h.below hB) (k:=i) (by omega)).2 ?_)
  refine Hk 2 [(7,V0 (i:Int)),(8,V0 (l.getD i 0))] (by kernel_rfl) ?_
  refine wpList_nil ?_
  refine wp_seq ?_
  refine wp_seq ?_
  refine wp_region_lit ?_
  refine Hk 3 [(21,V0 (l.getD i 0)),(22,.bool (decide ((l.getD i 0)<(0:Int)))),(23,.bool (decide ((l.getD i 0)<(0:Int))))] (by kernel_rfl) ?_
  rcases Bool.eq_false_or_eq_true (decide ((l.getD i 0)<(0:Int))) with d9|d9
  ·refine g_b [22,23] _ _ d9 (by kernel_rfl) ?_
   have d9:=of_decide_eq_true d9
   refine Hk 3 [(24,undef),(25,undef),(26,.bool true)] (by kernel_rfl) ?_
   refine wpList_nil ?_
   refine wp_cond_true (by kernel_rfl) ?_
   refine wp_seq ?_
   refine wp_region_lit ?_
   refine Hk 3 [(2,S0),(3,S0),(4,V0 2)] (by kernel_rfl) ?_
   refine wpList_nil ?_
   refine wp_ret (Hf (Gw (Hf (Hf (Gw (Hf ?_))))))
   exact g_retM (.tuple #[S0,S0,V0 2]) (by kernel_rfl) (by kernel_rfl) (.inl ⟨Rp (i:=i) hl (by omega) (fun q=>by unfold Uk at q;omega),rfl,hB⟩)
  ·refine g_b [22,23] _ _ d9 (by kernel_rfl) ?_
   have d9:=of_decide_eq_false d9
   refine Hk 3 [(24,V0 (l.getD i 0)),(25,.bool (decide ((l.getD i 0)>(2147483647:Int)))),(26,.bool (decide ((l.getD i 0)>(2147483647:Int))))] (by kernel_rfl) ?_
   refine wpList_nil ?_
   refine wp_cond_split (t:=decide ((l.getD i 0)>(2147483647:Int))) (by kernel_rfl) (fun f4=>?_) (fun f4=>?_)
   ·have f4:=of_decide_eq_true f4
    refine wp_seq ?_
    refine wp_region_lit ?_
    refine Hk 3 [(2,S0),(3,S0),(4,V0 2)] (by kernel_rfl) ?_
    refine wpList_nil ?_
    refine wp_ret (Hf (Gw (Hf (Hf (Gw (Hf ?_))))))
    exact g_retM (.tuple #[S0,S0,V0 2]) (by kernel_rfl) (by kernel_rfl) (.inl ⟨Rp (i:=i) hl (by omega) (fun q=>by unfold Uk at q;omega),rfl,hB⟩)
   ·have f4:=of_decide_eq_false f4
    refine wp_skip ?_
    refine wp_seq ?_
    refine wp_region_lit ?_
    refine Hk 3 [(27,.slice ps i cs),(28,V0 (l.getD i 0)),(29,V0 (if(3:Int)<(l.getD i 0) then(3:Int) else(l.getD i 0)))] (by kernel_rfl) ?_
    refine Ko (by kernel_rfl) (Qs 3 [V0 (if(3:Int)<(l.getD i 0) then(3:Int) else(l.getD i 0))] rfl (by kernel_rfl) ?_)
    intro b6 W6 n6
    have g6:=n6.ge hB
    have k1:=Xa hs n6
    replace hB:=bln hB n6.below
    replace hs:=Zb hs n6.below
    replace ho:=Zb ho n6.below
    have k6:=n6.blk
    refine Ko (by kernel_rfl) (Zo (e:=3) (n:=i) (xs:=(Zu (l.take i)).map V0) (m:=1) (news:=[V0 (if(3:Int)<(l.getD i 0) then(3:Int) else(l.getD i 0))]) (V0 0) 1 8 (i+1) ((Zu (l.take (i+1))).map V0) rfl Tryz.underlying28 (by kernel_rfl) rfl (by decide) (by kernel_rfl) hs (by kernel_rfl) (k6.sl 1 1 (by decide) (by decide)) rfl (by simp[Value.oneCell']) (by unfold maxLen;omega) (by omega) hB.size (by rfl) (by rw[mn3_if,Zg4 (by omega),List.map_append];rfl) ?_)
    intro p7 c7 W7 o7 l9 m1
    replace ho:=Xc ho l9 hs (by decide)
    replace hB:=hB.trans m1
    refine Hk 1 [(5,.slice p7 (i+1) c7)] (by kernel_rfl) ?_
    refine wpList_nil ?_
    refine wp_seq ?_
    refine wp_region_lit ?_
    refine Hk 2 [(32,V0 (l.getD i 0)),(33,.bool (decide ((l.getD i 0)≥(3:Int))))] (by kernel_rfl) ?_
    refine wpList_nil ?_
    refine wp_cond_split (t:=decide ((l.getD i 0)≥(3:Int))) (by kernel_rfl) (fun e8=>?_) (fun e8=>?_)
    ·have e8:=of_decide_eq_true e8
     refine wp_region_lit ?_
     refine Hk 3 [(34,.slice po ((Zx l i).length) co),(35,V0 (i:Int)),(36,V0 (l.getD i 0))] (by kernel_rfl) ?_
     refine Ko (by kernel_rfl) (Qm (lb:=#[]) 157 #[V0 (l.getD i 0)] rfl (by kernel_rfl) (fun _ _=>by kernel_rfl) (by kernel_rfl) ((Zb1 (l.getD i 0) (by omega) (by omega) _).mono ?_))
     rintro e W9 ⟨rfl,c0⟩
     refine⟨_,rfl,?_⟩
     replace hB:=bln hB c0
     replace ho:=Zb ho c0
     replace o7:=Zb o7 c0
     refine Hk 1 [(38,.agg #[V0 (i:Int),.string ⟨(leB (l.getD i 0) 4).toArray⟩,V0 0])] (by kernel_rfl) ?_
     refine Ko (by kernel_rfl) (Qs 192 [V0 (i:Int),.string ⟨(leB (l.getD i 0) 4).toArray⟩,V0 0] rfl (by kernel_rfl) ?_)
     intro l3 n4 e5
     have o2:=e5.ge hB
     have h7:=Xa ho e5
     replace hB:=bln hB e5.below
     replace ho:=Zb ho e5.below
     replace o7:=Zb o7 e5.below
     have n1:=e5.blk
     refine Ko (by kernel_rfl) (Zo (e:=192) (n:=(Zx l i).length) (xs:=(Zx l i).flatMap Ku) (m:=1) (news:=[V0 (i:Int),.string ⟨(leB (l.getD i 0) 4).toArray⟩,V0 0]) (.agg #[V0 0,.string ⟨#[]⟩,V0 0]) 3 32 ((Zx l (i+1)).length) ((Zx l (i+1)).flatMap Ku) rfl Tryz.underlying187 (by kernel_rfl) rfl (by decide) (by kernel_rfl) ho (by kernel_rfl) (n1.sl 1 1 (by decide) (by decide)) rfl (by simp[Value.oneCell']) (by have:=Mf l i;unfold maxLen;omega) (by have:=Mf l i;omega) hB.size (by rw[Wf (by omega)];simp) (by rw[Wf (by omega)];simp[Ku]) ?_)
     intro f9 g0 n9 l8 i1 h3
     replace o7:=Xc o7 i1 ho (by decide)
     replace hB:=hB.trans h3
     refine Hk 1 [(6,.slice f9 ((Zx l (i+1)).length) g0)] (by kernel_rfl) ?_
     refine wpList_nil ?_
     refine wp_region_lit ?_
     refine Ko (by kernel_rfl) (op_wrap .i64 ((i:Int)+1) (↑(i+1):Int) (by kernel_rfl) ((show IntKind.i64.wrap ((i:Int)+1)=((i:Int)+1) from by first|exact IntWalk.i64_in _ (by omega)|(simp only[IntKind.wrap];omega)).trans (by omega)) ?_)
     refine Hk 1 [(16,V0 (↑(i+1):Int))] (by kernel_rfl) ?_
     refine wpList_nil ?_
     refine g_nfr ⟨#[.slice a l.length c,undef,(x2 0),(x2 1),(x2 2),.slice p7 (i+1) c7,.slice f9 ((Zx l (i+1)).length) g0,V0 (i:Int),V0 (l.getD i 0),undef,undef,.slice a l.length c,V0 (l.length:Int),.bool (decide ((l.length:Int)>(65536:Int))),.slice a l.length c,V0 (l.length:Int),V0 (↑(i+1):Int),.bool (decide ((i:Int)<(l.length:Int))),V0 (i:Int),.pointer (some (Xe a (i*1))),V0 (l.getD i 0),V0 (l.getD i 0),.bool false,.bool false,V0 (l.getD i 0),.bool (decide ((l.getD i 0)>(2147483647:Int))),.bool (decide ((l.getD i 0)>(2147483647:Int))),.slice ps i cs,V0 (l.getD i 0),V0 (if(3:Int)<(l.getD i 0) then(3:Int) else(l.getD i 0)),.slice (S1 b6) 1 1,.slice p7 (i+1) c7,V0 (l.getD i 0),.bool (decide ((l.getD i 0)≥(3:Int))),.slice po ((Zx l i).length) co,V0 (i:Int),V0 (l.getD i 0),.string ⟨(leB (l.getD i 0) 4).toArray⟩,.agg #[V0 (i:Int),.string ⟨(leB (l.getD i 0) 4).toArray⟩,V0 0],.slice (S1 l3) 1 1,.slice f9 ((Zx l (i+1)).length) g0,V0 (↑(i+1):Int),undef,undef,undef,undef,undef,undef,undef,undef,undef,undef],[]⟩ (by kernel_rfl) ?_
     refine⟨⟨i+1,_,_,_,_,(pk [(x2 0),(x2 1),(x2 2),V0 (i:Int),V0 (l.getD i 0),.bool (decide ((i:Int)<(l.length:Int))),V0 (i:Int),.pointer (some (Xe a (i*1))),V0 (l.getD i 0),V0 (l.getD i 0),.bool false,.bool false,V0 (l.getD i 0),.bool (decide ((l.getD i 0)>(2147483647:Int))),.bool (decide ((l.getD i 0)>(2147483647:Int))),.slice ps i cs,V0 (l.getD i 0),V0 (if(3:Int)<(l.getD i 0) then(3:Int) else(l.getD i 0)),.slice (S1 b6) 1 1,.slice p7 (i+1) c7,V0 (l.getD i 0),.bool (decide ((l.getD i 0)≥(3:Int))),.slice po ((Zx l i).length) co,V0 (i:Int),V0 (l.getD i 0),.string ⟨(leB (l.getD i 0) 4).toArray⟩,.agg #[V0 (i:Int),.string ⟨(leB (l.getD i 0) 4).toArray⟩,V0 0],.slice (S1 l3) 1 1,.slice f9 ((Zx l (i+1)).length) g0,V0 (↑(i+1):Int)]),rfl,hB,o7,l8,by omega,fun j hj=>(Nat.lt_or_ge j i).elim (hz j) (fun q=>by obtain rfl:j=i:=(by omega);exact⟨by omega,by omega⟩)⟩,?_⟩
     show l.length-((↑(i+1):Int)).toNat<l.length-((i:Int)).toNat
     omega
    ·have e8:=of_decide_eq_false e8
     refine wp_skip ?_
     refine wp_region_lit ?_
     refine Ko (by kernel_rfl) (op_wrap .i64 ((i:Int)+1) (↑(i+1):Int) (by kernel_rfl) ((show IntKind.i64.wrap ((i:Int)+1)=((i:Int)+1) from by first|exact IntWalk.i64_in _ (by omega)|(simp only[IntKind.wrap];omega)).trans (by omega)) ?_)
     refine Hk 1 [(16,V0 (↑(i+1):Int))] (by kernel_rfl) ?_
     refine wpList_nil ?_
     refine g_nfr ⟨#[.slice a l.length c,undef,(x2 0),(x2 1),(x2 2),.slice p7 (i+1) c7,.slice po ((Zx l i).length) co,V0 (i:Int),V0 (l.getD i 0),undef,undef,.slice a l.length c,V0 (l.length:Int),.bool (decide ((l.length:Int)>(65536:Int))),.slice a l.length c,V0 (l.length:Int),V0 (↑(i+1):Int),.bool (decide ((i:Int)<(l.length:Int))),V0 (i:Int),.pointer (some (Xe a (i*1))),V0 (l.getD i 0),V0 (l.getD i 0),.bool false,.bool false,V0 (l.getD i 0),.bool (decide ((l.getD i 0)>(2147483647:Int))),.bool (decide ((l.getD i 0)>(2147483647:Int))),.slice ps i cs,V0 (l.getD i 0),V0 (if(3:Int)<(l.getD i 0) then(3:Int) else(l.getD i 0)),.slice (S1 b6) 1 1,.slice p7 (i+1) c7,V0 (l.getD i 0),.bool (decide ((l.getD i 0)≥(3:Int))),(x2 22),(x2 23),(x2 24),(x2 25),(x2 26),(x2 27),(x2 28),V0 (↑(i+1):Int),undef,undef,undef,undef,undef,undef,undef,undef,undef,undef],[]⟩ (by kernel_rfl) ?_
     refine g_nfr ⟨#[.slice a l.length c,undef,(x2 0),(x2 1),(x2 2),.slice p7 (i+1) c7,.slice po ((Zx l (i+1)).length) co,V0 (i:Int),V0 (l.getD i 0),undef,undef,.slice a l.length c,V0 (l.length:Int),.bool (decide ((l.length:Int)>(65536:Int))),.slice a l.length c,V0 (l.length:Int),V0 (↑(i+1):Int),.bool (decide ((i:Int)<(l.length:Int))),V0 (i:Int),.pointer (some (Xe a (i*1))),V0 (l.getD i 0),V0 (l.getD i 0),.bool false,.bool false,V0 (l.getD i 0),.bool (decide ((l.getD i 0)>(2147483647:Int))),.bool (decide ((l.getD i 0)>(2147483647:Int))),.slice ps i cs,V0 (l.getD i 0),V0 (if(3:Int)<(l.getD i 0) then(3:Int) else(l.getD i 0)),.slice (S1 b6) 1 1,.slice p7 (i+1) c7,V0 (l.getD i 0),.bool (decide ((l.getD i 0)≥(3:Int))),(x2 22),(x2 23),(x2 24),(x2 25),(x2 26),(x2 27),(x2 28),V0 (↑(i+1):Int),undef,undef,undef,undef,undef,undef,undef,undef,undef,undef],[]⟩ (by rw[Wq (by omega)]) ?_
     refine⟨⟨i+1,_,_,_,_,(pk [(x2 0),(x2 1),(x2 2),V0 (i:Int),V0 (l.getD i 0),.bool (decide ((i:Int)<(l.length:Int))),V0 (i:Int),.pointer (some (Xe a (i*1))),V0 (l.getD i 0),V0 (l.getD i 0),.bool false,.bool false,V0 (l.getD i 0),.bool (decide ((l.getD i 0)>(2147483647:Int))),.bool (decide ((l.getD i 0)>(2147483647:Int))),.slice ps i cs,V0 (l.getD i 0),V0 (if(3:Int)<(l.getD i 0) then(3:Int) else(l.getD i 0)),.slice (S1 b6) 1 1,.slice p7 (i+1) c7,V0 (l.getD i 0),.bool (decide ((l.getD i 0)≥(3:Int))),(x2 22),(x2 23),(x2 24),(x2 25),(x2 26),(x2 27),(x2 28),V0 (↑(i+1):Int)]),rfl,hB,o7,(by rw[Wq (by omega)];exact ho),by omega,fun j hj=>(Nat.lt_or_ge j i).elim (hz j) (fun q=>by obtain rfl:j=i:=(by omega);exact⟨by omega,by omega⟩)⟩,?_⟩
     show l.length-((↑(i+1):Int)).toNat<l.length-((i:Int)).toNat
     omega
 ·have e7:=of_decide_eq_false e7
  refine wp_exit ?_
  refine Za2 ?_
  refine Za2 ?_
  refine Zce ?_
  refine wp_seq ?_
  refine wp_region_lit ?_
  refine Ko (by kernel_rfl) (Wt [S0] rfl (by kernel_rfl) ?_)
  intro b8 n8 f5
  have j9:=f5.ge hB
  replace hB:=bln hB f5.below
  replace hs:=Zb hs f5.below
  replace ho:=Zb ho f5.below
  have c3:=f5.blk
  refine wpList_nil ?_
  refine wp_seq ?_
  refine wp_seq ?_
  refine wp_region_lit ?_
  refine Hk 1 [(42,.slice ps i cs)] (by kernel_rfl) ?_
  refine Ko (by kernel_rfl) (Qm (lb:=#[]) 158 #[.slice ps i cs,V0 960] rfl (by kernel_rfl) (fun _ _=>by kernel_rfl) (by kernel_rfl) ((Od ps i cs _).mono ?_))
  rintro e c9 ⟨b1,b2,rfl,c5,n5,n7,m4,e0,d8⟩
  refine⟨_,rfl,?_⟩
  replace hB:=bln hB c5
  replace c3:=c3.below c5
  replace hs:=Zb hs c5
  replace ho:=Zb ho c5
  refine wpList_nil ?_
  refine wp_block ?_
  have k9:i=l.length:=by omega
  obtain⟨g,hv⟩:=row_or hs
  have m6:=Zcp b1 b2 (fun b=>b<c9.heap.size∧b≠b8) g 0 i cs (.slice ps i cs) c9 (fun b h=>h.1) ⟨e0.lt,(by rintro rfl;exact absurd (e0.ty c3) (by decide))⟩ ⟨d8.lt,(by rintro rfl;exact absurd (d8.ty c3) (by decide))⟩ (by omega) hv (e0.cell (i:=0) rfl) (d8.cell (i:=0) rfl)
  refine g_fr ⟨#[.slice a l.length c,undef,(x2 0),(x2 1),(x2 2),.slice ps i cs,.slice po ((Zx l i).length) co,(x2 3),(x2 4),P0 b8,undef,.slice a l.length c,V0 (l.length:Int),.bool (decide ((l.length:Int)>(65536:Int))),.slice a l.length c,V0 (l.length:Int),V0 (i:Int),.bool (decide ((i:Int)<(l.length:Int))),(x2 6),(x2 7),(x2 8),(x2 9),(x2 10),(x2 11),(x2 12),(x2 13),(x2 14),(x2 15),(x2 16),(x2 17),(x2 18),(x2 19),(x2 20),(x2 21),(x2 22),(x2 23),(x2 24),(x2 25),(x2 26),(x2 27),(x2 28),(x2 29),.slice ps i cs,.func (.func 192) #[] #[P0 b1,P0 b2],undef,undef,undef,undef,undef,undef,undef,undef],[]⟩ (by kernel_rfl) ?_
  refine Zdk (g:=.tmp 43) (gf:=192) (lb:=#[P0 b1,P0 b2]) rfl (enters_of Tryz.func192 (by kernel_rfl) rfl) _ (fun b h=>h.1) m6 (fun _=>rfl)
   (fun a0 W=>(∃ pb cb gs,gs.length=a0.length∧Blk W b8 [.slice pb (Gk (Zu (l.take i)) a0).length cb] 196∧Lists W c9.heap.size (.slice pb (Gk (Zu (l.take i)) a0).length cb) gs (Gk (Zu (l.take i)) a0))∧BelowBut c9 b8 W)
   (fun _ _ _=>False) ?own (fun _ _ _ _ _ h _ _=>h) ⟨⟨none,0,[],rfl,c3,⟨World.ownsRow_nil _ _ _ _,fun i hi=>absurd hi (Nat.not_lt_zero _)⟩⟩,(Below.refl _ _).but _⟩
   (fun x a' _=>a'={ tmps:=#[.slice a l.length c,undef,(x2 0),(x2 1),(x2 2),.slice ps i cs,.slice po ((Zx l i).length) co,(x2 3),(x2 4),P0 b8,.slice (some ⟨g,0+x.val*960,none⟩) (min 960 (i-x.val*960)) (min 960 (i-x.val*960)),.slice a l.length c,V0 (l.length:Int),.bool (decide ((l.length:Int)>(65536:Int))),.slice a l.length c,V0 (l.length:Int),V0 (i:Int),.bool (decide ((i:Int)<(l.length:Int))),(x2 6),(x2 7),(x2 8),(x2 9),(x2 10),(x2 11),(x2 12),(x2 13),(x2 14),(x2 15),(x2 16),(x2 17),(x2 18),(x2 19),(x2 20),(x2 21),(x2 22),(x2 23),(x2 24),(x2 25),(x2 26),(x2 27),(x2 28),(x2 29),.slice ps i cs,.func (.func 192) #[] #[P0 b1,P0 b2],.slice (some ⟨g,0+x.val*960,none⟩) (min 960 (i-x.val*960)) (min 960 (i-x.val*960)),undef,undef,undef,undef,undef,undef,undef],defers:=[] }) (fun _ _ _ _ _ _ h _ _=>h) ?assign ?body ?done (fun _ _ _ _ _ _ h _=>h.elim)
  case own=>exact OwnFrom.and (Own.from (fun s A B o0 hs hg hr=>by obtain⟨pb,cb,gs,h0,h1,h2⟩:=hs;exact⟨pb,cb,gs,h0,h1.turn hg hr,h2.turn hg hr⟩) _) (Fv (Nat.le_refl _))
  case assign =>
   rintro lr a0 x W K hI hK
   unfold encK
   gi_wp2
   refine hK _ _ (KeepsFrom.refl _ _) (Keeps.refl _ _) hI ?_
   simp only[k9,Nat.zero_add,decide_eq_false (show ¬ ((l.length:Int)>65536) by omega),Int.lt_irrefl,decide_false]
  case body =>
   rintro lr a0 x a' W o1 ⟨⟨pb,cb,gs,e1,m9,hL⟩,e4⟩ rfl n3
   have hx:=bmN_lt x.isLt
   have m3:=hv.resolve_left (fun q=>by omega)
   have a2:=e4.own2 hs c3 (by decide)
   rw[m3.1] at a2
   obtain⟨m,hm⟩:∃ m,min 960 (i-x.val*960)=m:=⟨_,rfl⟩
   rw[hm]
   have f2:0<m:=by omega
   have l2:x.val*960+m≤i:=by omega
   have g1:(Zu (l.take i)).length=i:=by simp[Zu];omega
   have d0:(Gz (Zu (l.take i)) x.val).length=m:=by rw[Sq,g1];exact hm
   have k5:(((Zu (l.take i)).map V0).drop (x.val*960)).take m=(Gz (Zu (l.take i)) x.val).map V0:=by rw[←List.map_drop,←List.map_take];unfold Gz;rw[show((Zu (l.take i)).drop (x.val*960)).take m=((Zu (l.take i)).drop (x.val*960)).take 960 from by rw[List.take_eq_take_iff,List.length_drop,g1];omega]
   have h4:(Gk (Zu (l.take i)) a0).length=a0.length:=by simp[Gk]
   have o4:a0.length≤69:=by have:bmN i≤69:=(by unfold bmN;omega);omega
   have a1:=hL.row
   have hE:Each W c9.heap.size gs (Gk (Zu (l.take i)) a0):=hL.each
   have hZ:RdZ c9 b8 W W:=RdZ.refl e4
   have a8:c9.heap.size≤W.heap.size:=e4.size
   have a3:w.heap.size≤c9.heap.size:=hB.size
   have c0:=j9
   refine wpIn_block ?_
   have hB:=blB (Below.refl w.heap.size W) (Nat.le_trans a3 a8) (Za W)
   replace m9:=m9.below (Za W)
   replace a2:=Zb a2 (Za W)
   replace a1:=Zb a1 (Za W)
   replace hE:=hE.below (Za W)
   replace hZ:=hZ.below (Za W)
   refine h_regIn (fun V=>Below w.heap.size (W.drew) V∧Zg [196,28] (W.drew) V) 6 rfl #[false,false,false,false,false,false] rfl (by kernel_rfl) (fun⟨_,_,q⟩=>q) (by simp) ⟨Below.refl _ _,Zg.refl _ _⟩ ?_
   intro c1
   have a4:=hB
   have f1:=m9
   have i4:=a1
   refine h_pv [1] 5 rfl #[false,true,false,false,false,false] [(46,.slice (some ⟨g,0+x.val*960,none⟩) m m)] (by kernel_rfl) (fun _ _ _ _ _ h=>h) (by kernel_rfl) c1 ?_
   refine h_two 0 2 4 rfl (by kernel_rfl) rfl rfl (by kernel_rfl) (by kernel_rfl) ?_ ?_
   ·refine Vi ⟨b8,0,none⟩ (.slice pb ((Gk (Zu (l.take i)) a0).length) cb) rfl (by kernel_rfl) (by kernel_rfl) (m9.cell (i:=0) rfl) ?_
    have e2:Below w.heap.size (W.drew) (W.drew)∧Zg [196,28] (W.drew) (W.drew):=c1
    refine⟨e2,?_⟩
    have i2:W.heap.size≤(W.drew).heap.size:=hB.size
    refine Rd 2 3 rfl (by kernel_rfl) rfl (by kernel_rfl) (Qm (lb:=#[]) 110 #[.slice (some ⟨g,0+x.val*960,none⟩) m m] rfl (by kernel_rfl) (fun _ _=>by kernel_rfl) (by kernel_rfl) ((Mu ⟨g,0+x.val*960,none⟩ m m ((Gz (Zu (l.take i)) x.val).map V0) _ (k5▸Sl.midI (Zd a2) (by rw[List.length_map];exact g1) (x.val*960) m f2 l2) (by rw[List.length_map];exact d0) (fun u hu=>by obtain⟨y,_,rfl⟩:=List.mem_map.1 hu;rfl) (by omega)).mono ?_))
    rintro e k8 ⟨_,rfl,a7,q,c2,rfl,hq⟩
    refine⟨_,rfl,?_⟩
    replace hB:=blB hB (Nat.le_trans a3 a8) a7
    replace m9:=m9.below a7
    replace a2:=Zb a2 a7
    replace a1:=Zb a1 a7
    replace hE:=hE.below a7
    replace hZ:=hZ.below a7
    replace hq:=Ze hq i2
    have c6:Below w.heap.size (W.drew) (k8)∧Zg [196,28] (W.drew) (k8):=⟨blB e2.1 (Nat.le_trans (Nat.le_trans a3 a8) a4.size) a7,e2.2.trans (Zg.of_below a7)⟩
    refine⟨c6,?_⟩
    refine Rd 3 2 rfl (by kernel_rfl) rfl (by kernel_rfl) (Qs 28 [.slice q m c2] rfl (by kernel_rfl) ?_)
    intro n2 k7 a9
    have f7:=a9.ne m9
    have o5:=a9.ge0 hB
    have g9:=Xa a1 a9
    have i5:(W.drew).heap.size≤n2:=by have:=c6.1.size;have:=a9.at_;omega
    replace hB:=blB hB (Nat.le_trans a3 a8) a9.below
    replace m9:=m9.below a9.below
    replace a2:=Zb a2 a9.below
    replace a1:=Zb a1 a9.below
    replace hE:=hE.below a9.below
    replace hZ:=hZ.below a9.below
    replace hq:=Zb hq a9.below
    have n0:=a9.blk
    have d6:Below w.heap.size (W.drew) (k7)∧Zg [196,28] (W.drew) (k7):=⟨blB c6.1 (Nat.le_trans (Nat.le_trans a3 a8) a4.size) a9.below,c6.2.trans (Zg.of_below a9.below)⟩
    refine⟨d6,?_⟩
    refine Rd 4 1 rfl (by kernel_rfl) rfl (by kernel_rfl) (Zo (e:=28) (n:=(Gk (Zu (l.take i)) a0).length) (xs:=(List.range (Gk (Zu (l.take i)) a0).length).map (Iu gs (Gk (Zu (l.take i)) a0))) (m:=1) (news:=[.slice q m c2]) (S0) 1 24 ((Gk (Zu (l.take i)) a0).length+1) ((List.range (Gk (Zu (l.take i)) a0).length).map (Iu gs (Gk (Zu (l.take i)) a0))++[.slice q m c2]) rfl Tryz.underlying196 (by kernel_rfl) rfl (by decide) (by kernel_rfl) a1 (by kernel_rfl) (n0.sl 1 1 (by decide) (by decide)) rfl (by simp[Value.oneCell']) (by unfold maxLen;omega) (by omega) (Nat.le_trans a8 hZ.le) (by simp) (by simp) ?_)
    intro k2 j5 l4 i0 b7 e6
    replace m9:=m9.grown b7 a1 (by decide)
    replace a2:=Xc a2 b7 a1 (by decide)
    replace hE:=hE.only (Zg.of_grown (T:=[28]) b7 a1 (by decide)) (by decide)
    replace hZ:=hZ.grown b7 a1
    replace hq:=Xc hq b7 a1 (by decide)
    replace hB:=hB.trans (e6.mono a3)
    have d7:Below w.heap.size (W.drew) (l4)∧Zg [196,28] (W.drew) (l4):=⟨d6.1.trans (e6.mono a3),d6.2.trans (Zg.of_grown b7 a1 (by decide))⟩
    refine⟨d7,?_⟩
    refine Rd 5 0 rfl (by kernel_rfl) rfl (by kernel_rfl) (Kg (v:=.slice k2 ((Gk (Zu (l.take i)) a0).length+1) j5) (b:=b8) (off:=0) rfl (by kernel_rfl) (by kernel_rfl) (by kernel_rfl) rfl m9 (by first|decide|simp) ?_)
    intro j2 d2 l7
    change Blk _ _ [.slice k2 ((Gk (Zu (l.take i)) a0).length+1) j5] _ at l7
    replace hB:=d2.below hB c0
    replace a2:=d2.own2 a2 m9 (by decide)
    replace hE:=hE.only (Zg.of_upd (T:=[196]) d2 m9 (by decide)) (by decide)
    replace hZ:=hZ.upd d2 m9
    replace hq:=d2.own2 hq m9 (by decide)
    replace i0:=d2.own2 i0 m9 (by decide)
    have i9:Below w.heap.size (W.drew) (j2)∧Zg [196,28] (W.drew) (j2):=⟨d2.below d7.1 c0,d7.2.trans (Zg.of_upd d2 m9 (by decide))⟩
    refine⟨i9,?_⟩
    refine h_done _ (by kernel_rfl) ?_
    obtain⟨g2,rfl,j0⟩:=Mo hq f2
    rw[←d0] at hq
    have a6:=i0
    rw[←d0] at a6
    have hS:=Lists.snoc (n:=(Gk (Zu (l.take i)) a0).length+1) rfl a6 hE (Ze hq a8) (by rw[e1,h4])
    exact⟨hZ.ko.from _,⟨hZ.le,fun b hb=>hZ.fr b hb.1 hb.2⟩,⟨_,_,gs++[(g2,_)],by simp[e1],by rw[Hx,List.length_append];exact l7,by rw[Hx,List.length_append];exact hS⟩,hZ.bb⟩
   ·have i7:W.heap.size≤(W.drew).heap.size:=hB.size
    refine Qm (lb:=#[]) 110 #[.slice (some ⟨g,0+x.val*960,none⟩) m m] rfl (by kernel_rfl) (fun _ _=>by kernel_rfl) (by kernel_rfl) ((Mu ⟨g,0+x.val*960,none⟩ m m ((Gz (Zu (l.take i)) x.val).map V0) _ (k5▸Sl.midI (Zd a2) (by rw[List.length_map];exact g1) (x.val*960) m f2 l2) (by rw[List.length_map];exact d0) (fun u hu=>by obtain⟨y,_,rfl⟩:=List.mem_map.1 hu;rfl) (by omega)).mono ?_)
    rintro e g8 ⟨_,rfl,a5,q,c2,rfl,hq⟩
    refine⟨_,rfl,?_⟩
    replace hB:=blB hB (Nat.le_trans a3 a8) a5
    replace m9:=m9.below a5
    replace a2:=Zb a2 a5
    replace a1:=Zb a1 a5
    replace hE:=hE.below a5
    replace hZ:=hZ.below a5
    replace hq:=Ze hq i7
    have b9:Below w.heap.size (W.drew) (g8)∧Zg [196,28] (W.drew) (g8):=⟨blB c1.1 (Nat.le_trans (Nat.le_trans a3 a8) a4.size) a5,c1.2.trans (Zg.of_below a5)⟩
    refine⟨b9,?_⟩
    refine h_two 0 3 3 rfl (by kernel_rfl) rfl rfl (by kernel_rfl) (by kernel_rfl) ?_ ?_
    ·refine Vi ⟨b8,0,none⟩ (.slice pb ((Gk (Zu (l.take i)) a0).length) cb) rfl (by kernel_rfl) (by kernel_rfl) (m9.cell (i:=0) rfl) ?_
     have c4:Below w.heap.size (W.drew) (g8)∧Zg [196,28] (W.drew) (g8):=b9
     refine⟨c4,?_⟩
     refine Rd 3 2 rfl (by kernel_rfl) rfl (by kernel_rfl) (Qs 28 [.slice q m c2] rfl (by kernel_rfl) ?_)
     intro m7 k4 b3
     have g5:=b3.ne m9
     have o6:=b3.ge0 hB
     have f8:=Xa a1 b3
     have h5:(W.drew).heap.size≤m7:=by have:=c4.1.size;have:=b3.at_;omega
     replace hB:=blB hB (Nat.le_trans a3 a8) b3.below
     replace m9:=m9.below b3.below
     replace a2:=Zb a2 b3.below
     replace a1:=Zb a1 b3.below
     replace hE:=hE.below b3.below
     replace hZ:=hZ.below b3.below
     replace hq:=Zb hq b3.below
     have m8:=b3.blk
     have e3:Below w.heap.size (W.drew) (k4)∧Zg [196,28] (W.drew) (k4):=⟨blB c4.1 (Nat.le_trans (Nat.le_trans a3 a8) a4.size) b3.below,c4.2.trans (Zg.of_below b3.below)⟩
     refine⟨e3,?_⟩
     refine Rd 4 1 rfl (by kernel_rfl) rfl (by kernel_rfl) (Zo (e:=28) (n:=(Gk (Zu (l.take i)) a0).length) (xs:=(List.range (Gk (Zu (l.take i)) a0).length).map (Iu gs (Gk (Zu (l.take i)) a0))) (m:=1) (news:=[.slice q m c2]) (S0) 1 24 ((Gk (Zu (l.take i)) a0).length+1) ((List.range (Gk (Zu (l.take i)) a0).length).map (Iu gs (Gk (Zu (l.take i)) a0))++[.slice q m c2]) rfl Tryz.underlying196 (by kernel_rfl) rfl (by decide) (by kernel_rfl) a1 (by kernel_rfl) (m8.sl 1 1 (by decide) (by decide)) rfl (by simp[Value.oneCell']) (by unfold maxLen;omega) (by omega) (Nat.le_trans a8 hZ.le) (by simp) (by simp) ?_)
     intro k0 j7 j8 i6 b4 f3
     replace m9:=m9.grown b4 a1 (by decide)
     replace a2:=Xc a2 b4 a1 (by decide)
     replace hE:=hE.only (Zg.of_grown (T:=[28]) b4 a1 (by decide)) (by decide)
     replace hZ:=hZ.grown b4 a1
     replace hq:=Xc hq b4 a1 (by decide)
     replace hB:=hB.trans (f3.mono a3)
     have d5:Below w.heap.size (W.drew) (j8)∧Zg [196,28] (W.drew) (j8):=⟨e3.1.trans (f3.mono a3),e3.2.trans (Zg.of_grown b4 a1 (by decide))⟩
     refine⟨d5,?_⟩
     refine Rd 5 0 rfl (by kernel_rfl) rfl (by kernel_rfl) (Kg (v:=.slice k0 ((Gk (Zu (l.take i)) a0).length+1) j7) (b:=b8) (off:=0) rfl (by kernel_rfl) (by kernel_rfl) (by kernel_rfl) rfl m9 (by first|decide|simp) ?_)
     intro j4 c8 l5
     change Blk _ _ [.slice k0 ((Gk (Zu (l.take i)) a0).length+1) j7] _ at l5
     replace hB:=c8.below hB c0
     replace a2:=c8.own2 a2 m9 (by decide)
     replace hE:=hE.only (Zg.of_upd (T:=[196]) c8 m9 (by decide)) (by decide)
     replace hZ:=hZ.upd c8 m9
     replace hq:=c8.own2 hq m9 (by decide)
     replace i6:=c8.own2 i6 m9 (by decide)
     have h9:Below w.heap.size (W.drew) (j4)∧Zg [196,28] (W.drew) (j4):=⟨c8.below d5.1 c0,d5.2.trans (Zg.of_upd c8 m9 (by decide))⟩
     refine⟨h9,?_⟩
     refine h_done _ (by kernel_rfl) ?_
     obtain⟨g2,rfl,j0⟩:=Mo hq f2
     rw[←d0] at hq
     have a6:=i6
     rw[←d0] at a6
     have hS:=Lists.snoc (n:=(Gk (Zu (l.take i)) a0).length+1) rfl a6 hE (Ze hq a8) (by rw[e1,h4])
     exact⟨hZ.ko.from _,⟨hZ.le,fun b hb=>hZ.fr b hb.1 hb.2⟩,⟨_,_,gs++[(g2,_)],by simp[e1],by rw[Hx,List.length_append];exact l5,by rw[Hx,List.length_append];exact hS⟩,hZ.bb⟩
    ·refine Qs 28 [.slice q m c2] rfl (by kernel_rfl) ?_
     intro m2 g7 b0
     have g3:=b0.ne m9
     have o3:=b0.ge0 hB
     have f6:=Xa a1 b0
     have i8:(W.drew).heap.size≤m2:=by have:=b9.1.size;have:=b0.at_;omega
     replace hB:=blB hB (Nat.le_trans a3 a8) b0.below
     replace m9:=m9.below b0.below
     replace a2:=Zb a2 b0.below
     replace a1:=Zb a1 b0.below
     replace hE:=hE.below b0.below
     replace hZ:=hZ.below b0.below
     replace hq:=Zb hq b0.below
     have m5:=b0.blk
     have e9:Below w.heap.size (W.drew) (g7)∧Zg [196,28] (W.drew) (g7):=⟨blB b9.1 (Nat.le_trans (Nat.le_trans a3 a8) a4.size) b0.below,b9.2.trans (Zg.of_below b0.below)⟩
     refine⟨e9,?_⟩
     refine Rd 0 2 rfl (by kernel_rfl) rfl (by kernel_rfl) (Vi ⟨b8,0,none⟩ (.slice pb ((Gk (Zu (l.take i)) a0).length) cb) rfl (by kernel_rfl) (by kernel_rfl) (m9.cell (i:=0) rfl) ?_)
     have d4:Below w.heap.size (W.drew) (g7)∧Zg [196,28] (W.drew) (g7):=e9
     refine⟨d4,?_⟩
     refine Rd 4 1 rfl (by kernel_rfl) rfl (by kernel_rfl) (Zo (e:=28) (n:=(Gk (Zu (l.take i)) a0).length) (xs:=(List.range (Gk (Zu (l.take i)) a0).length).map (Iu gs (Gk (Zu (l.take i)) a0))) (m:=1) (news:=[.slice q m c2]) (S0) 1 24 ((Gk (Zu (l.take i)) a0).length+1) ((List.range (Gk (Zu (l.take i)) a0).length).map (Iu gs (Gk (Zu (l.take i)) a0))++[.slice q m c2]) rfl Tryz.underlying196 (by kernel_rfl) rfl (by decide) (by kernel_rfl) a1 (by kernel_rfl) (m5.sl 1 1 (by decide) (by decide)) rfl (by simp[Value.oneCell']) (by unfold maxLen;omega) (by omega) (Nat.le_trans a8 hZ.le) (by simp) (by simp) ?_)
     intro j3 j6 l1 h6 b5 f0
     replace m9:=m9.grown b5 a1 (by decide)
     replace a2:=Xc a2 b5 a1 (by decide)
     replace hE:=hE.only (Zg.of_grown (T:=[28]) b5 a1 (by decide)) (by decide)
     replace hZ:=hZ.grown b5 a1
     replace hq:=Xc hq b5 a1 (by decide)
     replace hB:=hB.trans (f0.mono a3)
     have d3:Below w.heap.size (W.drew) (l1)∧Zg [196,28] (W.drew) (l1):=⟨d4.1.trans (f0.mono a3),d4.2.trans (Zg.of_grown b5 a1 (by decide))⟩
     refine⟨d3,?_⟩
     refine Rd 5 0 rfl (by kernel_rfl) rfl (by kernel_rfl) (Kg (v:=.slice j3 ((Gk (Zu (l.take i)) a0).length+1) j6) (b:=b8) (off:=0) rfl (by kernel_rfl) (by kernel_rfl) (by kernel_rfl) rfl m9 (by first|decide|simp) ?_)
     intro l6 d1 k3
     change Blk _ _ [.slice j3 ((Gk (Zu (l.take i)) a0).length+1) j6] _ at k3
     replace hB:=d1.below hB c0
     replace a2:=d1.own2 a2 m9 (by decide)
     replace hE:=hE.only (Zg.of_upd (T:=[196]) d1 m9 (by decide)) (by decide)
     replace hZ:=hZ.upd d1 m9
     replace hq:=d1.own2 hq m9 (by decide)
     replace h6:=d1.own2 h6 m9 (by decide)
     have h8:Below w.heap.size (W.drew) (l6)∧Zg [196,28] (W.drew) (l6):=⟨d1.below d3.1 c0,d3.2.trans (Zg.of_upd d1 m9 (by decide))⟩
     refine⟨h8,?_⟩
     refine h_done _ (by kernel_rfl) ?_
     obtain⟨g2,rfl,j0⟩:=Mo hq f2
     rw[←d0] at hq
     have a6:=h6
     rw[←d0] at a6
     have hS:=Lists.snoc (n:=(Gk (Zu (l.take i)) a0).length+1) rfl a6 hE (Ze hq a8) (by rw[e1,h4])
     exact⟨hZ.ko.from _,⟨hZ.le,fun b hb=>hZ.fr b hb.1 hb.2⟩,⟨_,_,gs++[(g2,_)],by simp[e1],by rw[Hx,List.length_append];exact k3,by rw[Hx,List.length_append];exact hS⟩,hZ.bb⟩
  case done =>
   rintro D xs W hD rfl ⟨⟨pb,cb,gs,e1,m9,hL⟩,e4⟩ l0
   rw[preC_all] at m9 hL
   have hK:Dfr D W:=l0;clear l0
   subst k9
   rw[List.take_length] at m9 hL
   rw[Js] at m9 hL
   refine Zbi ?_
   have m0:=hB
   replace hB:=e4.below hB j9 hB.size
   have j1:=e4.own2 ho c3 (by decide)
   have a3:=m0.size
   replace c3:=m9
   refine wp_seq ?_
   refine wp_region_lit ?_
   refine Ko (by kernel_rfl) (Vi ⟨b8,0,none⟩ (.slice pb (bmN l.length) cb) rfl (by kernel_rfl) (by kernel_rfl) (c3.cell (i:=0) rfl) ?_)
   refine Hk 4 [(51,.slice po ((Zx l l.length).length) co),(2,.slice pb (bmN l.length) cb),(3,.slice po ((Zx l l.length).length) co),(4,V0 0)] (by kernel_rfl) ?_
   refine wpList_nil ?_
   refine wp_ret ?_
   exact g_endM hK (.tuple #[.slice pb (bmN l.length) cb,.slice po ((Zx l l.length).length) co,V0 0]) (by kernel_rfl) (by kernel_rfl) (.inr ⟨Zcf hl (fun k hk=>hz k (by omega)),_,_,gs,_,_,rfl,(Upd.of_put _ _ _).below hB (Nat.le_trans a3 hD),(hL.mono a3).put (Upd.of_put _ _ _) hK,(Upd.of_put _ _ _).own3 j1 (hK.row j1)⟩)
end Go.Proofs.YthhilbkandcbmaaGreatDoor
namespace Go.Proofs.YthhilbkandcbmaaGreatDoor
set_option maxHeartbeats 8000000
set_option maxRecDepth 100000
open Go.RowKit Go.Extern.Stop Go.Stop Go.Extern
set_option linter.unusedVariables false
attribute [local irreducible] wpList wpAnyH Code.wp Oper.wp Go
def ClosP(B Bx bl:Nat)(L:List (List Int))(q i:Nat)(w:World)(e:Ending)(w':World):Prop :=
 ∃ u p c,e=.returned u∧Below B w w'∧Zg [187,192] w w'∧Blk w' bl [.slice p (i+1) c] 187∧w'.ownsRow Bx 192 3 (.slice p (i+1) c) (i+1) ((Xz L q (i+1)).flatMap Ku)∧FrB Bx [bl] w w'
theorem Kq(L:List (List Int))(q i:Nat):(Xz L q i).flatMap Ku++[V0 (i:Int),.string ⟨(leB ((q+i:Nat):Int) 8++leB (Yi (L.getD i []):Int) 4++leB (Xj (L.getD i []):Int) 4).toArray⟩,V0 0]=(Xz L q (i+1)).flatMap Ku:=by
 rw[Zb7];simp[Ku,Ze8,slotB]
structure FrZ(Bx:Nat)(S:List Nat)(a w:World):Prop where
 fr:FrB Bx S a w
 le:Bx≤a.heap.size
theorem FrZ.refl{Bx:Nat}{S:List Nat}{w:World}(h:Bx≤w.heap.size):FrZ Bx S w w:=⟨⟨Nat.le_refl _,fun _ _ _=>rfl⟩,h⟩
theorem FrZ.below{Bx:Nat}{S:List Nat}{a w W:World}(h:FrZ Bx S a w)(hb:B3 w W):FrZ Bx S a W:=⟨⟨Nat.le_trans h.fr.1 hb.size,fun k hk hn=>(hb.block k (by have:=h.fr.1;have:=h.le;omega)).trans (h.fr.2 k hk hn)⟩,h.le⟩
theorem FrZ.upd{Bx b:Nat}{S:List Nat}{a w W:World}(h:FrZ Bx S a w)(u:Upd w b W)(hb:b∈S):FrZ Bx S a W:=⟨⟨Nat.le_trans h.fr.1 (Nat.le_of_eq u.size.symm),fun k hk hn=>(u.block k fun e=>hn (e▸hb)).trans (h.fr.2 k hk hn)⟩,h.le⟩
theorem FrZ.grown{Bx:Nat}{S:List Nat}{a w W:World}{size n:Nat}{e:TypeId}{v:Value}{xs:List Value}(h:FrZ Bx S a w)(hg:w.grownBy W v.ownBlock)(hown:w.ownsRow Bx e size v n xs):FrZ Bx S a W:=⟨⟨Nat.le_trans h.fr.1 hg.size,fun k hk hn=>(hg.block k (by have:=h.fr.1;have:=h.le;omega) (fun e=>by have:=(hown.lt k e.symm).1;omega)).trans (h.fr.2 k hk hn)⟩,h.le⟩
theorem Zhh(B Bx bl:Nat)(p:O0)(c:Nat)(L:List (List Int))(q i:Nat)(w:World)(hBm:B≤Bx)(hBx:Bx≤w.heap.size)(hBw:B≤w.heap.size)(hBl:B≤bl)(kl:Blk w bl [.slice p i c] 187)(hup:w.ownsRow Bx 192 3 (.slice p i c) i ((Xz L q i).flatMap Ku))(hq:1≤q+i)(hq2:q+i≤14399)(hi:i≤100000)(hf:Yi (L.getD i [])≤960)(hg:Xj (L.getD i [])≤960) :
 C0 102 #[.agg #[V0 (↑(q+i):Int),V0 (↑(Yi (L.getD i [])):Int),V0 (↑(Xj (L.getD i [])):Int)],P0 bl] w (ClosP B Bx bl L q i w):=by
 have hZ:FrZ Bx [bl] w w:=FrZ.refl hBx
 refine zin 11 Tryz.func102 ?_
 refine xa 2 [V0 (↑(q+i):Int),V0 (↑(Yi (L.getD i [])):Int),V0 (↑(Xj (L.getD i [])):Int)] 202 fun b1 W1 n1=>?_
 refine xd 2 (.t B [187,192]) ?_
 have k1:=n1.blk.below (Za W1)
 refine xlvt (.e [] 3) (.t B [187,192]) (fun V hV=>(k1.only hV.2 (by decide)).rp) ?_
 refine xm3 0 0 1 4 ?_ ?_ ?_
 ·have c9:=(kl.below n1.below).below (Za W1)
  refine xb 0 0 c9 ?_
  refine xm2 0 1 4 ?_ ?_
  ·refine xb 0 0 c9 ?_
   refine xr (.o [2] 4) (args:=#[.agg #[V0 (↑(q+i):Int),V0 (↑(Yi (L.getD i [])):Int),V0 (↑(Xj (L.getD i [])):Int)]]) (Jb (↑(q+i):Int) (↑(Yi (L.getD i [])):Int) (↑(Xj (L.getD i [])):Int) (by omega) (by omega) (by omega) (by omega) (by omega) (by omega) _) fun W2 f8=>?_
   refine xbs (.o [5] 6) 1 [V0 (i:Int),.string ⟨(leB (↑(q+i):Int) 8++leB (↑(Yi (L.getD i [])):Int) 4++leB (↑(Xj (L.getD i [])):Int) 4).toArray⟩,V0 0] 192 fun b3 W3 n3=>?_
   have d7:=Zb (Zb (Zb hup n1.below) (Za W1)) f8
   have i4:=Xa d7 n3
   have a6:=Zb d7 n3.below
   have hB:=blB (blB (blB (blB (Below.refl B w) hBw n1.below) hBw (Za W1)) hBw f8) hBw n3.below
   refine ybi (.o [] 7) (.t B [187,192]) fun _ _ _ _ zJ zQ zo zx zy zK=>Zo (m:=1) (news:=[V0 (i:Int),.string ⟨(leB (↑(q+i):Int) 8++leB (↑(Yi (L.getD i [])):Int) 4++leB (↑(Xj (L.getD i [])):Int) 4).toArray⟩,V0 0]) (.agg #[V0 0,.string ⟨#[]⟩,V0 0]) 3 32 (i+1) ((Xz L q (i+1)).flatMap Ku) zo Tryz.underlying187 (by kernel_rfl) rfl (by decide) zx a6 zy (n3.blk.sl 1 1 (by decide) (by decide)) rfl (by simp[Value.oneCell']) (by unfold maxLen;omega) (by omega) (Nat.le_trans hBx hB.size) (by rfl) (Kq L q i) fun m4 n2 W4 o4 h1 l5=>?_
   refine zK _ _ (Zn (l5.mono hBm) h1 a6 (by decide)) ?_
   have c4:=((c9.below f8).below n3.below).grown h1 a6 (by decide)
   refine ys (.o [] 8) c4 [.slice m4 (i+1) n2] (.t B [187,192]) fun W5 u5 k5=>⟨(Zi u5 c4 hBl (by decide)),?_⟩
   have k7:=u5.below (hB.trans (l5.mono hBm)) hBl
   have hO:=(((((show Zg [187,192] w _ from(Zg.of_below n1.below)).trans (Zg.of_below (Za W1))).trans (Zg.of_below f8)).trans (Zg.of_below n3.below)).trans (Zg.of_grown h1 a6 (by decide))).trans (Zg.of_upd u5 c4 (by decide))
   have i9:=u5.own2 o4 c4 (by decide)
   have j6:=(((((hZ.below n1.below).below (Za W1)).below f8).below n3.below).grown h1 a6).upd u5 (by simp)
   exact xe 1 (.tuple #[]) ⟨_,_,_,rfl,k7,hO,k5,i9,j6.fr⟩
  refine xr 0 (args:=#[.agg #[V0 (↑(q+i):Int),V0 (↑(Yi (L.getD i [])):Int),V0 (↑(Xj (L.getD i [])):Int)]]) (Jb (↑(q+i):Int) (↑(Yi (L.getD i [])):Int) (↑(Xj (L.getD i [])):Int) (by omega) (by omega) (by omega) (by omega) (by omega) (by omega) _) fun W6 f6=>?_
  have f4:=c9.below f6
  refine xb (.o [] 1) 0 f4 ?_
  refine xbs (.o [2,5] 6) 1 [V0 (i:Int),.string ⟨(leB (↑(q+i):Int) 8++leB (↑(Yi (L.getD i [])):Int) 4++leB (↑(Xj (L.getD i [])):Int) 4).toArray⟩,V0 0] 192 fun b7 W7 n7=>?_
  have d9:=Zb (Zb (Zb hup n1.below) (Za W1)) f6
  have i1:=Xa d9 n7
  have a9:=Zb d9 n7.below
  have hB:=blB (blB (blB (blB (Below.refl B w) hBw n1.below) hBw (Za W1)) hBw f6) hBw n7.below
  refine ybi (.o [] 7) (.t B [187,192]) fun _ _ _ _ zJ zQ zo zx zy zK=>Zo (m:=1) (news:=[V0 (i:Int),.string ⟨(leB (↑(q+i):Int) 8++leB (↑(Yi (L.getD i [])):Int) 4++leB (↑(Xj (L.getD i [])):Int) 4).toArray⟩,V0 0]) (.agg #[V0 0,.string ⟨#[]⟩,V0 0]) 3 32 (i+1) ((Xz L q (i+1)).flatMap Ku) zo Tryz.underlying187 (by kernel_rfl) rfl (by decide) zx a9 zy (n7.blk.sl 1 1 (by decide) (by decide)) rfl (by simp[Value.oneCell']) (by unfold maxLen;omega) (by omega) (Nat.le_trans hBx hB.size) (by rfl) (Kq L q i) fun l8 l7 W8 o8 h2 l4=>?_
  refine zK _ _ (Zn (l4.mono hBm) h2 a9 (by decide)) ?_
  have c8:=(f4.below n7.below).grown h2 a9 (by decide)
  refine ys (.o [] 8) c8 [.slice l8 (i+1) l7] (.t B [187,192]) fun W9 u9 k9=>⟨(Zi u9 c8 hBl (by decide)),?_⟩
  have k0:=u9.below (hB.trans (l4.mono hBm)) hBl
  have hO:=(((((show Zg [187,192] w _ from(Zg.of_below n1.below)).trans (Zg.of_below (Za W1))).trans (Zg.of_below f6)).trans (Zg.of_below n7.below)).trans (Zg.of_grown h2 a9 (by decide))).trans (Zg.of_upd u9 c8 (by decide))
  have j4:=u9.own2 o8 c8 (by decide)
  have k8:=(((((hZ.below n1.below).below (Za W1)).below f6).below n7.below).grown h2 a9).upd u9 (by simp)
  exact xe 1 (.tuple #[]) ⟨_,_,_,rfl,k0,hO,k9,j4,k8.fr⟩
 ·have b9:=(kl.below n1.below).below (Za W1)
  refine xb 0 0 b9 ?_
  refine xm2 (.b [2]) 0 4 ?_ ?_
  ·refine xb 0 0 b9 ?_
   refine xr (.o [] 4) (args:=#[.agg #[V0 (↑(q+i):Int),V0 (↑(Yi (L.getD i [])):Int),V0 (↑(Xj (L.getD i [])):Int)]]) (Jb (↑(q+i):Int) (↑(Yi (L.getD i [])):Int) (↑(Xj (L.getD i [])):Int) (by omega) (by omega) (by omega) (by omega) (by omega) (by omega) _) fun n5 c2=>?_
   refine xbs (.o [5] 6) 1 [V0 (i:Int),.string ⟨(leB (↑(q+i):Int) 8++leB (↑(Yi (L.getD i [])):Int) 4++leB (↑(Xj (L.getD i [])):Int) 4).toArray⟩,V0 0] 192 fun o7 o2 e4=>?_
   have d8:=Zb (Zb (Zb hup n1.below) (Za W1)) c2
   have h5:=Xa d8 e4
   have a8:=Zb d8 e4.below
   have hB:=blB (blB (blB (blB (Below.refl B w) hBw n1.below) hBw (Za W1)) hBw c2) hBw e4.below
   refine ybi (.o [] 7) (.t B [187,192]) fun _ _ _ _ zJ zQ zo zx zy zK=>Zo (m:=1) (news:=[V0 (i:Int),.string ⟨(leB (↑(q+i):Int) 8++leB (↑(Yi (L.getD i [])):Int) 4++leB (↑(Xj (L.getD i [])):Int) 4).toArray⟩,V0 0]) (.agg #[V0 0,.string ⟨#[]⟩,V0 0]) 3 32 (i+1) ((Xz L q (i+1)).flatMap Ku) zo Tryz.underlying187 (by kernel_rfl) rfl (by decide) zx a8 zy (e4.blk.sl 1 1 (by decide) (by decide)) rfl (by simp[Value.oneCell']) (by unfold maxLen;omega) (by omega) (Nat.le_trans hBx hB.size) (by rfl) (Kq L q i) fun j2 j9 o0 m8 d0 e9=>?_
   refine zK _ _ (Zn (e9.mono hBm) d0 a8 (by decide)) ?_
   have d4:=((b9.below c2).below e4.below).grown d0 a8 (by decide)
   refine ys (.o [] 8) d4 [.slice j2 (i+1) j9] (.t B [187,192]) fun o1 h0 m1=>⟨(Zi h0 d4 hBl (by decide)),?_⟩
   have h9:=h0.below (hB.trans (e9.mono hBm)) hBl
   have hO:=(((((show Zg [187,192] w _ from(Zg.of_below n1.below)).trans (Zg.of_below (Za W1))).trans (Zg.of_below c2)).trans (Zg.of_below e4.below)).trans (Zg.of_grown d0 a8 (by decide))).trans (Zg.of_upd h0 d4 (by decide))
   have f5:=h0.own2 m8 d4 (by decide)
   have k3:=(((((hZ.below n1.below).below (Za W1)).below c2).below e4.below).grown d0 a8).upd h0 (by simp)
   exact xe 1 (.tuple #[]) ⟨_,_,_,rfl,h9,hO,m1,f5,k3.fr⟩
  refine xr 0 (args:=#[.agg #[V0 (↑(q+i):Int),V0 (↑(Yi (L.getD i [])):Int),V0 (↑(Xj (L.getD i [])):Int)]]) (Jb (↑(q+i):Int) (↑(Yi (L.getD i [])):Int) (↑(Xj (L.getD i [])):Int) (by omega) (by omega) (by omega) (by omega) (by omega) (by omega) _) fun n8 a5=>?_
  refine xm2 (.b [5]) 0 6 ?_ ?_
  ·have g0:=b9.below a5
   refine xb 0 0 g0 ?_
   refine xbs (.o [] 6) 1 [V0 (i:Int),.string ⟨(leB (↑(q+i):Int) 8++leB (↑(Yi (L.getD i [])):Int) 4++leB (↑(Xj (L.getD i [])):Int) 4).toArray⟩,V0 0] 192 fun q0 q2 e6=>?_
   have d5:=Zb (Zb (Zb hup n1.below) (Za W1)) a5
   have h3:=Xa d5 e6
   have a7:=Zb d5 e6.below
   have hB:=blB (blB (blB (blB (Below.refl B w) hBw n1.below) hBw (Za W1)) hBw a5) hBw e6.below
   refine ybi (.o [] 7) (.t B [187,192]) fun _ _ _ _ zJ zQ zo zx zy zK=>Zo (m:=1) (news:=[V0 (i:Int),.string ⟨(leB (↑(q+i):Int) 8++leB (↑(Yi (L.getD i [])):Int) 4++leB (↑(Xj (L.getD i [])):Int) 4).toArray⟩,V0 0]) (.agg #[V0 0,.string ⟨#[]⟩,V0 0]) 3 32 (i+1) ((Xz L q (i+1)).flatMap Ku) zo Tryz.underlying187 (by kernel_rfl) rfl (by decide) zx a7 zy (e6.blk.sl 1 1 (by decide) (by decide)) rfl (by simp[Value.oneCell']) (by unfold maxLen;omega) (by omega) (Nat.le_trans hBx hB.size) (by rfl) (Kq L q i) fun i2 j0 o5 m0 d3 f0=>?_
   refine zK _ _ (Zn (f0.mono hBm) d3 a7 (by decide)) ?_
   have d1:=(g0.below e6.below).grown d3 a7 (by decide)
   refine ys (.o [] 8) d1 [.slice i2 (i+1) j0] (.t B [187,192]) fun p6 f2 m5=>⟨(Zi f2 d1 hBl (by decide)),?_⟩
   have j3:=f2.below (hB.trans (f0.mono hBm)) hBl
   have hO:=(((((show Zg [187,192] w _ from(Zg.of_below n1.below)).trans (Zg.of_below (Za W1))).trans (Zg.of_below a5)).trans (Zg.of_below e6.below)).trans (Zg.of_grown d3 a7 (by decide))).trans (Zg.of_upd f2 d1 (by decide))
   have g7:=f2.own2 m0 d1 (by decide)
   have k4:=(((((hZ.below n1.below).below (Za W1)).below a5).below e6.below).grown d3 a7).upd f2 (by simp)
   exact xe 1 (.tuple #[]) ⟨_,_,_,rfl,j3,hO,m5,g7,k4.fr⟩
  refine xbs 0 1 [V0 (i:Int),.string ⟨(leB (↑(q+i):Int) 8++leB (↑(Yi (L.getD i [])):Int) 4++leB (↑(Xj (L.getD i [])):Int) 4).toArray⟩,V0 0] 192 fun p7 p5 e2=>?_
  have d6:=Zb (Zb (Zb hup n1.below) (Za W1)) a5
  have h8:=Xa d6 e2
  have g8:=(b9.below a5).below e2.below
  refine xb (.o [] 0) 0 g8 ?_
  have a1:=Zb d6 e2.below
  have hB:=blB (blB (blB (blB (Below.refl B w) hBw n1.below) hBw (Za W1)) hBw a5) hBw e2.below
  refine ybi (.o [] 7) (.t B [187,192]) fun _ _ _ _ zJ zQ zo zx zy zK=>Zo (m:=1) (news:=[V0 (i:Int),.string ⟨(leB (↑(q+i):Int) 8++leB (↑(Yi (L.getD i [])):Int) 4++leB (↑(Xj (L.getD i [])):Int) 4).toArray⟩,V0 0]) (.agg #[V0 0,.string ⟨#[]⟩,V0 0]) 3 32 (i+1) ((Xz L q (i+1)).flatMap Ku) zo Tryz.underlying187 (by kernel_rfl) rfl (by decide) zx a1 zy (e2.blk.sl 1 1 (by decide) (by decide)) rfl (by simp[Value.oneCell']) (by unfold maxLen;omega) (by omega) (Nat.le_trans hBx hB.size) (by rfl) (Kq L q i) fun i7 i6 p8 l9 d2 g6=>?_
  refine zK _ _ (Zn (g6.mono hBm) d2 a1 (by decide)) ?_
  have b5:=g8.grown d2 a1 (by decide)
  refine ys (.o [] 8) b5 [.slice i7 (i+1) i6] (.t B [187,192]) fun p2 e8 m9=>⟨(Zi e8 b5 hBl (by decide)),?_⟩
  have j5:=e8.below (hB.trans (g6.mono hBm)) hBl
  have hO:=(((((show Zg [187,192] w _ from(Zg.of_below n1.below)).trans (Zg.of_below (Za W1))).trans (Zg.of_below a5)).trans (Zg.of_below e2.below)).trans (Zg.of_grown d2 a1 (by decide))).trans (Zg.of_upd e8 b5 (by decide))
  have g5:=e8.own2 l9 b5 (by decide)
  have l0:=(((((hZ.below n1.below).below (Za W1)).below a5).below e2.below).grown d2 a1).upd e8 (by simp)
  exact xe 1 (.tuple #[]) ⟨_,_,_,rfl,j5,hO,m9,g5,l0.fr⟩
 refine xr 0 (args:=#[.agg #[V0 (↑(q+i):Int),V0 (↑(Yi (L.getD i [])):Int),V0 (↑(Xj (L.getD i [])):Int)]]) (Jb (↑(q+i):Int) (↑(Yi (L.getD i [])):Int) (↑(Xj (L.getD i [])):Int) (by omega) (by omega) (by omega) (by omega) (by omega) (by omega) _) fun n4 a0=>?_
 refine xm2 0 0 1 ?_ ?_
 ·have c1:=((kl.below n1.below).below (Za W1)).below a0
  refine xb 0 0 c1 ?_
  refine xb (.o [] 1) 0 c1 ?_
  refine xbs (.o [2,5] 6) 1 [V0 (i:Int),.string ⟨(leB (↑(q+i):Int) 8++leB (↑(Yi (L.getD i [])):Int) 4++leB (↑(Xj (L.getD i [])):Int) 4).toArray⟩,V0 0] 192 fun p0 q1 e3=>?_
  have c3:=Zb (Zb (Zb hup n1.below) (Za W1)) a0
  have h7:=Xa c3 e3
  have a2:=Zb c3 e3.below
  have hB:=blB (blB (blB (blB (Below.refl B w) hBw n1.below) hBw (Za W1)) hBw a0) hBw e3.below
  refine ybi (.o [] 7) (.t B [187,192]) fun _ _ _ _ zJ zQ zo zx zy zK=>Zo (m:=1) (news:=[V0 (i:Int),.string ⟨(leB (↑(q+i):Int) 8++leB (↑(Yi (L.getD i [])):Int) 4++leB (↑(Xj (L.getD i [])):Int) 4).toArray⟩,V0 0]) (.agg #[V0 0,.string ⟨#[]⟩,V0 0]) 3 32 (i+1) ((Xz L q (i+1)).flatMap Ku) zo Tryz.underlying187 (by kernel_rfl) rfl (by decide) zx a2 zy (e3.blk.sl 1 1 (by decide) (by decide)) rfl (by simp[Value.oneCell']) (by unfold maxLen;omega) (by omega) (Nat.le_trans hBx hB.size) (by rfl) (Kq L q i) fun j1 k2 o3 m2 c6 g9=>?_
  refine zK _ _ (Zn (g9.mono hBm) c6 a2 (by decide)) ?_
  have b4:=(c1.below e3.below).grown c6 a2 (by decide)
  refine ys (.o [] 8) b4 [.slice j1 (i+1) k2] (.t B [187,192]) fun n6 g3 n0=>⟨(Zi g3 b4 hBl (by decide)),?_⟩
  have i5:=g3.below (hB.trans (g9.mono hBm)) hBl
  have hO:=(((((show Zg [187,192] w _ from(Zg.of_below n1.below)).trans (Zg.of_below (Za W1))).trans (Zg.of_below a0)).trans (Zg.of_below e3.below)).trans (Zg.of_grown c6 a2 (by decide))).trans (Zg.of_upd g3 b4 (by decide))
  have f7:=g3.own2 m2 b4 (by decide)
  have k6:=(((((hZ.below n1.below).below (Za W1)).below a0).below e3.below).grown c6 a2).upd g3 (by simp)
  exact xe 1 (.tuple #[]) ⟨_,_,_,rfl,i5,hO,n0,f7,k6.fr⟩
 have b2:=((kl.below n1.below).below (Za W1)).below a0
 refine xb 0 0 b2 ?_
 refine xm2 (.b [2,5]) 0 6 ?_ ?_
 ·refine xb 0 0 b2 ?_
  refine xbs (.o [] 6) 1 [V0 (i:Int),.string ⟨(leB (↑(q+i):Int) 8++leB (↑(Yi (L.getD i [])):Int) 4++leB (↑(Xj (L.getD i [])):Int) 4).toArray⟩,V0 0] 192 fun p9 p4 e1=>?_
  have c0:=Zb (Zb (Zb hup n1.below) (Za W1)) a0
  have h4:=Xa c0 e1
  have a3:=Zb c0 e1.below
  have hB:=blB (blB (blB (blB (Below.refl B w) hBw n1.below) hBw (Za W1)) hBw a0) hBw e1.below
  refine ybi (.o [] 7) (.t B [187,192]) fun _ _ _ _ zJ zQ zo zx zy zK=>Zo (m:=1) (news:=[V0 (i:Int),.string ⟨(leB (↑(q+i):Int) 8++leB (↑(Yi (L.getD i [])):Int) 4++leB (↑(Xj (L.getD i [])):Int) 4).toArray⟩,V0 0]) (.agg #[V0 0,.string ⟨#[]⟩,V0 0]) 3 32 (i+1) ((Xz L q (i+1)).flatMap Ku) zo Tryz.underlying187 (by kernel_rfl) rfl (by decide) zx a3 zy (e1.blk.sl 1 1 (by decide) (by decide)) rfl (by simp[Value.oneCell']) (by unfold maxLen;omega) (by omega) (Nat.le_trans hBx hB.size) (by rfl) (Kq L q i) fun l3 i0 q3 m7 c7 f9=>?_
  refine zK _ _ (Zn (f9.mono hBm) c7 a3 (by decide)) ?_
  have b6:=(b2.below e1.below).grown c7 a3 (by decide)
  refine ys (.o [] 8) b6 [.slice l3 (i+1) i0] (.t B [187,192]) fun o6 e7 m3=>⟨(Zi e7 b6 hBl (by decide)),?_⟩
  have i8:=e7.below (hB.trans (f9.mono hBm)) hBl
  have hO:=(((((show Zg [187,192] w _ from(Zg.of_below n1.below)).trans (Zg.of_below (Za W1))).trans (Zg.of_below a0)).trans (Zg.of_below e1.below)).trans (Zg.of_grown c7 a3 (by decide))).trans (Zg.of_upd e7 b6 (by decide))
  have g2:=e7.own2 m7 b6 (by decide)
  have j8:=(((((hZ.below n1.below).below (Za W1)).below a0).below e1.below).grown c7 a3).upd e7 (by simp)
  exact xe 1 (.tuple #[]) ⟨_,_,_,rfl,i8,hO,m3,g2,j8.fr⟩
 refine xbs 0 1 [V0 (i:Int),.string ⟨(leB (↑(q+i):Int) 8++leB (↑(Yi (L.getD i [])):Int) 4++leB (↑(Xj (L.getD i [])):Int) 4).toArray⟩,V0 0] 192 fun n9 p3 e5=>?_
 have b8:=Zb (Zb (Zb hup n1.below) (Za W1)) a0
 have h6:=Xa b8 e5
 have e0:=b2.below e5.below
 refine xb (.o [] 0) 0 e0 ?_
 have a4:=Zb b8 e5.below
 have hB:=blB (blB (blB (blB (Below.refl B w) hBw n1.below) hBw (Za W1)) hBw a0) hBw e5.below
 refine ybi (.o [] 7) (.t B [187,192]) fun _ _ _ _ zJ zQ zo zx zy zK=>Zo (m:=1) (news:=[V0 (i:Int),.string ⟨(leB (↑(q+i):Int) 8++leB (↑(Yi (L.getD i [])):Int) 4++leB (↑(Xj (L.getD i [])):Int) 4).toArray⟩,V0 0]) (.agg #[V0 0,.string ⟨#[]⟩,V0 0]) 3 32 (i+1) ((Xz L q (i+1)).flatMap Ku) zo Tryz.underlying187 (by kernel_rfl) rfl (by decide) zx a4 zy (e5.blk.sl 1 1 (by decide) (by decide)) rfl (by simp[Value.oneCell']) (by unfold maxLen;omega) (by omega) (Nat.le_trans hBx hB.size) (by rfl) (Kq L q i) fun l1 j7 o9 m6 c5 f1=>?_
 refine zK _ _ (Zn (f1.mono hBm) c5 a4 (by decide)) ?_
 have b0:=e0.grown c5 a4 (by decide)
 refine ys (.o [] 8) b0 [.slice l1 (i+1) j7] (.t B [187,192]) fun p1 g1 l6=>⟨(Zi g1 b0 hBl (by decide)),?_⟩
 have l2:=g1.below (hB.trans (f1.mono hBm)) hBl
 have hO:=(((((show Zg [187,192] w _ from(Zg.of_below n1.below)).trans (Zg.of_below (Za W1))).trans (Zg.of_below a0)).trans (Zg.of_below e5.below)).trans (Zg.of_grown c5 a4 (by decide))).trans (Zg.of_upd g1 b0 (by decide))
 have f3:=g1.own2 m6 b0 (by decide)
 have i3:=(((((hZ.below n1.below).below (Za W1)).below a0).below e5.below).grown c5 a4).upd g1 (by simp)
 exact xe 1 (.tuple #[]) ⟨_,_,_,rfl,l2,hO,l6,f3,i3.fr⟩
def LayPost(B ba b g nn cc:Nat)(pa:O0)(ca f N k0:Nat)(bs:Bl)(bl:Nat)(L:List (List Int))(w:World)(e:Ending)(w':World):Prop :=
 ∃ p c,e=.returned .nilIface∧Below B w w'∧Zg [128,5,187,192] w w'∧Fr [ba,g,bl] w w'∧Al B ba b g nn cc pa ca f N (k0+L.length) (Kj L (f+k0) bs L.length) w'∧Blk w' bl [.slice p L.length c] 187∧w'.ownsRow w.heap.size 192 3 (.slice p L.length c) L.length ((Xz L (f+k0) L.length).flatMap Ku)
theorem plot_layD(B ba b g nn cc:Nat)(pa:O0)(ca f N k0:Nat)(bs:Bl)(bl B2:Nat)(pl:O0)(cl:Nat)(gs:List (Nat×Nat))(L:List (List Int))(w:World)(hC:AlC B ba nn cc ca f N)(hA:Al B ba b g nn cc pa ca f N k0 bs w)(hL:Lists w B2 (.slice pl L.length cl) gs L)(hS:∀ i,i<L.length→Ux (L.getD i [])∧(L.getD i []).length≤960)(hf1:1≤f)(hk:k0+L.length≤N)(kl:Blk w bl [S0] 187)(hBl:B≤bl)(hBw:B≤w.heap.size) :
 C0 101 #[P0 ba,.slice pl L.length cl,.func (.func 102) #[] #[P0 bl]] w (LayPost B ba b g nn cc pa ca f N k0 bs bl L w):=by
 have d4:=hC.hf
 have d3:=hC.hn
 refine zin 51 Tryz.func101 ?_
 have hB:=Below.refl B w
 refine zl 14 51 (fun zm d2 V=>∃ (i:Nat) (p:O0) (c:Nat),d2=[(0,P0 ba),(2,.func (.func 102) #[] #[P0 bl]),(15,.slice pl L.length cl),(16,V0 (L.length:Int)),(17,V0 (i:Int))]∧zm=L.length-((i:Int)).toNat∧Below B w V∧Fr [ba,g,bl] w V∧Zg [128,5,187,192] w V∧Blk V bl ([.slice p i c]) 187∧Al B ba b g nn cc pa ca f N (k0+i) (Kj L (f+k0) bs i) V∧Lists V B2 (.slice pl L.length cl) gs L∧V.ownsRow w.heap.size 192 3 (.slice p i c) i ((Xz L (f+k0) i).flatMap Ku)∧i≤L.length) ⟨0,none,0,rfl,rfl,hB,(Fr.refl _ _),(Zg.refl _ _),kl,hA,hL,World.ownsRow_nil _ _ _ _,Nat.zero_le _⟩ ?_
 rintro _ _ W1 ⟨i,p,c,rfl,rfl,a3,a8,b0,a1,hA,hL,b3,hi⟩ J1 c5 r1
 refine xid 6 ((i:Int)<(L.length:Int)) (fun c2=>?_) (fun c2=>?_)
 ·refine xx 6 _ L.length i 1 (Lists.elem hL rfl (k:=i) (by omega)).1 ?_
  refine xl 0 ((Lists.elem hL rfl (k:=i) (by omega)).2) ?_
  refine xc 6 (args:=#[.slice (some ⟨(gs.getD i (0,0)).1,0,none⟩) ((L.getD i []).length) ((gs.getD i (0,0)).2)]) (Zdc _ _ (L.getD i []) _ (hS i (by omega)).1 (hS i (by omega)).2 (Zd (hL.each i (by omega)))) ?_
  rintro _ W3 ⟨_,rfl,a6,g6,rfl,h6⟩
  have b5:=hA.below a6
  have a4:=b0.trans (Zg.of_below a6)
  have c1:=Ze h6 a3.size
  have a7:=blB a3 hBw a6
  refine xc 21 (args:=#[P0 ba,V0 3,.slice (S1 g6) 244 244]) (Wi B ba b g nn cc pa ca f N (k0+i) (Kj L (f+k0) bs i) 3 (S1 g6) 244 (Rj (L.getD i [])) (f+k0+i) 244 _ (Nat.add_assoc _ _ _).symm (Ju _ _) hC b5 (by omega) (by decide) (by decide) (fun W _ a4=>Yr (Zd (Zr c1 a4 (by decide))) (Ju _ _)) (by decide) (Nat.le_trans hBw a7.size)) ?_
  rintro _ W4 ⟨rfl,c8,b2,c4,hA⟩
  have a9:=(hL.below a6).only b2 (by decide)
  refine xr 20 (args:=#[.slice (some ⟨(gs.getD i (0,0)).1,0,none⟩) ((L.getD i []).length) ((gs.getD i (0,0)).2)]) (Zar _ _ (L.getD i []) _ (hS i (by omega)).2 (Zd (a9.each i (by omega)))) fun W5 a5=>?_
  have d1:Yi (L.getD i [])≤960:=Nat.le_trans (Da _ _) (hS i (by omega)).2
  have d0:Xj (L.getD i [])≤960:=Nat.le_trans (Dm _) (hS i (by omega)).2
  have a2:=blB (a7.trans c8) hBw a5
  have a0:=((a1.below a6).only b2 (by decide)).below a5
  have b1:=Zb (Zr (Zb b3 a6) b2 (by decide)) a5
  refine xc 13 (args:=#[.agg #[V0 (↑(f+k0+i):Int),V0 (↑(Yi (L.getD i [])):Int),V0 (↑(Xj (L.getD i [])):Int)],P0 bl]) (Zhh B w.heap.size bl p c L (f+k0) i _ hBw a2.size (Nat.le_trans hBw a2.size) hBl a0 b1 (by omega) (by omega) (by omega) d1 d0) ?_
  rintro _ W6 ⟨_,p9,c9,rfl,c3,b8,c6,b3,c7⟩
  refine xwm 4 ((i:Int)+1) (↑(i+1):Int) ?_
  have b9:=(hA.below a5).only b8 (by decide)
  have c0:=(a9.below a5).only b8 (by decide)
  have b4:=a2.trans c3
  have b6:=(Fr.trans_B (((a8.trans (Fr.of_below a6)).trans (c4.mono (by simp))).trans (Fr.of_below a5)) c7 (by simp))
  have b7:=((a4.trans (b2.wide)).trans (Zg.of_below a5)).trans (b8.wide)
  exact ze 2 (c5 _ _ _ ⟨i+1,_,_,rfl,rfl,b4,b6,b7,c6,b9,c0,b3,by omega⟩ (by omega))
 refine xe 11 .nilIface ?_
 obtain rfl:i=L.length:=by omega
 exact⟨_,_,rfl,a3,b0,a8,hA,a1,b3⟩
theorem Pn(a:O0)(c:Nat)(l:List Int)(w:World)(h:Sl w (.slice a l.length c) l.length (l.map V0))(hl:l.length≤65536)(hs:Kt l=0):C0 98 #[.slice a l.length c] w (fun e w'=>∃ pb cb gs po co,e=.returned (.tuple #[.slice pb (bmN l.length) cb,.slice po (Zx l l.length).length co,V0 0])∧B3 w w'∧Lists w' w.heap.size (.slice pb (bmN l.length) cb) gs (Xn (Zu l) (bmN l.length))∧w'.ownsRow w.heap.size 192 3 (.slice po (Zx l l.length).length co) (Zx l l.length).length ((Zx l l.length).flatMap Ku)) :=
 (Zcd a c l w h hl).mono fun e w' q=>(q.resolve_left fun z=>z.1 hs).2
theorem Zf4(B ba b g nn cc:Nat)(pa:O0)(ca f N k0:Nat)(bs:Bl)(bl B2:Nat)(pl:O0)(cl:Nat)(gs:List (Nat×Nat))(L:List (List Int))(n:Nat)(hn:L.length=n)(w:World)(hC:AlC B ba nn cc ca f N)(hA:Al B ba b g nn cc pa ca f N k0 bs w)(hL:Lists w B2 (.slice pl n cl) gs L)(hS:∀ i,i<L.length→Ux (L.getD i [])∧(L.getD i []).length≤960)(hf1:1≤f)(hk:k0+n≤N)(kl:Blk w bl [S0] 187)(hBl:B≤bl)(hBw:B≤w.heap.size) :
 C0 101 #[P0 ba,.slice pl n cl,.func (.func 102) #[] #[P0 bl]] w (fun e w'=>∃ p c,e=.returned .nilIface∧Below B w w'∧Zg [128,5,187,192] w w'∧Fr ([ba,g]++[bl]) w w'∧Al B ba b g nn cc pa ca f N (k0+n) (Kj L (f+k0) bs n) w'∧Blk w' bl [.slice p n c] 187∧w'.ownsRow w.heap.size 192 3 (.slice p n c) n ((Xz L (f+k0) n).flatMap Ku)):=by
 subst hn;exact plot_layD B ba b g nn cc pa ca f N k0 bs bl B2 pl cl gs L w hC hA hL hS hf1 hk kl hBl hBw
theorem Co{l:List Int}(h:∀ k,k<l.length→Uk (l.getD k 0))(n:Nat):∀ i,i<(Xn (Zu l) n).length→Ux ((Xn (Zu l) n).getD i [])∧((Xn (Zu l) n).getD i []).length≤960:=fun i hi=>by
 rw[Js] at hi
 rw[Zb5 hi]
 exact⟨Zba (small_ok h) i,by rw[Sq];omega⟩
theorem own_keep{w W:World}{B ba b g nn cc:Nat}{pa:O0}{ca f N k0 bl:Nat}{bs:Bl}{cs:List Value}{base n:Nat}{v:Value}{xs:List Value}(k:w.ownsRow base 192 3 v n xs)(hA:Al B ba b g nn cc pa ca f N k0 bs w)(kl:Blk w bl cs 187)(hX:Fr ([ba,g]++[bl]) w W):W.ownsRow base 192 3 v n xs:=own_fr k hX fun j hj hm=>by
 obtain⟨a0,kb⟩:=En hA.data
 simp only[List.cons_append,List.nil_append,List.mem_cons,List.not_mem_nil,or_false] at hm
 rcases hm with h|h|h
 ·exact Dq k hA.blkA (by decide) _ hj h
 ·exact Dq k kb (by decide) _ hj h
 ·exact Dq k kl (by decide) _ hj h
def DataP(B ba b g nn cc:Nat)(pa:O0)(ca f N k0:Nat)(bs:Bl)(l:List Int)(w:World)(e:Ending)(w':World):Prop :=
 e=.returned (.tuple #[V0 (Ad l (f+k0) bs).1,V0 (Ad l (f+k0) bs).2.1,.nilIface])∧Below B w w'∧Zg [128,5,187,192,32] w w'∧Fr [ba,g] w w'∧Al B ba b g nn cc pa ca f N (k0+Uf l) (Ad l (f+k0) bs).2.2 w'
theorem Cd(n:Nat)(w:World)(hn:n≤65536) :
 C0 109 #[V0 (n:Int)] w (Ret (V0 (↑(bmN n):Int)) w):=by
 refine zin 9 Tryz.func109 ?_
 refine xid 12 ((n:Int)<(1:Int)) (fun a0=>?_) (fun a0=>?_)
 ·exact xe 7 (V0 0) ⟨by rw[show bmN n=0 from by unfold bmN;omega];rfl,(B4 w)⟩
 refine xwm 5 ((n:Int)-1) (↑(n-1):Int) ?_
 refine xq 0 (congrArg V0 (show(IntKind.i64.wrap (Int.tdiv (↑(n-1):Int) 960):Int)=(↑((n-1)/960):Int) from Wh (n-1) 960 (by omega) (by decide))) ?_
 refine xw 0 ((↑((n-1)/960):Int)+1) ?_
 exact xe 4 (V0 ((↑((n-1)/960):Int)+1)) ⟨by rw[show bmN n=(n-1)/960+1 from by unfold bmN;omega,Int.natCast_add];rfl,(B4 w)⟩
theorem Bj{cs:List Nat}{i:Nat}(h:i<cs.length):(cs.take (i+1)).sum=(cs.take i).sum+cs.getD i 0:=by
 rw[List.take_succ_eq_append_getElem h,List.sum_append];simp[List.getD,h]
theorem Zgc(cs:List Nat)(i:Nat):(cs.take i).sum≤cs.sum:=by
 conv=>rhs;rw[←List.take_append_drop i cs]
 rw[List.sum_append];omega
theorem Nz{w:World}{pc:O0}{n m:Nat}{cs:List Nat}(h:Sl w (.slice pc n m) n (cs.map nv))(hn:cs.length=n){k:Nat}(hk:k<n):pc.isSome=true∧w.cell? (Xe pc (k*1))=some (V0 ((cs.getD k 0:Nat):Int)):=Wv h (by omega)
theorem Zeg(a:O0)(n c:Nat)(cs:List Nat)(w:World)(hn:cs.length=n)(h:Sl w (.slice a n c) n (cs.map nv))(hs:cs.sum≤1000000000) :
 C0 153 #[.slice a n c] w (Ret (V0 (cs.sum:Int)) w):=by
 have a5:=Sl.len h
 refine zin 17 Tryz.func153 ?_
 have hB:=Below.refl w.heap.size w
 refine zl 19 17 (fun zm a3 V=>∃ (i:Nat),a3=[(2,V0 0),(3,V0 (↑((cs.take i).sum):Int)),(6,.slice a n c),(7,V0 (n:Int)),(8,V0 (i:Int))]∧zm=n-((i:Int)).toNat∧B3 w V∧i≤n) ⟨0,rfl,rfl,hB,Nat.zero_le _⟩ ?_
 rintro _ _ W1 ⟨i,rfl,rfl,a0,hi⟩ J1 a2 r1
 have a4:=Zgc cs (i+1)
 refine xid 6 ((i:Int)<(n:Int)) (fun a1=>?_) (fun a1=>?_)
 ·have a6:=Bj (cs:=cs) (i:=i) (by omega)
  refine xx 6 _ n i 1 (Nz h hn (k:=i) (by omega)).1 ?_
  refine xl 0 ((Nz (h.below a0) hn (k:=i) (by omega)).2) ?_
  refine xwm 6 ((↑((cs.take i).sum):Int)+(↑(cs.getD i 0):Int)) (↑(((cs.take i).sum)+(cs.getD i 0)):Int) ?_
  refine xwm 5 ((i:Int)+1) (↑(i+1):Int) ?_
  refine xv1 2 3 (show(V0 (↑(((cs.take i).sum)+(cs.getD i 0)):Int):Value)=V0 (↑((cs.take (i+1)).sum):Int) from by rw[Bj (i:=i) (by omega)]) ?_
  exact ze 0 (a2 _ _ _ ⟨i+1,rfl,rfl,a0,by omega⟩ (by omega))
 exact xe 12 (V0 (↑((cs.take i).sum):Int)) ⟨by rw[List.take_of_length_le (by omega)],a0⟩
theorem Zgk(p:O0)(c n x:Nat)(t u v:Int)(Z:List Zv)(w:World)(hZ:Z.length=n)(hP:DevsR w p c Z)(hk:PoolOk t u v (x:Int) (Z.map Prod.fst)) :
 C0 154 #[.agg #[V0 t,V0 u,V0 v,V0 (x:Int),.slice p n c]] w (Ret (V0 (↑(oftL x (Z.map Prod.fst)):Int)) w):=by
 have hx:x≤65536:=by have:=hk.hdata;omega
 refine zin 19 Tryz.func154 ?_
 refine xa 2 [V0 t,V0 u,V0 v,V0 (x:Int),.slice p n c] 53 fun b1 W1 n1=>?_
 refine xlv 11 n1.blk.rp ?_
 refine xc 0 (args:=#[.agg #[V0 t,V0 u,V0 v,V0 (x:Int),.slice p n c]]) (Nr p c n x t u v Z _ hZ (hP.below n1.below) hk) ?_
 rintro _ W2 ⟨_,rfl,a7,q9,d9,rfl,a2⟩
 have a3:=Ze a2 n1.below.size
 have a5:=bln n1.below a7
 have a4:=n1.blk.below a7
 refine zl 5 19 (fun zm b0 V=>∃ (i:Nat),b0=[(2,V0 0),(3,V0 (↑(Ir (Kx x (Z.map Prod.fst)) i):Int)),(7,.slice q9 x d9),(8,V0 (x:Int)),(9,V0 (i:Int))]∧zm=x-((i:Int)).toNat∧B3 w V∧Blk V b1 ([V0 t,V0 u,V0 v,V0 (x:Int),.slice p n c]) 53∧V.ownsRow w.heap.size 3 1 (.slice q9 x d9) x ((Kx x (Z.map Prod.fst)).map nv)∧i≤x) ⟨0,rfl,rfl,a5,a4,a3,Nat.zero_le _⟩ ?_
 rintro _ _ W3 ⟨i,rfl,rfl,a1,a0,a2,hi⟩ J3 a6 r3
 refine xid 6 ((i:Int)<(x:Int)) (fun a8=>?_) (fun a8=>?_)
 ·have b2:Ir (Kx x (Z.map Prod.fst)) i≤i:=by unfold Ir;exact Nat.le_trans (List.length_filter_le _ _) (by rw[List.length_take];exact Nat.min_le_left _ _)
  refine xx 6 _ x i 1 (Nz (Zd a2) (Vm _ _) (k:=i) (by omega)).1 ?_
  refine xl 0 ((Nz (Zd a2) (Vm _ _) (k:=i) (by omega)).2) ?_
  refine xid 9 ((↑((Kx x (Z.map Prod.fst)).getD i 0):Int)≥(3:Int)) (fun a9=>?_) (fun a9=>?_)
  ·refine xwm 2 ((↑(Ir (Kx x (Z.map Prod.fst)) i):Int)+1) (↑((Ir (Kx x (Z.map Prod.fst)) i)+1):Int) ?_
   refine xwm 5 ((i:Int)+1) (↑(i+1):Int) ?_
   refine xv1 2 3 (show(V0 (↑((Ir (Kx x (Z.map Prod.fst)) i)+1):Int):Value)=V0 (↑(Ir (Kx x (Z.map Prod.fst)) (i+1)):Int) from by rw[Nn (k:=i) (by rw[Vm];omega),if_pos (by omega)]) ?_
   exact ze 0 (a6 _ _ _ ⟨i+1,rfl,rfl,a1,a0,a2,by omega⟩ (by omega))
  refine xwm 4 ((i:Int)+1) (↑(i+1):Int) ?_
  refine xv1 2 3 (show(V0 (↑(Ir (Kx x (Z.map Prod.fst)) i):Int):Value)=V0 (↑(Ir (Kx x (Z.map Prod.fst)) (i+1)):Int) from by rw[Nn (k:=i) (by rw[Vm];omega),if_neg (by omega),Nat.add_zero]) ?_
  exact ze 0 (a6 _ _ _ ⟨i+1,rfl,rfl,a1,a0,a2,by omega⟩ (by omega))
 exact xe 12 (V0 (↑(Ir (Kx x (Z.map Prod.fst)) i):Int)) ⟨by obtain rfl:i=x:=(by omega);rfl,a1⟩
theorem devs_row{Z:List Zv}{i:Nat}(h:i<Z.length):((((Z.map Prod.fst).map fun d=>Xq 2 d.2.length).take i).map nv)++[V0 (↑(Xq 2 (Z.getD i zvD).1.2.length):Int)]=((((Z.map Prod.fst).map fun d=>Xq 2 d.2.length).take (i+1)).map nv):=by
 rw[List.take_succ_eq_append_getElem (by simpa using h),List.map_append]
 simp[List.getD,h,nv]
theorem dev_few{data:Int}{Z:List Zv}(hk:DevsOk data (Z.map Prod.fst)){i:Nat}(h:i<Z.length):(Z.getD i zvD).1.2.length≤16384:=by
 have a:=hk.sum
 have b:=Zda (L:=Z.map Prod.fst) (i:=i) (by rw[List.length_map];exact h)
 rw[zfst h] at b
 omega
theorem Zew{L:List Dv}:(L.map fun d=>Xq 2 d.2.length).length=L.length:=List.length_map ..
theorem size_sum7(b a1 a2 a3 a4 a5 a6:Nat)(w:World)(k:Blk w b [V0 1,V0 (a1:Int),V0 (a2:Int),V0 (a3:Int),V0 (a4:Int),V0 (a5:Int),V0 (a6:Int)] 3)(h:1+a1+a2+a3+a4+a5+a6≤1000000000) :
 C0 153 #[.slice (S1 b) 7 7] w (Ret (V0 (↑(1+a1+a2+a3+a4+a5+a6):Int)) w):=by
 have e:[1,a1,a2,a3,a4,a5,a6].sum=1+a1+a2+a3+a4+a5+a6:=by simp only[List.sum_cons,List.sum_nil];omega
 have q:=Zeg (S1 b) 7 7 [1,a1,a2,a3,a4,a5,a6] w rfl (k.sl 7 7 (by decide) (by decide)) (by rw[e];exact h)
 rw[e] at q
 exact q
theorem base_eq{x n:Nat}{L:List Dv}(h:L.length=n):1+Xq 3 n+Xq 1 n+Nt L+bmN x+Xq 4 (bmN x)+Xq 5 (oftL x L)=Cy x L:=by
 subst h;rfl
theorem size_Base(p:O0)(c n x:Nat)(t u v:Int)(Z:List Zv)(w:World)(hZ:Z.length=n)(hP:DevsR w p c Z)(hk:PoolOk t u v (x:Int) (Z.map Prod.fst)) :
 C0 92 #[.agg #[V0 t,V0 u,V0 v,V0 (x:Int),.slice p n c]] w (Ret (V0 (↑(Cy x (Z.map Prod.fst)):Int)) w):=by
 have hx:x≤65536:=by have:=hk.hdata;omega
 have c7:(Z.map Prod.fst).length=n:=by rw[List.length_map];exact hZ
 have d7:=hk.devs.few
 have f5:=hk.devs.sum
 rw[c7] at d7
 have e4:=Mv hk.devs
 have e8:=Zdn hx hk.devs
 have e7:bmN x≤69:=by unfold bmN;omega
 have e3:=Sl.len (hP.rowN hZ)
 refine zin 46 Tryz.func92 ?_
 refine xa 2 [V0 t,V0 u,V0 v,V0 (x:Int),.slice p n c] 53 fun b1 W1 n1=>?_
 refine xlv 6 n1.blk.rp ?_
 refine xr 0 (args:=#[.agg #[V0 t,V0 u,V0 v,V0 (x:Int),.slice p n c]]) (Lp p c n t u v (x:Int) Z _ hZ (hP.below n1.below)) fun W2 d3=>?_
 refine xk 3 (show(((Hl t u v (x:Int) (Z.map Prod.fst)) != (0:Int)):Bool)=false from by rw[Am.2 hk];rfl) ?_
 have a8:=n1.blk.below d3
 refine xb 11 4 a8 ?_
 have c9:=bln n1.below d3
 refine zl 5 46 (fun zm d9 V=>∃ (i:Nat) (p3:O0) (c3:Nat),d9=[(1,P0 b1),(2,V0 0),(3,.slice p3 i c3),(11,.slice p n c),(12,V0 (n:Int)),(13,V0 (i:Int))]∧zm=n-((i:Int)).toNat∧B3 w V∧Blk V b1 ([V0 t,V0 u,V0 v,V0 (x:Int),.slice p n c]) 53∧V.ownsRow w.heap.size 3 1 (.slice p3 i c3) i ((((Z.map Prod.fst).map fun d=>Xq 2 d.2.length).take i).map nv)∧i≤n) ⟨0,none,0,rfl,rfl,c9,a8,World.ownsRow_nil _ _ _ _,Nat.zero_le _⟩ ?_
 rintro _ _ W3 ⟨i,p3,c3,rfl,rfl,a2,a1,hl,hi⟩ J3 d6 r3
 refine xid 6 ((i:Int)<(n:Int)) (fun d8=>?_) (fun d8=>?_)
 ·have e6:=dev_few hk.devs (i:=i) (by omega)
  refine xx 6 _ n i 5 (hP.someN hZ (i:=i) (by omega)) ?_
  refine xlv 0 (Sts.rp (k:=i) (hP.below a2).row Wm zvD (by omega) (by decide)) ?_
  refine xa 0 [V0 0,V0 0,V0 0,V0 0,S0] 48 fun b5 W5 n5=>?_
  have g5:=n5.ge a2
  refine xsv 0 n5.blk [V0 ((Z.getD i zvD).1.1.1),V0 ((Z.getD i zvD).1.1.2.1),V0 ((Z.getD i zvD).1.1.2.2.1),V0 ((Z.getD i zvD).1.1.2.2.2),.slice ((Z.getD i zvD).2.1) ((Z.getD i zvD).1.2.length) ((Z.getD i zvD).2.2)] fun W6 u6 k6=>?_
  refine xb 5 4 k6 ?_
  refine xr 1 (args:=#[V0 2,V0 (↑((Z.getD i zvD).1.2.length):Int)]) (Qe 2 ((Z.getD i zvD).1.2.length) _ (by decide) (by decide) (by omega)) fun W7 d2=>?_
  refine xbs 0 1 [V0 (↑(Xq 2 ((Z.getD i zvD).1.2.length)):Int)] 3 fun b8 W8 n8=>?_
  have a9:=bln (u6.below (bln a2 n5.below) g5) d2
  have g8:=n8.ge a9
  have a7:=Zb (u6.own2 (Zb hl n5.below) n5.blk (by decide)) d2
  have d5:=Xa a7 n8
  have b4:=Zb a7 n8.below
  have a5:=bln a9 n8.below
  refine xbi 0 fun _ _ _ _ zJ zQ zo zx zy zK=>Zo (m:=1) (news:=[V0 (↑(Xq 2 ((Z.getD i zvD).1.2.length)):Int)]) (V0 0) 1 8 (i+1) (((((Z.map Prod.fst).map fun d=>Xq 2 d.2.length).take (i+1)).map nv)) zo Tryz.underlying28 (by kernel_rfl) rfl (by decide) zx b4 zy (n8.blk.sl 1 1 (by decide) (by decide)) rfl (by simp[Value.oneCell']) (by unfold maxLen;omega) (by omega) a5.size (by rfl) (by exact devs_row (by omega)) fun f1 e9 W9 o9 e1 e0=>?_
  refine zK _ _ ?_
  refine xwm 5 ((i:Int)+1) (↑(i+1):Int) ?_
  have d1:=a5.trans e0
  have a3:=(((u6.blkT (a1.below n5.below) n5.blk (by decide)).below d2).below n8.below).grown e1 b4 (by decide)
  exact ze 2 (d6 _ _ _ ⟨i+1,_,_,rfl,rfl,d1,a3,o9,by omega⟩ (by omega))
 obtain rfl:n=i:=by omega
 rw[List.take_of_length_le (by rw[Zew,List.length_map];omega)] at hl
 refine xb 8 3 a1 ?_
 refine xr 0 (args:=#[V0 (x:Int)]) (Cd x _ hx) fun c4 a4=>?_
 refine xd 4 .z ?_
 have a0:=(a1.below a4).below (Za c4)
 refine xb (.e [0] 1) 4 a0 ?_
 refine xb (.e [2,4] 5) 4 a0 ?_
 refine xlv (.e [6,8,10,11] 13) a0.rp ?_
 refine xr (.o [] 3) (args:=#[V0 3,V0 (n:Int)]) (Qe 3 n _ (by decide) (by decide) (by omega)) fun f8 a6=>?_
 refine xr (.o [] 7) (args:=#[V0 1,V0 (n:Int)]) (Qe 1 n _ (by decide) (by decide) (by omega)) fun f4 b6=>?_
 have b3:=Zb (Zb (Zb (Zb hl a4) (Za c4)) a6) b6
 refine xr (.o [] 9) (args:=#[.slice p3 n c3]) (Zeg p3 n c3 ((Z.map Prod.fst).map fun d=>Xq 2 d.2.length) _ (by rw[Zew,List.length_map];exact hZ) (Zd b3) (by have:=Zdt (L:=(Z.map Prod.fst));unfold Nt at this;omega)) fun f6 b0=>?_
 refine xr (.o [] 12) (args:=#[V0 4,V0 (↑(bmN x):Int)]) (Qe 4 (bmN x) _ (by decide) (by decide) (by omega)) fun e5 c0=>?_
 have c1:=bln (bln (bln (bln (bln (bln a2 a4) (Za c4)) a6) b6) b0) c0
 refine xr (.o [] 14) (args:=#[.agg #[V0 t,V0 u,V0 v,V0 (x:Int),.slice p n c]]) (Zgk p c n x t u v Z _ hZ (hP.below c1) hk) fun f0 b7=>?_
 refine xr (.o [] 15) (args:=#[V0 5,V0 (↑(oftL x (Z.map Prod.fst)):Int)]) (Qe 5 (oftL x (Z.map Prod.fst)) _ (by decide) (by decide) (by omega)) fun e2 b9=>?_
 refine xbs (.o [] 16) 7 [V0 1,V0 (↑(Xq 3 n):Int),V0 (↑(Xq 1 n):Int),V0 (↑(Nt (Z.map Prod.fst)):Int),V0 (↑(bmN x):Int),V0 (↑(Xq 4 (bmN x)):Int),V0 (↑(Xq 5 (oftL x (Z.map Prod.fst))):Int)] 3 fun d4 f7 c2=>?_
 have b2:=bln (bln c1 b7) b9
 have f3:=c2.ge b2
 have c8:=Zb (Zb (Zb (Zb b3 b0) c0) b7) b9
 have d0:=Xa c8 c2
 refine xr (.o [] 17) (args:=#[.slice (S1 d4) 7 7]) (by have q:=size_sum7 d4 (Xq 3 n) (Xq 1 n) (Nt (Z.map Prod.fst)) (bmN x) (Xq 4 (bmN x)) (Xq 5 (oftL x (Z.map Prod.fst))) _ c2.blk (by rw[base_eq c7];omega);rw[base_eq c7] at q;exact q) fun f2 c6=>?_
 have c5:=bln (bln b2 c2.below) c6
 exact xe (.r [18] 3) (V0 (↑(Cy x (Z.map Prod.fst)):Int)) ⟨rfl,c5⟩
theorem need_quo(bs:Nat)(h:bs≤100000):IntKind.i64.wrap (Int.tdiv (↑(bs+1):Int) 959)=(↑((bs+1)/959):Int):=by
 rw[show(959:Int)=((959:Nat):Int) from rfl,←Int.ofNat_tdiv]
 exact IntWalk.i64_in _ (by omega)
theorem size_Need(p:O0)(c n x:Nat)(t u v:Int)(Z:List Zv)(w:World)(hZ:Z.length=n)(hP:DevsR w p c Z)(hk:PoolOk t u v (x:Int) (Z.map Prod.fst)) :
 C0 53 #[.agg #[V0 t,V0 u,V0 v,V0 (x:Int),.slice p n c]] w (Ret (V0 (↑(Pp x (Z.map Prod.fst)):Int)) w):=by
 have hx:x≤65536:=by have:=hk.hdata;omega
 have a2:=Zdn hx hk.devs
 obtain⟨bs,a1⟩:∃ y,Cy x (Z.map Prod.fst)=y:=⟨_,rfl⟩
 rw[a1] at a2
 refine zin 17 Tryz.func53 ?_
 refine xa 2 [V0 t,V0 u,V0 v,V0 (x:Int),.slice p n c] 53 fun b1 W1 n1=>?_
 refine xlv 5 n1.blk.rp ?_
 refine xr 0 (args:=#[.agg #[V0 t,V0 u,V0 v,V0 (x:Int),.slice p n c]]) (by have q:=size_Base p c n x t u v Z _ hZ (hP.below n1.below) hk;rw[a1] at q;exact q) fun W2 a3=>?_
 refine xk 10 (show(((bs:Int)==(0:Int)):Bool)=false from beq_false_of_ne (by omega)) ?_
 refine xwm 5 ((bs:Int)+2) (↑(bs+2):Int) ?_
 refine xwm 7 ((↑(bs+2):Int)-1) (↑((bs+2)-1):Int) ?_
 refine xq 0 (congrArg V0 (show(IntKind.i64.wrap (Int.tdiv (↑((bs+2)-1):Int) 959):Int)=(↑((bs+1)/959):Int) from need_quo bs a2.2)) ?_
 refine xwm 0 ((↑(bs+2):Int)+(↑((bs+1)/959):Int)) (↑((bs+2)+((bs+1)/959)):Int) ?_
 refine xwm 0 ((↑((bs+2)+((bs+1)/959)):Int)+1) (↑(((bs+2)+((bs+1)/959))+1):Int) ?_
 have a0:=bln n1.below a3
 exact xe 4 (V0 (↑(((bs+2)+((bs+1)/959))+1):Int)) ⟨by unfold Pp Zcg;rw[a1];exact congrArg (fun z:Int=>Ending.returned (Value.int .i64 z)) (by omega),a0⟩
def entE(v:Nat)(l:List Ent)(i:Nat):Prop:=lastK l i<(l.getD i Vt).1∧(l.getD i Vt).1≤281474976710655∧(l.getD i Vt).2.1.length=v
instance (v:Nat) (l:List Ent) (i:Nat):Decidable (entE v l i):=by unfold entE;infer_instance
structure AlG(B ba b:Nat)(pa:Option Addr)(N ca k:Nat)(L:List Int)(w:World):Prop where
 blk:Blk w ba [.slice pa N ca,.int .i64 (k:Int),.pointer (some ⟨b,0,none⟩)] 128
 nums:w.ownsRow B 3 1 (.slice pa N ca) N (L.map (Value.int .i64))
 hL:L.length=N
 hB:B≤ba
 hN:N≤1000000
 hk:k≤N
theorem AlG.below{B ba b:Nat}{pa:O0}{N ca k:Nat}{L:List Int}{w W:World}(h:AlG B ba b pa N ca k L w)(hb:B3 w W):AlG B ba b pa N ca k L W:=⟨h.blk.below hb,Zb h.nums hb,h.hL,h.hB,h.hN,h.hk⟩
theorem AlG.only{B ba b:Nat}{pa:O0}{N ca k:Nat}{L:List Int}{w W:World}{T:List TypeId}(h:AlG B ba b pa N ca k L w)(hO:Zg T w W)(hT:T.contains 128=false∧T.contains 3=false):AlG B ba b pa N ca k L W:=⟨h.blk.only hO hT.1,Zr h.nums hO hT.2,h.hL,h.hB,h.hN,h.hk⟩
theorem AlG.mono{B B' ba b:Nat}{pa:O0}{N ca k:Nat}{L:List Int}{w:World}(h:AlG B ba b pa N ca k L w)(hB:B'≤B):AlG B' ba b pa N ca k L w:=⟨h.blk,Ze h.nums hB,h.hL,Nat.le_trans hB h.hB,h.hN,h.hk⟩
theorem Zfp(p:Addr)(N c:Nat)(xs:List Value)(w:World)(h:Sl w (.slice (some p) N c) N xs)(hl:xs.length=N)(h1:∀ u∈xs,u.oneCell'=true)(hn:N≤1000000) :
 C0 110 #[.slice (some p) N c] w (Qd (fun w' r=>∃ q c2,r=.slice q N c2∧w'.ownsRow w.heap.size 3 1 (.slice q N c2) N xs) w):=by
 refine zin 8 Tryz.func110 ?_
 refine xb0 17 3 fun b1 W1 n1=>?_
 have o1:=Zp (size:=1) (n:=0) n1.blk (n1.ge (B4 w)) rfl (by decide)
 refine xbi 1 fun _ _ _ _ zJ zQ zo zx zy zK=>Zo (m:=N) (news:=xs) (V0 0) 1 8 (N) (xs) zo Tryz.underlying28 (by kernel_rfl) rfl (by decide) zx o1 zy (h.below n1.below) (by rw[hl,Nat.mul_one]) h1 (by unfold maxLen;omega) (by omega) n1.below.size (by omega) (by rfl) fun a2 a1 W2 o2 a4 a3=>?_
 refine zK _ _ ?_
 have a0:=n1.below.trans a3
 exact xe 4 (.slice a2 N a1) ⟨_,rfl,a0,_,_,rfl,o2⟩
theorem Rf(w:World) :
 C0 110 #[S0] w (Ret (S0) w):=by
 refine zin 8 Tryz.func110 ?_
 exact xe 20 (S0) ⟨rfl,(B4 w)⟩
theorem Zbb(a:O0)(N c:Nat)(xs:List Value)(w:World)(h:Sl w (.slice a N c) N xs)(hc:a=none→c=0)(hl:xs.length=N)(h1:∀ u∈xs,u.oneCell'=true)(hn:N≤1000000) :
 C0 110 #[.slice a N c] w (Qd (fun w' r=>∃ q c2,r=.slice q N c2∧w'.ownsRow w.heap.size 3 1 (.slice q N c2) N xs) w):=by
 cases a with
 | some p=>exact Zfp p N c xs w h hl h1 hn
 | none =>
  have hN:N=0∧xs=[]:=by
   rcases h with ⟨a',c',h2,h3,h4⟩|⟨b',a0,a1,h2,_⟩
   ·simp only[Value.slice.injEq] at h2;exact⟨h2.2.1,h4⟩
   ·cases h2
  obtain⟨rfl,rfl⟩:=hN
  obtain rfl:=hc rfl
  refine(Rf w).mono ?_
  rintro e W ⟨rfl,hb⟩
  exact⟨_,rfl,hb,none,0,rfl,World.ownsRow_nil _ _ _ _⟩
theorem sl_cut{w:World}{b:O0}{n c:Nat}{xs:List Value}(h:Sl w (.slice b n c) n xs)(hl:xs.length=n)(k:Nat)(hk:k≤n):Sl w (.slice (Ke b k c 1) (n-k) (c-k)) (n-k) (xs.drop k):=by
 rcases h with ⟨a',c',h1,h2,h3⟩|⟨g,a0,a1,h1,h2,h3,h4⟩
 ·obtain rfl:k=0:=by omega
  subst h3 h2
  exact .inl ⟨Ke b 0 c 1,c-0,rfl,rfl,rfl⟩
 ·simp only[Value.slice.injEq] at h1
  obtain⟨rfl,_,rfl⟩:=h1
  by_cases hz:n-k=0
  ·refine .inl ⟨Ke (some ⟨g,a0,none⟩) k c 1,c-k,by rw[hz],by omega,?_⟩
   exact List.drop_eq_nil_of_le (by omega)
  ·refine .inr ⟨g,a0+k*1,c-k,?_,by omega,by omega,fun j x hj=>?_⟩
   ·rw[Ke,if_neg (by omega)];simp[Addr.add]
   ·rw[List.getElem?_drop] at hj
    have:=h4 (k+j) x hj
    rwa [Nat.mul_one,Nat.add_assoc]
theorem sl_take{w:World}{b:O0}{n c:Nat}{xs:List Value}(h:Sl w (.slice b n c) n xs)(hl:xs.length=n)(m:Nat)(hm:m≤n):Sl w (.slice b m c) m (xs.take m):=Sl.head h hl m hm
theorem aheadSl{w:World}{b:O0}{n c k i:Nat}{L:List Int}(h:Sl w (.slice b n c) n (L.map V0))(hl:L.length=n)(hk:k≤n):Sl w (.slice (Ke b k c 1) (min i (n-k)) (c-k)) (min i (n-k)) (((L.drop k).take i).map V0):=by
 have h1:=sl_cut h (by simpa using hl) k hk
 have h2:=sl_take h1 (by simp[hl]) (min i (n-k)) (by omega)
 rw[←List.map_drop,←List.map_take] at h2
 have e:(L.drop k).take (min i (n-k))=(L.drop k).take i:=by
  rcases Nat.le_total i (n-k) with q|q
  ·rw[Nat.min_eq_left q]
  ·rw[Nat.min_eq_right q,List.take_of_length_le (by simp[hl]),List.take_of_length_le (by simp[hl];omega)]
 rw[e] at h2
 exact h2
theorem aheadN{w:World}{B:Nat}{b:O0}{n c k:Nat}{xs:List Value}{e size:Nat}(h:w.ownsRow B e size (.slice b n c) n xs):Ke b k c 1=none→c-k=0:=by
 intro hn
 have hb:b=none:=by
  unfold Ke at hn
  split at hn
  ·exact hn
  ·simpa using hn
 subst hb
 rcases h.2 with ⟨h2,_⟩|⟨g,a1,a0,h2,_⟩
 ·simp only[Value.slice.injEq] at h2;omega
 ·cases h2
theorem Za9(B ba b:Nat)(p0:O0)(N ca k i:Nat)(L:List Int)(w:World)(hA:AlG B ba b p0 N ca k L w)(hi:i≤1000000) :
 C0 111 #[P0 ba,V0 (i:Int)] w (Qd (fun w' r=>∃ q c2,r=.slice q (min i (N-k)) c2∧w'.ownsRow w.heap.size 3 1 (.slice q (min i (N-k)) c2) (min i (N-k)) (((L.drop k).take i).map V0)) w):=by
 have hk:=hA.blk
 have a5:=hA.hk
 have hL:=hA.hL
 have hN:=hA.hN
 have a9:N≤ca:=by
  rcases Nat.eq_zero_or_pos N with q|q
  ·omega
  ·exact Zbd hA.nums q
 refine zin 23 Tryz.func111 ?_
 refine xr 9 (args:=#[P0 ba]) (Ki ba b _ _ _ hk) fun W1 a0=>?_
 refine xid 6 ((i:Int)<(1:Int)) (fun a6=>?_) (fun a6=>?_)
 ·refine xe 7 (S0) ?_
  obtain rfl:i=0:=by omega
  exact⟨_,rfl,a0,none,0,by rw[Nat.zero_min],by rw[Nat.zero_min,List.take_zero];exact World.ownsRow_nil _ _ _ _⟩
 have a3:=hk.below a0
 refine xr 7 (args:=#[P0 ba]) (Se ba p0 N ca k _ _ a3 a5) fun W3 a4=>?_
 refine xq 9 (congrArg V0 (show(if(↑(N-k):Int)<(i:Int) then(↑(N-k):Int) else(i:Int):Int)=(↑(min i (N-k)):Int) from Ib i (N-k))) ?_
 refine xsH 0 (fun _ _ _ _ zo zx zy V=>Qr (k:=(min i (N-k))) (b:=(Ke p0 k ca 1)) (n:=(N-k)) (c:=(ca-k)) (i:=(↑(min i (N-k)):Int)) (ki:=.i64) zo zx zy rfl (by omega) Tryz.underlying28 (by kernel_rfl) V) ?_
 have hB:=bln a0 a4
 refine xc 0 (args:=#[.slice (Ke p0 k ca 1) (min i (N-k)) (ca-k)]) (Zbb (Ke p0 k ca 1) (min i (N-k)) (ca-k) (((L.drop k).take i).map V0) _ (aheadSl (Zd (Zb hA.nums hB)) hL a5) (aheadN hA.nums) (by simp;omega) (Zdh _) (by omega)) ?_
 rintro _ W4 ⟨_,rfl,a8,pq,cq,rfl,hq⟩
 have a7:=(bln a0 a4).size
 have a2:=bln hB a8
 have a1:=Ze hq a7
 exact xe 4 (.slice pq (min i (N-k)) cq) ⟨_,rfl,a2,_,_,rfl,a1⟩
def rsV (L:List (List Int))(q i:Nat):List Value:=[V0 ((q+i:Nat):Int),V0 (Yi (L.getD i []):Int),V0 (Xj (L.getD i []):Int)]
def rsL (L:List (List Int))(q n:Nat):List Value:=(List.range n).flatMap (rsV L q)
theorem rsL_succ(L:List (List Int))(q n:Nat):rsL L q (n+1)=rsL L q n++rsV L q n:=by simp[rsL,List.range_succ]
def rsC (x:Nat×Nat×Nat):List Value:=[V0 (x.1:Int),V0 (x.2.1:Int),V0 (x.2.2:Int)]
theorem rsC_len(x:Nat×Nat×Nat):(rsC x).length=3:=rfl
def rsD:Nat×Nat×Nat:=(0,0,0)
def Rs (L:List (List Int))(q n:Nat):List (Nat×Nat×Nat):=(List.range n).map fun i=>(q+i,Yi (L.getD i []),Xj (L.getD i []))
theorem Eh(L:List (List Int))(q n:Nat):(Rs L q n).length=n:=by simp[Rs]
theorem Rs_get{L:List (List Int)}{q n i:Nat}(h:i<n):(Rs L q n).getD i rsD=(q+i,Yi (L.getD i []),Xj (L.getD i [])):=by simp[Rs,List.getD,List.getElem?_range h]
theorem rsL_Rs(L:List (List Int))(q n:Nat):rsL L q n=(Rs L q n).flatMap rsC:=by simp[rsL,Rs,List.flatMap_map];rfl
theorem Rs_sts{L:List (List Int)}{q n c:Nat}{p:O0}{w:World}(h:Sl w (.slice p n c) n (rsL L q n)):Sts rsC w (.slice p (Rs L q n).length c) (Rs L q n):=by unfold Sts;rw[Eh,←rsL_Rs];exact h
def slB (x:Nat×Nat×Nat):Bl:=leB (x.1:Int) 8++leB (x.2.1:Int) 4++leB (x.2.2:Int) 4
theorem slB_len(x:Nat×Nat×Nat):(slB x).length=16:=by simp[slB,Zm]
def idxP(S:List (Nat×Nat×Nat))(i:Nat):Bl:=leB (S.length:Int) 4++(List.range i).flatMap fun j=>slB (S.getD j rsD)
theorem Zau(S:List (Nat×Nat×Nat))(i:Nat):idxP S (i+1)=idxP S i++slB (S.getD i rsD):=by simp[idxP,List.range_succ]
theorem Zeh(S:List (Nat×Nat×Nat)):∀ i,(idxP S i).length=4+i*16
 | 0=>by simp[idxP,Zm]
 | i+1=>by rw[Zau,List.length_append,Zeh S i,slB_len];omega
def idxB(S:List (Nat×Nat×Nat)):Bl:=idxP S S.length++List.replicate (244-(4+S.length*16)) 0
theorem Tv{S:List (Nat×Nat×Nat)}(h:S.length≤15):(idxB S).length=244:=by unfold idxB;rw[List.length_append,Zeh,List.length_replicate];omega
def Zch(S:List (Nat×Nat×Nat)):Prop:=S.length≤14∧∀ i,i<S.length→1≤(S.getD i rsD).1∧(S.getD i rsD).1≤14399∧(S.getD i rsD).2.1≤960∧(S.getD i rsD).2.2≤960
theorem slB_ne(x:Nat×Nat×Nat):((⟨(leB (x.1:Int) 8++leB (x.2.1:Int) 4++leB (x.2.2:Int) 4).toArray⟩:ByteArray).toList==(⟨#[]⟩:ByteArray).toList)=false:=by
 rw[show(⟨#[]⟩:ByteArray)=⟨([]:Bl).toArray⟩ from rfl,Lz]
 apply beq_false_of_ne
 intro q
 have h1:=congrArg List.length q
 simp[Zm] at h1
theorem slots_Put(a:O0)(c:Nat)(S:List (Nat×Nat×Nat))(w:World)(hS:Zch S)(h:Sts rsC w (.slice a S.length c) S) :
 C0 113 #[.slice a S.length c] w (Qd (fun w' r=>∃ p c,r=.tuple #[.slice p 244 c,V0 0]∧w'.ownsRow w.heap.size 5 1 (.slice p 244 c) 244 ((idxB S).map bv)) w):=by
 have c3:=hS.1
 refine zin 39 Tryz.func113 ?_
 refine xk 14 (show(decide ((S.length:Int)>(15:Int)):Bool)=false from decide_eq_false (by omega)) ?_
 refine xbs 7 1 [V0 4,V0 (S.length:Int)] 221 fun b1 W1 n1=>?_
 refine xc 0 (args:=#[.slice (S1 b1) 1 1]) (Cc b1 (S.length:Int) (by omega) (by omega) _ n1.blk) ?_
 rintro _ W2 ⟨_,rfl,b0,p2,c2,rfl,h2⟩
 have a8:=Ze h2 n1.below.size
 have hB:=bln n1.below b0
 have a6:=n1.blk.below b0
 refine zl 16 39 (fun zm c0 V=>∃ (i:Nat) (p4:O0) (c4:Nat),c0=[(4,.slice p4 (4+i*16) c4),(20,.slice a S.length c),(21,V0 (S.length:Int)),(22,V0 (i:Int))]∧zm=S.length-((i:Int)).toNat∧B3 w V∧Blk V b1 ([V0 4,V0 (S.length:Int)]) 221∧V.ownsRow w.heap.size 5 1 (.slice p4 (4+i*16) c4) (4+i*16) ((idxP S i).map bv)∧i≤S.length) ⟨0,p2,c2,rfl,rfl,hB,a6,(by simpa [idxP] using a8),Nat.zero_le _⟩ ?_
 rintro _ _ W3 ⟨i,p4,c4,rfl,rfl,a0,a2,ho,hi⟩ J3 b3 r3
 refine xid 6 ((i:Int)<(S.length:Int)) (fun b4=>?_) (fun b4=>?_)
 ·refine xx 6 _ S.length i 3 (Sts.cell h rsC_len rsD (k:=i) (i:=0) (by omega) rfl).1 ?_
  refine xlv 0 (Sts.rp (k:=i) (h.below a0) rsC_len rsD (by omega) (by decide)) ?_
  refine xa 0 [V0 0,V0 0,V0 0] 202 fun b5 W5 n5=>?_
  have g5:=n5.ge a0
  refine xsv 0 n5.blk [V0 (↑(S.getD i rsD).1:Int),V0 (↑(S.getD i rsD).2.1:Int),V0 (↑(S.getD i rsD).2.2:Int)] fun W6 u6 k6=>?_
  refine xlv 4 k6.rp ?_
  refine xr 0 (args:=#[.agg #[V0 (↑(S.getD i rsD).1:Int),V0 (↑(S.getD i rsD).2.1:Int),V0 (↑(S.getD i rsD).2.2:Int)]]) (Jb (↑(S.getD i rsD).1:Int) (↑(S.getD i rsD).2.1:Int) (↑(S.getD i rsD).2.2:Int) (by have:=hS.2 i (by omega);omega) (by have:=hS.2 i (by omega);omega) (by omega) (by have:=hS.2 i (by omega);omega) (by omega) (by have:=hS.2 i (by omega);omega) _) fun W7 a9=>?_
  refine xk 10 (show(((⟨(leB (↑(S.getD i rsD).1:Int) 8++leB (↑(S.getD i rsD).2.1:Int) 4++leB (↑(S.getD i rsD).2.2:Int) 4).toArray⟩:ByteArray).toList==(⟨#[]⟩:ByteArray).toList):Bool)=false from slB_ne _) ?_
  have a4:=Zb (u6.own2 (Zb ho n5.below) n5.blk (by decide)) a9
  have a3:=bln (u6.below (bln a0 n5.below) g5) a9
  refine xbi 5 (t2:=9) fun _ _ _ _ zJ zQ zo zx zy zK=>op_appS (leB (↑(S.getD i rsD).1:Int) 8++leB (↑(S.getD i rsD).2.1:Int) 4++leB (↑(S.getD i rsD).2.2:Int) 4) ((4+(i+1)*16)) ((idxP S (i+1)).map bv) zo Tryz.underlying22 Tryz.underlying9 (by kernel_rfl) zx a4 zy (by simp[Zm];omega) a3.size (by simp[Zm];omega) (by simp[Zau,slB]) fun c5 c1 W8 o8 b2 b9=>?_
  refine zK _ _ ?_
  refine xwm 5 ((i:Int)+1) (↑(i+1):Int) ?_
  have a7:=a3.trans b9
  have a1:=((u6.blkT (a2.below n5.below) n5.blk (by decide)).below a9).grown b2 a4 (by decide)
  exact ze 2 (b3 _ _ _ ⟨i+1,_,_,rfl,rfl,a7,a1,o8,by omega⟩ (by omega))
 refine xwm 10 (244-(↑(4+i*16):Int)) (↑(244-(4+i*16)):Int) ?_
 refine xbi 0 (t2:=3) fun _ _ _ _ zJ zQ zo zx zy zK=>op_appZo (kq:=.i64) (244-(4+i*16)) (244) ((idxB S).map bv) zo Tryz.underlying22 Tryz.underlying3 (by kernel_rfl) zx ho zy (by omega) (by omega) a0.size (by omega) (by rw[show i=S.length by omega];unfold idxB;rw[List.map_append,List.map_replicate];rfl) fun b7 b6 W9 o9 c6 b8=>?_
 refine zK _ _ ?_
 have a5:=a0.trans b8
 exact xe 5 (.tuple #[.slice b7 244 b6,V0 0]) ⟨_,rfl,a5,_,_,rfl,o9⟩
def Qw(l:List Int)(f n:Nat):List Int:=(List.range l.length).map fun i=>l.getD i 0+(if f≤i∧i<f+n then 1 else 0)
theorem Qy(l:List Int)(f n:Nat):(Qw l f n).length=l.length:=by simp[Qw]
theorem Oi{l:List Int}{f n i:Nat}(h:i<l.length):(Qw l f n).getD i 0=l.getD i 0+(if f≤i∧i<f+n then 1 else 0):=by simp[Qw,List.getD,List.getElem?_range h]
theorem Zhm(l:List Int)(f:Nat):Qw l f 0=l:=by
 apply List.ext_getElem (by simp[Qw])
 intro i h1 h2
 simp[Qw,List.getD,h2]
 omega
theorem bumpL_set{l:List Int}{f j:Nat}(h:f+j<l.length):((Qw l f j).map V0).set (f+j) (V0 (l.getD (f+j) 0+1))=(Qw l f (j+1)).map V0:=by
 apply List.ext_getElem?
 intro i
 by_cases hi:i<l.length
 ·by_cases e:f+j=i
  ·subst e
   rw[List.getElem?_set_self (by simp[Qy];exact h)]
   simp[Qw,List.getElem?_range h]
  ·rw[List.getElem?_set_ne e]
   have hc:(f≤i∧i<f+j)↔(f≤i∧i<f+(j+1)):=by omega
   simp only[Qw,List.getElem?_map,List.getElem?_range hi,Option.map_some]
   by_cases q:f≤i∧i<f+j
   ·rw[if_pos q,if_pos (hc.1 q)]
   ·rw[if_neg q,if_neg (fun z=>q (hc.2 z))]
 ·rw[List.getElem?_eq_none (by simp[Qy];omega),List.getElem?_eq_none (by simp[Qy];omega)]
def FreeOk(l:List Int)(f:Int):Prop:=∀ i,i<l.length→(f≤(i:Int)→l.getD i 0=0)∧l.getD i 0≤1073741824
theorem Zeo{l:List Int}{f n:Nat}(h:FreeOk l (f:Int))(hc:∀ k,k<l.length→Uk (l.getD k 0)):∀ k,k<(Qw l f n).length→Uk ((Qw l f n).getD k 0):=by
 intro k hk
 rw[Qy] at hk
 rw[Oi hk]
 have h1:=(h k hk).2
 have h2:=hc k hk
 unfold Uk at h2 ⊢
 split<;>omega
def Yq(l:List Int):Nat:=Xq 5 (Zx l l.length).length+bmN l.length+1
theorem Ry{w:World}{b:O0}{n c f N k i:Nat}(h:Sl w (.slice b n c) n ((((Rt f N).drop k).take n).map V0))(hn:k+n≤N)(hi:i<n):b.isSome=true∧w.cell? (Xe b (i*1))=some (V0 ((f+k+i:Nat):Int)):=by
 have a0:(((Rt f N).drop k).take n).length=n:=by simp[Rt];omega
 have h1:=IntsN.elem h a0 hi
 have e:(((Rt f N).drop k).take n).getD i 0=((f+k+i:Nat):Int):=by
  have h2:=Zd9 (f:=f) (N:=N) (k:=k+i) (by omega)
  rw[←Nat.add_assoc] at h2
  rw[←h2]
  simp only[List.getD,List.getElem?_take,List.getElem?_drop,if_pos hi]
 rwa [e] at h1
def Ct(l:List Int)(f k0:Nat)(bs:Bl):Int×Int×Bl:=(((f+k0+(Xq 5 (Zx l l.length).length)+(bmN (Qw l (f+k0) (Yq l)).length)):Nat),(Yo 5 (Zx l l.length) (f+k0) bs).1,Vu (Kj (Xn (Zu (Qw l (f+k0) (Yq l))) (bmN (Qw l (f+k0) (Yq l)).length)) (f+k0+(Xq 5 (Zx l l.length).length)) (Yo 5 (Zx l l.length) (f+k0) bs).2 (bmN (Qw l (f+k0) (Yq l)).length)) ((f+k0+(Xq 5 (Zx l l.length).length)+(bmN (Qw l (f+k0) (Yq l)).length))*256) (Xw 4 (((f+k0+(Xq 5 (Zx l l.length).length)+(bmN (Qw l (f+k0) (Yq l)).length)):Nat):Int) (idxB (Rs (Xn (Zu (Qw l (f+k0) (Yq l))) (bmN (Qw l (f+k0) (Yq l)).length)) (f+k0+(Xq 5 (Zx l l.length).length)) (bmN (Qw l (f+k0) (Yq l)).length)))))
theorem Zd4(l:List Int)(q n:Nat):bmN (Qw l q n).length=bmN l.length:=by rw[Qy]
theorem Et{w:World}{b:O0}{n c q i:Nat}{l:List Int}(h:Sl w (.slice b n c) n ((Qw l q i).map V0))(hn:l.length=n)(hi:q+i<n):b.isSome=true∧w.cell? (Xe b ((q+i)*1))=some (V0 (l.getD (q+i) 0)):=by
 have h1:=IntsN.elem h (by rw[Qy];exact hn) hi
 rw[Oi (by omega),if_neg (by omega),Int.add_zero] at h1
 exact h1
def ClosM(B Bx bl:Nat)(L:List (List Int))(q i:Nat)(w:World)(e:Ending)(w':World):Prop :=
 ∃ u p c,e=.returned u∧Below B w w'∧Zg [217,202] w w'∧Blk w' bl [.slice p (i+1) c] 217∧w'.ownsRow Bx 202 3 (.slice p (i+1) c) (i+1) (rsL L q (i+1))∧FrB Bx [bl] w w'
theorem Zfv(B Bx bl:Nat)(p:O0)(c:Nat)(L:List (List Int))(q i:Nat)(w:World)(hBm:B≤Bx)(hBx:Bx≤w.heap.size)(hBw:B≤w.heap.size)(hBl:B≤bl)(kl:Blk w bl [.slice p i c] 217)(hup:w.ownsRow Bx 202 3 (.slice p i c) i (rsL L q i))(hi:i≤100000) :
 C0 112 #[.agg #[V0 (↑(q+i):Int),V0 (↑(Yi (L.getD i [])):Int),V0 (↑(Xj (L.getD i [])):Int)],P0 bl] w (ClosM B Bx bl L q i w):=by
 have hZ:FrZ Bx [bl] w w:=FrZ.refl hBx
 refine zin 7 Tryz.func112 ?_
 refine xa 2 [V0 (↑(q+i):Int),V0 (↑(Yi (L.getD i [])):Int),V0 (↑(Xj (L.getD i [])):Int)] 202 fun b1 W1 n1=>?_
 have a8:=Xa hup n1
 have a3:=kl.below n1.below
 refine xb 3 0 a3 ?_
 refine xlv 0 n1.blk.rp ?_
 refine xbs 0 1 [V0 (↑(q+i):Int),V0 (↑(Yi (L.getD i [])):Int),V0 (↑(Xj (L.getD i [])):Int)] 202 fun b2 W2 n2=>?_
 have b0:=n2.ne n1.blk
 have a1:=Zb hup n1.below
 have a5:=Xa a1 n2
 have a0:=Zb a1 n2.below
 have hB:=blB (blB (Below.refl B w) hBw n1.below) hBw n2.below
 refine xbi 0 fun _ _ _ _ zJ zQ zo zx zy zK=>Zo (m:=1) (news:=[V0 (↑(q+i):Int),V0 (↑(Yi (L.getD i [])):Int),V0 (↑(Xj (L.getD i [])):Int)]) (.agg #[V0 0,V0 0,V0 0]) 3 24 (i+1) ((rsL L q (i+1))) zo Tryz.underlying217 (by kernel_rfl) rfl (by decide) zx a0 zy (n2.blk.sl 1 1 (by decide) (by decide)) rfl (by simp[Value.oneCell']) (by unfold maxLen;omega) (by omega) (Nat.le_trans hBx hB.size) (by rfl) (by rw[rsL_succ];rfl) fun b5 b3 W3 o3 a6 b4=>?_
 refine zK _ _ ?_
 have a2:=(a3.below n2.below).grown a6 a0 (by decide)
 refine xs 0 a2 [.slice b5 (i+1) b3] fun W4 u4 k4=>?_
 have a9:=u4.below (hB.trans (b4.mono hBm)) hBl
 have hO:=(((show Zg [217,202] w _ from(Zg.of_below n1.below)).trans (Zg.of_below n2.below)).trans (Zg.of_grown a6 a0 (by decide))).trans (Zg.of_upd u4 a2 (by decide))
 have a4:=u4.own2 o3 a2 (by decide)
 have a7:=(((hZ.below n1.below).below n2.below).grown a6 a0).upd u4 (by simp)
 exact xe 1 (.tuple #[]) ⟨_,_,_,rfl,a9,hO,k4,a4,a7.fr⟩
def LayPostM(B ba b g nn cc:Nat)(pa:O0)(ca f N k0:Nat)(bs:Bl)(bl:Nat)(L:List (List Int))(w:World)(e:Ending)(w':World):Prop :=
 ∃ p c,e=.returned .nilIface∧Below B w w'∧Zg [128,5,217,202] w w'∧Fr [ba,g,bl] w w'∧Al B ba b g nn cc pa ca f N (k0+L.length) (Kj L (f+k0) bs L.length) w'∧Blk w' bl [.slice p L.length c] 217∧w'.ownsRow w.heap.size 202 3 (.slice p L.length c) L.length (rsL L (f+k0) L.length)
theorem plot_layM(B ba b g nn cc:Nat)(pa:O0)(ca f N k0:Nat)(bs:Bl)(bl B2:Nat)(pl:O0)(cl:Nat)(gs:List (Nat×Nat))(L:List (List Int))(w:World)(hC:AlC B ba nn cc ca f N)(hA:Al B ba b g nn cc pa ca f N k0 bs w)(hL:Lists w B2 (.slice pl L.length cl) gs L)(hS:∀ i,i<L.length→Ux (L.getD i [])∧(L.getD i []).length≤960)(hf1:1≤f)(hk:k0+L.length≤N)(kl:Blk w bl [S0] 217)(hBl:B≤bl)(hBw:B≤w.heap.size) :
 C0 101 #[P0 ba,.slice pl L.length cl,.func (.func 112) #[] #[P0 bl]] w (LayPostM B ba b g nn cc pa ca f N k0 bs bl L w):=by
 have d2:=hC.hf
 have d1:=hC.hn
 refine zin 51 Tryz.func101 ?_
 have hB:=Below.refl B w
 refine zl 14 51 (fun zm d0 V=>∃ (i:Nat) (p:O0) (c:Nat),d0=[(0,P0 ba),(2,.func (.func 112) #[] #[P0 bl]),(15,.slice pl L.length cl),(16,V0 (L.length:Int)),(17,V0 (i:Int))]∧zm=L.length-((i:Int)).toNat∧Below B w V∧Fr [ba,g,bl] w V∧Zg [128,5,217,202] w V∧Blk V bl ([.slice p i c]) 217∧Al B ba b g nn cc pa ca f N (k0+i) (Kj L (f+k0) bs i) V∧Lists V B2 (.slice pl L.length cl) gs L∧V.ownsRow w.heap.size 202 3 (.slice p i c) i (rsL L (f+k0) i)∧i≤L.length) ⟨0,none,0,rfl,rfl,hB,(Fr.refl _ _),(Zg.refl _ _),kl,hA,hL,World.ownsRow_nil _ _ _ _,Nat.zero_le _⟩ ?_
 rintro _ _ W1 ⟨i,p,c,rfl,rfl,a3,a8,b0,a1,hA,hL,b3,hi⟩ J1 c5 r1
 refine xid 6 ((i:Int)<(L.length:Int)) (fun c2=>?_) (fun c2=>?_)
 ·refine xx 6 _ L.length i 1 (Lists.elem hL rfl (k:=i) (by omega)).1 ?_
  refine xl 0 ((Lists.elem hL rfl (k:=i) (by omega)).2) ?_
  refine xc 6 (args:=#[.slice (some ⟨(gs.getD i (0,0)).1,0,none⟩) ((L.getD i []).length) ((gs.getD i (0,0)).2)]) (Zdc _ _ (L.getD i []) _ (hS i (by omega)).1 (hS i (by omega)).2 (Zd (hL.each i (by omega)))) ?_
  rintro _ W3 ⟨_,rfl,a6,g6,rfl,h6⟩
  have b5:=hA.below a6
  have a4:=b0.trans (Zg.of_below a6)
  have c1:=Ze h6 a3.size
  have a7:=blB a3 hBw a6
  refine xc 21 (args:=#[P0 ba,V0 3,.slice (S1 g6) 244 244]) (Wi B ba b g nn cc pa ca f N (k0+i) (Kj L (f+k0) bs i) 3 (S1 g6) 244 (Rj (L.getD i [])) (f+k0+i) 244 _ (Nat.add_assoc _ _ _).symm (Ju _ _) hC b5 (by omega) (by decide) (by decide) (fun W _ a4=>Yr (Zd (Zr c1 a4 (by decide))) (Ju _ _)) (by decide) (Nat.le_trans hBw a7.size)) ?_
  rintro _ W4 ⟨rfl,c8,b2,c4,hA⟩
  have a9:=(hL.below a6).only b2 (by decide)
  refine xr 20 (args:=#[.slice (some ⟨(gs.getD i (0,0)).1,0,none⟩) ((L.getD i []).length) ((gs.getD i (0,0)).2)]) (Zar _ _ (L.getD i []) _ (hS i (by omega)).2 (Zd (a9.each i (by omega)))) fun W5 a5=>?_
  have d4:Yi (L.getD i [])≤960:=Nat.le_trans (Da _ _) (hS i (by omega)).2
  have d3:Xj (L.getD i [])≤960:=Nat.le_trans (Dm _) (hS i (by omega)).2
  have a2:=blB (a7.trans c8) hBw a5
  have a0:=((a1.below a6).only b2 (by decide)).below a5
  have b1:=Zb (Zr (Zb b3 a6) b2 (by decide)) a5
  refine xc 13 (args:=#[.agg #[V0 (↑(f+k0+i):Int),V0 (↑(Yi (L.getD i [])):Int),V0 (↑(Xj (L.getD i [])):Int)],P0 bl]) (Zfv B w.heap.size bl p c L (f+k0) i _ hBw a2.size (Nat.le_trans hBw a2.size) hBl a0 b1 (by omega)) ?_
  rintro _ W6 ⟨_,p9,c9,rfl,c3,b8,c6,b3,c7⟩
  refine xwm 4 ((i:Int)+1) (↑(i+1):Int) ?_
  have b9:=(hA.below a5).only b8 (by decide)
  have c0:=(a9.below a5).only b8 (by decide)
  have b4:=a2.trans c3
  have b6:=(Fr.trans_B (((a8.trans (Fr.of_below a6)).trans (c4.mono (by simp))).trans (Fr.of_below a5)) c7 (by simp))
  have b7:=((a4.trans (b2.wide)).trans (Zg.of_below a5)).trans (b8.wide)
  exact ze 2 (c5 _ _ _ ⟨i+1,_,_,rfl,rfl,b4,b6,b7,c6,b9,c0,b3,by omega⟩ (by omega))
 refine xe 11 .nilIface ?_
 obtain rfl:i=L.length:=by omega
 exact⟨_,_,rfl,a3,b0,a8,hA,a1,b3⟩
structure Sin(w W:World):Prop where
 b:Below w.heap.size w W
theorem Sin.below{w W V:World}(h:Sin w W)(hb:B3 W V):Sin w V:=⟨bln h.b hb⟩
theorem Sin.trans{w W V:World}(h:Sin w W)(hb:Below w.heap.size W V):Sin w V:=⟨h.b.trans hb⟩
theorem Sin.upd{w W V:World}{b:Nat}(h:Sin w W)(u:Upd W b V)(hb:w.heap.size≤b):Sin w V:=⟨u.below h.b hb⟩
theorem rs_ok{L:List (List Int)}{q n:Nat}(hS:∀ i,i<L.length→Ux (L.getD i [])∧(L.getD i []).length≤960)(hn:L.length=n)(h1:1≤q)(h2:q+n≤14400)(h3:n≤14):Zch (Rs L q n):=by
 refine⟨by rw[Eh];exact h3,fun i hi=>?_⟩
 rw[Eh] at hi
 rw[Rs_get hi]
 have hc:=(hS i (by omega)).2
 exact⟨by show 1≤q+i;omega,by show q+i≤14399;omega,Nat.le_trans (Da _ _) hc,Nat.le_trans (Dm _) hc⟩
theorem Za4(j:Nat)(B ba b g nn cc:Nat)(pa:O0)(ca f N k0:Nat)(bs:Bl)(w:World)(hC:AlC B ba nn cc ca f N)(hA:Al B ba b g nn cc pa ca f N k0 bs w)(hk:k0≤N)(hN:N≤1000000)(hj:j≤1000000)(hjn:j≤N-k0) :
 C0 111 #[P0 ba,V0 (j:Int)] w (Qd (fun w' r=>∃ q c2,r=.slice q j c2∧w'.ownsRow w.heap.size 3 1 (.slice q j c2) j ((((Rt f N).drop k0).take j).map V0)) w):=by
 have h:=Za9 B ba b pa N ca k0 j (Rt f N) w ⟨hA.blkA,hA.nums,Zet _ _,hC.hB,hN,hk⟩ hj
 rwa [Nat.min_eq_left hjn] at h
theorem Bs(n:Nat)(a:O0)(c:Nat)(l:List Int)(w:World)(hn:l.length=n)(h:Sl w (.slice a n c) n (l.map V0))(hl:n≤65536)(hs:Kt l=0):C0 98 #[.slice a n c] w (fun e w'=>∃ pb cb gs po co,e=.returned (.tuple #[.slice pb (bmN n) cb,.slice po (Zx l n).length co,V0 0])∧B3 w w'∧Lists w' w.heap.size (.slice pb (bmN n) cb) gs (Xn (Zu l) (bmN n))∧w'.ownsRow w.heap.size 192 3 (.slice po (Zx l n).length co) (Zx l n).length ((Zx l n).flatMap Ku)):=by
 subst hn;exact Pn a c l w h hl hs
theorem Zgm(n:Nat)(a:O0)(c:Nat)(S:List (Nat×Nat×Nat))(w:World)(hn:S.length=n)(hS:Zch S)(h:Sts rsC w (.slice a S.length c) S):C0 113 #[.slice a n c] w (Qd (fun w' r=>∃ p c,r=.tuple #[.slice p 244 c,V0 0]∧w'.ownsRow w.heap.size 5 1 (.slice p 244 c) 244 ((idxB S).map bv)) w):=by
 subst hn;exact slots_Put a c S w hS h
theorem seal_in{l:Bl}{kind:Int}{k:Nat}{li:Bl}(h1:1≤kind)(h2:kind≤4)(hk:k<l.length/256)(h4:k<14400)(hli:li.length=244)(hb:Qj l k=Xw kind (k:Int) li):inE l kind (k:Int)=0∧inB l (k:Int)=li:=by
 constructor
 ·rw[Oj rfl rfl hk,hb];exact Ol h1 h2 (by omega) (by omega) (by omega)
 ·rw[Zak rfl,hb,in_seal (by omega)];unfold Zaj;rw[hli,Nat.sub_self];simp
def Qa(u n:Nat):List Int:=(List.range n).map fun i=>if i<u then 1 else 0
theorem Xt(u n:Nat):(Qa u n).length=n:=by simp[Qa]
theorem Zan{u n i:Nat}(h:i<n):(Qa u n).getD i 0=if i<u then 1 else 0:=by simp[Qa,List.getD,List.getElem?_range h]
theorem Zd5(u n i:Nat):0≤(Qa u n).getD i 0∧(Qa u n).getD i 0≤1:=by
 by_cases h:i<n
 ·rw[Zan h];split<;>omega
 ·rw[show(Qa u n).getD i 0=0 from by simp[Qa,List.getD,Nat.le_of_not_lt h]];omega
theorem Lh(u n k:Nat):Zx (Qa u n) k=[]:=by
 induction k with
 | zero=>rfl
 | succ k ih=>rw[Wq (by have:=Zd5 u n k;omega),ih]
theorem Nl{u n:Nat}(h:n≤65536):Kt (Qa u n)=0:=by
 unfold Kt
 rw[if_neg (by rw[Xt];omega),if_pos fun k _=>by have:=Zd5 u n k;unfold Uk;omega]
theorem Bb{u n:Nat}:FreeOk (Qa u n) (u:Int):=fun i hi=>by
 rw[Xt] at hi
 rw[Zan hi]
 constructor
 ·intro h;rw[if_neg (by omega)]
 ·split<;>omega
theorem Zbh:Xq 5 0=1:=by
 unfold Xq Hw
 rw[show ovN 0 (Qi 5 true)=1 from by decide,Hj (by decide)]
 rfl
theorem Bf(u n:Nat):Yq (Qa u n)=2+bmN n:=by
 unfold Yq
 rw[Lh,List.length_nil,Zbh,Xt];omega
theorem self_make(n:Nat):Hn (Value.int .i64 0).cells.toList n=(Qa 0 n).map V0:=by
 rw[show Hn (Value.int .i64 0).cells.toList n=List.replicate n (V0 0) from by
  rw[show(Value.int .i64 0).cells.toList=[Value.int .i64 0] from rfl,Hn]
  induction n with
  | zero=>rfl
  | succ n ih=>rw[List.replicate_succ,List.flatten_cons,ih];rfl]
 apply List.ext_getElem (by simp[Qa])
 intro i h1 h2
 simp[Qa]
theorem self_set{i n:Nat}(h:i<n):((Qa i n).map V0).set i (V0 1)=(Qa (i+1) n).map V0:=by
 apply List.ext_getElem?
 intro j
 by_cases hj:j<n
 ·by_cases e:i=j
  ·subst e
   rw[List.getElem?_set_self (by simp[Qa];exact h)]
   simp[Qa,List.getElem?_range h]
  ·rw[List.getElem?_set_ne e]
   simp only[Qa,List.getElem?_map,List.getElem?_range hj,Option.map_some]
   by_cases q:j<i
   ·rw[if_pos q,if_pos (by omega)]
   ·rw[if_neg q,if_neg (by omega)]
 ·rw[List.getElem?_eq_none (by simp[Qa];omega),List.getElem?_eq_none (by simp[Qa];omega)]
theorem plotN_bdW{l:List Int}(h:l.length≤65536)(ho:(Zx l l.length).length≤32768):2≤Uf l∧Uf l≤80000∧bmN l.length≤69:=by
 have h4:=Jj 4 (bmN l.length)
 have h5:=Jj 5 (Zx l l.length).length
 have a1:=Gx 4 (bmN l.length)
 have a0:=Gx 5 (Zx l l.length).length
 have hb:bmN l.length≤69:=by unfold bmN;omega
 unfold Uf
 omega
theorem Lf(B ba b g nn cc:Nat)(pa:O0)(ca f N k0:Nat)(bs:Bl)(a:O0)(c:Nat)(l:List Int)(w:World)(hC:AlC B ba nn cc ca f N)(hA:Al B ba b g nn cc pa ca f N k0 bs w)(h:Sl w (.slice a l.length c) l.length (l.map V0))(hl:l.length≤65536)(ho:(Zx l l.length).length≤32768)(hs:Kt l=0)(hf1:1≤f)(hkN:k0≤N)(hk:k0+Uf l≤N)(hBw:B≤w.heap.size) :
 C0 56 #[P0 ba,.slice a l.length c] w (DataP B ba b g nn cc pa ca f N k0 bs l w):=by
 have d5:=hC.hf
 have d3:=hC.hn
 have d7:=plotN_bdW hl ho
 have c4:=Ew hs
 have d6:=Mf l l.length
 have d8:Uf l=(bmN l.length)+Xq 4 (bmN l.length)+Xq 5 (Zx l l.length).length:=rfl
 have d9:=Jj 4 (bmN l.length)
 have d4:=Jj 5 (Zx l l.length).length
 refine zin 70 Tryz.func56 ?_
 refine xr 11 (args:=#[P0 ba]) (Yy ba b _ _ _ hA.blkA) fun W1 a0=>?_
 refine xc 9 (args:=#[.slice a l.length c]) (Pn a c l _ (h.below a0) (by omega) hs) ?_
 rintro _ W2 ⟨pb,cb,gs,po,co,rfl,a4,hL,b3⟩
 have c0:=(blB (Below.refl B w) hBw a0).size
 have a5:=(hA.below a0).below a4
 refine xr 23 (args:=#[P0 ba]) (Ll ba b pa N ca k0 _ a5.blkA hkN) fun W3 a3=>?_
 refine xr 4 (args:=#[V0 4,V0 (↑(bmN l.length):Int)]) (Qe 4 (bmN l.length) _ (by decide) (by decide) (by omega)) fun W4 a1=>?_
 refine xwm 0 ((↑(bmN l.length):Int)+(↑(Xq 4 (bmN l.length)):Int)) (↑((bmN l.length)+(Xq 4 (bmN l.length))):Int) ?_
 refine xr 2 (args:=#[V0 5,V0 (↑((Zx l l.length).length):Int)]) (Qe 5 (Zx l l.length).length _ (by decide) (by decide) (by omega)) fun W5 a2=>?_
 refine xwm 0 ((↑((bmN l.length)+(Xq 4 (bmN l.length))):Int)+(↑(Xq 5 (Zx l l.length).length):Int)) (↑(((bmN l.length)+(Xq 4 (bmN l.length)))+(Xq 5 (Zx l l.length).length)):Int) ?_
 refine xk 3 (show(decide ((↑(N-k0):Int)<(↑(((bmN l.length)+(Xq 4 (bmN l.length)))+(Xq 5 (Zx l l.length).length)):Int)):Bool)=false from decide_eq_false (by omega)) ?_
 refine xa 4 [S0] 187 fun b6 W6 n6=>?_
 have hX:=(((((show Fr [ba,g] w _ from(Fr.of_below a0)).trans (Fr.of_below a4)).trans (Fr.of_below a3)).trans (Fr.of_below a1)).trans (Fr.of_below a2)).trans (Fr.of_below n6.below)
 have a6:=Zb (Zb (Zb (Zb (Ze b3 c0) a3) a1) a2) n6.below
 have b0:=(((a5.below a3).below a1).below a2).below n6.below
 have b5:=fun(W:World) (hX:Fr ([ba,g]++[b6]) _ W)=>own_keep a6 b0 n6.blk hX
 have b7:=(((hL.below a3).below a1).below a2).below n6.below
 have g6:=n6.ge0 (blB (blB (blB (blB (blB (Below.refl B w) hBw a0) hBw a4) hBw a3) hBw a1) hBw a2)
 have hB:=blB (blB (blB (blB (blB (blB (Below.refl B w) hBw a0) hBw a4) hBw a3) hBw a1) hBw a2) hBw n6.below
 refine xc 8 (args:=#[P0 ba,.slice pb (bmN l.length) cb,.func (.func 102) #[] #[P0 b6]]) (Zf4 B ba b g nn cc pa ca f N k0 bs b6 _ pb cb gs (Xn (Zu l) (bmN l.length)) (bmN l.length) (Js _ _) _ hC b0 b7 (Co c4.2 _) hf1 (by omega) n6.blk (Nat.le_trans hBw g6) (Nat.le_trans hBw hB.size)) ?_
 rintro _ W7 ⟨p8,c8,rfl,d2,c5,b8,hA,c3,c6⟩
 have d1:=(blB (blB (blB (blB (blB (blB (Below.refl B w) hBw a0) hBw a4) hBw a3) hBw a1) hBw a2) hBw n6.below).size
 replace b3:=b5 _ b8
 refine xb 15 0 c3 ?_
 have b1:=Ze c6 d1
 have a7:=hB.trans d2
 refine xc 0 (args:=#[P0 ba,V0 4,.slice p8 (bmN l.length) c8]) (Gr B ba b g nn cc pa ca f N (k0+(bmN l.length)) (Kj (Xn (Zu l) (bmN l.length)) (f+k0) bs (bmN l.length)) 4 p8 c8 (Xz (Xn (Zu l) (bmN l.length)) (f+k0) (bmN l.length)) (bmN l.length) _ (Jd _ _ _) hC hA (by decide) (by decide) (So _ _ _ (by omega)) (by omega) hf1 (by omega) (by omega) (fun W _ h2=>by unfold Sts;rw[Jd];exact Zd (Zr b1 h2 (by decide))) (Nat.le_trans hBw a7.size)) ?_
 rintro _ W8 ⟨rfl,c9,b9,c1,hA⟩
 rw[Jd] at hA
 have a9:=Zr b3 b9 (by decide)
 have a8:=a7.trans c9
 refine xc 21 (args:=#[P0 ba,V0 5,.slice po ((Zx l l.length).length) co]) (Gr B ba b g nn cc pa ca f N (k0+(bmN l.length)+Xq 4 (bmN l.length)) (Yo 4 (Xz (Xn (Zu l) (bmN l.length)) (f+k0) (bmN l.length)) (f+(k0+(bmN l.length))) (Kj (Xn (Zu l) (bmN l.length)) (f+k0) bs (bmN l.length))).2 5 po co (Zx l l.length) (Zx l l.length).length _ rfl hC hA (by decide) (by decide) (Ma _ _ (by omega)) (by omega) hf1 (by omega) (by omega) (fun W _ h2=>Zd (Zr a9 h2 (by decide))) (Nat.le_trans hBw a8.size)) ?_
 rintro _ W9 ⟨rfl,c7,c2,d0,hA⟩
 have b2:=a8.trans c7
 have hO:=((((((((show Zg [128,5,187,192,32] w _ from(Zg.of_below a0)).trans (Zg.of_below a4)).trans (Zg.of_below a3)).trans (Zg.of_below a1)).trans (Zg.of_below a2)).trans (Zg.of_below n6.below)).trans (c5.wide)).trans (b9.wide)).trans (c2.wide)
 have b4:=((Fr.trans_new hX b8 g6).trans (c1.mono (by simp))).trans (d0.mono (by simp))
 refine xe 27 (.tuple #[V0 ((Yo 4 (Xz (Xn (Zu l) (bmN l.length)) (f+k0) (bmN l.length)) (f+(k0+(bmN l.length))) (Kj (Xn (Zu l) (bmN l.length)) (f+k0) bs (bmN l.length))).1),V0 ((Yo 5 (Zx l l.length) (f+(k0+(bmN l.length)+Xq 4 (bmN l.length))) (Yo 4 (Xz (Xn (Zu l) (bmN l.length)) (f+k0) (bmN l.length)) (f+(k0+(bmN l.length))) (Kj (Xn (Zu l) (bmN l.length)) (f+k0) bs (bmN l.length))).2).1),.nilIface]) ?_
 have e1:f+(k0+(bmN l.length))=f+k0+(bmN l.length):=by omega
 have e2:f+(k0+(bmN l.length)+Xq 4 (bmN l.length))=f+k0+(bmN l.length)+Xq 4 (bmN l.length):=by omega
 rw[e2,e1] at hA ⊢
 have e3:k0+(bmN l.length)+Xq 4 (bmN l.length)+Xq 5 (Zx l l.length).length=k0+Uf l:=by omega
 rw[e3] at hA
 exact⟨rfl,b2,hO,b4,hA⟩
theorem Bg(ps:List Wg)(N:List Int)(gl gn:O0)(cl cn n:Nat)(w:World)(hps:Jn ps)(hn:n=ps.length)(hNl:N.length=n)(hP:Sts Zcz w (.slice gl ps.length cl) ps)(hN:Sl w (.slice gn n cn) n (N.map V0))(h:Jz ps N n=true) :
  C0 128 #[.slice gl ps.length cl,.slice gn n cn] w (Ret (.string ⟨(Cv ps N ps.length).toArray⟩) w):=(Dn ps N gl gn cl cn n w hps hn hNl hP hN).mono (by
 rintro e W q
 rcases q with ⟨q,_⟩|⟨_,rfl,hb⟩
 ·rw[h] at q;cases q
 ·exact⟨rfl,hb⟩)
theorem map_or{b t:Int}(h1:0≤b∧b≤65535)(h2:0≤t∧t≤16777215):IntKind.i64.wrap (↑(BitVec.ofInt 64 (b*16777216) ||| BitVec.ofInt 64 t).toNat:Int)=b*16777216+t:=by
 obtain⟨p,rfl⟩:∃ p:Nat,b=(p:Int):=⟨b.toNat,by omega⟩
 obtain⟨q,rfl⟩:∃ q:Nat,t=(q:Int):=⟨t.toNat,by omega⟩
 have e:((p:Int)*16777216)=((p*16777216:Nat):Int):=by omega
 rw[e,BitVec.ofInt_natCast,BitVec.ofInt_natCast,BitVec.toNat_or,BitVec.toNat_ofNat,BitVec.toNat_ofNat,Nat.mod_eq_of_lt (by omega),Nat.mod_eq_of_lt (by omega)]
 have h:=Nat.two_pow_add_eq_or_of_lt (i:=24) (b:=q) (by omega) p
 rw[show(2:Nat) ^ 24*p=p*16777216 by omega] at h
 rw[←h]
 exact(IntWalk.i64_in _ (by omega)).trans (by omega)
theorem value_MapP(m:Mp)(w:World)(h1:0≤m.2.1∧m.2.1≤65535)(h2:0≤m.2.2∧m.2.2≤16777215) :
 C0 155 #[V0 m.2.1,V0 m.2.2] w (Ret (.string ⟨(Zcc m).toArray⟩) w):=by
 refine zin 26 Tryz.func155 ?_
 refine xgk 11 [6,7] (show(decide (m.2.1<(0:Int)):Bool)=false from decide_eq_false (by omega)) ?_
 refine xgk 4 [9,10,11] (show(decide (m.2.1≥(65536:Int)):Bool)=false from decide_eq_false (by omega)) ?_
 refine xgk 4 [13,14,15] (show(decide (m.2.2<(0:Int)):Bool)=false from decide_eq_false (by omega)) ?_
 refine xk 5 (show(decide (m.2.2>(16777215:Int)):Bool)=false from decide_eq_false (by omega)) ?_
 refine xc 4 (args:=#[]) (Pm _) ?_
 rintro _ W4 ⟨_,rfl,a1,gl,rfl,gg,kl⟩
 refine xq 1 (congrArg V0 (show(IntKind.i64.wrap (m.2.1*2 ^ 24):Int)=m.2.1*16777216 from IntWalk.i64_in _ (by omega))) ?_
 refine xq 1 (congrArg V0 (show(IntKind.i64.wrap (↑(BitVec.ofInt 64 (m.2.1*16777216) ||| BitVec.ofInt 64 m.2.2).toNat:Int):Int)=m.2.1*16777216+m.2.2 from map_or h1 h2)) ?_
 refine xbs 0 1 [V0 (m.2.1*16777216+m.2.2)] 3 fun b5 W5 n5=>?_
 have a0:=kl.below n5.below
 refine xr 0 (args:=#[.slice (S1 gl) 1 1,.slice (S1 b5) 1 1]) (Bg Yz [m.2.1*16777216+m.2.2] (S1 gl) (S1 b5) 1 1 1 _ Zct rfl rfl (a0.sl 1 1 (by decide) (by decide)) (n5.blk.sl 1 1 (by decide) (by decide)) (by unfold Jz;rw[show List.range 1=[0] from rfl];simp[inP,Yz,List.getD];omega)) fun W6 a2=>?_
 have hB:=bln (bln a1 n5.below) a2
 exact xe 4 (.string ⟨(Zcc m).toArray⟩) ⟨rfl,hB⟩
theorem Ag(data n:Int)(d:Dv)(w:World)(h:DevOk data d)(hn:0≤n∧n≤16384) :
 C0 97 #[.agg #[V0 n,V0 d.1.2.1,V0 d.1.2.2.1,V0 d.1.2.2.2]] w (Ret (.string ⟨(Me n d).toArray⟩) w):=by
 refine zin 14 Tryz.func97 ?_
 refine xa 2 [V0 n,V0 d.1.2.1,V0 d.1.2.2.1,V0 d.1.2.2.2] 194 fun b1 W1 n1=>?_
 refine xd 4 .z ?_
 have k1:=n1.blk.below (Za W1)
 refine xb (.e [1] 2) 0 k1 ?_
 refine xb (.e [3] 4) 1 k1 ?_
 refine xb (.e [5] 6) 2 k1 ?_
 refine xb (.e [7] 8) 3 k1 ?_
 refine xm2 0 0 9 ?_ ?_
 ·refine yc 0 (args:=#[]) .z (Pk _) ?_
  rintro _ W2 ⟨_,rfl,a2,gl,rfl,gg,kl⟩
  refine⟨a2,?_⟩
  refine xbs (.o [] 9) 4 [V0 n,V0 d.1.2.1,V0 d.1.2.2.1,V0 d.1.2.2.2] 3 fun b3 W3 n3=>?_
  have a1:=kl.below n3.below
  refine xr (.o [] 10) (args:=#[.slice (S1 gl) 4 4,.slice (S1 b3) 4 4]) (Bg detP [n,d.1.2.1,d.1.2.2.1,d.1.2.2.2] (S1 gl) (S1 b3) 4 4 4 _ detP_ok rfl rfl (a1.sl 4 4 (by decide) (by decide)) (n3.blk.sl 4 4 (by decide) (by decide)) (by have a:=h.tx;have b:=h.made;have c:=h.snap;unfold Jz;rw[show List.range 4=[0,1,2,3] from rfl];simp[inP,detP,List.getD];omega)) fun W4 a4=>?_
  have hB:=bln (bln (bln (bln n1.below (Za W1)) a2) n3.below) a4
  exact xe (.r [11] 3) (.string ⟨(Me n d).toArray⟩) ⟨rfl,hB⟩
 refine xbs 0 4 [V0 n,V0 d.1.2.1,V0 d.1.2.2.1,V0 d.1.2.2.2] 3 fun b5 W5 n5=>?_
 refine yc (.o [] 0) (args:=#[]) .z (Pk _) ?_
 rintro _ W6 ⟨_,rfl,a0,gl,rfl,gg,kl⟩
 refine⟨a0,?_⟩
 have k5:=n5.blk.below a0
 refine xr (.o [] 10) (args:=#[.slice (S1 gl) 4 4,.slice (S1 b5) 4 4]) (Bg detP [n,d.1.2.1,d.1.2.2.1,d.1.2.2.2] (S1 gl) (S1 b5) 4 4 4 _ detP_ok rfl rfl (kl.sl 4 4 (by decide) (by decide)) (k5.sl 4 4 (by decide) (by decide)) (by have a:=h.tx;have b:=h.made;have c:=h.snap;unfold Jz;rw[show List.range 4=[0,1,2,3] from rfl];simp[inP,detP,List.getD];omega)) fun W7 a3=>?_
 have hB:=bln (bln (bln (bln n1.below (Za W1)) n5.below) a0) a3
 exact xe (.r [11] 3) (.string ⟨(Me n d).toArray⟩) ⟨rfl,hB⟩
theorem F2_len(L:List Dv):Xp (F2 L)=Nt L+Xq 1 L.length+Xq 3 L.length:=by
 have e1:Xp (F1 L)=Xp (Nm L)+Xq 1 (Pw L (Ep L)).length:=Km _ _
 have e2:Xp (F2 L)=Xp (F1 L)+Xq 3 (Mx L (Un L)).length:=Km _ _
 rw[Kl] at e1
 rw[Kk] at e2
 rw[Zfj] at e1
 omega
theorem Zfo(x:Nat)(L:List Dv):Cy x L=1+Xp (F2 L)+Uf (Yh x L):=by
 have h:=F2_len L
 have h2:=Mb x L
 unfold Cy Uf
 rw[h2,Yp]
 omega
theorem Ae{x:Nat}{L:List Dv}{k:Nat}(h:Pp x L≤k):1+Xp (F2 L)+Uf (Yh x L)+2+bmN k≤k:=by
 have a:=need_room (m:=Cy x L+2) h
 have b:=Zfo x L
 omega
theorem Iz{L:List Dv}(i:Nat):Xp (Nm (L.take i))≤Xp (Nm L):=by
 have e:Nm L=Nm (L.take i)++Nm (L.drop i):=by rw[←Er,List.take_append_drop]
 rw[e,Ef];omega
theorem Zhk(p:O0)(c n x k:Nat)(t u v:Int)(Z:List Zv)(w:World)(hZ:Z.length=n)(hP:DevsR w p c Z)(hk:PoolOk t u v (x:Int) (Z.map Prod.fst))(h1:Pp x (Z.map Prod.fst)≤k)(h2:k≤14400) :
 C0 26 #[.agg #[V0 t,V0 u,V0 v,V0 (x:Int),.slice p n c],V0 (k:Int)] w (Ret (.bool true) w):=by
 have a2:1≤Pp x (Z.map Prod.fst):=by unfold Pp Zcg;omega
 obtain⟨m,hm⟩:∃ y,Pp x (Z.map Prod.fst)=y:=⟨_,rfl⟩
 rw[hm] at h1 a2
 refine zin 19 Tryz.func26 ?_
 refine xa 2 [V0 t,V0 u,V0 v,V0 (x:Int),.slice p n c] 53 fun b1 W1 n1=>?_
 refine xlv 5 n1.blk.rp ?_
 refine xr 0 (args:=#[.agg #[V0 t,V0 u,V0 v,V0 (x:Int),.slice p n c]]) (by have q:=size_Need p c n x t u v Z _ hZ (hP.below n1.below) hk;rw[hm] at q;exact q) fun W2 a1=>?_
 refine xgk 8 [9,10] (show(decide ((m:Int)>(0:Int)):Bool)=true from decide_eq_true (by omega)) ?_
 refine xgk 5 [13,14,15] (show(decide ((k:Int)≥(m:Int)):Bool)=true from decide_eq_true (by omega)) ?_
 have a0:=bln n1.below a1
 exact xe 7 (.bool (decide ((k:Int)≤(14400:Int)))) ⟨by rw[decide_eq_true (by omega)],a0⟩
theorem Vo(w:World) :
 C0 28 #[.nilIface] w (Ret (.tuple #[]) w):=by
 refine zin 7 Tryz.func28 ?_
 exact xe 8 (.tuple #[]) ⟨rfl,(B4 w)⟩
theorem Tu(B ba b g nn cc:Nat)(pa:O0)(ca N:Nat)(bs:Bl)(F:List Hq)(t:Int)(a:O0)(c n:Nat)(l:List Ent)(w:World)(hl:l.length=n)(hC:AlC B ba nn cc ca 1 N)(hA:AlF B ba b g nn cc pa ca N bs F w)(hok:Mk (t,l))(hr:Xp (F++[(t,l)])≤N)(hin:∀ W,Below B w W→Zg [128,5,32] w W→Sl W (.slice a n c) n (l.flatMap Ku))(hBw:B≤w.heap.size) :
 C0 94 #[.agg #[P0 ba],V0 t,.slice a n c] w ((fun e w'=>e=.returned (V0 (↑(Xp (F++[(t,l)])):Int))∧Below B w w'∧Zg [128,5,32] w w'∧AlF B ba b g nn cc pa ca N bs (F++[(t,l)]) w')):=by
 refine zin 20 Tryz.func94 ?_
 refine xa 2 [P0 ba] 89 fun b1 W1 n1=>?_
 refine xb 6 0 n1.blk ?_
 have hB:=blB (Below.refl B w) hBw n1.below
 have hO:=(show Zg [128,5,32] w _ from(Zg.of_below n1.below))
 have a1:=hA.below n1.below
 refine xc 2 (args:=#[P0 ba,V0 t,.slice a n c]) (build_F B ba b g nn cc pa ca N bs F t a c n l _ hl hC a1 hok hr (fun W h1 h2=>hin W (hB.trans h1) (hO.trans h2)) (Nat.le_trans hBw hB.size)) ?_
 rintro _ W2 ⟨rfl,a6,a5,a7,hA⟩
 refine xr 10 (args:=#[.nilIface]) (Vo _) fun W3 a0=>?_
 have a2:=blB (hB.trans a6) hBw a0
 have a4:=(hO.trans a5).trans (Zg.of_below a0)
 have a3:=hA.below a0
 exact xe 9 (V0 (↑(Xp (F++[(t,l)])):Int)) ⟨rfl,a2,a4,a3⟩
theorem lay_maps(p:O0)(c:Nat)(data:Int)(m:List Mp)(w:World)(h:Sts mapC w (.slice p m.length c) m)(hok:MapsOk data m)(hd:data≤65536)(hf:m.length≤16384) :
 C0 95 #[.slice p m.length c] w (Qd (fun w' r=>∃ q d,r=.slice q m.length d∧w'.ownsRow w.heap.size 192 3 (.slice q m.length d) m.length ((Pd m).flatMap Ku)) w):=by
 have b9:=Sl.len h
 refine zin 25 Tryz.func95 ?_
 have hB:=Below.refl w.heap.size w
 refine zl 19 25 (fun zm b4 V=>∃ (k:Nat) (p1:O0) (c1:Nat),b4=[(2,S0),(3,.slice p1 k c1),(6,.slice p m.length c),(7,V0 (m.length:Int)),(8,V0 (k:Int))]∧zm=m.length-((k:Int)).toNat∧B3 w V∧V.ownsRow w.heap.size 192 3 (.slice p1 k c1) k (((Pd m).take k).flatMap Ku)∧k≤m.length) ⟨0,none,0,rfl,rfl,hB,World.ownsRow_nil _ _ _ _,Nat.zero_le _⟩ ?_
 rintro _ _ W1 ⟨k,p1,c1,rfl,rfl,a0,hl,hk⟩ J1 b2 r1
 refine xid 6 ((k:Int)<(m.length:Int)) (fun b0=>?_) (fun b0=>?_)
 ·have b5:=hok.each (m.getD k mpD) (gd_mem _ (by omega))
  refine xx 6 _ m.length k 3 (Sts.cell h Ms mpD (k:=k) (i:=0) (by omega) rfl).1 ?_
  refine xlv 0 (Sts.rp (k:=k) (h.below a0) Ms mpD (by omega) (by decide)) ?_
  refine xa 0 [V0 0,V0 0,V0 0] 50 fun b3 W3 n3=>?_
  have g3:=n3.ge a0
  refine xsv 0 n3.blk [V0 ((m.getD k mpD).1),V0 ((m.getD k mpD).2.1),V0 ((m.getD k mpD).2.2)] fun W4 u4 k4=>?_
  refine xd 2 (.t w.heap.size [192]) ?_
  have a1:=k4.below (Za W4)
  refine xbt (.e [0,1] 2) 0 w.heap.size [192] a1 ?_
  refine xbt (.e [3] 4) 1 w.heap.size [192] a1 ?_
  refine xbt (.e [5] 6) 2 w.heap.size [192] a1 ?_
  refine xr (.o [] 7) (args:=#[V0 ((m.getD k mpD).2.1),V0 ((m.getD k mpD).2.2)]) (value_MapP (m.getD k mpD) _ ⟨by omega,by omega⟩ ⟨by omega,by omega⟩) fun W5 a9=>?_
  refine xbs (.o [8] 9) 1 [V0 ((m.getD k mpD).1),.string ⟨(Zcc (m.getD k mpD)).toArray⟩,V0 0] 192 fun b6 W6 n6=>?_
  have a5:=bln (bln (u4.below (bln a0 n3.below) g3) (Za W4)) a9
  have g6:=n6.ge a5
  have a4:=Zb (Zb (u4.own2 (Zb hl n3.below) n3.blk (by decide)) (Za W4)) a9
  have a7:=Xa a4 n6
  have a3:=Zb a4 n6.below
  have a2:=bln a5 n6.below
  refine ybi (.o [] 10) (.t w.heap.size [192]) fun _ _ _ _ zJ zQ zo zx zy zK=>Zo (m:=1) (news:=[V0 ((m.getD k mpD).1),.string ⟨(Zcc (m.getD k mpD)).toArray⟩,V0 0]) (.agg #[V0 0,.string ⟨#[]⟩,V0 0]) 3 32 (k+1) ((((Pd m).take (k+1)).flatMap Ku)) zo Tryz.underlying187 (by kernel_rfl) rfl (by decide) zx a3 zy (n6.blk.sl 1 1 (by decide) (by decide)) rfl (by simp[Value.oneCell']) (by unfold maxLen;omega) (by omega) a2.size (by rfl) (by exact Zcy (by rw[Kr];omega) (Uj (by omega))) fun b7 b8 W7 o7 b1 a8=>?_
  refine zK _ _ (Zn a8 b1 a3 (by decide)) ?_
  refine xwm (.r [11] 4) ((k:Int)+1) (↑(k+1):Int) ?_
  have a6:=a2.trans a8
  exact ze 2 (b2 _ _ _ ⟨k+1,_,_,rfl,rfl,a6,o7,by omega⟩ (by omega))
 exact xe 12 (.slice p1 k c1) (by obtain rfl:k=m.length:=(by omega);have q:=hl;rw[List.take_of_length_le (by rw[Kr];omega)] at q;exact⟨_,rfl,a0,_,_,rfl,q⟩)
theorem Lc(B ba b g cc:Nat)(pa:O0)(ca f N k n:Nat)(bs:Bl)(w:World)(hA:Al B ba b g (n*256) cc pa ca f N k bs w)(hk:k+1≤n)(hn:n≤14400) :
 C0 59 #[.agg #[P0 ba]] w (Qd (fun w' r=>∃ q d,r=.slice (some q) n d∧w'.ownsRow w.heap.size 3 1 (.slice (some q) n d) n ((Qa (k+1) n).map V0)) w):=by
 refine zin 22 Tryz.func59 ?_
 refine xa 2 [P0 ba] 89 fun b1 W1 n1=>?_
 refine xb 6 0 n1.blk ?_
 refine xr 0 (args:=#[P0 ba]) (Yy ba b _ _ _ (hA.blkA.below n1.below)) fun W2 b3=>?_
 have a5:=bln n1.below b3
 refine xr 0 (args:=#[P0 b]) (by have q:=Yc b _ (n*256) _ _ (hA.blkI.below a5) (by omega);rw[show n*256/256=n by omega] at q;exact q) fun W3 b2=>?_
 refine xmk 0 fun _ _ _ _ zJ zQ zo zx zy zK=>Kc n (V0 0) 1 8 ((Qa 0 n).map V0) zo zx zy Tryz.underlying28 (by kernel_rfl) rfl (by omega) (by omega) ((self_make n)) fun b4 W4 n4=>?_
 have a2:=bln a5 b2
 have g4:=n4.ge a2
 refine zK _ _ ?_
 have a4:=((n1.blk.below b3).below b2).below n4.below
 refine xb 7 0 a4 ?_
 have a3:=bln a2 n4.below
 refine xr 0 (args:=#[P0 ba]) (Zhi ba b _ k _ (hA.blkA.below a3)) fun W5 a8=>?_
 refine xwm 0 ((k:Int)+1) (↑(k+1):Int) ?_
 have o4:=Zb (Zp (size:=1) (n:=n) n4.blk g4 (by rw[List.length_map,Xt,Nat.mul_one]) (by unfold maxLen;omega)) a8
 have a7:=bln a3 a8
 have a9:=a4.below a8
 refine zl 4 22 (fun zm b7 V=>∃ (i:Nat),b7=[(2,S0),(3,.slice (S1 b4) n n),(13,V0 (↑(k+1):Int)),(14,V0 (i:Int))]∧zm=(k+1)-((i:Int)).toNat∧B3 w V∧Blk V b1 ([P0 ba]) 89∧V.ownsRow w.heap.size 3 1 (.slice (S1 b4) n n) n ((Qa i n).map V0)∧i≤k+1) ⟨0,rfl,rfl,a7,a9,o4,Nat.zero_le _⟩ ?_
 rintro _ _ W6 ⟨i,rfl,rfl,a6,a1,ho,hi⟩ J6 b5 r6
 refine xid 6 ((i:Int)<(↑(k+1):Int)) (fun b6=>?_) (fun b6=>?_)
 ·refine xx 13 _ n i 1 (show(some (⟨b4,0,none⟩:Addr)).isSome=true from rfl) ?_
  refine xst 0 fun _ _ _ _ zJ zQ zo zx zy zK=>Gv (t:=3) (k:=i) (v:=V0 1) zo zx zy (by kernel_rfl) rfl ho (by omega) fun W8 u8 o8=>?_
  rw[self_set (i:=i) (n:=n) (by omega)] at o8
  refine zK _ _ ?_
  refine xwm 4 ((i:Int)+1) (↑(i+1):Int) ?_
  have b0:=u8.below a6 (Bw ho)
  have a0:=u8.blk a1 (Be a1 ho (by decide))
  exact ze 2 (b5 _ _ _ ⟨i+1,rfl,rfl,b0,a0,o8,by omega⟩ (by omega))
 exact xe 12 (.slice (S1 b4) n n) (by obtain rfl:i=k+1:=(by omega);exact⟨_,rfl,a6,_,_,rfl,ho⟩)
theorem Zga(B ba b g nn cc:Nat)(pa:O0)(ca f N k0:Nat)(bs:Bl)(bl B2:Nat)(pl:O0)(cl:Nat)(gs:List (Nat×Nat))(L:List (List Int))(n:Nat)(hn:L.length=n)(w:World)(hC:AlC B ba nn cc ca f N)(hA:Al B ba b g nn cc pa ca f N k0 bs w)(hL:Lists w B2 (.slice pl n cl) gs L)(hS:∀ i,i<L.length→Ux (L.getD i [])∧(L.getD i []).length≤960)(hf1:1≤f)(hk:k0+n≤N)(kl:Blk w bl [S0] 217)(hBl:B≤bl)(hBw:B≤w.heap.size) :
 C0 101 #[P0 ba,.slice pl n cl,.func (.func 112) #[] #[P0 bl]] w (fun e w'=>∃ p c,e=.returned .nilIface∧Below B w w'∧Zg [128,5,217,202] w w'∧Fr ([ba,g]++[bl]) w w'∧Al B ba b g nn cc pa ca f N (k0+n) (Kj L (f+k0) bs n) w'∧Blk w' bl [.slice p n c] 217∧w'.ownsRow w.heap.size 202 3 (.slice p n c) n (rsL L (f+k0) n)):=by
 subst hn;exact plot_layM B ba b g nn cc pa ca f N k0 bs bl B2 pl cl gs L w hC hA hL hS hf1 hk kl hBl hBw
def MetaP(B ba b g nn cc:Nat)(pa:O0)(ca f N k0:Nat)(bs:Bl)(l:List Int)(w:World)(e:Ending)(w':World):Prop :=
 e=.returned (.tuple #[V0 (Ct l f k0 bs).1,V0 (Ct l f k0 bs).2.1,.nilIface])∧Below B w w'∧Zg [128,5,217,202,32] w w'∧Fr [ba,g] w w'∧Al B ba b g nn cc pa ca f N (k0+Yq l) (Ct l f k0 bs).2.2 w'
theorem Li(B ba b g nn cc:Nat)(pa:O0)(ca f N k0:Nat)(bs:Bl)(a:Addr)(c:Nat)(l:List Int)(w:World)(hC:AlC B ba nn cc ca f N)(hA:Al B ba b g nn cc pa ca f N k0 bs w)(h:Sl w (.slice (some a) l.length c) l.length (l.map V0))(hl:l.length≤3000)(hlen:l.length=nn/256)(hs:Kt l=0)(hkN:k0≤N)(hk:k0+Yq l≤N)(hf1:1≤f)(hfree2:FreeOk l ((f+k0:Nat):Int))(hBw:B≤w.heap.size) :
 C0 58 #[P0 ba,.slice (some a) l.length c] w (MetaP B ba b g nn cc pa ca f N k0 bs l w):=by
 have hW:Sin w w:=⟨Below.refl _ _⟩
 have k4:=hC.hf
 have k3:=hC.hn
 have g6:=Ew hs
 have j4:=Mf l l.length
 have i8:Yq l=(Xq 5 (Zx l l.length).length)+(bmN l.length)+1:=rfl
 have j3:=Jj 5 (Zx l l.length).length
 have j2:bmN l.length≤4:=by unfold bmN;omega
 have i1:Kt (Qw l (f+k0) (Yq l))=0:=by unfold Kt;rw[if_neg (by rw[Qy];omega),if_pos (Zeo hfree2 g6.2)]
 have h1:=Co (Zeo (n:=Yq l) hfree2 g6.2) (bmN l.length)
 refine zin 120 Tryz.func58 ?_
 refine xr 10 (args:=#[P0 ba]) (Yy ba b _ _ _ (hA.below hW.b).blkA) fun W1 b4=>?_
 have d5:=hW.below b4
 refine xr 19 (args:=#[P0 b]) (Yc b _ nn cc _ (hA.below d5.b).blkI (by omega)) fun W2 a8=>?_
 refine xk 3 (show(((l.length:Int) != (↑(nn/256):Int)):Bool)=false from by rw[hlen];simp) ?_
 have c7:=d5.below a8
 refine xc 5 (args:=#[.slice (some a) l.length c]) (Bs l.length (some a) c l _ rfl (Sl.below h c7.b) (by omega) hs) ?_
 rintro _ W3 ⟨j5,i6,j7,po,co,rfl,b9,k7,e0⟩
 have h6:=(blB (blB (Below.refl B w) hBw b4) hBw a8).size
 refine xr 23 (args:=#[V0 5,V0 (↑((Zx l l.length).length):Int)]) (Qe 5 (Zx l l.length).length _ (by decide) (by decide) (by omega)) fun W4 b2=>?_
 refine xr 2 (args:=#[V0 (l.length:Int)]) (Cd l.length _ (by omega)) fun W5 b6=>?_
 refine xwm 0 ((↑(Xq 5 (Zx l l.length).length):Int)+(↑(bmN l.length):Int)) (↑((Xq 5 (Zx l l.length).length)+(bmN l.length)):Int) ?_
 refine xwm 0 ((↑((Xq 5 (Zx l l.length).length)+(bmN l.length)):Int)+1) (↑(((Xq 5 (Zx l l.length).length)+(bmN l.length))+1):Int) ?_
 have c9:=((c7.below b9).below b2).below b6
 refine xr 7 (args:=#[P0 ba]) (Ll ba b pa N ca k0 _ (hA.below c9.b).blkA hkN) fun W6 a7=>?_
 refine xk 4 (show(decide ((↑(N-k0):Int)<(↑(((Xq 5 (Zx l l.length).length)+(bmN l.length))+1):Int)):Bool)=false from decide_eq_false (by omega)) ?_
 have a6:=c9.below a7
 have i3:=a6.b.size
 refine xc 5 (args:=#[.slice (some a) l.length c]) (Mu a l.length c (l.map V0) _ (Sl.below h a6.b) (by simp) (Zdh _) (by omega)) ?_
 rintro _ W7 ⟨_,rfl,b8,qb,cq,rfl,f4⟩
 have j9:=(blB (blB (blB (blB (blB (blB (Below.refl B w) hBw b4) hBw a8) hBw b9) hBw b2) hBw b6) hBw a7).size
 have a0:=Ze f4 i3
 have b0:=a6.below b8
 have h7:=b0.b.size
 have g0:=a0
 refine xc 8 (args:=#[P0 ba,V0 (↑(((Xq 5 (Zx l l.length).length)+(bmN l.length))+1):Int)]) (Za4 (Yq l) B ba b g nn cc pa ca f N k0 bs _ hC (hA.below b0.b) hkN (by omega) (by omega) (by omega)) ?_
 rintro _ W8 ⟨_,rfl,b7,qa,g9,rfl,c2⟩
 have k2:=(blB (blB (blB (blB (blB (blB (blB (Below.refl B w) hBw b4) hBw a8) hBw b9) hBw b2) hBw b6) hBw a7) hBw b8).size
 have h3:=Hr.of_lt g0 c2 (Nat.le_refl _)
 have d6:=Ze c2 h7
 have a3:=Zb a0 b7
 obtain⟨gb,rfl,k5⟩:=Mo a3 (by omega)
 have d1:=Zb (Zb (Zb (Zb (Zb (Ze e0 h6) b2) b6) a7) b8) b7
 have f9:=b0.below b7
 have hB:=blB (blB (blB (blB (blB (blB (blB (blB (Below.refl B w) hBw b4) hBw a8) hBw b9) hBw b2) hBw b6) hBw a7) hBw b8) hBw b7
 have hX:=(((((((show Fr [ba,g] w _ from(Fr.of_below b4)).trans (Fr.of_below a8)).trans (Fr.of_below b9)).trans (Fr.of_below b2)).trans (Fr.of_below b6)).trans (Fr.of_below a7)).trans (Fr.of_below b8)).trans (Fr.of_below b7)
 have hO:=(((((((show Zg [128,5,217,202,32] w _ from(Zg.of_below b4)).trans (Zg.of_below a8)).trans (Zg.of_below b9)).trans (Zg.of_below b2)).trans (Zg.of_below b6)).trans (Zg.of_below a7)).trans (Zg.of_below b8)).trans (Zg.of_below b7)
 refine zl 5 120 (fun zm h9 V=>∃ (i:Nat),h9=[(0,P0 ba),(4,V0 0),(5,V0 0),(6,.nilIface),(9,.slice po ((Zx l l.length).length) co),(10,V0 0),(12,.slice (S1 gb) l.length cq),(61,.slice qa (Yq l) g9),(62,V0 (↑(Yq l):Int)),(63,V0 (i:Int))]∧zm=Yq l-((i:Int)).toNat∧Below B w V∧Fr [ba,g] w V∧Zg [128,5,217,202,32] w V∧V.ownsRow w.heap.size 3 1 (.slice (S1 gb) l.length cq) l.length ((Qw l (f+k0) i).map V0)∧V.ownsRow w.heap.size 3 1 (.slice qa (Yq l) g9) (Yq l) ((((Rt f N).drop k0).take (Yq l)).map V0)∧V.ownsRow w.heap.size 192 3 (.slice po ((Zx l l.length).length) co) ((Zx l l.length).length) ((Zx l l.length).flatMap Ku)∧Sin w V∧i≤Yq l) ⟨0,rfl,rfl,hB,hX,hO,(by rw[Zhm];exact a3),d6,d1,f9,Nat.zero_le _⟩ ?_
 rintro _ _ W9 ⟨i,rfl,rfl,b3,d2,d9,a0,d6,e0,hW,hi⟩ J9 h8 r9
 have j8:i<Yq l→l.getD (f+k0+i) 0=0:=fun q=>(hfree2 (f+k0+i) (by omega)).1 (by omega)
 refine xid 6 ((i:Int)<(↑(Yq l):Int)) (fun f1=>?_) (fun f1=>?_)
 ·refine xx 6 _ (Yq l) i 1 (Ry (Zd d6) (by omega) (i:=i) (by omega)).1 ?_
  refine xl 0 ((Ry (Zd d6) (by omega) (i:=i) (by omega)).2) ?_
  refine xx 6 _ l.length (f+k0+i) 1 (Et (Zd a0) rfl (q:=f+k0) (i:=i) (by omega)).1 ?_
  refine xl 0 ((Et (Zd a0) rfl (q:=f+k0) (i:=i) (by omega)).2) ?_
  refine xw 0 ((l.getD (f+k0+i) 0)+1) ?_
  refine xx 0 _ l.length (f+k0+i) 1 (Et (Zd a0) rfl (q:=f+k0) (i:=i) (by omega)).1 ?_
  refine xst 0 fun _ _ _ _ zJ zQ zo zx zy zK=>Gv (t:=3) (k:=(f+k0+i)) (v:=V0 ((l.getD (f+k0+i) 0)+1)) zo zx zy (by kernel_rfl) rfl a0 (by omega) fun j1 c0 g7=>?_
  rw[bumpL_set (l:=l) (f:=f+k0) (j:=i) (by omega)] at g7
  refine zK _ _ ?_
  refine xwm 4 ((i:Int)+1) (↑(i+1):Int) ?_
  have g1:=c0.below b3 (Nat.le_trans hBw (Bw a0))
  have e8:=(Fr.upd_new d2 c0 (Bw a0))
  have f3:=(Zg.upd_new d9 c0 (Bw a0))
  have d4:=c0.own3 d6 (fun j hj e=>h3 _ rfl (e▸hj))
  have d8:=c0.ownRow e0 a0 (by decide)
  have e5:=hW.upd c0 (Bw a0)
  exact ze 2 (h8 _ _ _ ⟨i+1,rfl,rfl,g1,e8,f3,g7,d4,d8,e5,by omega⟩ (by omega))
 refine xc 9 (args:=#[P0 ba,V0 5,.slice po ((Zx l l.length).length) co]) (Gr B ba b g nn cc pa ca f N k0 bs 5 po co (Zx l l.length) (Zx l l.length).length _ rfl hC (hA.below hW.b) (by decide) (by decide) (Ma _ _ (by omega)) (by omega) hf1 (by omega) (by omega) (fun W _ h2=>Zd (Zr e0 h2 (by decide))) (Nat.le_trans hBw b3.size)) ?_
 rintro _ i9 ⟨rfl,f2,c4,e4,a9⟩
 have d0:=Zr a0 c4 (by decide)
 refine xc 20 (args:=#[.slice (S1 gb) l.length cq]) (Bs l.length (S1 gb) cq (Qw l (f+k0) (Yq l)) _ (Qy _ _ _) (by have hh:=Zd d0;rw[show i=Yq l by omega] at hh;exact hh) (by omega) i1) ?_
 rintro _ j0 ⟨pb,cb,gs,i5,i7,rfl,a2,hL,i0⟩
 refine xa 21 [S0] 217 fun g8 i4 a4=>?_
 have b1:=blB (b3.trans f2) hBw a2
 have h0:=a4.ge0 b1
 have c1:=(a9.below a2).below a4.below
 have g5:=hL.below a4.below
 have a5:=blB b1 hBw a4.below
 refine xc 8 (args:=#[P0 ba,.slice pb (bmN l.length) cb,.func (.func 112) #[] #[P0 g8]]) (Zga B ba b g nn cc pa ca f N (k0+(Xq 5 (Zx l l.length).length)) (Yo 5 (Zx l l.length) (f+k0) bs).2 g8 _ pb cb gs (Xn (Zu (Qw l (f+k0) (Yq l))) (bmN l.length)) (bmN l.length) (Js _ _) _ hC c1 g5 h1 hf1 (by omega) a4.blk (Nat.le_trans hBw h0) (Nat.le_trans hBw a5.size)) ?_
 rintro _ k6 ⟨p8,c8,rfl,d7,f6,f7,a9,h4,i2⟩
 have e9:=(blB b1 hBw a4.below).size
 refine xb 14 0 h4 ?_
 have d3:=Ze i2 e9
 refine xc 0 (args:=#[.slice p8 (bmN l.length) c8]) (Zgm (bmN l.length) p8 c8 (Rs (Xn (Zu (Qw l (f+k0) (Yq l))) (bmN l.length)) (f+(k0+(Xq 5 (Zx l l.length).length))) (bmN l.length)) _ (Eh _ _ _) (rs_ok h1 (Js _ _) (by omega) (by omega) (by omega)) (Rs_sts (Zd d3))) ?_
 rintro _ j6 ⟨_,rfl,a1,pz,cz,rfl,h5⟩
 have f0:=(a5.trans d7).size
 have c3:=a9.below a1
 have b5:=((((d9.trans (c4.wide)).trans (Zg.of_below a2)).trans (Zg.of_below a4.below)).trans (f6.wide)).trans (Zg.of_below a1)
 have c5:=Ze h5 f0
 have c6:=blB (a5.trans d7) hBw a1
 refine xc 21 (args:=#[P0 ba,V0 4,.slice pz 244 cz]) (Wi B ba b g nn cc pa ca f N (k0+(Xq 5 (Zx l l.length).length)+(bmN l.length)) (Kj (Xn (Zu (Qw l (f+k0) (Yq l))) (bmN l.length)) (f+(k0+(Xq 5 (Zx l l.length).length))) (Yo 5 (Zx l l.length) (f+k0) bs).2 (bmN l.length)) 4 pz cz (idxB (Rs (Xn (Zu (Qw l (f+k0) (Yq l))) (bmN l.length)) (f+(k0+(Xq 5 (Zx l l.length).length))) (bmN l.length))) (f+(k0+(Xq 5 (Zx l l.length).length)+(bmN l.length))) 244 _ rfl (Tv (by rw[Eh];omega)) hC c3 (by omega) (by decide) (by decide) (fun W _ b5=>Yr (Zd (Zr c5 b5 (by decide))) (Tv (by rw[Eh];omega))) (by decide) (Nat.le_trans hBw c6.size)) ?_
 rintro _ k1 ⟨rfl,e7,e6,g3,a9⟩
 have f5:=c6.trans e7
 have g2:=b5.trans (e6.wide)
 have f8:=((Fr.trans_new (((d2.trans (e4.mono (by simp))).trans (Fr.of_below a2)).trans (Fr.of_below a4.below)) f7 h0).trans (Fr.of_below a1)).trans (g3.mono (by simp))
 refine xe 27 (.tuple #[V0 (↑(f+(k0+(Xq 5 (Zx l l.length).length)+(bmN l.length))):Int),V0 ((Yo 5 (Zx l l.length) (f+k0) bs).1),.nilIface]) ?_
 have e1:f+(k0+(Xq 5 (Zx l l.length).length)+(bmN l.length))=f+k0+(Xq 5 (Zx l l.length).length)+(bmN l.length):=by omega
 have e2:f+(k0+(Xq 5 (Zx l l.length).length))=f+k0+(Xq 5 (Zx l l.length).length):=by omega
 rw[e1,e2] at a9
 rw[e1]
 have e3:k0+(Xq 5 (Zx l l.length).length)+(bmN l.length)+1=k0+Yq l:=by omega
 rw[e3] at a9
 refine⟨?_,f5,g2,f8,?_⟩
 ·unfold Ct;rw[Zd4]
 ·unfold Ct;rw[Zd4];exact a9
theorem dvs_getZ{Z:List Zv}{L:List Dv}(hL:Z.map Prod.fst=L){i:Nat}(h:i<Z.length):L.getD i dvD=(Z.getD i zvD).1:=by rw[←hL];exact zfst h _
theorem F1_le(L:List Dv):Xp (Nm L)+1≤Xp (F1 L)∧Xp (F1 L)+1≤Xp (F2 L):=by
 have e1:Xp (F1 L)=Xp (Nm L)+Vw (1,Pw L (Ep L)):=Km _ _
 have e2:Xp (F2 L)=Xp (F1 L)+Vw (3,Mx L (Un L)):=Km _ _
 have:=Nw (1,Pw L (Ep L))
 have:=Nw (3,Mx L (Un L))
 omega
theorem Ni(B ba b g nn cc:Nat)(pa:O0)(ca N:Nat)(bs:Bl)(p:O0)(c n:Nat)(data:Int)(Z:List Zv)(L:List Dv)(w:World)(hZ:Z.length=n)(hL:Z.map Prod.fst=L)(hD:DevsOk data L)(hd:data≤65536)(hP:∀ W,Below B w W→DevsR W p c Z)(hC:AlC B ba nn cc ca 1 N)(hA:AlF B ba b g nn cc pa ca N bs [] w)(hr:Xp (F2 L)≤N)(hBw:B≤w.heap.size) :
 C0 55 #[.agg #[P0 ba],.slice p n c] w ((fun e w'=>e=.returned (.tuple #[V0 (↑(Xp (F1 L)):Int),V0 (↑(Xp (F2 L)):Int)])∧Below B w w'∧Zg [128,5,32,192] w w'∧AlF B ba b g nn cc pa ca N bs (F2 L) w')):=by
 have i0:∀ W,Below B w W→Zg [128,5,32,192] w W→DevsR W p c Z:=fun W h _=>hP W h
 have l4:L.length=n:=by rw[←hL,List.length_map];exact hZ
 have k6:=F1_le L
 have j3:=hD.few
 have l1:N≤14400:=by have a:=hC.hf;have b:=hC.hn;omega
 have k1:=Sl.len ((hP w (Below.refl _ _)).rowN hZ)
 refine zin 58 Tryz.func55 ?_
 refine xa 2 [P0 ba] 89 fun b1 W1 n1=>?_
 have g7:=hA.below n1.below
 have hB:=blB (Below.refl B w) hBw n1.below
 have hO:=(show Zg [128,5,32,192] w _ from(Zg.of_below n1.below))
 refine zl 19 58 (fun zm j2 V=>∃ (i:Nat) (p7:O0) (c7:Nat) (p8:O0) (c8:Nat),j2=[(2,P0 b1),(4,V0 0),(5,V0 0),(6,.slice p7 i c7),(7,.slice p8 i c8),(13,.slice p n c),(14,V0 (n:Int)),(15,V0 (i:Int))]∧zm=n-((i:Int)).toNat∧Below B w V∧Zg [128,5,32,192] w V∧Blk V b1 ([P0 ba]) 89∧V.ownsRow w.heap.size 192 3 (.slice p7 i c7) i (((Pw L (Ep L)).take i).flatMap Ku)∧V.ownsRow w.heap.size 192 3 (.slice p8 i c8) i (((Mx L (Un L)).take i).flatMap Ku)∧AlF B ba b g nn cc pa ca N bs (Nm (L.take i)) V∧i≤n∧Hr (.slice p7 i c7) (.slice p8 i c8)) ⟨0,none,0,none,0,rfl,rfl,hB,hO,n1.blk,World.ownsRow_nil _ _ _ _,World.ownsRow_nil _ _ _ _,g7,Nat.zero_le _,Hr.nil _⟩ ?_
 rintro _ _ W2 ⟨i,p7,c7,p8,c8,rfl,rfl,a5,d4,b6,d2,d7,hA,hi,d1⟩ J2 j9 r2
 refine xid 6 ((i:Int)<(n:Int)) (fun i9=>?_) (fun i9=>?_)
 ·have e0:=dvs_getZ hL (i:=i) (by omega)
  have i3:=Zda (L:=L) (i:=i) (by omega)
  rw[e0] at i3
  have j6:=hD.sum
  have f5:=(hD.each (L.getD i dvD) (gd_mem _ (by omega))).maps
  have e2:=hD.each (L.getD i dvD) (gd_mem _ (by omega))
  rw[e0] at f5 e2
  have i2:Nm (L.take i)++[(2,Pd (Z.getD i zvD).1.2)]=Nm (L.take (i+1)):=by rw[Oq (by omega),e0]
  have j0:Mk (2,Pd (Z.getD i zvD).1.2):=by rw[←e0];exact Ze3 hD (by omega)
  have l0:=rootR_pos (L:=L) (i:=i) (by omega)
  have l5:=Iz (L:=L) (i+1)
  refine xx 6 _ n i 5 ((hP _ (Below.refl _ _)).someN hZ (i:=i) (by omega)) ?_
  refine xlv 0 (Sts.rp (k:=i) (i0 _ a5 d4).row Wm zvD (by omega) (by decide)) ?_
  refine xa 0 [V0 0,V0 0,V0 0,V0 0,S0] 48 fun b4 W4 n4=>?_
  have g4:=n4.ge0 a5
  refine xsv 0 n4.blk [V0 ((Z.getD i zvD).1.1.1),V0 ((Z.getD i zvD).1.1.2.1),V0 ((Z.getD i zvD).1.1.2.2.1),V0 ((Z.getD i zvD).1.1.2.2.2),.slice ((Z.getD i zvD).2.1) ((Z.getD i zvD).1.2.length) ((Z.getD i zvD).2.2)] fun W5 u5 k5=>?_
  refine xd 3 (.t B [128,5,32,192]) ?_
  have a2:=(u5.blkT (b6.below n4.below) n4.blk (by decide)).below (Za W5)
  refine xlvt (.e [] 0) (.t B [128,5,32,192]) (fun V hV=>(a2.only hV.2 (by decide)).rp) ?_
  have e4:=k5.below (Za W5)
  refine xbt (.e [1] 2) 4 B [128,5,32,192] e4 ?_
  have f0:=(Zg.upd_new (d4.trans (Zg.of_below n4.below)) u5 g4).trans (Zg.of_below (Za W5))
  have f8:=blB (u5.below (blB a5 hBw n4.below) (Nat.le_trans hBw g4)) hBw (Za W5)
  refine yc (.o [] 3) (args:=#[.slice ((Z.getD i zvD).2.1) ((Z.getD i zvD).1.2.length) ((Z.getD i zvD).2.2)]) (.t B [128,5,32,192]) (lay_maps (Z.getD i zvD).2.1 (Z.getD i zvD).2.2 data (Z.getD i zvD).1.2 _ ((i0 _ f8 f0).each i (by omega)) f5 hd (by omega)) ?_
  rintro _ W6 ⟨_,rfl,c6,ql,dl,rfl,j4⟩
  have i5:=(blB (u5.below (blB a5 hBw n4.below) (Nat.le_trans hBw g4)) hBw (Za W5)).size
  refine⟨(SF.of_below _ c6),?_⟩
  have d0:=Ze j4 i5
  have h8:=(((hA.below n4.below).only (Zg.of_upd (T:=[48]) u5 n4.blk (by decide)) (by decide)).below (Za W5)).below c6
  have f6:=blB f8 hBw c6
  refine yc (.o [] 4) (args:=#[.agg #[P0 ba],V0 2,.slice ql ((Z.getD i zvD).1.2.length) dl]) (.t B [128,5,32,192]) (by have q:=Tu B ba b g nn cc pa ca N bs (Nm (L.take i)) 2 ql dl (Z.getD i zvD).1.2.length (Pd (Z.getD i zvD).1.2) _ (by rw[Kr]) hC h8 (j0) (by rw[i2];have:=Iz (L:=L) (i+1);omega) (fun W _ h2=>Zd (Zr d0 h2 (by decide))) (Nat.le_trans hBw f6.size);rw[i2] at q;exact q) ?_
  rintro _ W7 ⟨rfl,i1,d5,hA⟩
  refine⟨(Hd i1 d5),?_⟩
  refine xd (.r [5] 3) (.t B [192]) ?_
  have e8:=((e4.below c6).only d5 (by decide)).below (Za W7)
  refine xbt (.e [0,1] 2) 0 B [192] e8 ?_
  refine xr (.o [3] 4) (args:=#[V0 (↑(Xp (Nm (L.take (i+1)))):Int)]) (Su (↑(Xp (Nm (L.take (i+1)))):Int) (by omega) (by omega) _) fun W8 c4=>?_
  refine xbs (.o [5] 6) 1 [V0 ((Z.getD i zvD).1.1.1),.string ⟨(leB (↑(Xp (Nm (L.take (i+1)))):Int) 4).toArray⟩,V0 0] 192 fun b9 W9 n9=>?_
  have e1:=blB (blB (f6.trans i1) hBw (Za W7)) hBw c4
  have g9:=n9.ge0 e1
  have b3:=Zb (Zb (Zr (Zb (Zb (u5.own2 (Zb d2 n4.below) n4.blk (by decide)) (Za W5)) c6) d5 (by decide)) (Za W7)) c4
  have g1:=Xa b3 n9
  have a9:=Zb (Zb (Zr (Zb (Zb (u5.own2 (Zb d7 n4.below) n4.blk (by decide)) (Za W5)) c6) d5 (by decide)) (Za W7)) c4
  have g2:=Xa a9 n9
  have f7:=Zb (Zb (Zr d0 d5 (by decide)) (Za W7)) c4
  have h3:=Xa f7 n9
  have a0:=Zb b3 n9.below
  have f2:=blB e1 hBw n9.below
  refine ybi (.o [] 7) (.t B [192]) fun _ _ _ _ zJ zQ zo zx zy zK=>Ur (b:=b9) (c:=1) (m:=1) (news:=[V0 ((Z.getD i zvD).1.1.1),.string ⟨(leB (↑(Xp (Nm (L.take (i+1)))):Int) 4).toArray⟩,V0 0]) (.agg #[V0 0,.string ⟨#[]⟩,V0 0]) 3 32 (i+1) ((((Pw L (Ep L)).take (i+1)).flatMap Ku)) zo Tryz.underlying187 (by kernel_rfl) rfl (by decide) zx a0 zy n9.blk rfl (by simp[Value.oneCell']) (by unfold maxLen;omega) (by omega) f2.size (by rfl) (by have e:=Uy (L:=L) (R:=Ep L) (i:=i) (by omega);rw[e0] at e;exact Zcy (by rw[Kl];omega) e) fun i7 i8 k0 i6 a6 e7 h0=>?_
  have b2:=Zb a9 n9.below
  have b0:=d1.row b2 a6
  replace d1:=(d1.grow b2 h0)
  have c1:=b0
  refine zK _ _ (Zn (e7.mono hBw) a6 a0 (by decide)) ?_
  have a7:=((e8.below c4).below n9.below).grown a6 a0 (by decide)
  refine xb (.r [8] 5) 4 a7 ?_
  refine xb 2 1 a7 ?_
  refine xb 1 2 a7 ?_
  refine xb 1 3 a7 ?_
  refine xa 1 [V0 0,V0 0,V0 0,V0 0] 194 fun k9 k4 a3=>?_
  have f3:=f2.trans (e7.mono hBw)
  have h9:=a3.ge0 f3
  refine xsv 0 a3.blk [V0 (↑((Z.getD i zvD).1.2.length):Int),V0 ((Z.getD i zvD).1.1.2.1),V0 ((Z.getD i zvD).1.1.2.2.1),V0 ((Z.getD i zvD).1.1.2.2.2)] fun c5 d8 i4=>?_
  refine xd 2 (.t B [192]) ?_
  have h4:=(d8.blkT (a7.below a3.below) a3.blk (by decide)).below (Za c5)
  refine xbt (.e [0,1] 2) 0 B [192] h4 ?_
  have e6:=i4.below (Za c5)
  refine xlvt (.e [] 3) (.t B [192]) (fun V hV=>(e6.only hV.2 (by decide)).rp) ?_
  refine xr (.o [] 4) (args:=#[.agg #[V0 (↑((Z.getD i zvD).1.2.length):Int),V0 ((Z.getD i zvD).1.1.2.1),V0 ((Z.getD i zvD).1.1.2.2.1),V0 ((Z.getD i zvD).1.1.2.2.2)]]) (Ag data (↑(Z.getD i zvD).1.2.length:Int) (Z.getD i zvD).1 _ e2 ⟨by omega,by omega⟩) fun k3 a4=>?_
  refine xbs (.o [5] 6) 1 [V0 ((Z.getD i zvD).1.1.1),.string ⟨(Me (↑(Z.getD i zvD).1.2.length:Int) (Z.getD i zvD).1).toArray⟩,V0 0] 192 fun j1 k2 b7=>?_
  have e3:=blB (blB (d8.below (blB f3 hBw a3.below) (Nat.le_trans hBw h9)) hBw (Za c5)) hBw a4
  have k7:=b7.ge0 e3
  have a8:=Zb (Zb (d8.own2 (Zb c1 a3.below) a3.blk (by decide)) (Za c5)) a4
  have f1:=Xa a8 b7
  have c3:=Zb (Zb (d8.own2 (Zb i6 a3.below) a3.blk (by decide)) (Za c5)) a4
  have g0:=Xa c3 b7
  have a1:=Zb a8 b7.below
  have e5:=blB e3 hBw b7.below
  refine ybi (.o [] 7) (.t B [192]) fun _ _ _ _ zJ zQ zo zx zy zK=>Ur (b:=j1) (c:=1) (m:=1) (news:=[V0 ((Z.getD i zvD).1.1.1),.string ⟨(Me (↑(Z.getD i zvD).1.2.length:Int) (Z.getD i zvD).1).toArray⟩,V0 0]) (.agg #[V0 0,.string ⟨#[]⟩,V0 0]) 3 32 (i+1) ((((Mx L (Un L)).take (i+1)).flatMap Ku)) zo Tryz.underlying187 (by kernel_rfl) rfl (by decide) zx a1 zy b7.blk rfl (by simp[Value.oneCell']) (by unfold maxLen;omega) (by omega) e5.size (by rfl) (by have e:=Uu (L:=L) (C:=Un L) (i:=i) (by omega);unfold Un at e;rw[e0] at e;exact Zcy (by rw[Kk];omega) e) fun j8 j5 l6 j7 b5 f9 h1=>?_
  have c9:=Zb c3 b7.below
  have c0:=d1.symm.row c9 b5
  replace d1:=(d1.symm.grow c9 h1).symm
  have d6:=c0
  refine zK _ _ (Zn (f9.mono hBw) b5 a1 (by decide)) ?_
  refine xwm (.r [8] 4) ((i:Int)+1) (↑(i+1):Int) ?_
  have h6:=e5.trans (f9.mono hBw)
  have h5:=(Zg.grown_new ((((Zg.upd_new ((Zg.grown_new (((((f0.trans (Zg.of_below c6)).trans (d5.wide (by decide))).trans (Zg.of_below (Za W7))).trans (Zg.of_below c4)).trans (Zg.of_below n9.below)) a6 a0).trans (Zg.of_below a3.below)) d8 h9).trans (Zg.of_below (Za c5))).trans (Zg.of_below a4)).trans (Zg.of_below b7.below)) b5 a1)
  have c2:=((((d8.blkT (((((((a2.below c6).only d5 (by decide)).below (Za W7)).below c4).below n9.below).grown a6 a0 (by decide)).below a3.below) a3.blk (by decide)).below (Za c5)).below a4).below b7.below).grown b5 a1 (by decide)
  have g8:=(((((((((hA.below (Za W7)).below c4).below n9.below).only (Zg.of_grown (T:=[192]) a6 a0 (by decide)) (by decide)).below a3.below).only (Zg.of_upd (T:=[194]) d8 a3.blk (by decide)) (by decide)).below (Za c5)).below a4).below b7.below).only (Zg.of_grown (T:=[192]) b5 a1 (by decide)) (by decide)
  exact ze 2 (j9 _ _ _ ⟨i+1,_,_,_,_,rfl,rfl,h6,h5,c2,d6,j7,g8,by omega,d1⟩ (by omega))
 have l3:i=n:=by omega
 rw[List.take_of_length_le (by rw[Kl];omega)] at d2
 rw[List.take_of_length_le (by rw[Kk];omega)] at d7
 rw[show L.take i=L from List.take_of_length_le (by omega)] at hA
 refine xlv 7 b6.rp ?_
 refine xc 1 (args:=#[.agg #[P0 ba],V0 1,.slice p7 i c7]) (by have q:=Tu B ba b g nn cc pa ca N bs (Nm L) 1 p7 c7 i ((Pw L (Ep L))) _ (by rw[Kl];omega) hC hA (top_ok hD) (by show Xp (F1 L)≤N;omega) (fun W _ h2=>Zd (Zr d2 h2 (by decide))) (Nat.le_trans hBw a5.size);exact q) ?_
 rintro _ k8 ⟨rfl,g6,d9,hA⟩
 have b8:=b6.only d9 (by decide)
 refine xlv 6 b8.rp ?_
 have d3:=Zr d7 d9 (by decide)
 have e9:=a5.trans g6
 refine xc 1 (args:=#[.agg #[P0 ba],V0 3,.slice p8 i c8]) (by have q:=Tu B ba b g nn cc pa ca N bs (F1 L) 3 p8 c8 i ((Mx L (Un L))) _ (by rw[Kk];omega) hC hA (det_ok hD) (by show Xp (F2 L)≤N;omega) (fun W _ h2=>Zd (Zr d3 h2 (by decide))) (Nat.le_trans hBw e9.size);exact q) ?_
 rintro _ l2 ⟨rfl,g5,g3,hA⟩
 have f4:=e9.trans g5
 have h7:=(d4.trans (d9.wide (by decide))).trans (g3.wide (by decide))
 exact xe 5 (.tuple #[V0 (↑(Xp (F1 L)):Int),V0 (↑(Xp (F2 L)):Int)]) ⟨rfl,f4,h7,hA⟩
def Nh(L:List Dv)(k:Nat):Bl:=Za8 (F2 L) 1 (List.replicate (k*256) (0:UInt8))
def Wz(x:Nat)(L:List Dv):Nat:=Xp (F2 L)+Uf (Yh x L)
def Ha(x:Nat)(L:List Dv)(k:Nat):Int×Int×Bl:=Ad (Yh x L) (1+Xp (F2 L)) (Nh L k)
def Pj(x:Nat)(L:List Dv)(k:Nat):Int×Int×Bl:=Ct (Qa (Wz x L+1) k) 1 (Wz x L) (Ha x L k).2.2
def Zg2(t u v:Int)(x:Nat)(L:List Dv)(k:Nat):Sup:=⟨t,u,v,(x:Int),(k:Int),(Xp (F1 L):Int),(Xp (F2 L):Int),(Ha x L k).1,(Ha x L k).2.1,(Pj x L k).1,(Pj x L k).2.1⟩
def Cw(t u v:Int)(x:Nat)(L:List Dv)(k:Nat):Bl:=Vu (Pj x L k).2.2 (0*256) (Xw 1 (0:Nat) (Hu (Zg2 t u v x L k)))
theorem Zbm(L:List (List Int))(f:Nat):∀ n,(Xz L f n).length=n:=fun n=>Jd L f n
theorem layD_in(x:Nat)(L:List Dv)(k:Nat):1≤(Ha x L k).1∧(Ha x L k).1≤(Wz x L:Int)∧1≤(Ha x L k).2.1∧(Ha x L k).2.1≤(Wz x L:Int):=by
 have a:=Wu (t:=4) (l:=Xz (Xn (Zu (Yh x L)) (bmN (Yh x L).length)) (1+Xp (F2 L)) (bmN (Yh x L).length)) (q:=1+Xp (F2 L)+bmN (Yh x L).length) (bs:=Kj (Xn (Zu (Yh x L)) (bmN (Yh x L).length)) (1+Xp (F2 L)) (Nh L k) (bmN (Yh x L).length)) (by omega)
 have b:=Wu (t:=5) (l:=Zx (Yh x L) (Yh x L).length) (q:=1+Xp (F2 L)+bmN (Yh x L).length+Xq 4 (bmN (Yh x L).length)) (bs:=(Yo 4 (Xz (Xn (Zu (Yh x L)) (bmN (Yh x L).length)) (1+Xp (F2 L)) (bmN (Yh x L).length)) (1+Xp (F2 L)+bmN (Yh x L).length) (Kj (Xn (Zu (Yh x L)) (bmN (Yh x L).length)) (1+Xp (F2 L)) (Nh L k) (bmN (Yh x L).length))).2) (by omega)
 rw[Zbm] at a
 have e1:(Ha x L k).1=_:=a
 have e2:(Ha x L k).2.1=_:=b
 have h4:=Gx 4 (bmN (Yh x L).length)
 have h5:=Gx 5 (Zx (Yh x L) (Yh x L).length).length
 have e3:Wz x L=Xp (F2 L)+(bmN (Yh x L).length+Xq 4 (bmN (Yh x L).length)+Xq 5 (Zx (Yh x L) (Yh x L).length).length):=rfl
 rw[e1,e2,e3]
 omega
theorem layM_in(x:Nat)(L:List Dv)(k:Nat):1≤(Pj x L k).1∧(Pj x L k).1≤(Wz x L+2+bmN k:Nat)∧1≤(Pj x L k).2.1∧(Pj x L k).2.1≤(Wz x L+2+bmN k:Nat):=by
 have a:=Wu (t:=5) (l:=Zx (Qa (Wz x L+1) k) (Qa (Wz x L+1) k).length) (q:=1+Wz x L) (bs:=(Ha x L k).2.2) (by omega)
 have e2:(Pj x L k).2.1=_:=a
 have e1:(Pj x L k).1=((1+Wz x L+Xq 5 (Zx (Qa (Wz x L+1) k) (Qa (Wz x L+1) k).length).length+bmN (Qw (Qa (Wz x L+1) k) (1+Wz x L) (Yq (Qa (Wz x L+1) k))).length:Nat):Int):=rfl
 rw[Qy,Xt] at e1
 rw[Lh,List.length_nil,Zbh] at e1 e2
 rw[e1,e2]
 omega
theorem Ov{t u v:Int}{x k:Nat}{L:List Dv}(hk:PoolOk t u v (x:Int) L)(hr:Pp x L≤k)(hk2:k≤14400):Xk (Zg2 t u v x L k)=true:=by
 have a:=layD_in x L k
 have b:=layM_in x L k
 have c:=Ae hr
 have d:=F1_le L
 have e:Wz x L=Xp (F2 L)+Uf (Yh x L):=rfl
 have h1:=hk.htx
 have h2:=hk.htime
 have h3:=hk.hunit
 have h4:=hk.hdata
 unfold Xk Zg2
 simp only[Bool.and_eq_true,decide_eq_true_eq,true_and]
 refine⟨⟨⟨⟨⟨⟨⟨⟨⟨⟨?_,?_⟩,?_⟩,?_⟩,?_⟩,?_⟩,?_⟩,?_⟩,?_⟩,?_⟩,?_⟩<;>omega
theorem Tl(t u v:Int)(x k:Nat)(L:List Dv)(w:World)(hr:Xk (Zg2 t u v x L k)=true):C0 60 #[.agg #[V0 t,V0 u,V0 v,V0 (x:Int),V0 (k:Int),V0 (↑(Xp (F1 L)):Int),V0 (↑(Xp (F2 L)):Int),V0 (Ha x L k).1,V0 (Ha x L k).2.1,V0 (Pj x L k).1,V0 (Pj x L k).2.1]] w (Qd (fun w' r=>∃ p c,r=.tuple #[.slice p 244 c,V0 0]∧w'.ownsRow w.heap.size 5 1 (.slice p 244 c) 244 ((Hu (Zg2 t u v x L k)).map bv)) w):=by
 refine(Zdy (Zg2 t u v x L k) w ⟨by show(0:Int)≤(k:Int);omega,?_⟩).mono ?_
 ·unfold Xk Zg2 at hr
  simp only[Bool.and_eq_true,decide_eq_true_eq,true_and] at hr
  show(k:Int)<_
  omega
 ·rintro e W q
  rcases q with ⟨h,_⟩|⟨_,p,c,rfl,hb,ho⟩
  ·rw[hr] at h;cases h
  ·exact⟨_,rfl,hb,p,c,rfl,ho⟩
theorem lay_all(B ba b g cc:Nat)(pa:O0)(ca N k:Nat)(p:O0)(c n x:Nat)(t u v:Int)(Z:List Zv)(L:List Dv)(w:World)(hZ:Z.length=n)(hL:Z.map Prod.fst=L)(hk:PoolOk t u v (x:Int) L)(hP:∀ W,Below B w W→DevsR W p c Z)(hN:N=k-1)(hC:AlC B ba (k*256) cc ca 1 N)(hA:AlF B ba b g (k*256) cc pa ca N (List.replicate (k*256) (0:UInt8)) [] w)(hr:Pp x L≤k)(hk3:k≤3000)(hBw:B≤w.heap.size) :
 C0 29 #[.agg #[P0 ba],.agg #[V0 t,V0 u,V0 v,V0 (x:Int),.slice p n c]] w ((fun e w'=>e=.returned (.tuple #[])∧Below B w w'∧ImgR B b (S1 g) (k*256) cc (Cw t u v x L k) w')):=by
 have hx:x≤65536:=by have:=hk.hdata;omega
 have t7:=Ae hr
 have z7:Wz x L=Xp (F2 L)+Uf (Yh x L):=rfl
 have r4:=Ov hk hr (by omega)
 refine zin 72 Tryz.func29 ?_
 refine xa 2 [P0 ba] 89 fun b1 W1 n1=>?_
 refine xa 0 [V0 t,V0 u,V0 v,V0 (x:Int),.slice p n c] 53 fun b2 W2 n2=>?_
 refine xd 3 (.t B [128,5,32,187,192,217,202,69]) ?_
 have k2:=n2.blk.below (Za W2)
 refine xbt (.e [0] 1) 0 B [128,5,32,187,192,217,202,69] k2 ?_
 refine xbt (.e [2] 3) 1 B [128,5,32,187,192,217,202,69] k2 ?_
 refine xbt (.e [4] 5) 2 B [128,5,32,187,192,217,202,69] k2 ?_
 refine xbt (.e [6] 7) 3 B [128,5,32,187,192,217,202,69] k2 ?_
 have k1:=(n1.blk.below n2.below).below (Za W2)
 refine xbt (.e [8] 9) 0 B [128,5,32,187,192,217,202,69] k1 ?_
 refine xm2 0 10 13 ?_ ?_
 ·have g0:=((hA.below n1.below).below n2.below).below (Za W2)
  refine xr 0 (args:=#[P0 ba]) (Yy ba b _ _ _ g0.blkA) fun W3 d1=>?_
  refine xm2 0 11 13 ?_ ?_
  ·have p7:=g0.below d1
   refine xr 0 (args:=#[P0 b]) (by have q:=Yc b _ (k*256) _ _ p7.blkI (by omega);rw[show k*256/256=k by omega] at q;exact q) fun W4 q4=>?_
   refine xa (.o [12] 13) [V0 0,V0 0,V0 0,V0 0,V0 0,V0 0,V0 0,V0 0,V0 0,V0 0,V0 0] 69 fun b5 W5 n5=>?_
   have hB:=blB (blB (blB (blB (blB (Below.refl B w) hBw n1.below) hBw n2.below) hBw (Za W2)) hBw d1) hBw q4
   have g5:=n5.ge0 hB
   refine ysv (.o [] 14) n5.blk [V0 t,V0 u,V0 v,V0 (x:Int),V0 (k:Int),V0 0,V0 0,V0 0,V0 0,V0 0,V0 0] (.t B [128,5,32,187,192,217,202,69]) fun W6 u6 k6=>⟨(Zi u6 n5.blk (Nat.le_trans hBw g5) (by decide)),?_⟩
   have k4:=u6.blkT (((k1.below d1).below q4).below n5.below) n5.blk (by decide)
   refine xlv 9 k4.rp ?_
   have i9:=u6.blkT (((k2.below d1).below q4).below n5.below) n5.blk (by decide)
   refine xb 1 4 i9 ?_
   have s2:=((p7.below q4).below n5.below).only (Zg.of_upd (T:=[69]) u6 n5.blk (by decide)) (by decide)
   have d3:=u6.below (blB hB hBw n5.below) (Nat.le_trans hBw g5)
   refine xc 0 (args:=#[.agg #[P0 ba],.slice p n c]) (Ni B ba b g (k*256) cc pa ca N (List.replicate (k*256) (0:UInt8)) p c n (x:Int) Z L _ hZ hL hk.devs (by omega) (fun W h=>hP W (d3.trans h)) hC s2 (by omega) (Nat.le_trans hBw d3.size)) ?_
   rintro _ W7 ⟨rfl,t6,s9,hA⟩
   have d2:=k6.only s9 (by decide)
   refine xs 4 d2 [V0 t,V0 u,V0 v,V0 (x:Int),V0 (k:Int),V0 (↑(Xp (F1 L)):Int),V0 0,V0 0,V0 0,V0 0,V0 0] fun W8 u8 k8=>?_
   refine xs 1 k8 [V0 t,V0 u,V0 v,V0 (x:Int),V0 (k:Int),V0 (↑(Xp (F1 L)):Int),V0 (↑(Xp (F2 L)):Int),V0 0,V0 0,V0 0,V0 0] fun W9 u9 k9=>?_
   refine xd 3 (.t B [128,5,32,187,192,217,202,69]) ?_
   have n8:=(u9.blkT (u8.blkT (k4.only s9 (by decide)) d2 (by decide)) k8 (by decide)).below (Za W9)
   refine xbt (.e [0] 1) 0 B [128,5,32,187,192,217,202,69] n8 ?_
   have r3:=(u9.blkT (u8.blkT (i9.only s9 (by decide)) d2 (by decide)) k8 (by decide)).below (Za W9)
   refine xlvt (.e [] 2) (.t B [128,5,32,187,192,217,202,69]) (fun V hV=>(r3.only hV.2 (by decide)).rp) ?_
   have m2:=blB (u9.below (u8.below (d3.trans t6) (Nat.le_trans hBw g5)) (Nat.le_trans hBw g5)) hBw (Za W9)
   refine yc (.o [] 3) (args:=#[.agg #[V0 t,V0 u,V0 v,V0 (x:Int),.slice p n c]]) (.t B [128,5,32,187,192,217,202,69]) (by have q:=Nr p c n x t u v Z _ hZ (hP _ m2) (by rw[hL];exact hk);rw[hL] at q;exact q) ?_
   rintro _ w2 ⟨_,rfl,b7,q9,d9,rfl,k0⟩
   have s6:=(blB (u9.below (u8.below (d3.trans t6) (Nat.le_trans hBw g5)) (Nat.le_trans hBw g5)) hBw (Za W9)).size
   refine⟨(SF.of_below _ b7),?_⟩
   have m1:=Ze k0 s6
   have t4:=(((hA.only (Zg.of_upd (T:=[69]) u8 d2 (by decide)) (by decide)).only (Zg.of_upd (T:=[69]) u9 k8 (by decide)) (by decide)).below (Za W9)).below b7
   have e9:=blB m2 hBw b7
   refine yc (.o [] 4) (args:=#[P0 ba,.slice q9 x d9]) (.t B [128,5,32,187,192,217,202,69]) (by have q:=Lf B ba b g (k*256) cc pa ca 1 N (Xp (F2 L)) (Nh L k) q9 d9 (Yh x L) _ hC t4 (by rw[Yp];have q:=Zd m1;rw[←Zb8] at q;exact q) (by rw[Yp];omega) (by rw[Mb];have:=Mv hk.devs;omega) (Po (by omega) hk.devs) (by decide) (by omega) (by omega) (Nat.le_trans hBw e9.size);rw[Yp] at q;exact q) ?_
   rintro _ x1 ⟨rfl,f0,f2,u4,hA⟩
   refine⟨(Hd f0 f2),?_⟩
   have d0:=((k9.below (Za W9)).below b7).only f2 (by decide)
   refine ys (.o [5,6,7,8,9] 10) d0 [V0 t,V0 u,V0 v,V0 (x:Int),V0 (k:Int),V0 (↑(Xp (F1 L)):Int),V0 (↑(Xp (F2 L)):Int),V0 ((Ha x L k).1),V0 0,V0 0,V0 0] (.t B [128,5,32,187,192,217,202,69]) fun w9 o4 q1=>⟨(Zi o4 d0 (Nat.le_trans hBw g5) (by decide)),?_⟩
   refine ys (.o [11] 12) q1 [V0 t,V0 u,V0 v,V0 (x:Int),V0 (k:Int),V0 (↑(Xp (F1 L)):Int),V0 (↑(Xp (F2 L)):Int),V0 ((Ha x L k).1),V0 ((Ha x L k).2.1),V0 0,V0 0] (.t B [128,5,32,187,192,217,202,69]) fun x0 p2 u2=>⟨(Zi p2 q1 (Nat.le_trans hBw g5) (by decide)),?_⟩
   refine xr (.r [13] 5) (args:=#[.nilIface]) (Vo _) fun i7 c9=>?_
   refine xd 3 (.t B [128,5,32,187,192,217,202,69]) ?_
   have h1:=((p2.blkT (o4.blkT ((n8.below b7).only f2 (by decide)) d0 (by decide)) q1 (by decide)).below c9).below (Za i7)
   refine xbt (.e [0] 1) 0 B [128,5,32,187,192,217,202,69] h1 ?_
   refine xlvt (.e [] 2) (.t B [128,5,32,187,192,217,202,69]) (fun V hV=>(h1.only hV.2 (by decide)).rp) ?_
   have m6:=(((hA.only (Zg.of_upd (T:=[69]) o4 d0 (by decide)) (by decide)).only (Zg.of_upd (T:=[69]) p2 q1 (by decide)) (by decide)).below c9).below (Za i7)
   refine yc (.o [] 3) (args:=#[.agg #[P0 ba]]) (.t B [128,5,32,187,192,217,202,69]) (Lc B ba b g cc pa ca 1 N (Wz x L) k _ _ m6 (by omega) (by omega)) ?_
   rintro _ aj ⟨_,rfl,c6,q8,d8,rfl,l5⟩
   have r6:=(blB (blB (p2.below (o4.below (e9.trans f0) (Nat.le_trans hBw g5)) (Nat.le_trans hBw g5)) hBw c9) hBw (Za i7)).size
   refine⟨(SF.of_below _ c6),?_⟩
   have r0:=m6.below c6
   have l4:=Ze l5 r6
   have g6:=blB (blB (blB (p2.below (o4.below (e9.trans f0) (Nat.le_trans hBw g5)) (Nat.le_trans hBw g5)) hBw c9) hBw (Za i7)) hBw c6
   refine yc (.o [] 4) (args:=#[P0 ba,.slice (some q8) k d8]) (.t B [128,5,32,187,192,217,202,69]) (by have q:=Li B ba b g (k*256) cc pa ca 1 N (Wz x L) (Ha x L k).2.2 q8 d8 (Qa (Wz x L+1) k) _ hC r0 (by rw[Xt];exact Zd l4) (by rw[Xt];omega) (by rw[Xt];omega) (Nl (by omega)) (by omega) (by rw[Bf];omega) (by decide) (by rw[Nat.add_comm 1];exact Bb) (Nat.le_trans hBw g6.size);rw[Xt] at q;exact q) ?_
   rintro _ y6 ⟨rfl,f7,h7,u0,hA⟩
   refine⟨(Hd f7 h7),?_⟩
   have a2:=(((u2.below c9).below (Za i7)).below c6).only h7 (by decide)
   refine ys (.o [5,6,7,8,9] 10) a2 [V0 t,V0 u,V0 v,V0 (x:Int),V0 (k:Int),V0 (↑(Xp (F1 L)):Int),V0 (↑(Xp (F2 L)):Int),V0 ((Ha x L k).1),V0 ((Ha x L k).2.1),V0 ((Pj x L k).1),V0 0] (.t B [128,5,32,187,192,217,202,69]) fun z8 j5 q3=>⟨(Zi j5 a2 (Nat.le_trans hBw g5) (by decide)),?_⟩
   refine ys (.o [11] 12) q3 [V0 t,V0 u,V0 v,V0 (x:Int),V0 (k:Int),V0 (↑(Xp (F1 L)):Int),V0 (↑(Xp (F2 L)):Int),V0 ((Ha x L k).1),V0 ((Ha x L k).2.1),V0 ((Pj x L k).1),V0 ((Pj x L k).2.1)] (.t B [128,5,32,187,192,217,202,69]) fun z6 o6 v6=>⟨(Zi o6 q3 (Nat.le_trans hBw g5) (by decide)),?_⟩
   refine xr (.r [13] 5) (args:=#[.nilIface]) (Vo _) fun ab c2=>?_
   have m3:=v6.below c2
   refine xlv 4 m3.rp ?_
   refine xc 0 (args:=#[.agg #[V0 t,V0 u,V0 v,V0 (x:Int),V0 (k:Int),V0 (↑(Xp (F1 L)):Int),V0 (↑(Xp (F2 L)):Int),V0 ((Ha x L k).1),V0 ((Ha x L k).2.1),V0 ((Pj x L k).1),V0 ((Pj x L k).2.1)]]) (Tl t u v x k L _ r4) ?_
   rintro _ z2 ⟨_,rfl,h5,q7,d7,rfl,n9⟩
   have t0:=(blB (o6.below (j5.below (g6.trans f7) (Nat.le_trans hBw g5)) (Nat.le_trans hBw g5)) hBw c2).size
   have s8:=((o6.blkT (j5.blkT ((h1.below c6).only h7 (by decide)) a2 (by decide)) q3 (by decide)).below c2).below h5
   refine xb 19 0 s8 ?_
   have i3:=(((hA.only (Zg.of_upd (T:=[69]) j5 a2 (by decide)) (by decide)).only (Zg.of_upd (T:=[69]) o6 q3 (by decide)) (by decide)).below c2).below h5
   refine xr 0 (args:=#[P0 ba]) (Yy ba b _ _ _ i3.blkA) fun w0 f5=>?_
   have i4:=Zb (Ze n9 t0) f5
   have j9:=i3.below f5
   have l9:=blB (blB (blB (o6.below (j5.below (g6.trans f7) (Nat.le_trans hBw g5)) (Nat.le_trans hBw g5)) hBw c2) hBw h5) hBw f5
   refine xc 1 (args:=#[P0 b,V0 0,V0 1,.slice q7 244 d7]) (Uh B b (S1 g) (k*256) cc 0 (0:Int) (Pj x L k).2.2 1 q7 d7 244 (Hu (Zg2 t u v x L k)) _ rfl (Vq _) ⟨j9.blkI,j9.data,hC.hn⟩ (by omega) (by decide) (by decide) (Yr (Zd i4) (Vq _)) (by decide) (Nat.le_trans hBw l9.size)) ?_
   rintro _ af ⟨rfl,r8,u3,hI⟩
   refine xr 0 (args:=#[.nilIface]) (Vo _) fun x3 o8=>?_
   have r7:=hI.below o8
   have r5:=blB (l9.trans r8) hBw o8
   exact xe 1 (.tuple #[]) ⟨rfl,r5,r7⟩
  refine xa 0 [V0 0,V0 0,V0 0,V0 0,V0 0,V0 0,V0 0,V0 0,V0 0,V0 0,V0 0] 69 fun ah w3 h9=>?_
  have n3:=(g0.below d1).below h9.below
  refine xr (.o [] 11) (args:=#[P0 b]) (by have q:=Yc b _ (k*256) _ _ n3.blkI (by omega);rw[show k*256/256=k by omega] at q;exact q) fun z4 a9=>?_
  have p1:=h9.blk.below a9
  have a1:=h9.ge0 (blB (blB (blB (blB (Below.refl B w) hBw n1.below) hBw n2.below) hBw (Za W2)) hBw d1)
  refine ysv (.o [12] 14) p1 [V0 t,V0 u,V0 v,V0 (x:Int),V0 (k:Int),V0 0,V0 0,V0 0,V0 0,V0 0,V0 0] (.t B [128,5,32,187,192,217,202,69]) fun ak l3 v4=>⟨(Zi l3 p1 (Nat.le_trans hBw a1) (by decide)),?_⟩
  have o0:=l3.blkT (((k1.below d1).below h9.below).below a9) p1 (by decide)
  refine xlv 9 o0.rp ?_
  have o5:=l3.blkT (((k2.below d1).below h9.below).below a9) p1 (by decide)
  refine xb 1 4 o5 ?_
  have j2:=(n3.below a9).only (Zg.of_upd (T:=[69]) l3 p1 (by decide)) (by decide)
  have hB:=l3.below (blB (blB (blB (blB (blB (blB (Below.refl B w) hBw n1.below) hBw n2.below) hBw (Za W2)) hBw d1) hBw h9.below) hBw a9) (Nat.le_trans hBw a1)
  refine xc 0 (args:=#[.agg #[P0 ba],.slice p n c]) (Ni B ba b g (k*256) cc pa ca N (List.replicate (k*256) (0:UInt8)) p c n (x:Int) Z L _ hZ hL hk.devs (by omega) (fun W h=>hP W (hB.trans h)) hC j2 (by omega) (Nat.le_trans hBw hB.size)) ?_
  rintro _ y7 ⟨rfl,k5,f6,hA⟩
  have a7:=v4.only f6 (by decide)
  refine xs 4 a7 [V0 t,V0 u,V0 v,V0 (x:Int),V0 (k:Int),V0 (↑(Xp (F1 L)):Int),V0 0,V0 0,V0 0,V0 0,V0 0] fun z3 m5 p9=>?_
  refine xs 1 p9 [V0 t,V0 u,V0 v,V0 (x:Int),V0 (k:Int),V0 (↑(Xp (F1 L)):Int),V0 (↑(Xp (F2 L)):Int),V0 0,V0 0,V0 0,V0 0] fun i0 o7 v7=>?_
  refine xd 3 (.t B [128,5,32,187,192,217,202,69]) ?_
  have m9:=(o7.blkT (m5.blkT (o0.only f6 (by decide)) a7 (by decide)) p9 (by decide)).below (Za i0)
  refine xbt (.e [0] 1) 0 B [128,5,32,187,192,217,202,69] m9 ?_
  have s3:=(o7.blkT (m5.blkT (o5.only f6 (by decide)) a7 (by decide)) p9 (by decide)).below (Za i0)
  refine xlvt (.e [] 2) (.t B [128,5,32,187,192,217,202,69]) (fun V hV=>(s3.only hV.2 (by decide)).rp) ?_
  have k3:=blB (o7.below (m5.below (hB.trans k5) (Nat.le_trans hBw a1)) (Nat.le_trans hBw a1)) hBw (Za i0)
  refine yc (.o [] 3) (args:=#[.agg #[V0 t,V0 u,V0 v,V0 (x:Int),.slice p n c]]) (.t B [128,5,32,187,192,217,202,69]) (by have q:=Nr p c n x t u v Z _ hZ (hP _ k3) (by rw[hL];exact hk);rw[hL] at q;exact q) ?_
  rintro _ y9 ⟨_,rfl,c1,q9,d9,rfl,k0⟩
  have r1:=(blB (o7.below (m5.below (hB.trans k5) (Nat.le_trans hBw a1)) (Nat.le_trans hBw a1)) hBw (Za i0)).size
  refine⟨(SF.of_below _ c1),?_⟩
  have l0:=Ze k0 r1
  have o1:=(((hA.only (Zg.of_upd (T:=[69]) m5 a7 (by decide)) (by decide)).only (Zg.of_upd (T:=[69]) o7 p9 (by decide)) (by decide)).below (Za i0)).below c1
  have h3:=blB k3 hBw c1
  refine yc (.o [] 4) (args:=#[P0 ba,.slice q9 x d9]) (.t B [128,5,32,187,192,217,202,69]) (by have q:=Lf B ba b g (k*256) cc pa ca 1 N (Xp (F2 L)) (Nh L k) q9 d9 (Yh x L) _ hC o1 (by rw[Yp];have q:=Zd l0;rw[←Zb8] at q;exact q) (by rw[Yp];omega) (by rw[Mb];have:=Mv hk.devs;omega) (Po (by omega) hk.devs) (by decide) (by omega) (by omega) (Nat.le_trans hBw h3.size);rw[Yp] at q;exact q) ?_
  rintro _ x8 ⟨rfl,h4,g3,t9,hA⟩
  refine⟨(Hd h4 g3),?_⟩
  have a3:=((v7.below (Za i0)).below c1).only g3 (by decide)
  refine ys (.o [5,6,7,8,9] 10) a3 [V0 t,V0 u,V0 v,V0 (x:Int),V0 (k:Int),V0 (↑(Xp (F1 L)):Int),V0 (↑(Xp (F2 L)):Int),V0 ((Ha x L k).1),V0 0,V0 0,V0 0] (.t B [128,5,32,187,192,217,202,69]) fun y0 o3 q6=>⟨(Zi o3 a3 (Nat.le_trans hBw a1) (by decide)),?_⟩
  refine ys (.o [11] 12) q6 [V0 t,V0 u,V0 v,V0 (x:Int),V0 (k:Int),V0 (↑(Xp (F1 L)):Int),V0 (↑(Xp (F2 L)):Int),V0 ((Ha x L k).1),V0 ((Ha x L k).2.1),V0 0,V0 0] (.t B [128,5,32,187,192,217,202,69]) fun w7 j4 v8=>⟨(Zi j4 q6 (Nat.le_trans hBw a1) (by decide)),?_⟩
  refine xr (.r [13] 5) (args:=#[.nilIface]) (Vo _) fun p6 c7=>?_
  refine xd 3 (.t B [128,5,32,187,192,217,202,69]) ?_
  have h2:=((j4.blkT (o3.blkT ((m9.below c1).only g3 (by decide)) a3 (by decide)) q6 (by decide)).below c7).below (Za p6)
  refine xbt (.e [0] 1) 0 B [128,5,32,187,192,217,202,69] h2 ?_
  refine xlvt (.e [] 2) (.t B [128,5,32,187,192,217,202,69]) (fun V hV=>(h2.only hV.2 (by decide)).rp) ?_
  have e0:=(((hA.only (Zg.of_upd (T:=[69]) o3 a3 (by decide)) (by decide)).only (Zg.of_upd (T:=[69]) j4 q6 (by decide)) (by decide)).below c7).below (Za p6)
  refine yc (.o [] 3) (args:=#[.agg #[P0 ba]]) (.t B [128,5,32,187,192,217,202,69]) (Lc B ba b g cc pa ca 1 N (Wz x L) k _ _ e0 (by omega) (by omega)) ?_
  rintro _ ai ⟨_,rfl,c8,q8,d8,rfl,l5⟩
  have s5:=(blB (blB (j4.below (o3.below (h3.trans h4) (Nat.le_trans hBw a1)) (Nat.le_trans hBw a1)) hBw c7) hBw (Za p6)).size
  refine⟨(SF.of_below _ c8),?_⟩
  have i8:=e0.below c8
  have o9:=Ze l5 s5
  have g1:=blB (blB (blB (j4.below (o3.below (h3.trans h4) (Nat.le_trans hBw a1)) (Nat.le_trans hBw a1)) hBw c7) hBw (Za p6)) hBw c8
  refine yc (.o [] 4) (args:=#[P0 ba,.slice (some q8) k d8]) (.t B [128,5,32,187,192,217,202,69]) (by have q:=Li B ba b g (k*256) cc pa ca 1 N (Wz x L) (Ha x L k).2.2 q8 d8 (Qa (Wz x L+1) k) _ hC i8 (by rw[Xt];exact Zd o9) (by rw[Xt];omega) (by rw[Xt];omega) (Nl (by omega)) (by omega) (by rw[Bf];omega) (by decide) (by rw[Nat.add_comm 1];exact Bb) (Nat.le_trans hBw g1.size);rw[Xt] at q;exact q) ?_
  rintro _ y3 ⟨rfl,h0,g7,v1,hA⟩
  refine⟨(Hd h0 g7),?_⟩
  have a5:=(((v8.below c7).below (Za p6)).below c8).only g7 (by decide)
  refine ys (.o [5,6,7,8,9] 10) a5 [V0 t,V0 u,V0 v,V0 (x:Int),V0 (k:Int),V0 (↑(Xp (F1 L)):Int),V0 (↑(Xp (F2 L)):Int),V0 ((Ha x L k).1),V0 ((Ha x L k).2.1),V0 ((Pj x L k).1),V0 0] (.t B [128,5,32,187,192,217,202,69]) fun x5 m0 q2=>⟨(Zi m0 a5 (Nat.le_trans hBw a1) (by decide)),?_⟩
  refine ys (.o [11] 12) q2 [V0 t,V0 u,V0 v,V0 (x:Int),V0 (k:Int),V0 (↑(Xp (F1 L)):Int),V0 (↑(Xp (F2 L)):Int),V0 ((Ha x L k).1),V0 ((Ha x L k).2.1),V0 ((Pj x L k).1),V0 ((Pj x L k).2.1)] (.t B [128,5,32,187,192,217,202,69]) fun ac i6 v2=>⟨(Zi i6 q2 (Nat.le_trans hBw a1) (by decide)),?_⟩
  refine xr (.r [13] 5) (args:=#[.nilIface]) (Vo _) fun y1 c5=>?_
  have j7:=v2.below c5
  refine xlv 4 j7.rp ?_
  refine xc 0 (args:=#[.agg #[V0 t,V0 u,V0 v,V0 (x:Int),V0 (k:Int),V0 (↑(Xp (F1 L)):Int),V0 (↑(Xp (F2 L)):Int),V0 ((Ha x L k).1),V0 ((Ha x L k).2.1),V0 ((Pj x L k).1),V0 ((Pj x L k).2.1)]]) (Tl t u v x k L _ r4) ?_
  rintro _ ag ⟨_,rfl,g9,q7,d7,rfl,n9⟩
  have s0:=(blB (i6.below (m0.below (g1.trans h0) (Nat.le_trans hBw a1)) (Nat.le_trans hBw a1)) hBw c5).size
  have r9:=((i6.blkT (m0.blkT ((h2.below c8).only g7 (by decide)) a5 (by decide)) q2 (by decide)).below c5).below g9
  refine xb 19 0 r9 ?_
  have e8:=(((hA.only (Zg.of_upd (T:=[69]) m0 a5 (by decide)) (by decide)).only (Zg.of_upd (T:=[69]) i6 q2 (by decide)) (by decide)).below c5).below g9
  refine xr 0 (args:=#[P0 ba]) (Yy ba b _ _ _ e8.blkA) fun y8 h6=>?_
  have k7:=Zb (Ze n9 s0) h6
  have d4:=e8.below h6
  have e5:=blB (blB (blB (i6.below (m0.below (g1.trans h0) (Nat.le_trans hBw a1)) (Nat.le_trans hBw a1)) hBw c5) hBw g9) hBw h6
  refine xc 1 (args:=#[P0 b,V0 0,V0 1,.slice q7 244 d7]) (Uh B b (S1 g) (k*256) cc 0 (0:Int) (Pj x L k).2.2 1 q7 d7 244 (Hu (Zg2 t u v x L k)) _ rfl (Vq _) ⟨d4.blkI,d4.data,hC.hn⟩ (by omega) (by decide) (by decide) (Yr (Zd k7) (Vq _)) (by decide) (Nat.le_trans hBw e5.size)) ?_
  rintro _ ae ⟨rfl,t2,u7,hI⟩
  refine xr 0 (args:=#[.nilIface]) (Vo _) fun x2 j3=>?_
  have t5:=hI.below j3
  have j0:=blB (e5.trans t2) hBw j3
  exact xe 1 (.tuple #[]) ⟨rfl,j0,t5⟩
 refine xa 0 [V0 0,V0 0,V0 0,V0 0,V0 0,V0 0,V0 0,V0 0,V0 0,V0 0,V0 0] 69 fun aa y2 i1=>?_
 have d5:=(((hA.below n1.below).below n2.below).below (Za W2)).below i1.below
 refine xr (.o [] 10) (args:=#[P0 ba]) (Yy ba b _ _ _ d5.blkA) fun al b9=>?_
 have e7:=d5.below b9
 refine xr (.o [] 11) (args:=#[P0 b]) (by have q:=Yc b _ (k*256) _ _ e7.blkI (by omega);rw[show k*256/256=k by omega] at q;exact q) fun y4 b4=>?_
 have n7:=(i1.blk.below b9).below b4
 have a0:=i1.ge0 (blB (blB (blB (Below.refl B w) hBw n1.below) hBw n2.below) hBw (Za W2))
 refine ysv (.o [12] 14) n7 [V0 t,V0 u,V0 v,V0 (x:Int),V0 (k:Int),V0 0,V0 0,V0 0,V0 0,V0 0,V0 0] (.t B [128,5,32,187,192,217,202,69]) fun z0 m8 u5=>⟨(Zi m8 n7 (Nat.le_trans hBw a0) (by decide)),?_⟩
 have p0:=m8.blkT (((k1.below i1.below).below b9).below b4) n7 (by decide)
 refine xlv 9 p0.rp ?_
 have j1:=m8.blkT (((k2.below i1.below).below b9).below b4) n7 (by decide)
 refine xb 1 4 j1 ?_
 have j6:=(e7.below b4).only (Zg.of_upd (T:=[69]) m8 n7 (by decide)) (by decide)
 have hB:=m8.below (blB (blB (blB (blB (blB (blB (Below.refl B w) hBw n1.below) hBw n2.below) hBw (Za W2)) hBw i1.below) hBw b9) hBw b4) (Nat.le_trans hBw a0)
 refine xc 0 (args:=#[.agg #[P0 ba],.slice p n c]) (Ni B ba b g (k*256) cc pa ca N (List.replicate (k*256) (0:UInt8)) p c n (x:Int) Z L _ hZ hL hk.devs (by omega) (fun W h=>hP W (hB.trans h)) hC j6 (by omega) (Nat.le_trans hBw hB.size)) ?_
 rintro _ y5 ⟨rfl,l6,f8,hA⟩
 have a8:=u5.only f8 (by decide)
 refine xs 4 a8 [V0 t,V0 u,V0 v,V0 (x:Int),V0 (k:Int),V0 (↑(Xp (F1 L)):Int),V0 0,V0 0,V0 0,V0 0,V0 0] fun z1 p3 q0=>?_
 refine xs 1 q0 [V0 t,V0 u,V0 v,V0 (x:Int),V0 (k:Int),V0 (↑(Xp (F1 L)):Int),V0 (↑(Xp (F2 L)):Int),V0 0,V0 0,V0 0,V0 0] fun h8 p4 v3=>?_
 refine xd 3 (.t B [128,5,32,187,192,217,202,69]) ?_
 have d6:=(p4.blkT (p3.blkT (p0.only f8 (by decide)) a8 (by decide)) q0 (by decide)).below (Za h8)
 refine xbt (.e [0] 1) 0 B [128,5,32,187,192,217,202,69] d6 ?_
 have s7:=(p4.blkT (p3.blkT (j1.only f8 (by decide)) a8 (by decide)) q0 (by decide)).below (Za h8)
 refine xlvt (.e [] 2) (.t B [128,5,32,187,192,217,202,69]) (fun V hV=>(s7.only hV.2 (by decide)).rp) ?_
 have e2:=blB (p4.below (p3.below (hB.trans l6) (Nat.le_trans hBw a0)) (Nat.le_trans hBw a0)) hBw (Za h8)
 refine yc (.o [] 3) (args:=#[.agg #[V0 t,V0 u,V0 v,V0 (x:Int),.slice p n c]]) (.t B [128,5,32,187,192,217,202,69]) (by have q:=Nr p c n x t u v Z _ hZ (hP _ e2) (by rw[hL];exact hk);rw[hL] at q;exact q) ?_
 rintro _ w5 ⟨_,rfl,b6,q9,d9,rfl,k0⟩
 have t3:=(blB (p4.below (p3.below (hB.trans l6) (Nat.le_trans hBw a0)) (Nat.le_trans hBw a0)) hBw (Za h8)).size
 refine⟨(SF.of_below _ b6),?_⟩
 have l2:=Ze k0 t3
 have n4:=(((hA.only (Zg.of_upd (T:=[69]) p3 a8 (by decide)) (by decide)).only (Zg.of_upd (T:=[69]) p4 q0 (by decide)) (by decide)).below (Za h8)).below b6
 have c3:=blB e2 hBw b6
 refine yc (.o [] 4) (args:=#[P0 ba,.slice q9 x d9]) (.t B [128,5,32,187,192,217,202,69]) (by have q:=Lf B ba b g (k*256) cc pa ca 1 N (Xp (F2 L)) (Nh L k) q9 d9 (Yh x L) _ hC n4 (by rw[Yp];have q:=Zd l2;rw[←Zb8] at q;exact q) (by rw[Yp];omega) (by rw[Mb];have:=Mv hk.devs;omega) (Po (by omega) hk.devs) (by decide) (by omega) (by omega) (Nat.le_trans hBw c3.size);rw[Yp] at q;exact q) ?_
 rintro _ w1 ⟨rfl,f4,f3,v9,hA⟩
 refine⟨(Hd f4 f3),?_⟩
 have a6:=((v3.below (Za h8)).below b6).only f3 (by decide)
 refine ys (.o [5,6,7,8,9] 10) a6 [V0 t,V0 u,V0 v,V0 (x:Int),V0 (k:Int),V0 (↑(Xp (F1 L)):Int),V0 (↑(Xp (F2 L)):Int),V0 ((Ha x L k).1),V0 0,V0 0,V0 0] (.t B [128,5,32,187,192,217,202,69]) fun ad o2 q5=>⟨(Zi o2 a6 (Nat.le_trans hBw a0) (by decide)),?_⟩
 refine ys (.o [11] 12) q5 [V0 t,V0 u,V0 v,V0 (x:Int),V0 (k:Int),V0 (↑(Xp (F1 L)):Int),V0 (↑(Xp (F2 L)):Int),V0 ((Ha x L k).1),V0 ((Ha x L k).2.1),V0 0,V0 0] (.t B [128,5,32,187,192,217,202,69]) fun x6 m4 v0=>⟨(Zi m4 q5 (Nat.le_trans hBw a0) (by decide)),?_⟩
 refine xr (.r [13] 5) (args:=#[.nilIface]) (Vo _) fun l8 b8=>?_
 refine xd 3 (.t B [128,5,32,187,192,217,202,69]) ?_
 have c4:=((m4.blkT (o2.blkT ((d6.below b6).only f3 (by decide)) a6 (by decide)) q5 (by decide)).below b8).below (Za l8)
 refine xbt (.e [0] 1) 0 B [128,5,32,187,192,217,202,69] c4 ?_
 refine xlvt (.e [] 2) (.t B [128,5,32,187,192,217,202,69]) (fun V hV=>(c4.only hV.2 (by decide)).rp) ?_
 have e6:=(((hA.only (Zg.of_upd (T:=[69]) o2 a6 (by decide)) (by decide)).only (Zg.of_upd (T:=[69]) m4 q5 (by decide)) (by decide)).below b8).below (Za l8)
 refine yc (.o [] 3) (args:=#[.agg #[P0 ba]]) (.t B [128,5,32,187,192,217,202,69]) (Lc B ba b g cc pa ca 1 N (Wz x L) k _ _ e6 (by omega) (by omega)) ?_
 rintro _ w8 ⟨_,rfl,b3,q8,d8,rfl,l5⟩
 have s4:=(blB (blB (m4.below (o2.below (c3.trans f4) (Nat.le_trans hBw a0)) (Nat.le_trans hBw a0)) hBw b8) hBw (Za l8)).size
 refine⟨(SF.of_below _ b3),?_⟩
 have n6:=e6.below b3
 have i5:=Ze l5 s4
 have c0:=blB (blB (blB (m4.below (o2.below (c3.trans f4) (Nat.le_trans hBw a0)) (Nat.le_trans hBw a0)) hBw b8) hBw (Za l8)) hBw b3
 refine yc (.o [] 4) (args:=#[P0 ba,.slice (some q8) k d8]) (.t B [128,5,32,187,192,217,202,69]) (by have q:=Li B ba b g (k*256) cc pa ca 1 N (Wz x L) (Ha x L k).2.2 q8 d8 (Qa (Wz x L+1) k) _ hC n6 (by rw[Xt];exact Zd i5) (by rw[Xt];omega) (by rw[Xt];omega) (Nl (by omega)) (by omega) (by rw[Bf];omega) (by decide) (by rw[Nat.add_comm 1];exact Bb) (Nat.le_trans hBw c0.size);rw[Xt] at q;exact q) ?_
 rintro _ z9 ⟨rfl,f9,f1,u1,hA⟩
 refine⟨(Hd f9 f1),?_⟩
 have a4:=(((v0.below b8).below (Za l8)).below b3).only f1 (by decide)
 refine ys (.o [5,6,7,8,9] 10) a4 [V0 t,V0 u,V0 v,V0 (x:Int),V0 (k:Int),V0 (↑(Xp (F1 L)):Int),V0 (↑(Xp (F2 L)):Int),V0 ((Ha x L k).1),V0 ((Ha x L k).2.1),V0 ((Pj x L k).1),V0 0] (.t B [128,5,32,187,192,217,202,69]) fun z5 p5 p8=>⟨(Zi p5 a4 (Nat.le_trans hBw a0) (by decide)),?_⟩
 refine ys (.o [11] 12) p8 [V0 t,V0 u,V0 v,V0 (x:Int),V0 (k:Int),V0 (↑(Xp (F1 L)):Int),V0 (↑(Xp (F2 L)):Int),V0 ((Ha x L k).1),V0 ((Ha x L k).2.1),V0 ((Pj x L k).1),V0 ((Pj x L k).2.1)] (.t B [128,5,32,187,192,217,202,69]) fun x4 l1 v5=>⟨(Zi l1 p8 (Nat.le_trans hBw a0) (by decide)),?_⟩
 refine xr (.r [13] 5) (args:=#[.nilIface]) (Vo _) fun x7 b0=>?_
 have l7:=v5.below b0
 refine xlv 4 l7.rp ?_
 refine xc 0 (args:=#[.agg #[V0 t,V0 u,V0 v,V0 (x:Int),V0 (k:Int),V0 (↑(Xp (F1 L)):Int),V0 (↑(Xp (F2 L)):Int),V0 ((Ha x L k).1),V0 ((Ha x L k).2.1),V0 ((Pj x L k).1),V0 ((Pj x L k).2.1)]]) (Tl t u v x k L _ r4) ?_
 rintro _ w6 ⟨_,rfl,g2,q7,d7,rfl,n9⟩
 have s1:=(blB (l1.below (p5.below (c0.trans f9) (Nat.le_trans hBw a0)) (Nat.le_trans hBw a0)) hBw b0).size
 have j8:=((l1.blkT (p5.blkT ((c4.below b3).only f1 (by decide)) a4 (by decide)) p8 (by decide)).below b0).below g2
 refine xb 19 0 j8 ?_
 have e3:=(((hA.only (Zg.of_upd (T:=[69]) p5 a4 (by decide)) (by decide)).only (Zg.of_upd (T:=[69]) l1 p8 (by decide)) (by decide)).below b0).below g2
 refine xr 0 (args:=#[P0 ba]) (Yy ba b _ _ _ e3.blkA) fun x9 g8=>?_
 have n0:=Zb (Ze n9 s1) g8
 have e1:=e3.below g8
 have e4:=blB (blB (blB (l1.below (p5.below (c0.trans f9) (Nat.le_trans hBw a0)) (Nat.le_trans hBw a0)) hBw b0) hBw g2) hBw g8
 refine xc 1 (args:=#[P0 b,V0 0,V0 1,.slice q7 244 d7]) (Uh B b (S1 g) (k*256) cc 0 (0:Int) (Pj x L k).2.2 1 q7 d7 244 (Hu (Zg2 t u v x L k)) _ rfl (Vq _) ⟨e1.blkI,e1.data,hC.hn⟩ (by omega) (by decide) (by decide) (Yr (Zd n0) (Vq _)) (by decide) (Nat.le_trans hBw e4.size)) ?_
 rintro _ ao ⟨rfl,t1,t8,hI⟩
 refine xr 0 (args:=#[.nilIface]) (Vo _) fun w4 i2=>?_
 have r2:=hI.below i2
 have m7:=blB (e4.trans t1) hBw i2
 exact xe 1 (.tuple #[]) ⟨rfl,m7,r2⟩
end Go.Proofs.YthhilbkandcbmaaGreatDoor
namespace Go.Proofs.YthhilbkandcbmaaGreatDoor
set_option maxHeartbeats 8000000
set_option maxRecDepth 100000
open Go.RowKit Go.Extern.Stop Go.Stop Go.Extern
set_option linter.unusedVariables false
attribute [local irreducible] wpList wpAnyH Code.wp Oper.wp Go
section
attribute [local semireducible] Oper.wp
theorem op_deferV{P:Program}{Q:Exit→Act→World→Prop}{a:Act}{w:World}{K:Act→World→Prop}{o:Oper}{c:Operand}{f:FuncId}{cap:Array Value}(ho:o.op=.defer { callee:=.value c,args:=#[],argTypes:=#[] })(hc:a.eval c=.func (.func f) #[] cap)
 (k:K ({ a with defers:={ target:=.fn (.func f) cap,args:=#[] }::a.defers }.put o.dst undef) w):o.wp P a w K Q:=by
 have h2:(execOp a.eval o).run P w=.ok (.defer { target:=.fn (.func f) cap,args:=#[] }) w:=by
  simp[execOp,ho,resolve,hc,Deferred.ofValue]
 simp only[Oper.wp,h2,Oper.upon]
 exact k
end
theorem g_retD{P:Program}{fn:Func}{R:Ending→World→Prop}{a:Act}{w:World}(f:FuncId)(cap:Array Value)(v:Value)(hd:a.defers=[{ target:=.fn (.func f) cap,args:=#[] }])(hi:∀ w,(invoke (.fn (.func f) cap) #[]).run P w=.ok (.enter f cap) w)
 (hc:CallsD P f cap .returning w fun e u w'=>e=.returned (.tuple #[])∧u=.returning∧B3 w w') (h:∀ W,B3 w W→(results fn a.tmps).run P W=.ok v W∧R (.returned v) W):bodyPostD P fn R .ret a w:=by
 show Leaves P fn a.tmps R a.defers .returning w
 rw[hd]
 refine leaves_cons (by simp) (hi w) (hc.mono ?_)
 rintro e u w' ⟨rfl,rfl,hb⟩
 obtain⟨h1,h2⟩:=h w' hb
 exact⟨v,h1,h2⟩
theorem Bt{P:Program}{w:World}{b:Nat}{t:TypeId}{x:Value}(k:Blk w b [x] t)(hu:aggB P t=some false):(loadVar t ⟨b,0,none⟩).run P w=.ok x w:=by
 have hc:w.cell? ⟨b,0,none⟩=some x:=k.cell (i:=0) rfl
 simp[loadVar,Sem.run_bind,Zai hu,load,Sem.run,hc]
theorem res_kk{P:Program}{fn:Func}{tmps:Array Value}{w:World}{k j:Nat}{t s:TypeId}{b c:Nat}{x y:Value}(hfn:fn.results=#[.cell k t,.cell j s])(e:tmps.getD k undef=P0 b)(e2:tmps.getD j undef=P0 c)
 (hx:Blk w b [x] t) (hy:Blk w c [y] s) (hu:aggB P t=some false) (hu2:aggB P s=some false):(results fn tmps).run P w=.ok (.tuple #[x,y]) w:=by
 have h:=Bt hx hu
 have h2:=Bt hy hu2
 have e':tmps[k]?.getD undef=P0 b:=by simpa using e
 have a0:tmps[j]?.getD undef=P0 c:=by simpa using e2
 simp[results,hfn,e',a0,asAddr,h,h2]
theorem lay_idle(b c:Nat)(w:World):CallsD Tryz.prog 23 #[P0 b,P0 c] .returning w fun e u w'=>e=.returned (.tuple #[])∧u=.returning∧B3 w w':=by
 refine callsD_of_wpS Tryz.func23 rfl fun c₀ cs hu=>?_
 have a0:∀ w,(Instr.typeAssert .nilIface 20 78 true).run Tryz.prog w=.ok (.tuple #[.agg #[.nilIface],.bool false]) w:=fun w=>by kernel_rfl
 apply wpS_seq
 apply wpS_region
 simp[wpOpsS,go_sem,recoverD,hu,Tryz.ntmps23,Exit.thenS,a0]
 apply wpS_seq
 apply wpS_region
 simp[wpOpsS,go_sem,Exit.thenS]
 refine wpS_cond (t:=false) (by simp[Act.eval,Array.replicate]) ?_
 simp only[Bool.false_eq_true,if_false]
 refine wpS_of_wp (wp_skip ?_)
 cases c₀
 have hb:=blx w (Obj.cells #[Value.nilIface] 78)
 simp_all [bodyPostS,results,Tryz.results23]
end Go.Proofs.YthhilbkandcbmaaGreatDoor
namespace Go.Proofs.YthhilbkandcbmaaGreatDoor
set_option maxHeartbeats 8000000
set_option maxRecDepth 100000
open Go.RowKit Go.Extern.Stop Go.Stop Go.Extern
set_option linter.unusedVariables false
attribute [local irreducible] wpList wpAnyH Code.wp Oper.wp Go
theorem Zfg(k:Nat)(w:World)(hk:k≤14400) :
 C0 25 #[V0 (k:Int)] w (Qd (fun w' r=>∃ b p c,r=.tuple #[P0 b,V0 0]∧w.heap.size≤b∧ImgR w.heap.size b p (k*256) c (List.replicate (k*256) (0:UInt8)) w') w):=by
 refine zin 15 Tryz.func25 ?_
 refine xgk 12 [5,6] (show(decide ((k:Int)<(0:Int)):Bool)=false from decide_eq_false (by omega)) ?_
 refine xk 5 (show(decide ((k:Int)>(14400:Int)):Bool)=false from decide_eq_false (by omega)) ?_
 refine xwm 5 ((k:Int)*256) (↑(k*256):Int) ?_
 refine xmk 0 fun _ _ _ _ zJ zQ zo zx zy zK=>Kc (k*256) (.int .u8 0) 1 1 ((List.replicate (k*256) (0:UInt8)).map bv) zo zx zy Tryz.underlying22 (by kernel_rfl) rfl (by omega) (by omega) (Oz (k*256)) fun b2 W2 n2=>?_
 refine zK _ _ ?_
 refine xa 1 [.slice (S1 b2) (k*256) (k*256)] 59 fun b3 W3 n3=>?_
 have hB:=bln n2.below n3.below
 have g3:=n3.ge n2.below
 have o2:=Zb (Zp (size:=1) (n:=(k*256)) n2.blk (n2.ge (B4 w)) (by rw[List.length_map,List.length_replicate,Nat.mul_one]) (by unfold maxLen;omega)) n3.below
 exact xe 5 (.tuple #[P0 b3,V0 0]) ⟨_,rfl,hB,_,_,_,rfl,g3,⟨n3.blk,o2,by omega⟩⟩
end Go.Proofs.YthhilbkandcbmaaGreatDoor
