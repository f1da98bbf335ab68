/- tally.Split of counts. -/
import Derived.RangeFuncNested
import Derived.RangeFuncBound
import Derived.RangeFuncCalls
import Derived.RangeFuncLeaves
import Derived.Shelf.Abstract
import Derived.Shelf.RegionOpen
import Derived.OwnWalkIn
import Derived.TacticsInMore
import Derived.LoopNIn
import Derived.LoopIn
import Derived.Sort.BigQuietIn
import Derived.Test.YtekomodnkfhihaaGreatDoorMg4
namespace Go.Proofs.YtekomodnkfhihaaGreatDoor
set_option maxHeartbeats 8000000
set_option maxRecDepth 100000
open Go.RowKit Go.Extern.Stop Go.Stop Go.Extern
set_option linter.unusedVariables false
attribute [local irreducible] wpList wpAnyH Code.wp Oper.wp Go
def SplitP(l:List Int)(w:World)(e:Ending)(w':World):Prop :=
 (Qd l≠0∧e=.returned (.tuple #[S0,S0,V0 2])∧B3 w w') ∨
 (Qd l=0∧∃ pb cb gs po co,e=.returned (.tuple #[.slice pb (bmN l.length) cb,.slice po (Zl l l.length).length co,V0 0])∧B3 w w'∧Lists w' w.heap.size (.slice pb (bmN l.length) cb) gs (Zo (Zh l) (bmN l.length))∧w'.ownsRow w.heap.size 124 3 (.slice po (Zl l l.length).length co) (Zl l l.length).length ((Zl l l.length).flatMap Yo))
theorem Rz{l:List Int}{i:Nat}(hl:l.length≤65536)(hi:i<l.length)(h:¬ Kr (l.getD i 0)):Qd l≠0:=fun q=>h ((Gj q).2 i hi)
theorem Za8{l:List Int}(hl:l.length≤65536)(h:∀ k,k<l.length→Kr (l.getD k 0)):Qd l=0:=by
 unfold Qd;rw[if_neg M0,if_pos h]
attribute [local go_sem] Oper.semAt_some
theorem g_retM{P:Program}{fn:Func}{R:Ending→World→Prop}{a:Act}{w:World}(v:Value)(hd:a.defers=[])(hr:(results fn a.tmps).run P w=.ok v w)(h:R (.returned v) w):bodyPostM Fence.wide 4 P fn R .ret a w:=by
 show LeavesInM _ _ _ _ a.tmps R a.defers .returning w
 rw[hd]
 exact⟨v,hr,h⟩
theorem Lists.put{W U:World}{D base:Nat}{v:Value}{gs:List (Nat×Nat)}{L:List (List Int)}(h:Lists W base v gs L)(u:Upd W D U)(hK:Dfr D W):Lists U base v gs L:=⟨u.own3 h.row (hK.row h.row),fun i hi=>u.own3 (h.each i hi) (hK.row (h.each i hi))⟩
theorem mn3_if(n:Int):(if 3<n then 3 else n)=mn3 n:=by unfold mn3;split<;>split<;>omega
def Hs(s:List Int){n:Nat}(pre:List (Fin n)):List (List Int):=pre.map fun j=>Vk s j.val
theorem Gi(s:List Int){n:Nat}(pre:List (Fin n))(x:Fin n):Hs s (pre++[x])=Hs s pre++[Vk s x.val]:=by simp[Hs]
theorem preC_all(s:List Int)(n:Nat):Hs s (List.finRange n)=Zo s n:=by
 unfold Hs Zo
 apply G5
 ·simp
 ·intro i h1 h2;simp
theorem Za7(a:O0)(c:Nat)(l:List Int)(w:World)(h:Sl w (.slice a l.length c) l.length (l.map V0))(hl:l.length≤65536) :
 C0 152 #[.slice a l.length c] w (SplitP l w):=by
 refine Pb Tryz.func152 rfl ?_
 refine g_fr ⟨#[.slice a l.length c,undef,undef,undef,undef,undef,undef,undef,undef,undef,undef,undef,undef,undef,undef,undef,undef,undef,undef,undef,undef,undef,undef,undef,undef,undef,undef,undef,undef,undef,undef,undef,undef,undef,undef,undef,undef,undef,undef,undef,undef,undef,undef,undef,undef,undef,undef,undef,undef,undef,undef,undef],[]⟩ K0 ?_
 refine wp_seq ?_
 refine wp_region_lit ?_
 refine Na 3 [(2,S0),(3,S0),(4,V0 0)] K0 ?_
 refine wpList_nil ?_
 refine wp_seq ?_
 refine wp_seq ?_
 refine wp_region_lit ?_
 refine Na 3 [(11,.slice a l.length c),(12,V0 (l.length:Int)),(13,.bool (decide ((l.length:Int)>(65536:Int))))] K0 ?_
 refine wpList_nil ?_
 refine wp_cond_split (t:=decide ((l.length:Int)>(65536:Int))) K0 (fun hh=>absurd (hh.symm.trans (show(decide ((l.length:Int)>(65536:Int)):Bool)=false from decide_eq_false M0)) Do) (fun _=>?_)
 refine wp_skip ?_
 refine wp_seq ?_
 refine wp_region_lit ?_
 refine Na 1 [(5,S0)] K0 ?_
 refine wpList_nil ?_
 refine wp_seq ?_
 refine wp_region_lit ?_
 refine Na 1 [(6,S0)] K0 ?_
 refine wpList_nil ?_
 refine wp_seq ?_
 refine wp_seq ?_
 refine wp_region_lit ?_
 refine Na 3 [(14,.slice a l.length c),(15,V0 (l.length:Int)),(16,V0 0)] K0 ?_
 refine wpList_nil ?_
 refine wp_block ?_
 refine g_fr ⟨#[.slice a l.length c,undef,S0,S0,V0 0,S0,S0,undef,undef,undef,undef,.slice a l.length c,V0 (l.length:Int),.bool (decide ((l.length:Int)>(65536:Int))),.slice a l.length c,V0 (l.length:Int),V0 0,undef,undef,undef,undef,undef,undef,undef,undef,undef,undef,undef,undef,undef,undef,undef,undef,undef,undef,undef,undef,undef,undef,undef,undef,undef,undef,undef,undef,undef,undef,undef,undef,undef,undef,undef],[]⟩ K0 ?_
 have hB:=Below.refl w.heap.size w
 refine wp_loop (fun i5 V=>∃ (i:Nat) (ps:O0) (cs:Nat) (po:O0) (co:Nat) (x2:Nat→Value),i5=⟨#[.slice a l.length c,undef,(x2 0),(x2 1),(x2 2),.slice ps i cs,.slice po ((Zl l i).length) co,(x2 3),(x2 4),undef,undef,.slice a l.length c,V0 (l.length:Int),.bool (decide ((l.length:Int)>(65536:Int))),.slice a l.length c,V0 (l.length:Int),V0 (i:Int),(x2 5),(x2 6),(x2 7),(x2 8),(x2 9),(x2 10),(x2 11),(x2 12),(x2 13),(x2 14),(x2 15),(x2 16),(x2 17),(x2 18),(x2 19),(x2 20),(x2 21),(x2 22),(x2 23),(x2 24),(x2 25),(x2 26),(x2 27),(x2 28),(x2 29),undef,undef,undef,undef,undef,undef,undef,undef,undef,undef],[]⟩∧B3 w V∧V.ownsRow w.heap.size 3 1 (.slice ps i cs) i ((Zh (l.take i)).map V0)∧V.ownsRow w.heap.size 124 3 (.slice po (Zl l i).length co) (Zl l i).length ((Zl l i).flatMap Yo)∧i≤l.length∧((∀ j,j<i→Kr (l.getD j 0)))) (fun i5 V=>l.length-((intOf (i5.tmps.getD 16 undef))).toNat) ⟨0,none,0,none,0,(pk [S0,S0,V0 0,undef,undef,undef,undef,undef,undef,undef,undef,undef,undef,undef,undef,undef,undef,undef,undef,undef,undef,undef,undef,undef,undef,undef,undef,undef,undef,undef]),rfl,hB,A4 _ _ _ _,A4 _ _ _ _,A3 _,?_⟩ ?_
 ·exact fun j hj=>absurd hj M0
 rintro _ W2 ⟨i,ps,cs,po,co,x2,rfl,hB,hs,ho,hi,hz⟩
 refine wp_seq ?_
 refine wp_region_lit ?_
 refine Na 1 [(17,.bool (decide ((i:Int)<(l.length:Int))))] K0 ?_
 refine wpList_nil ?_
 refine wp_seq ?_
 refine wp_cond_split (t:=decide ((i:Int)<(l.length:Int))) K0 (fun f5=>?_) (fun f5=>?_)
 ·have f5:=of_decide_eq_true f5
  refine wp_skip ?_
  refine wp_seq ?_
  refine wp_block ?_
  refine wp_seq ?_
  refine wp_region_lit ?_
  refine Na 1 [(18,V0 (i:Int))] K0 ?_
  refine Nl K0 (Hb (Sd (size:=1) (k:=i) (b:=a) (n:=l.length) (c:=c) (i:=(i:Int)) (ki:=.i64) rfl K0 K0 rfl M0 (Ints.elem h (k:=i) M0).1 Tryz.underlying27 K0 W2) ?_)
  refine Nl K0 (Gr (Xa a (i*1)) (V0 (l.getD i 0)) rfl K0 K0 (Ints.elem (h.below hB) (k:=i) M0).2 ?_)
  refine Na 2 [(7,V0 (i:Int)),(8,V0 (l.getD i 0))] K0 ?_
  refine wpList_nil ?_
  refine wp_seq ?_
  refine wp_seq ?_
  refine wp_region_lit ?_
  refine Na 3 [(21,V0 (l.getD i 0)),(22,.bool (decide ((l.getD i 0)<(0:Int)))),(23,.bool (decide ((l.getD i 0)<(0:Int))))] K0 ?_
  rcases Bool.eq_false_or_eq_true (decide ((l.getD i 0)<(0:Int))) with d9|d9
  ·refine g_b [22,23] _ _ d9 K0 ?_
   have d9:=of_decide_eq_true d9
   refine Na 3 [(24,undef),(25,undef),(26,.bool true)] K0 ?_
   refine wpList_nil ?_
   refine wp_cond_true K0 ?_
   refine wp_seq ?_
   refine wp_region_lit ?_
   refine Na 3 [(2,S0),(3,S0),(4,V0 2)] K0 ?_
   refine wpList_nil ?_
   refine wp_ret (Hh (Ua (Hh (Hh (Ua (Hh ?_))))))
   exact g_retM (.tuple #[S0,S0,V0 2]) K0 K0 (.inl ⟨Rz (i:=i) hl M0 (fun q=>by unfold Kr at q;omega),rfl,hB⟩)
  ·refine g_b [22,23] _ _ d9 K0 ?_
   have d9:=of_decide_eq_false d9
   refine Na 3 [(24,V0 (l.getD i 0)),(25,.bool (decide ((l.getD i 0)>(2147483647:Int)))),(26,.bool (decide ((l.getD i 0)>(2147483647:Int))))] K0 ?_
   refine wpList_nil ?_
   refine wp_cond_split (t:=decide ((l.getD i 0)>(2147483647:Int))) K0 (fun e8=>?_) (fun e8=>?_)
   ·have e8:=of_decide_eq_true e8
    refine wp_seq ?_
    refine wp_region_lit ?_
    refine Na 3 [(2,S0),(3,S0),(4,V0 2)] K0 ?_
    refine wpList_nil ?_
    refine wp_ret (Hh (Ua (Hh (Hh (Ua (Hh ?_))))))
    exact g_retM (.tuple #[S0,S0,V0 2]) K0 K0 (.inl ⟨Rz (i:=i) hl M0 (fun q=>by unfold Kr at q;omega),rfl,hB⟩)
   ·have e8:=of_decide_eq_false e8
    refine wp_skip ?_
    refine wp_seq ?_
    refine wp_region_lit ?_
    refine Na 3 [(27,.slice ps i cs),(28,V0 (l.getD i 0)),(29,V0 (if(3:Int)<(l.getD i 0) then(3:Int) else(l.getD i 0)))] K0 ?_
    refine Nl K0 (Qz 3 [V0 (if(3:Int)<(l.getD i 0) then(3:Int) else(l.getD i 0))] rfl K0 ?_)
    intro b6 W6 n6
    have g6:=n6.ge hB
    have k0:=Zg hs n6
    replace hB:=bln hB n6.below
    replace hs:=Za hs n6.below
    replace ho:=Za ho n6.below
    have k6:=n6.blk
    refine Nl K0 (Zr (e:=3) (n:=i) (xs:=(Zh (l.take i)).map V0) (m:=1) (news:=[V0 (if(3:Int)<(l.getD i 0) then(3:Int) else(l.getD i 0))]) (V0 0) 1 8 (i+1) ((Zh (l.take (i+1))).map V0) rfl Tryz.underlying27 K0 rfl Do K0 hs K0 (k6.sl 1 1 Do Do) rfl (by simp[Value.oneCell']) (by unfold maxLen;omega) M0 hB.size (by rfl) (by rw[mn3_if,Zf6 M0,A9];rfl) ?_)
    intro p7 c7 W7 o7 m8 n1
    replace ho:=Zp ho m8 hs Do
    replace hB:=hB.trans n1
    refine Na 1 [(5,.slice p7 (i+1) c7)] K0 ?_
    refine wpList_nil ?_
    refine wp_seq ?_
    refine wp_region_lit ?_
    refine Na 2 [(32,V0 (l.getD i 0)),(33,.bool (decide ((l.getD i 0)≥(3:Int))))] K0 ?_
    refine wpList_nil ?_
    refine wp_cond_split (t:=decide ((l.getD i 0)≥(3:Int))) K0 (fun f4=>?_) (fun f4=>?_)
    ·have f4:=of_decide_eq_true f4
     refine wp_region_lit ?_
     refine Na 3 [(34,.slice po ((Zl l i).length) co),(35,V0 (i:Int)),(36,V0 (l.getD i 0))] K0 ?_
     refine Nl K0 (Hq (lb:=#[]) 216 #[V0 (l.getD i 0)] rfl K0 (fun _ _=>by kernel_rfl) K0 ((Zck (l.getD i 0) M0 M0 _).mono ?_))
     rintro e W9 ⟨rfl,c0⟩
     refine⟨_,rfl,?_⟩
     replace hB:=bln hB c0
     replace ho:=Za ho c0
     replace o7:=Za o7 c0
     refine Na 1 [(38,.agg #[V0 (i:Int),.string ⟨(leB (l.getD i 0) 4).toArray⟩,V0 0])] K0 ?_
     refine Nl K0 (Qz 124 [V0 (i:Int),.string ⟨(leB (l.getD i 0) 4).toArray⟩,V0 0] rfl K0 ?_)
     intro k5 n3 e5
     have n5:=e5.ge hB
     have h9:=Zg ho e5
     replace hB:=bln hB e5.below
     replace ho:=Za ho e5.below
     replace o7:=Za o7 e5.below
     have m2:=e5.blk
     refine Nl K0 (Zr (e:=124) (n:=(Zl l i).length) (xs:=(Zl l i).flatMap Yo) (m:=1) (news:=[V0 (i:Int),.string ⟨(leB (l.getD i 0) 4).toArray⟩,V0 0]) (.agg #[V0 0,.string ⟨#[]⟩,V0 0]) 3 32 ((Zl l (i+1)).length) ((Zl l (i+1)).flatMap Yo) rfl Tryz.underlying99 K0 rfl Do K0 ho K0 (m2.sl 1 1 Do Do) rfl (by simp[Value.oneCell']) (by have:=Ji l i;unfold maxLen;omega) (by have:=Ji l i;omega) hB.size (by rw[Vj M0];simp) (by rw[Vj M0];simp[Yo]) ?_)
     intro f9 g8 o4 m3 h6 i4
     replace o7:=Zp o7 h6 ho Do
     replace hB:=hB.trans i4
     refine Na 1 [(6,.slice f9 ((Zl l (i+1)).length) g8)] K0 ?_
     refine wpList_nil ?_
     refine wp_region_lit ?_
     refine Nl K0 (Zk7 .i64 ((i:Int)+1) (↑(i+1):Int) K0 ((show IntKind.i64.wrap ((i:Int)+1)=((i:Int)+1) from by first|exact IntWalk.i64_in _ M0|(simp only[IntKind.wrap];omega)).trans M0) ?_)
     refine Na 1 [(16,V0 (↑(i+1):Int))] K0 ?_
     refine wpList_nil ?_
     refine g_nfr ⟨#[.slice a l.length c,undef,(x2 0),(x2 1),(x2 2),.slice p7 (i+1) c7,.slice f9 ((Zl l (i+1)).length) g8,V0 (i:Int),V0 (l.getD i 0),undef,undef,.slice a l.length c,V0 (l.length:Int),.bool (decide ((l.length:Int)>(65536:Int))),.slice a l.length c,V0 (l.length:Int),V0 (↑(i+1):Int),.bool (decide ((i:Int)<(l.length:Int))),V0 (i:Int),.pointer (some (Xa a (i*1))),V0 (l.getD i 0),V0 (l.getD i 0),.bool false,.bool false,V0 (l.getD i 0),.bool (decide ((l.getD i 0)>(2147483647:Int))),.bool (decide ((l.getD i 0)>(2147483647:Int))),.slice ps i cs,V0 (l.getD i 0),V0 (if(3:Int)<(l.getD i 0) then(3:Int) else(l.getD i 0)),.slice (S1 b6) 1 1,.slice p7 (i+1) c7,V0 (l.getD i 0),.bool (decide ((l.getD i 0)≥(3:Int))),.slice po ((Zl l i).length) co,V0 (i:Int),V0 (l.getD i 0),.string ⟨(leB (l.getD i 0) 4).toArray⟩,.agg #[V0 (i:Int),.string ⟨(leB (l.getD i 0) 4).toArray⟩,V0 0],.slice (S1 k5) 1 1,.slice f9 ((Zl l (i+1)).length) g8,V0 (↑(i+1):Int),undef,undef,undef,undef,undef,undef,undef,undef,undef,undef],[]⟩ K0 ?_
     refine⟨⟨i+1,_,_,_,_,(pk [(x2 0),(x2 1),(x2 2),V0 (i:Int),V0 (l.getD i 0),.bool (decide ((i:Int)<(l.length:Int))),V0 (i:Int),.pointer (some (Xa a (i*1))),V0 (l.getD i 0),V0 (l.getD i 0),.bool false,.bool false,V0 (l.getD i 0),.bool (decide ((l.getD i 0)>(2147483647:Int))),.bool (decide ((l.getD i 0)>(2147483647:Int))),.slice ps i cs,V0 (l.getD i 0),V0 (if(3:Int)<(l.getD i 0) then(3:Int) else(l.getD i 0)),.slice (S1 b6) 1 1,.slice p7 (i+1) c7,V0 (l.getD i 0),.bool (decide ((l.getD i 0)≥(3:Int))),.slice po ((Zl l i).length) co,V0 (i:Int),V0 (l.getD i 0),.string ⟨(leB (l.getD i 0) 4).toArray⟩,.agg #[V0 (i:Int),.string ⟨(leB (l.getD i 0) 4).toArray⟩,V0 0],.slice (S1 k5) 1 1,.slice f9 ((Zl l (i+1)).length) g8,V0 (↑(i+1):Int)]),rfl,hB,o7,m3,by omega,fun j hj=>(C3 j i).elim (hz j) (fun q=>by obtain rfl:j=i:=M0;exact⟨by omega,by omega⟩)⟩,?_⟩
     show l.length-((↑(i+1):Int)).toNat<l.length-((i:Int)).toNat
     omega
    ·have f4:=of_decide_eq_false f4
     refine wp_skip ?_
     refine wp_region_lit ?_
     refine Nl K0 (Zk7 .i64 ((i:Int)+1) (↑(i+1):Int) K0 ((show IntKind.i64.wrap ((i:Int)+1)=((i:Int)+1) from by first|exact IntWalk.i64_in _ M0|(simp only[IntKind.wrap];omega)).trans M0) ?_)
     refine Na 1 [(16,V0 (↑(i+1):Int))] K0 ?_
     refine wpList_nil ?_
     refine g_nfr ⟨#[.slice a l.length c,undef,(x2 0),(x2 1),(x2 2),.slice p7 (i+1) c7,.slice po ((Zl l i).length) co,V0 (i:Int),V0 (l.getD i 0),undef,undef,.slice a l.length c,V0 (l.length:Int),.bool (decide ((l.length:Int)>(65536:Int))),.slice a l.length c,V0 (l.length:Int),V0 (↑(i+1):Int),.bool (decide ((i:Int)<(l.length:Int))),V0 (i:Int),.pointer (some (Xa a (i*1))),V0 (l.getD i 0),V0 (l.getD i 0),.bool false,.bool false,V0 (l.getD i 0),.bool (decide ((l.getD i 0)>(2147483647:Int))),.bool (decide ((l.getD i 0)>(2147483647:Int))),.slice ps i cs,V0 (l.getD i 0),V0 (if(3:Int)<(l.getD i 0) then(3:Int) else(l.getD i 0)),.slice (S1 b6) 1 1,.slice p7 (i+1) c7,V0 (l.getD i 0),.bool (decide ((l.getD i 0)≥(3:Int))),(x2 22),(x2 23),(x2 24),(x2 25),(x2 26),(x2 27),(x2 28),V0 (↑(i+1):Int),undef,undef,undef,undef,undef,undef,undef,undef,undef,undef],[]⟩ K0 ?_
     refine g_nfr ⟨#[.slice a l.length c,undef,(x2 0),(x2 1),(x2 2),.slice p7 (i+1) c7,.slice po ((Zl l (i+1)).length) co,V0 (i:Int),V0 (l.getD i 0),undef,undef,.slice a l.length c,V0 (l.length:Int),.bool (decide ((l.length:Int)>(65536:Int))),.slice a l.length c,V0 (l.length:Int),V0 (↑(i+1):Int),.bool (decide ((i:Int)<(l.length:Int))),V0 (i:Int),.pointer (some (Xa a (i*1))),V0 (l.getD i 0),V0 (l.getD i 0),.bool false,.bool false,V0 (l.getD i 0),.bool (decide ((l.getD i 0)>(2147483647:Int))),.bool (decide ((l.getD i 0)>(2147483647:Int))),.slice ps i cs,V0 (l.getD i 0),V0 (if(3:Int)<(l.getD i 0) then(3:Int) else(l.getD i 0)),.slice (S1 b6) 1 1,.slice p7 (i+1) c7,V0 (l.getD i 0),.bool (decide ((l.getD i 0)≥(3:Int))),(x2 22),(x2 23),(x2 24),(x2 25),(x2 26),(x2 27),(x2 28),V0 (↑(i+1):Int),undef,undef,undef,undef,undef,undef,undef,undef,undef,undef],[]⟩ (by rw[Qw M0]) ?_
     refine⟨⟨i+1,_,_,_,_,(pk [(x2 0),(x2 1),(x2 2),V0 (i:Int),V0 (l.getD i 0),.bool (decide ((i:Int)<(l.length:Int))),V0 (i:Int),.pointer (some (Xa a (i*1))),V0 (l.getD i 0),V0 (l.getD i 0),.bool false,.bool false,V0 (l.getD i 0),.bool (decide ((l.getD i 0)>(2147483647:Int))),.bool (decide ((l.getD i 0)>(2147483647:Int))),.slice ps i cs,V0 (l.getD i 0),V0 (if(3:Int)<(l.getD i 0) then(3:Int) else(l.getD i 0)),.slice (S1 b6) 1 1,.slice p7 (i+1) c7,V0 (l.getD i 0),.bool (decide ((l.getD i 0)≥(3:Int))),(x2 22),(x2 23),(x2 24),(x2 25),(x2 26),(x2 27),(x2 28),V0 (↑(i+1):Int)]),rfl,hB,o7,(by rw[Qw M0];exact ho),by omega,fun j hj=>(C3 j i).elim (hz j) (fun q=>by obtain rfl:j=i:=M0;exact⟨by omega,by omega⟩)⟩,?_⟩
     show l.length-((↑(i+1):Int)).toNat<l.length-((i:Int)).toNat
     omega
 ·have f5:=of_decide_eq_false f5
  refine wp_exit ?_
  refine Zam ?_
  refine Zam ?_
  refine Zb5 ?_
  refine wp_seq ?_
  refine wp_region_lit ?_
  refine Nl K0 (Cb [S0] rfl K0 ?_)
  intro b4 o0 f1
  have l6:=f1.ge hB
  replace hB:=bln hB f1.below
  replace hs:=Za hs f1.below
  replace ho:=Za ho f1.below
  have c6:=f1.blk
  refine wpList_nil ?_
  refine wp_seq ?_
  refine wp_seq ?_
  refine wp_region_lit ?_
  refine Na 1 [(42,.slice ps i cs)] K0 ?_
  refine Nl K0 (Hq (lb:=#[]) 217 #[.slice ps i cs,V0 960] rfl K0 (fun _ _=>by kernel_rfl) K0 ((Ic ps i cs _).mono ?_))
  rintro e c8 ⟨b1,b2,rfl,c3,n9,n4,m4,e1,e2⟩
  refine⟨_,rfl,?_⟩
  replace hB:=bln hB c3
  replace c6:=c6.below c3
  replace hs:=Za hs c3
  replace ho:=Za ho c3
  refine wpList_nil ?_
  refine wp_block ?_
  have j3:i=l.length:=by omega
  obtain⟨g,hv⟩:=row_or hs
  have m7:=Zbs b1 b2 (fun b=>b<c8.heap.size∧b≠b4) g 0 i cs (.slice ps i cs) c8 (fun b h=>h.1) ⟨e1.lt,(by rintro rfl;exact absurd (e1.ty c6) Do)⟩ ⟨e2.lt,(by rintro rfl;exact absurd (e2.ty c6) Do)⟩ M0 hv (e1.cell (i:=0) rfl) (e2.cell (i:=0) rfl)
  refine g_fr ⟨#[.slice a l.length c,undef,(x2 0),(x2 1),(x2 2),.slice ps i cs,.slice po ((Zl l i).length) co,(x2 3),(x2 4),P0 b4,undef,.slice a l.length c,V0 (l.length:Int),.bool (decide ((l.length:Int)>(65536:Int))),.slice a l.length c,V0 (l.length:Int),V0 (i:Int),.bool (decide ((i:Int)<(l.length:Int))),(x2 6),(x2 7),(x2 8),(x2 9),(x2 10),(x2 11),(x2 12),(x2 13),(x2 14),(x2 15),(x2 16),(x2 17),(x2 18),(x2 19),(x2 20),(x2 21),(x2 22),(x2 23),(x2 24),(x2 25),(x2 26),(x2 27),(x2 28),(x2 29),.slice ps i cs,.func (.func 261) #[] #[P0 b1,P0 b2],undef,undef,undef,undef,undef,undef,undef,undef],[]⟩ K0 ?_
  refine wp_range (g:=.tmp 43) (gf:=261) (lb:=#[P0 b1,P0 b2]) rfl (enters_of Tryz.func261 K0 rfl) _ (fun b h=>h.1) m7 (fun _=>rfl)
   (fun a0 W=>(∃ pb cb gs,gs.length=a0.length∧Blk W b4 [.slice pb (Hs (Zh (l.take i)) a0).length cb] 225∧Lists W c8.heap.size (.slice pb (Hs (Zh (l.take i)) a0).length cb) gs (Hs (Zh (l.take i)) a0))∧BelowBut c8 b4 W)
   (fun _ _ _=>False) ?own (fun _ _ _ _ _ h _ _=>h) ⟨⟨none,0,[],rfl,c6,⟨A4 _ _ _ _,fun i hi=>absurd hi (Nat.not_lt_zero _)⟩⟩,(Below.refl _ _).but _⟩
   (fun x a' _=>a'={ tmps:=#[.slice a l.length c,undef,(x2 0),(x2 1),(x2 2),.slice ps i cs,.slice po ((Zl l i).length) co,(x2 3),(x2 4),P0 b4,.slice (some ⟨g,0+x.val*960,none⟩) (min 960 (i-x.val*960)) (min 960 (i-x.val*960)),.slice a l.length c,V0 (l.length:Int),.bool (decide ((l.length:Int)>(65536:Int))),.slice a l.length c,V0 (l.length:Int),V0 (i:Int),.bool (decide ((i:Int)<(l.length:Int))),(x2 6),(x2 7),(x2 8),(x2 9),(x2 10),(x2 11),(x2 12),(x2 13),(x2 14),(x2 15),(x2 16),(x2 17),(x2 18),(x2 19),(x2 20),(x2 21),(x2 22),(x2 23),(x2 24),(x2 25),(x2 26),(x2 27),(x2 28),(x2 29),.slice ps i cs,.func (.func 261) #[] #[P0 b1,P0 b2],.slice (some ⟨g,0+x.val*960,none⟩) (min 960 (i-x.val*960)) (min 960 (i-x.val*960)),undef,undef,undef,undef,undef,undef,undef],defers:=[] }) (fun _ _ _ _ _ _ h _ _=>h) ?assign ?body ?done (fun _ _ _ _ _ _ h _=>h.elim)
  case own=>exact OwnFrom.and (Own.from (fun s A B o1 hs hg hr=>by obtain⟨pb,cb,gs,h0,h1,h2⟩:=hs;exact⟨pb,cb,gs,h0,h1.turn hg hr,h2.turn hg hr⟩) _) (Zbz (A6 _))
  case assign =>
   rintro lr a0 x W K hI hK
   unfold encK
   gi_wp2
   refine hK _ _ (KeepsFrom.refl _ _) (Keeps.refl _ _) hI ?_
   simp only[j3,F1,decide_eq_false (show ¬ ((l.length:Int)>65536) by omega),Int.lt_irrefl,decide_false]
  case body =>
   rintro lr a0 x a' W o3 ⟨⟨pb,cb,gs,d3,m9,hL⟩,e4⟩ rfl o2
   have hx:=bmN_lt x.isLt
   have n0:=hv.resolve_left (fun q=>by omega)
   have a2:=e4.own2 hs c6 Do
   rw[n0.1] at a2
   obtain⟨m,hm⟩:∃ m,min 960 (i-x.val*960)=m:=⟨_,rfl⟩
   rw[hm]
   have e7:0<m:=by omega
   have l7:x.val*960+m≤i:=by omega
   have g9:(Zh (l.take i)).length=i:=by simp[Zh];omega
   have d2:(Vk (Zh (l.take i)) x.val).length=m:=by rw[Hu,g9];exact hm
   have j6:(((Zh (l.take i)).map V0).drop (x.val*960)).take m=(Vk (Zh (l.take i)) x.val).map V0:=by rw[←H7,←Gt];unfold Vk;rw[show((Zh (l.take i)).drop (x.val*960)).take m=((Zh (l.take i)).drop (x.val*960)).take 960 from by rw[Lt,I5,g9];omega]
   have i8:(Hs (Zh (l.take i)) a0).length=a0.length:=by simp[Hs]
   have o5:a0.length≤69:=by have:bmN i≤69:=(by unfold bmN;omega);omega
   have a1:=hL.row
   have hE:Each W c8.heap.size gs (Hs (Zh (l.take i)) a0):=hL.each
   have hZ:RdZ c8 b4 W W:=RdZ.refl e4
   have a7:c8.heap.size≤W.heap.size:=e4.size
   have a3:w.heap.size≤c8.heap.size:=hB.size
   have c0:=l6
   refine wpIn_block ?_
   have hB:=blB (Below.refl w.heap.size W) (N0 a3 a7) (Zb W)
   replace m9:=m9.below (Zb W)
   replace a2:=Za a2 (Zb W)
   replace a1:=Za a1 (Zb W)
   replace hE:=hE.below (Zb W)
   replace hZ:=hZ.below (Zb W)
   refine h_regIn (fun V=>Below w.heap.size (W.drew) V∧Zd [225,27] (W.drew) V) 6 rfl #[false,false,false,false,false,false] rfl K0 (fun⟨_,_,q⟩=>q) (by simp) ⟨Below.refl _ _,Zd.refl _ _⟩ ?_
   intro c4
   have a5:=hB
   have f2:=m9
   have i3:=a1
   refine h_pv [1] 5 rfl #[false,true,false,false,false,false] [(46,.slice (some ⟨g,0+x.val*960,none⟩) m m)] K0 (fun _ _ _ _ _ h=>h) K0 c4 ?_
   refine h_two 0 2 4 rfl K0 rfl rfl K0 K0 ?_ ?_
   ·refine Gr ⟨b4,0,none⟩ (.slice pb ((Hs (Zh (l.take i)) a0).length) cb) rfl K0 K0 (m9.cell (i:=0) rfl) ?_
    have d7:Below w.heap.size (W.drew) (W.drew)∧Zd [225,27] (W.drew) (W.drew):=c4
    refine⟨d7,?_⟩
    have h4:W.heap.size≤(W.drew).heap.size:=hB.size
    refine Fw 2 3 rfl K0 rfl K0 (Hq (lb:=#[]) 135 #[.slice (some ⟨g,0+x.val*960,none⟩) m m] rfl K0 (fun _ _=>by kernel_rfl) K0 ((Ml ⟨g,0+x.val*960,none⟩ m m ((Vk (Zh (l.take i)) x.val).map V0) _ (j6▸Sl.midI (Ze a2) (by rw[At];exact g9) (x.val*960) m e7 l7) (by rw[At];exact d2) (fun u hu=>by obtain⟨y,_,rfl⟩:=List.mem_map.1 hu;rfl) M0).mono ?_))
    rintro e l2 ⟨_,rfl,a6,q,c2,rfl,hq⟩
    refine⟨_,rfl,?_⟩
    replace hB:=blB hB (N0 a3 a7) a6
    replace m9:=m9.below a6
    replace a2:=Za a2 a6
    replace a1:=Za a1 a6
    replace hE:=hE.below a6
    replace hZ:=hZ.below a6
    replace hq:=Zf hq h4
    have c1:Below w.heap.size (W.drew) (l2)∧Zd [225,27] (W.drew) (l2):=⟨blB d7.1 (N0 (N0 a3 a7) a5.size) a6,d7.2.trans (Zd.of_below a6)⟩
    refine⟨c1,?_⟩
    refine Fw 3 2 rfl K0 rfl K0 (Qz 27 [.slice q m c2] rfl K0 ?_)
    intro l8 l1 a9
    have g1:=a9.ne m9
    have o6:=a9.ge0 hB
    have g3:=Zg a1 a9
    have i2:(W.drew).heap.size≤l8:=by have:=c1.1.size;have:=a9.at_;omega
    replace hB:=blB hB (N0 a3 a7) a9.below
    replace m9:=m9.below a9.below
    replace a2:=Za a2 a9.below
    replace a1:=Za a1 a9.below
    replace hE:=hE.below a9.below
    replace hZ:=hZ.below a9.below
    replace hq:=Za hq a9.below
    have m5:=a9.blk
    have d8:Below w.heap.size (W.drew) (l1)∧Zd [225,27] (W.drew) (l1):=⟨blB c1.1 (N0 (N0 a3 a7) a5.size) a9.below,c1.2.trans (Zd.of_below a9.below)⟩
    refine⟨d8,?_⟩
    refine Fw 4 1 rfl K0 rfl K0 (Zr (e:=27) (n:=(Hs (Zh (l.take i)) a0).length) (xs:=(List.range (Hs (Zh (l.take i)) a0).length).map (Bq gs (Hs (Zh (l.take i)) a0))) (m:=1) (news:=[.slice q m c2]) (S0) 1 24 ((Hs (Zh (l.take i)) a0).length+1) ((List.range (Hs (Zh (l.take i)) a0).length).map (Bq gs (Hs (Zh (l.take i)) a0))++[.slice q m c2]) rfl Tryz.underlying225 K0 rfl Do K0 a1 K0 (m5.sl 1 1 Do Do) rfl (by simp[Value.oneCell']) (by unfold maxLen;omega) M0 (N0 a7 hZ.le) (by simp) (by simp) ?_)
    intro l0 j4 j9 i9 b5 e6
    replace m9:=m9.grown b5 a1 Do
    replace a2:=Zp a2 b5 a1 Do
    replace hE:=hE.only (Zd.of_grown (T:=[27]) b5 a1 Do) Do
    replace hZ:=hZ.grown b5 a1
    replace hq:=Zp hq b5 a1 Do
    replace hB:=hB.trans (e6.mono a3)
    have d4:Below w.heap.size (W.drew) (j9)∧Zd [225,27] (W.drew) (j9):=⟨d8.1.trans (e6.mono a3),d8.2.trans (Zd.of_grown b5 a1 Do)⟩
    refine⟨d4,?_⟩
    refine Fw 5 0 rfl K0 rfl K0 (Wo (v:=.slice l0 ((Hs (Zh (l.take i)) a0).length+1) j4) (b:=b4) (off:=0) rfl K0 K0 K0 rfl m9 (by first|decide|simp) ?_)
    intro j8 c9 j0
    change Blk _ _ [.slice l0 ((Hs (Zh (l.take i)) a0).length+1) j4] _ at j0
    replace hB:=c9.below hB c0
    replace a2:=c9.own2 a2 m9 Do
    replace hE:=hE.only (Zd.of_upd (T:=[225]) c9 m9 Do) Do
    replace hZ:=hZ.upd c9 m9
    replace hq:=c9.own2 hq m9 Do
    replace i9:=c9.own2 i9 m9 Do
    have i7:Below w.heap.size (W.drew) (j8)∧Zd [225,27] (W.drew) (j8):=⟨c9.below d4.1 c0,d4.2.trans (Zd.of_upd c9 m9 Do)⟩
    refine⟨i7,?_⟩
    refine Zks _ K0 ?_
    obtain⟨g2,rfl,k1⟩:=Qf hq e7
    rw[←d2] at hq
    have a4:=i9
    rw[←d2] at a4
    have hS:=Lists.snoc (n:=(Hs (Zh (l.take i)) a0).length+1) rfl a4 hE (Zf hq a7) (by rw[d3,i8])
    exact⟨hZ.ko.from _,⟨hZ.le,fun b hb=>hZ.fr b hb.1 hb.2⟩,⟨_,_,gs++[(g2,_)],by simp[d3],by rw[Gi,A5];exact j0,by rw[Gi,A5];exact hS⟩,hZ.bb⟩
   ·have h5:W.heap.size≤(W.drew).heap.size:=hB.size
    refine Hq (lb:=#[]) 135 #[.slice (some ⟨g,0+x.val*960,none⟩) m m] rfl K0 (fun _ _=>by kernel_rfl) K0 ((Ml ⟨g,0+x.val*960,none⟩ m m ((Vk (Zh (l.take i)) x.val).map V0) _ (j6▸Sl.midI (Ze a2) (by rw[At];exact g9) (x.val*960) m e7 l7) (by rw[At];exact d2) (fun u hu=>by obtain⟨y,_,rfl⟩:=List.mem_map.1 hu;rfl) M0).mono ?_)
    rintro e g0 ⟨_,rfl,a8,q,c2,rfl,hq⟩
    refine⟨_,rfl,?_⟩
    replace hB:=blB hB (N0 a3 a7) a8
    replace m9:=m9.below a8
    replace a2:=Za a2 a8
    replace a1:=Za a1 a8
    replace hE:=hE.below a8
    replace hZ:=hZ.below a8
    replace hq:=Zf hq h5
    have b9:Below w.heap.size (W.drew) (g0)∧Zd [225,27] (W.drew) (g0):=⟨blB c4.1 (N0 (N0 a3 a7) a5.size) a8,c4.2.trans (Zd.of_below a8)⟩
    refine⟨b9,?_⟩
    refine h_two 0 3 3 rfl K0 rfl rfl K0 K0 ?_ ?_
    ·refine Gr ⟨b4,0,none⟩ (.slice pb ((Hs (Zh (l.take i)) a0).length) cb) rfl K0 K0 (m9.cell (i:=0) rfl) ?_
     have c5:Below w.heap.size (W.drew) (g0)∧Zd [225,27] (W.drew) (g0):=b9
     refine⟨c5,?_⟩
     refine Fw 3 2 rfl K0 rfl K0 (Qz 27 [.slice q m c2] rfl K0 ?_)
     intro m0 k2 b3
     have f6:=b3.ne m9
     have n8:=b3.ge0 hB
     have f8:=Zg a1 b3
     have h7:(W.drew).heap.size≤m0:=by have:=c5.1.size;have:=b3.at_;omega
     replace hB:=blB hB (N0 a3 a7) b3.below
     replace m9:=m9.below b3.below
     replace a2:=Za a2 b3.below
     replace a1:=Za a1 b3.below
     replace hE:=hE.below b3.below
     replace hZ:=hZ.below b3.below
     replace hq:=Za hq b3.below
     have m1:=b3.blk
     have e3:Below w.heap.size (W.drew) (k2)∧Zd [225,27] (W.drew) (k2):=⟨blB c5.1 (N0 (N0 a3 a7) a5.size) b3.below,c5.2.trans (Zd.of_below b3.below)⟩
     refine⟨e3,?_⟩
     refine Fw 4 1 rfl K0 rfl K0 (Zr (e:=27) (n:=(Hs (Zh (l.take i)) a0).length) (xs:=(List.range (Hs (Zh (l.take i)) a0).length).map (Bq gs (Hs (Zh (l.take i)) a0))) (m:=1) (news:=[.slice q m c2]) (S0) 1 24 ((Hs (Zh (l.take i)) a0).length+1) ((List.range (Hs (Zh (l.take i)) a0).length).map (Bq gs (Hs (Zh (l.take i)) a0))++[.slice q m c2]) rfl Tryz.underlying225 K0 rfl Do K0 a1 K0 (m1.sl 1 1 Do Do) rfl (by simp[Value.oneCell']) (by unfold maxLen;omega) M0 (N0 a7 hZ.le) (by simp) (by simp) ?_)
     intro j2 k8 l4 h8 b7 f3
     replace m9:=m9.grown b7 a1 Do
     replace a2:=Zp a2 b7 a1 Do
     replace hE:=hE.only (Zd.of_grown (T:=[27]) b7 a1 Do) Do
     replace hZ:=hZ.grown b7 a1
     replace hq:=Zp hq b7 a1 Do
     replace hB:=hB.trans (f3.mono a3)
     have e0:Below w.heap.size (W.drew) (l4)∧Zd [225,27] (W.drew) (l4):=⟨e3.1.trans (f3.mono a3),e3.2.trans (Zd.of_grown b7 a1 Do)⟩
     refine⟨e0,?_⟩
     refine Fw 5 0 rfl K0 rfl K0 (Wo (v:=.slice j2 ((Hs (Zh (l.take i)) a0).length+1) k8) (b:=b4) (off:=0) rfl K0 K0 K0 rfl m9 (by first|decide|simp) ?_)
     intro j1 d0 j5
     change Blk _ _ [.slice j2 ((Hs (Zh (l.take i)) a0).length+1) k8] _ at j5
     replace hB:=d0.below hB c0
     replace a2:=d0.own2 a2 m9 Do
     replace hE:=hE.only (Zd.of_upd (T:=[225]) d0 m9 Do) Do
     replace hZ:=hZ.upd d0 m9
     replace hq:=d0.own2 hq m9 Do
     replace h8:=d0.own2 h8 m9 Do
     have i1:Below w.heap.size (W.drew) (j1)∧Zd [225,27] (W.drew) (j1):=⟨d0.below e0.1 c0,e0.2.trans (Zd.of_upd d0 m9 Do)⟩
     refine⟨i1,?_⟩
     refine Zks _ K0 ?_
     obtain⟨g2,rfl,k1⟩:=Qf hq e7
     rw[←d2] at hq
     have a4:=h8
     rw[←d2] at a4
     have hS:=Lists.snoc (n:=(Hs (Zh (l.take i)) a0).length+1) rfl a4 hE (Zf hq a7) (by rw[d3,i8])
     exact⟨hZ.ko.from _,⟨hZ.le,fun b hb=>hZ.fr b hb.1 hb.2⟩,⟨_,_,gs++[(g2,_)],by simp[d3],by rw[Gi,A5];exact j5,by rw[Gi,A5];exact hS⟩,hZ.bb⟩
    ·refine Qz 27 [.slice q m c2] rfl K0 ?_
     intro l9 g5 b0
     have g7:=b0.ne m9
     have n7:=b0.ge0 hB
     have f7:=Zg a1 b0
     have i0:(W.drew).heap.size≤l9:=by have:=b9.1.size;have:=b0.at_;omega
     replace hB:=blB hB (N0 a3 a7) b0.below
     replace m9:=m9.below b0.below
     replace a2:=Za a2 b0.below
     replace a1:=Za a1 b0.below
     replace hE:=hE.below b0.below
     replace hZ:=hZ.below b0.below
     replace hq:=Za hq b0.below
     have n2:=b0.blk
     have f0:Below w.heap.size (W.drew) (g5)∧Zd [225,27] (W.drew) (g5):=⟨blB b9.1 (N0 (N0 a3 a7) a5.size) b0.below,b9.2.trans (Zd.of_below b0.below)⟩
     refine⟨f0,?_⟩
     refine Fw 0 2 rfl K0 rfl K0 (Gr ⟨b4,0,none⟩ (.slice pb ((Hs (Zh (l.take i)) a0).length) cb) rfl K0 K0 (m9.cell (i:=0) rfl) ?_)
     have d5:Below w.heap.size (W.drew) (g5)∧Zd [225,27] (W.drew) (g5):=f0
     refine⟨d5,?_⟩
     refine Fw 4 1 rfl K0 rfl K0 (Zr (e:=27) (n:=(Hs (Zh (l.take i)) a0).length) (xs:=(List.range (Hs (Zh (l.take i)) a0).length).map (Bq gs (Hs (Zh (l.take i)) a0))) (m:=1) (news:=[.slice q m c2]) (S0) 1 24 ((Hs (Zh (l.take i)) a0).length+1) ((List.range (Hs (Zh (l.take i)) a0).length).map (Bq gs (Hs (Zh (l.take i)) a0))++[.slice q m c2]) rfl Tryz.underlying225 K0 rfl Do K0 a1 K0 (n2.sl 1 1 Do Do) rfl (by simp[Value.oneCell']) (by unfold maxLen;omega) M0 (N0 a7 hZ.le) (by simp) (by simp) ?_)
     intro k9 k3 k4 h3 b8 e9
     replace m9:=m9.grown b8 a1 Do
     replace a2:=Zp a2 b8 a1 Do
     replace hE:=hE.only (Zd.of_grown (T:=[27]) b8 a1 Do) Do
     replace hZ:=hZ.grown b8 a1
     replace hq:=Zp hq b8 a1 Do
     replace hB:=hB.trans (e9.mono a3)
     have d6:Below w.heap.size (W.drew) (k4)∧Zd [225,27] (W.drew) (k4):=⟨d5.1.trans (e9.mono a3),d5.2.trans (Zd.of_grown b8 a1 Do)⟩
     refine⟨d6,?_⟩
     refine Fw 5 0 rfl K0 rfl K0 (Wo (v:=.slice k9 ((Hs (Zh (l.take i)) a0).length+1) k3) (b:=b4) (off:=0) rfl K0 K0 K0 rfl m9 (by first|decide|simp) ?_)
     intro k7 d1 l5
     change Blk _ _ [.slice k9 ((Hs (Zh (l.take i)) a0).length+1) k3] _ at l5
     replace hB:=d1.below hB c0
     replace a2:=d1.own2 a2 m9 Do
     replace hE:=hE.only (Zd.of_upd (T:=[225]) d1 m9 Do) Do
     replace hZ:=hZ.upd d1 m9
     replace hq:=d1.own2 hq m9 Do
     replace h3:=d1.own2 h3 m9 Do
     have i6:Below w.heap.size (W.drew) (k7)∧Zd [225,27] (W.drew) (k7):=⟨d1.below d6.1 c0,d6.2.trans (Zd.of_upd d1 m9 Do)⟩
     refine⟨i6,?_⟩
     refine Zks _ K0 ?_
     obtain⟨g2,rfl,k1⟩:=Qf hq e7
     rw[←d2] at hq
     have a4:=h3
     rw[←d2] at a4
     have hS:=Lists.snoc (n:=(Hs (Zh (l.take i)) a0).length+1) rfl a4 hE (Zf hq a7) (by rw[d3,i8])
     exact⟨hZ.ko.from _,⟨hZ.le,fun b hb=>hZ.fr b hb.1 hb.2⟩,⟨_,_,gs++[(g2,_)],by simp[d3],by rw[Gi,A5];exact l5,by rw[Gi,A5];exact hS⟩,hZ.bb⟩
  case done =>
   rintro D xs W hD rfl ⟨⟨pb,cb,gs,d3,m9,hL⟩,e4⟩ j7
   rw[preC_all] at m9 hL
   have hK:Dfr D W:=j7;clear j7
   subst j3
   rw[K1] at m9 hL
   rw[Xq] at m9 hL
   refine Zk8 ?_
   have m6:=hB
   replace hB:=e4.below hB l6 hB.size
   have l3:=e4.own2 ho c6 Do
   have a3:=m6.size
   replace c6:=m9
   refine wp_seq ?_
   refine wp_region_lit ?_
   refine Nl K0 (Gr ⟨b4,0,none⟩ (.slice pb (bmN l.length) cb) rfl K0 K0 (c6.cell (i:=0) rfl) ?_)
   refine Na 4 [(51,.slice po ((Zl l l.length).length) co),(2,.slice pb (bmN l.length) cb),(3,.slice po ((Zl l l.length).length) co),(4,V0 0)] K0 ?_
   refine wpList_nil ?_
   refine wp_ret ?_
   exact g_endM hK (.tuple #[.slice pb (bmN l.length) cb,.slice po ((Zl l l.length).length) co,V0 0]) K0 K0 (.inr ⟨Za8 hl (fun k hk=>hz k M0),_,_,gs,_,_,rfl,(Upd.of_put _ _ _).below hB (N0 a3 hD),(hL.mono a3).put (Upd.of_put _ _ _) hK,(Upd.of_put _ _ _).own3 l3 (hK.row l3)⟩)
end Go.Proofs.YtekomodnkfhihaaGreatDoor
namespace Go.Proofs.YtekomodnkfhihaaGreatDoor
set_option maxHeartbeats 8000000
set_option maxRecDepth 100000
open Go.RowKit Go.Extern.Stop Go.Stop Go.Extern
set_option linter.unusedVariables false
attribute [local irreducible] wpList wpAnyH Code.wp Oper.wp Go
def LayPost(B ba b g nn cc:Nat)(pa:O0)(ca f N k0:Nat)(bs:Bl)(bl:Nat)(L:List (List Int))(w:World)(e:Ending)(w':World):Prop :=
 ∃ p c,e=.returned .nilIface∧Below B w w'∧Zd [169,5,99,124] w w'∧Fr [ba,g,bl] w w'∧Al B ba b g nn cc pa ca f N (k0+L.length) (Kn L (f+k0) bs L.length) w'∧Blk w' bl [.slice p L.length c] 99∧w'.ownsRow w.heap.size 124 3 (.slice p L.length c) L.length ((Xy L (f+k0) L.length).flatMap Yo)
theorem Zjq(B ba b g nn cc:Nat)(pa:O0)(ca f N k0:Nat)(bs:Bl)(bl B2:Nat)(pl:O0)(cl:Nat)(gs:List (Nat×Nat))(L:List (List Int))(w:World)(hC:AlC B ba nn cc ca f N)(hA:Al B ba b g nn cc pa ca f N k0 bs w)(hL:Lists w B2 (.slice pl L.length cl) gs L)(hS:∀ i,i<L.length→Hp (L.getD i [])∧(L.getD i []).length≤960)(hf1:1≤f)(hk:k0+L.length≤N)(kl:Blk w bl [S0] 99)(hBl:B≤bl)(hBw:B≤w.heap.size) :
 C0 154 #[P0 ba,.slice pl L.length cl,.func (.func 155) #[] #[P0 bl]] w (LayPost B ba b g nn cc pa ca f N k0 bs bl L w):=by
 have d3:=hC.hf
 have d4:=hC.hn
 refine zin 51 Tryz.func154 ?_
 have hB:=Below.refl B w
 refine zl 14 51 (fun zm c3 V=>∃ (i:Nat) (p:O0) (c:Nat),c3=[(0,P0 ba),(2,.func (.func 155) #[] #[P0 bl]),(15,.slice pl L.length cl),(16,V0 (L.length:Int)),(17,V0 (i:Int))]∧zm=L.length-((i:Int)).toNat∧Below B w V∧Fr [ba,g,bl] w V∧Zd [169,5,99,124] w V∧Blk V bl ([.slice p i c]) 99∧Al B ba b g nn cc pa ca f N (k0+i) (Kn L (f+k0) bs i) V∧Lists V B2 (.slice pl L.length cl) gs L∧V.ownsRow w.heap.size 124 3 (.slice p i c) i ((Xy L (f+k0) i).flatMap Yo)∧i≤L.length) ⟨0,none,0,rfl,rfl,hB,(Fr.refl _ _),(Zd.refl _ _),kl,hA,hL,A4 _ _ _ _,A3 _⟩ ?_
 rintro _ _ W1 ⟨i,p,c,rfl,rfl,a5,a8,a9,a1,hA,hL,b2,hi⟩ J1 c6 r1
 refine xid 6 ((i:Int)<(L.length:Int)) (fun c8=>?_) (fun c8=>?_)
 ·refine xx 6 _ L.length i 1 (Lists.elem hL rfl (k:=i) M0).1 ?_
  refine xl 0 ((Lists.elem hL rfl (k:=i) M0).2) ?_
  refine xc 6 (args:=#[.slice (some ⟨(gs.getD i (0,0)).1,0,none⟩) ((L.getD i []).length) ((gs.getD i (0,0)).2)]) (Zcq _ _ (L.getD i []) _ (hS i M0).1 (hS i M0).2 (Ze (hL.each i M0))) ?_
  rintro _ W3 ⟨_,rfl,a3,g6,rfl,h6⟩
  have b6:=hA.below a3
  have a4:=a9.trans (Zd.of_below a3)
  have b4:=Zf h6 a5.size
  have b0:=blB a5 hBw a3
  refine xc 21 (args:=#[P0 ba,V0 3,.slice (S1 g6) 244 244]) (Wp B ba b g nn cc pa ca f N (k0+i) (Kn L (f+k0) bs i) 3 (S1 g6) 244 (Zfl (L.getD i [])) (f+k0+i) 244 _ (D4 _ _ _).symm (Jr _ _) hC b6 M0 Do Do (fun W _ a4=>Ya (Ze (Zi b4 a4 Do)) (Jr _ _)) Do (N0 hBw b0.size)) ?_
  rintro _ W4 ⟨rfl,d2,b3,c4,hA⟩
  have a7:=(hL.below a3).only b3 Do
  refine xr 20 (args:=#[.slice (some ⟨(gs.getD i (0,0)).1,0,none⟩) ((L.getD i []).length) ((gs.getD i (0,0)).2)]) (Iv _ _ (L.getD i []) _ (hS i M0).2 (Ze (a7.each i M0))) fun W5 a2=>?_
  have c2:Ye (L.getD i [])≤960:=N0 (Wl _ _) (hS i M0).2
  have d1:Xe (L.getD i [])≤960:=N0 (Ma _) (hS i M0).2
  have a6:=blB (b0.trans d2) hBw a2
  have a0:=((a1.below a3).only b3 Do).below a2
  have b1:=Za (Zi (Za b2 a3) b3 Do) a2
  refine xc 13 (args:=#[.agg #[V0 (↑(f+k0+i):Int),V0 (↑(Ye (L.getD i [])):Int),V0 (↑(Xe (L.getD i [])):Int)],P0 bl]) (Zd8 B w.heap.size bl p c L (f+k0) i _ hBw a6.size (N0 hBw a6.size) hBl a0 b1 M0 M0 M0 c2 d1) ?_
  rintro _ W6 ⟨_,p9,c9,rfl,c7,c0,c5,b2,d0⟩
  refine xwm 4 ((i:Int)+1) (↑(i+1):Int) ?_
  have c1:=(hA.below a2).only c0 Do
  have b7:=(a7.below a2).only c0 Do
  have b8:=a6.trans c7
  have b5:=(Fr.trans_B (((a8.trans (Fr.of_below a3)).trans (c4.mono (by simp))).trans (Fr.of_below a2)) d0 (by simp))
  have b9:=((a4.trans (b3.wide)).trans (Zd.of_below a2)).trans (c0.wide)
  exact ze 2 (c6 _ _ _ ⟨i+1,_,_,rfl,rfl,b8,b5,b9,c5,c1,b7,b2,by omega⟩ M0)
 refine xe 11 .nilIface ?_
 obtain rfl:i=L.length:=by omega
 exact⟨_,_,rfl,a5,a9,a8,hA,a1,b2⟩
theorem Wy(a:O0)(c:Nat)(l:List Int)(w:World)(h:Sl w (.slice a l.length c) l.length (l.map V0))(hl:l.length≤65536)(hs:Qd l=0):C0 152 #[.slice a l.length c] w (fun e w'=>∃ pb cb gs po co,e=.returned (.tuple #[.slice pb (bmN l.length) cb,.slice po (Zl l l.length).length co,V0 0])∧B3 w w'∧Lists w' w.heap.size (.slice pb (bmN l.length) cb) gs (Zo (Zh l) (bmN l.length))∧w'.ownsRow w.heap.size 124 3 (.slice po (Zl l l.length).length co) (Zl l l.length).length ((Zl l l.length).flatMap Yo)) :=
 (Za7 a c l w h hl).mono fun e w' q=>(q.resolve_left fun z=>z.1 hs).2
theorem Zen(B ba b g nn cc:Nat)(pa:O0)(ca f N k0:Nat)(bs:Bl)(bl B2:Nat)(pl:O0)(cl:Nat)(gs:List (Nat×Nat))(L:List (List Int))(n:Nat)(hn:L.length=n)(w:World)(hC:AlC B ba nn cc ca f N)(hA:Al B ba b g nn cc pa ca f N k0 bs w)(hL:Lists w B2 (.slice pl n cl) gs L)(hS:∀ i,i<L.length→Hp (L.getD i [])∧(L.getD i []).length≤960)(hf1:1≤f)(hk:k0+n≤N)(kl:Blk w bl [S0] 99)(hBl:B≤bl)(hBw:B≤w.heap.size) :
 C0 154 #[P0 ba,.slice pl n cl,.func (.func 155) #[] #[P0 bl]] w (fun e w'=>∃ p c,e=.returned .nilIface∧Below B w w'∧Zd [169,5,99,124] w w'∧Fr ([ba,g]++[bl]) w w'∧Al B ba b g nn cc pa ca f N (k0+n) (Kn L (f+k0) bs n) w'∧Blk w' bl [.slice p n c] 99∧w'.ownsRow w.heap.size 124 3 (.slice p n c) n ((Xy L (f+k0) n).flatMap Yo)):=by
 subst hn;exact Zjq B ba b g nn cc pa ca f N k0 bs bl B2 pl cl gs L w hC hA hL hS hf1 hk kl hBl hBw
theorem Bg{l:List Int}(h:∀ k,k<l.length→Kr (l.getD k 0))(n:Nat):∀ i,i<(Zo (Zh l) n).length→Hp ((Zo (Zh l) n).getD i [])∧((Zo (Zh l) n).getD i []).length≤960:=fun i hi=>by
 rw[Xq] at hi
 rw[Es hi]
 exact⟨Fg (Zcw h) i,by rw[Hu];omega⟩
theorem own_keep{w W:World}{B ba b g nn cc:Nat}{pa:O0}{ca f N k0 bl:Nat}{bs:Bl}{cs:List Value}{base n:Nat}{v:Value}{xs:List Value}(k:w.ownsRow base 124 3 v n xs)(hA:Al B ba b g nn cc pa ca f N k0 bs w)(kl:Blk w bl cs 99)(hX:Fr ([ba,g]++[bl]) w W):W.ownsRow base 124 3 v n xs:=Zkt k hX fun j hj hm=>by
 obtain⟨a0,kb⟩:=Dh hA.data
 simp only[H1,G9,E9,List.not_mem_nil,or_false] at hm
 rcases hm with h|h|h
 ·exact Eu k hA.blkA Do _ hj h
 ·exact Eu k kb Do _ hj h
 ·exact Eu k kl Do _ hj h
def DataP(B ba b g nn cc:Nat)(pa:O0)(ca f N k0:Nat)(bs:Bl)(l:List Int)(w:World)(e:Ending)(w':World):Prop :=
 e=.returned (.tuple #[V0 (Zce l (f+k0) bs).1,V0 (Zce l (f+k0) bs).2.1,.nilIface])∧Below B w w'∧Zd [169,5,99,124,39] w w'∧Fr [ba,g] w w'∧Al B ba b g nn cc pa ca f N (k0+Hl l) (Zce l (f+k0) bs).2.2 w'
theorem Bj(n:Nat)(w:World)(hn:n≤65536) :
 C0 64 #[V0 (n:Int)] w (Ret (V0 (↑(bmN n):Int)) w):=by
 refine zin 9 Tryz.func64 ?_
 refine xid 12 ((n:Int)<(1:Int)) (fun a0=>?_) (fun a0=>?_)
 ·exact xe 7 (V0 0) ⟨by rw[show bmN n=0 from by unfold bmN;omega];rfl,(B4 w)⟩
 refine xwm 5 ((n:Int)-1) (↑(n-1):Int) ?_
 refine xq 0 (congrArg V0 (show(IntKind.i64.wrap (Int.tdiv (↑(n-1):Int) 960):Int)=(↑((n-1)/960):Int) from Va (n-1) 960 M0 Do)) ?_
 refine xw 0 ((↑((n-1)/960):Int)+1) ?_
 exact xe 4 (V0 ((↑((n-1)/960):Int)+1)) ⟨by rw[show bmN n=(n-1)/960+1 from by unfold bmN;omega,Int.natCast_add];rfl,(B4 w)⟩
structure Sin(w W:World):Prop where
 b:Below w.heap.size w W
theorem Sin.below{w W V:World}(h:Sin w W)(hb:B3 W V):Sin w V:=⟨bln h.b hb⟩
theorem Sin.trans{w W V:World}(h:Sin w W)(hb:Below w.heap.size W V):Sin w V:=⟨h.b.trans hb⟩
theorem Sin.upd{w W V:World}{b:Nat}(h:Sin w W)(u:Upd W b V)(hb:w.heap.size≤b):Sin w V:=⟨u.below h.b hb⟩
def RMetaP(B bc bm:Nat)(pg:O0)(N cg f k0:Nat)(p:O0)(K c:Nat)(bs:Bl)(l:List Int)(w:World)(e:Ending)(w':World):Prop :=
 ∃ fa m fc,e=.returned (.tuple #[V0 (Ek l f k0 bs).1,V0 (Ek l f k0 bs).2.1,.agg #[S0,V0 0]])∧Below B w w'∧Zd [189,9] w w'∧RAl B bc bm pg N cg fa m fc (k0+Xx l) (Qn f N) w'∧RefI B bm p K c (Ek l f k0 bs).2.2 w'
theorem rs_ok{L:List (List Int)}{q n:Nat}(hS:∀ i,i<L.length→Hp (L.getD i [])∧(L.getD i []).length≤960)(hn:L.length=n)(h1:1≤q)(h2:q+n≤14400)(h3:n≤14):El (Rs L q n):=by
 refine⟨by rw[Pc];exact h3,fun i hi=>?_⟩
 rw[Pc] at hi
 rw[Zjj hi]
 have hc:=(hS i M0).2
 exact⟨by show 1≤q+i;omega,by show q+i≤14399;omega,N0 (Wl _ _) hc,N0 (Ma _) hc⟩
theorem Ze2(n:Nat)(a:O0)(c:Nat)(S:List (Nat×Nat×Nat))(w:World)(hn:S.length=n)(hS:El S)(h:Sts rsC w (.slice a S.length c) S):C0 181 #[.slice a n c] w (Qo (fun w' r=>∃ b c,r=.tuple #[.slice (S1 b) (Ak S).length c,V0 0]∧KeptB w' (.slice (S1 b) (Ak S).length c) (Ak S)) w):=by
 subst hn;exact Zjo a c S w hS h
theorem Zap(j:Nat)(B ba b g nn cc:Nat)(pa:O0)(ca f N k0:Nat)(bs:Bl)(w:World)(hC:AlC B ba nn cc ca f N)(hA:Al B ba b g nn cc pa ca f N k0 bs w)(hk:k0≤N)(hN:N≤1000000)(hj:j≤1000000)(hjn:j≤N-k0) :
 C0 158 #[P0 ba,V0 (j:Int)] w (Qo (fun w' r=>∃ q c2,r=.slice q j c2∧w'.ownsRow w.heap.size 3 1 (.slice q j c2) j ((((Qn f N).drop k0).take j).map V0)) w):=by
 have h:=Zbm B ba b pa N ca k0 j (Qn f N) w ⟨hA.blkA,hA.nums,Me _ _,hC.hB,hN,hk⟩ hj
 rwa [F7 hjn] at h
theorem Bd(n:Nat)(a:O0)(c:Nat)(l:List Int)(w:World)(hn:l.length=n)(h:Sl w (.slice a n c) n (l.map V0))(hl:n≤65536)(hs:Qd l=0):C0 152 #[.slice a n c] w (fun e w'=>∃ pb cb gs po co,e=.returned (.tuple #[.slice pb (bmN n) cb,.slice po (Zl l n).length co,V0 0])∧B3 w w'∧Lists w' w.heap.size (.slice pb (bmN n) cb) gs (Zo (Zh l) (bmN n))∧w'.ownsRow w.heap.size 124 3 (.slice po (Zl l n).length co) (Zl l n).length ((Zl l n).flatMap Yo)):=by
 subst hn;exact Wy a c l w h hl hs
theorem Zfi(n:Nat)(a:O0)(c:Nat)(S:List (Nat×Nat×Nat))(w:World)(hn:S.length=n)(hS:El S)(h:Sts rsC w (.slice a S.length c) S):C0 160 #[.slice a n c] w (Qo (fun w' r=>∃ p c,r=.tuple #[.slice p 244 c,V0 0]∧w'.ownsRow w.heap.size 5 1 (.slice p 244 c) 244 ((Ak S).map bv)) w):=by
 subst hn;exact Zi2 a c S w hS h
def Fy(u n:Nat):List Int:=(List.range n).map fun i=>if i<u then 1 else 0
theorem Oe(u n:Nat):(Fy u n).length=n:=by simp[Fy]
theorem nodN5_0:Zw 5 0=1:=by
 unfold Zw Qv
 rw[show ovN 0 (Vg 5 true)=1 from by decide,Kq Do]
 rfl
theorem Iw(n:Nat):Hn (Value.int .i64 0).cells.toList n=(Fy 0 n).map V0:=by
 rw[show Hn (Value.int .i64 0).cells.toList n=List.replicate n (V0 0) from by
  rw[show(Value.int .i64 0).cells.toList=[Value.int .i64 0] from rfl,Hn]
  induction n with
  | zero=>rfl
  | succ n ih=>rw[H0,K7,ih];rfl]
 apply G5 (by simp[Fy])
 intro i h1 h2
 simp[Fy]
def shN (L:List Dv):List Nat:=Jp (List.replicate L.length 0) (owL L)
theorem Uk(L:List Dv):(shN L).length=L.length:=by unfold shN;rw[Oj,A7]
theorem Zct(L:List Dv):∀ b∈owL L,b<L.length:=fun b hb=>by
 obtain⟨i,hi,rfl⟩:=List.mem_map.1 hb
 have hi:=D9.1 hi
 have:=(Gp hi).1
 omega
theorem Db(L:List Dv)(i:Nat):(shN L).getD i 0=(owL L).count i:=by
 unfold shN
 rw[Az _ _ (fun b hb=>by rw[A7];exact Zct L b hb)]
 have:(List.replicate L.length 0).getD i 0=0:=by simp[List.getD,I6];split<;>rfl
 omega
theorem Zc6{L:List Dv}{i:Nat}(h:i<L.length):Xo L i=i↔(shN L).getD i 0≠0:=by
 rw[Db]
 constructor
 ·intro q
  have:i∈owL L:=List.mem_map.2 ⟨i,D9.2 h,q⟩
  exact Nat.ne_of_gt (List.count_pos_iff.2 this)
 ·intro q
  have hm:=List.count_pos_iff.1 (Nat.pos_of_ne_zero q)
  obtain⟨j,hj,e⟩:=List.mem_map.1 hm
  have hj:=D9.1 hj
  rw[←e];exact Cr hj
theorem shN_sum(L:List Dv):(shN L).sum=L.length:=by
 have h:∀ (S cs:List Nat),(∀ b∈S,b<cs.length)→(Jp cs S).sum=cs.sum+S.length:=by
  intro S
  induction S with
  | nil=>intro cs _;rfl
  | cons b S ih =>
   intro cs hb
   have h1:=hb b C2
   rw[Mx,ih _ (fun x hx=>by rw[Wg];exact hb x (D8 _ hx)),Zdx M0 M0,E4]
   omega
 unfold shN
 rw[h _ _ (fun b hb=>by rw[A7];exact Zct L b hb),Jc]
 simp
def twT (L:List Dv)(i:Nat):List Kv:=((List.range i).filter fun k=>Xo L k==k).map fun k=>(2,Jy (L.getD k dvD).2)
theorem Zci{L:List Dv}{i:Nat}(h:Xo L i=i):twT L (i+1)=twT L i++[(2,Jy (L.getD i dvD).2)]:=by
 unfold twT
 rw[C1,List.filter_append,A9]
 simp[h]
theorem Gg{L:List Dv}{i:Nat}(h:Xo L i≠i):twT L (i+1)=twT L i:=by
 unfold twT
 rw[C1,List.filter_append,A9]
 simp[h]
def twN (L:List Dv)(i:Nat):Nat:=Xm (twT L i)
theorem Pp{L:List Dv}{i:Nat}(h:Xo L i=i):twN L (i+1)=twN L i+Zw 2 (L.getD i dvD).2.length:=by
 unfold twN
 rw[Zci h]
 have e:Xm (twT L i++[(2,Jy (L.getD i dvD).2)])=Xm (twT L i)+Zw 2 (Jy (L.getD i dvD).2).length:=Kg _ _
 rw[e,Qu]
theorem Il{L:List Dv}{i:Nat}(h:Xo L i≠i):twN L (i+1)=twN L i:=by unfold twN;rw[Gg h]
theorem Zde(L:List Dv)(i:Nat):twN L i≤twN L (i+1):=by
 by_cases h:Xo L i=i
 ·rw[Pp h];omega
 ·rw[Il h];exact A6 _
theorem Vn(L:List Dv){i j:Nat}(h:i≤j):twN L i≤twN L j:=by
 induction j with
 | zero =>
  obtain rfl:i=0:=by omega
  exact A6 _
 | succ j ih =>
   by_cases e:i=j+1
   ·rw[e];exact A6 _
   ·exact N0 (ih M0) (Zde L j)
def twR (L:List Dv)(i:Nat):Nat:=twN L (Xo L i+1)
theorem twR_own{L:List Dv}{i:Nat}(h:Xo L i=i):twR L i=twN L (i+1):=by unfold twR;rw[h]
theorem twR_of{L:List Dv}{i:Nat}(h:i<L.length):twR L i=twR L (Xo L i):=by unfold twR;rw[Cr h]
theorem Ec{L:List Dv}{i:Nat}(h:i<L.length):1≤twR L i∧twR L i≤twN L (i+1)∧twN L (Xo L i)<twR L i:=by
 have a:=Pp (Cr h)
 have b:=Yx 2 (L.getD (Xo L i) dvD).2.length
 have c:=Vn L (show Xo L i+1≤i+1 by have:=(Gp h).1;omega)
 unfold twR
 omega
def rcF (L:List Dv)(b:Nat):Nat:=((List.range L.length).map (twR L)).count b
theorem Zib{L:List Dv}{b:Nat}(h:rcF L b≠0):∃ j,j<L.length∧twR L j=b:=by
 obtain⟨j,hj,e⟩:=List.mem_map.1 (List.count_pos_iff.1 (Nat.pos_of_ne_zero h))
 exact⟨j,D9.1 hj,e⟩
theorem Dw{L:List Dv}{b:Nat}(h:b=0∨twN L L.length<b):rcF L b=0:=by
 rcases F9 (rcF L b) with q|q
 ·exact q
 ·obtain⟨j,hj,rfl⟩:=Zib (Nat.ne_of_gt q)
  have a:=Ec hj
  have c:=Vn L (show j+1≤L.length by omega)
  omega
theorem Zi9{L:List Dv}{i b:Nat}(hi:i<L.length)(ho:Xo L i=i)(h1:twN L i<b)(h2:b<twN L (i+1)):rcF L b=0:=by
 rcases F9 (rcF L b) with q|q
 ·exact q
 ·obtain⟨j,hj,rfl⟩:=Zib (Nat.ne_of_gt q)
  rcases C3 (Xo L j) i with q|q
  ·have:=Vn L (show Xo L j+1≤i by omega)
   unfold twR at h1;omega
  ·have:=Vn L (show i+1≤Xo L j+1 by omega)
   unfold twR at h2;omega
theorem twR_inj{L:List Dv}{i j:Nat}(hi:i<L.length)(ho:Xo L i=i)(hj:j<L.length):twR L j=twN L (i+1)↔Xo L j=i:=by
 constructor
 ·intro h
  have a:=Ec hj
  have b:=Pp ho
  have c:=Yx 2 (L.getD i dvD).2.length
  rcases Nat.lt_trichotomy (Xo L j) i with q|q|q
  ·have:=Vn L (show Xo L j+1≤i by omega)
   unfold twR at h;omega
  ·exact q
  ·have:=Vn L (show i+1≤Xo L j by omega)
   omega
 ·intro h;unfold twR;rw[h]
theorem Zk2{L:List Dv}{i:Nat}(hi:i<L.length)(ho:Xo L i=i):rcF L (twN L (i+1))=(shN L).getD i 0:=by
 rw[Db]
 unfold rcF owL
 rw[List.count_eq_countP,List.count_eq_countP,List.countP_map,List.countP_map]
 refine List.countP_congr fun j hj=>?_
 have:=twR_inj hi ho (D9.1 hj)
 simpa using this
def Ip(L:List Dv)(k i:Nat):List Int:=(List.range k).map fun b=>if b≤twN L i then(rcF L b:Int) else 0
theorem cntT_0(L:List Dv)(k:Nat):Ip L k 0=Fy 0 k:=by
 unfold Ip Fy
 refine H9 fun b _=>?_
 rw[if_neg (Nat.not_lt_zero b)]
 by_cases h:b≤twN L 0
 ·rw[if_pos h,Dw (.inl (by have:twN L 0=0:=rfl;omega))];rfl
 ·rw[if_neg h]
theorem Jh{L:List Dv}{k i:Nat}(h:Xo L i≠i):Ip L k (i+1)=Ip L k i:=by unfold Ip;rw[Il h]
theorem Ae{L:List Dv}{k i:Nat}(hi:i<L.length)(h:Xo L i=i)(hk:twN L (i+1)<k):((Ip L k i).map V0).set (twN L (i+1)) (V0 ((shN L).getD i 0:Int))=(Ip L k (i+1)).map V0:=by
 have hn:=Pp h
 have hp:=Yx 2 (L.getD i dvD).2.length
 apply G0
 intro b
 unfold Ip
 rw[List.getElem?_set]
 by_cases e:twN L (i+1)=b
 ·subst e
  rw[if_pos rfl,if_pos (by simp;exact hk)]
  simp only[B9,B7 hk,C7]
  rw[if_pos (A6 _),Zk2 hi h]
 ·rw[if_neg e]
  simp only[B9]
  rcases C3 b k with q|q
  ·rw[B7 q]
   simp only[C7]
   congr 2
   by_cases q1:b≤twN L i
   ·rw[if_pos q1,if_pos M0]
   ·rw[if_neg q1]
    by_cases q2:b≤twN L (i+1)
    ·rw[if_pos q2,Zi9 hi h M0 M0];rfl
    ·rw[if_neg q2]
  ·rw[C5 (by simpa using q)];rfl
def Ue(L:List Dv)(m k:Nat):List Int:=(List.range k).map fun b=>if b<m then max (rcF L b:Int) 1 else(rcF L b:Int)
theorem Wf(L:List Dv)(m k:Nat):(Ue L m k).length=k:=by simp[Ue]
theorem Gv{L:List Dv}{m k b:Nat}(h:b<k):(Ue L m k).getD b 0=if b<m then max (rcF L b:Int) 1 else(rcF L b:Int):=by simp[Ue,List.getD,B7 h]
theorem cntM_0(L:List Dv)(k:Nat):Ip L k L.length=Ue L 0 k:=by
 unfold Ip Ue
 refine H9 fun b _=>?_
 rw[if_neg (Nat.not_lt_zero b)]
 by_cases h:b≤twN L L.length
 ·rw[if_pos h]
 ·rw[if_neg h,Dw (.inr M0)];rfl
theorem Zdt{L:List Dv}{m k:Nat}(h:m<k):((Ue L m k).map V0).set m (V0 (max (rcF L m:Int) 1))=(Ue L (m+1) k).map V0:=by
 apply G0
 intro b
 unfold Ue
 rw[List.getElem?_set]
 by_cases e:m=b
 ·subst e
  rw[if_pos rfl,if_pos (by simp;exact h)]
  simp only[B9,B7 h,C7]
  rw[if_pos (Nat.lt_succ_self _)]
 ·rw[if_neg e]
  simp only[B9]
  rcases C3 b k with q|q
  ·rw[B7 q]
   simp only[C7]
   congr 2
   by_cases q1:b<m
   ·rw[if_pos q1,if_pos M0]
   ·rw[if_neg q1,if_neg M0]
  ·rw[C5 (by simpa using q)];rfl
theorem Oq{L:List Dv}{m k:Nat}(h:1≤rcF L m):Ue L (m+1) k=Ue L m k:=by
 unfold Ue
 refine H9 fun b _=>?_
 by_cases q1:b<m
 ·rw[if_pos q1,if_pos M0]
 ·rw[if_neg q1]
  by_cases q2:b<m+1
  ·obtain rfl:b=m:=by omega
   rw[if_pos q2];omega
  ·rw[if_neg q2]
theorem rcF_le(L:List Dv)(b:Nat):rcF L b≤L.length:=by
 have:=List.count_le_length (a:=b) (l:=(List.range L.length).map (twR L))
 rw[At,List.length_range] at this
 exact this
theorem Zji{L:List Dv}{m k b:Nat}:0≤(Ue L m k).getD b 0∧(Ue L m k).getD b 0≤max (L.length:Int) 1:=by
 rcases C3 b k with h|h
 ·rw[Gv h]
  have:=rcF_le L b
  split<;>omega
 ·have:(Ue L m k).getD b 0=0:=by simp[List.getD,C5 (show(Ue L m k).length≤b by rw[Wf];exact h)]
  omega
theorem Lk{L:List Dv}{m k:Nat}(hk:k≤65536)(hl:L.length≤4096):Qd (Ue L m k)=0:=by
 unfold Qd
 rw[Wf,if_neg M0,if_pos]
 intro b _
 have:=Zji (L:=L) (m:=m) (k:=k) (b:=b)
 unfold Kr;omega
theorem Ez{L:List Dv}{m k:Nat}(hl:L.length≤4096)(hm:twN L L.length<m):Zda (Ue L m k) (m:Int):=fun b hb=>by
 rw[Wf] at hb
 refine⟨fun q=>?_,by have:=Zji (L:=L) (m:=m) (k:=k) (b:=b);omega⟩
 rw[Gv hb,if_neg M0,Dw (.inr M0)];rfl
def Ar(L:List Dv):Nat:=Yc (shN L) L.length
theorem ov_tw(L:List Dv)(m k:Nat)(hm:twN L L.length<m):∀ i,i≤L.length→twN L i+1≤k→(Zl (Ue L m k) (twN L i+1)).length=Yc (shN L) i
 | 0,_,hk=>by
  have e:twN L 0=0:=rfl
  rw[e] at hk ⊢
  have h0:(Ue L m k).getD 0 0=1:=by
   rw[Gv M0,Dw (.inl rfl),if_pos M0];rfl
  rw[Qw (by rw[h0];decide)]
  rfl
 | i+1,hi,hk=>by
  have hs:=Zde L i
  have ih:=ov_tw L m k hm i M0 M0
  have hT:=Vn L (show i+1≤L.length from hi)
  rw[Kj (by rw[Uk];omega)]
  by_cases ho:Xo L i=i
  ·have hn:=Pp ho
   have hp:=Yx 2 (L.getD i dvD).2.length
   have a0:∀ d,twN L i+1+d≤twN L (i+1)→(Zl (Ue L m k) (twN L i+1+d)).length=Yc (shN L) i:=by
    intro d
    induction d with
    | zero=>intro _;exact ih
    | succ d ihd =>
     intro hd
     rw[show twN L i+1+(d+1)=(twN L i+1+d)+1 from rfl,Qw ?_]
     ·exact ihd M0
     ·rw[Gv M0,Zi9 M0 ho M0 M0]
      split<;>omega
   have h1:=a0 (twN L (i+1)-(twN L i+1)) M0
   rw[show twN L i+1+(twN L (i+1)-(twN L i+1))=twN L (i+1) by omega] at h1
   have hg:(Ue L m k).getD (twN L (i+1)) 0=max ((shN L).getD i 0:Int) 1:=by rw[Gv M0,Zk2 M0 ho,if_pos M0]
   by_cases q:3≤(shN L).getD i 0
   ·rw[Vj (by rw[hg];omega),A5,h1,if_pos q];rfl
   ·rw[Qw (by rw[hg];omega),h1,if_neg q,I0]
  ·rw[Il ho,ih,if_neg (by have:=mt (Zc6 M0).2 ho;omega),I0]
theorem over_tw{L:List Dv}{m k:Nat}(hm:twN L L.length<m)(hk:twN L L.length<k):(Zl (Ue L m k) (Ue L m k).length).length=Ar L:=by
 rw[Wf]
 have h0:=ov_tw L m k hm L.length (A6 _) M0
 have a0:∀ d,twN L L.length+1+d≤k→(Zl (Ue L m k) (twN L L.length+1+d)).length=Ar L:=by
  intro d
  induction d with
  | zero=>intro _;exact h0
  | succ d ih =>
   intro hd
   rw[show twN L L.length+1+(d+1)=(twN L L.length+1+d)+1 from rfl,Qw ?_]
   ·exact ih M0
   ·rw[Gv M0,Dw (.inr M0)]
    split<;>decide
 have:=a0 (k-(twN L L.length+1)) M0
 rw[show twN L L.length+1+(k-(twN L L.length+1))=k by omega] at this
 exact this
theorem To(L:List Dv):3*Ar L≤L.length:=by
 have:=Cg (shN L) L.length (by rw[Uk];exact A6 _)
 rw[A1 (by rw[Uk];exact A6 _),shN_sum] at this
 exact this
def Vb(L:List Dv):Nat→Nat
 | 0=>0
 | i+1=>Vb L i+if Xo L i=i then 0 else Zw 2 (L.getD i dvD).2.length
theorem Zhh(L:List Dv):∀ i,i≤L.length→twN L i+Vb L i=Qj (L.take i)
 | 0,_=>rfl
 | i+1,h=>by
  have ih:=Zhh L i M0
  rw[Sh M0,Vb,←ih]
  by_cases ho:Xo L i=i
  ·rw[Pp ho,if_pos ho];omega
  ·rw[Il ho,if_neg ho];omega
theorem Zkk(L:List Dv){i:Nat}(h:i≤L.length):Vb L i≤Qj L:=by
 have a:=Zhh L i h
 have e:L=L.take i++L.drop i:=(G3 i L).symm
 have:Qj (L.take i)≤Qj L:=by
  conv=>rhs;rw[e]
  unfold Qj
  rw[A9,F8];omega
 omega
def Zeo(x:Nat)(L:List Dv):Nat:=Ho x L-Vb L L.length+1+Zw 5 (Ar L)
def Kw(x:Nat)(L:List Dv):Nat:=Nh (Zeo x L)
theorem Tk(x:Nat)(L:List Dv):1+Vb L L.length≤Ho x L:=by
 have:=Zkk L (A6 L.length)
 unfold Ho;omega
def G1 (L:List Dv):List Kv:=twT L L.length++[(1,Gc L (twR L))]
def G2 (L:List Dv):List Kv:=G1 L++[(3,Hy L (Kc L))]
theorem G2_len(L:List Dv):Xm (G2 L)=twN L L.length+Zw 1 L.length+Zw 3 L.length:=by
 have e1:Xm (G1 L)=Xm (twT L L.length)+Zw 1 (Gc L (twR L)).length:=Kg _ _
 have e2:Xm (G2 L)=Xm (G1 L)+Zw 3 (Hy L (Kc L)).length:=Kg _ _
 rw[Ys] at e1
 rw[Yv] at e2
 unfold twN
 omega
theorem Zd5(L:List Dv):twN L L.length+1≤Xm (G1 L)∧Xm (G1 L)+1≤Xm (G2 L):=by
 have e1:Xm (G1 L)=Xm (twT L L.length)+Cu (1,Gc L (twR L)):=Kg _ _
 have e2:Xm (G2 L)=Xm (G1 L)+Cu (3,Hy L (Kc L)):=Kg _ _
 have:=Ni (1,Gc L (twR L))
 have:=Ni (3,Hy L (Kc L))
 unfold twN
 omega
def twK (x:Nat)(L:List Dv):Nat:=Xm (G2 L)+Hl (Yl x L)
theorem Dm(x:Nat)(L:List Dv):Zeo x L=twK x L+2+Zw 5 (Ar L):=by
 have h:=G2_len L
 have h2:=Wd x L
 have h3:=Zhh L L.length (A6 _)
 rw[A1 (A6 _)] at h3
 have h4:=Tk x L
 unfold Zeo twK Hl
 rw[h2,Yy]
 unfold Ho at h4 ⊢
 omega
def mkS (l:Bl):Value:=.string ⟨l.toArray⟩
def unS:Value→Bl
 | .string a=>a.data.toList
 | _=>[]
theorem Zkh{P:Program}{kt:TypeId}(hk:P.underlying kt=some .string)(b:Bool)(a:Bl)(n:Nat)(w:World):(Instr.checkKey b (n+1) kt (mkS a)).run P w=.ok () w:=by
 simp only[Instr.checkKey,B8,run_underlying hk,C9]
 rfl
theorem keyS{P:Program}{kt:TypeId}(hk:P.underlying kt=some .string):KeyK P kt mkS unS where
 inv:=fun a=>by simp[unS,mkS]
 d:=⟨_,hk,fun a b=>by
  show some (a.toArray==b.toArray)=_
  congr 1
  have:(a==b)=decide (a=b):=by by_cases e:a=b<;>simp[e]
  simpa using this⟩
 ok:=fun b a w=>Zkh hk b a 9999 w
def knV (L:List Dv)(i:Nat):List (Bl×Value):=(Fn L i).map fun x=>(x.1,V0 (x.2:Int))
theorem knV_yes{L:List Dv}{i:Nat}(h:Xo L i=i):knV L i++[(txt (L.getD i dvD).2,V0 (i:Int))]=knV L (i+1):=by
 unfold knV;rw[Fm,if_pos h,A9];rfl
theorem knV_no{L:List Dv}{i:Nat}(h:Xo L i≠i):knV L i=knV L (i+1):=by unfold knV;rw[Fm,if_neg h]
theorem Zh1{L:List Dv}{i:Nat}{t:Bl}:t∈(knV L i).map Prod.fst↔∃ k,k<i∧Xo L k=k∧txt (L.getD k dvD).2=t:=by
 unfold knV Fn
 simp only[M2,List.mem_map,List.mem_filter,D9,Function.comp_apply,beq_iff_eq]
 constructor
 ·rintro⟨k,⟨h1,h2⟩,h3⟩;exact⟨k,h1,h2,h3⟩
 ·rintro⟨k,h1,h2,h3⟩;exact⟨k,⟨h1,h2⟩,h3⟩
theorem Ziq{L:List Dv}{i:Nat}(hi:i<L.length)(h:Xo L i=i):Wc (knV L i) (txt (L.getD i dvD).2)=none:=Zg0 fun q=>by
 obtain⟨k,h1,h2,h3⟩:=Zh1.1 q
 have h4:=Zbw h3
 exact Dc (by rw[h];exact h1) h4
theorem Zb4{L:List Dv}{i j:Nat}(hi:i<L.length)(h:Xo L i<j):Wc (knV L j) (txt (L.getD i dvD).2)=some (V0 (Xo L i:Int)):=by
 have hm:txt (L.getD i dvD).2∈(knV L j).map Prod.fst:=Zh1.2 ⟨Xo L i,h,Cr hi,by rw[(Gp hi).2]⟩
 obtain⟨v,h1,h2⟩:=Zi8 hm
 rw[h1]
 unfold knV Fn at h2
 simp only[M2,List.mem_map,List.mem_filter,D9,Function.comp_apply,beq_iff_eq,C8] at h2
 obtain⟨k,⟨_,h3⟩,h4,rfl⟩:=h2
 have h5:=Zbw h4
 have hk:Xo L k=Xo L i:=by
  refine Oc hi ?_ fun q hq=>?_
  ·have e:(L.getD (Xo L k) dvD).2=(L.getD k dvD).2:=by rw[h3]
   rw[e,h5]
  ·have:=Dc hq
   rw[h5] at this;exact this
 rw[←hk,h3]
theorem Za5{L:List Dv}{i:Nat}:((List.range i).map (Xo L)).map nv++[V0 (↑(Xo L i):Int)]=((List.range (i+1)).map (Xo L)).map nv:=by
 rw[C1,A9,A9];rfl
theorem knV_0(L:List Dv):knV L 0=[]:=rfl
theorem Vw(p:O0)(c n:Nat)(t u v x:Int)(Z:List Zv)(w:World)(hI:ItT w)(hZ:Z.length=n)(hP:DevsR w p c Z)(hR:∀ i,i<n→(∀ m∈(Z.getD i zvD).1.2,MpR m)∧(Z.getD i zvD).1.2.length≤100000)(hn:n≤100000) :
 C0 8 #[.agg #[V0 t,V0 u,V0 v,V0 x,.slice p n c]] w (Qo (fun w' r=>∃ q d,r=.slice q n d∧w'.ownsRow w.heap.size 3 1 (.slice q n d) n ((owL (Z.map Prod.fst)).map nv)) w):=by
 have f2:=Sl.len (hP.rowN hZ)
 refine zin 41 Tryz.func8 ?_
 refine xa 2 [V0 t,V0 u,V0 v,V0 x,.slice p n c] 24 fun b1 W1 n1=>?_
 refine xmmV mkS 5 64 fun rm W2 m2=>?_
 have d8:=m2.ge n1.below
 have k1:=n1.blk.below m2.below
 refine xb 12 4 k1 ?_
 have hM:=(knV_0 (Z.map Prod.fst)▸m2.map)
 have d0:=bln n1.below m2.below
 refine zl 5 41 (fun zm e0 V=>∃ (i:Nat) (rp:O0) (rc:Nat),e0=[(2,S0),(3,.map (some rm)),(4,.slice rp i rc),(12,.slice p n c),(13,V0 (n:Int)),(14,V0 (i:Int))]∧zm=n-((i:Int)).toNat∧B3 w V∧Blk V b1 ([V0 t,V0 u,V0 v,V0 x,.slice p n c]) 24∧V.ownsRow w.heap.size 3 1 (.slice rp i rc) i (((List.range i).map (Xo (Z.map Prod.fst))).map nv)∧Wk mkS V rm (knV (Z.map Prod.fst) i)∧i≤n) ⟨0,none,0,rfl,rfl,d0,k1,A4 _ _ _ _,hM,A3 _⟩ ?_
 rintro _ _ W3 ⟨i,rp,rc,rfl,rfl,a4,b0,d1,d2,hi⟩ J3 d7 r3
 refine xid 6 ((i:Int)<(n:Int)) (fun e5=>?_) (fun e5=>?_)
 ·have b4:=Rn (Z:=Z) (i:=i) M0 dvD
  have e1:i<(Z.map Prod.fst).length:=by rw[At];omega
  have f5:=(Gp e1).1
  refine xx 7 _ n i 5 (hP.someN hZ (i:=i) M0) ?_
  refine xlv 0 (Sts.rp (k:=i) (hP.below a4).row Xs zvD M0 Do) ?_
  refine xa 0 [V0 0,V0 0,V0 0,V0 0,S0] 32 fun b5 W5 n5=>?_
  have g5:=n5.ge a4
  refine xsv 1 n5.blk [V0 ((Z.getD i zvD).1.1.1),V0 ((Z.getD i zvD).1.1.2.1),V0 ((Z.getD i zvD).1.1.2.2.1),V0 ((Z.getD i zvD).1.1.2.2.2),.slice ((Z.getD i zvD).2.1) ((Z.getD i zvD).1.2.length) ((Z.getD i zvD).2.2)] fun W6 u6 k6=>?_
  refine xb 5 4 k6 ?_
  have a7:=u6.below (bln a4 n5.below) g5
  refine xr 0 (args:=#[.slice ((Z.getD i zvD).2.1) ((Z.getD i zvD).1.2.length) ((Z.getD i zvD).2.2)]) (Zkc (Z.getD i zvD).2.1 (Z.getD i zvD).2.2 (Z.getD i zvD).1.2 _ (hI.below a7) ((hP.each i M0).below a7) (hR i M0).1 (hR i M0).2) fun W7 b3=>?_
  have a0:=((d2.below n5.below).updBlk u6 n5.blk).below b3
  rcases Decidable.em (Xo (Z.map Prod.fst) i=i) with c4|c4
  ·have a3:Xo (Z.map Prod.fst) i=i:=c4
   refine xlkN 8 (z:=V0 0) (txt (Z.getD i zvD).1.2) true Tryz.underlying64 (keyS Tryz.underlying9) (fun V=>by kernel_rfl) a0 (by rw[←b4];exact Ziq M0 a3) ?_
   have d6:=Wk.obj a0
   refine xmuV 18 (txt (Z.getD i zvD).1.2) (V0 (i:Int)) Tryz.underlying64 (keyS Tryz.underlying9) a0 (by rw[←b4];exact Ziq M0 a3) fun W8 u8 m8=>?_
   have hM:=(by have q9:=m8;rw[←b4,knV_yes a3] at q9;exact q9)
   refine xlkS 6 (txt (Z.getD i zvD).1.2) false Tryz.underlying64 (keyS Tryz.underlying9) hM (by rw[←b4];exact Zb4 (j:=i+1) M0 M0) ?_
   refine xbs 0 1 [V0 (↑(Xo (Z.map Prod.fst) i):Int)] 3 fun b9 W9 n9=>?_
   have c0:=u8.below (bln a7 b3) d8
   have g9:=n9.ge c0
   have a8:=own_obj (Za (u6.own2 (Za d1 n5.below) n5.blk Do) b3) d6 u8
   have d5:=Zg a8 n9
   have a2:=Za a8 n9.below
   have b8:=bln c0 n9.below
   refine xbi 0 fun _ _ _ _ zJ zQ zo zx zy zK=>Zr (m:=1) (news:=[V0 (↑(Xo (Z.map Prod.fst) i):Int)]) (V0 0) 1 8 (i+1) ((((List.range (i+1)).map (Xo (Z.map Prod.fst))).map nv)) zo Tryz.underlying27 K0 rfl Do zx a2 zy (n9.blk.sl 1 1 Do Do) rfl (by simp[Value.oneCell']) (by unfold maxLen;omega) M0 b8.size (by rfl) (Za5) fun d9 e4 f1 e7 c2 c6=>?_
   refine zK _ _ ?_
   refine xwm 5 ((i:Int)+1) (↑(i+1):Int) ?_
   have c8:=(hM.below n9.below).grown c2 a2
   have c9:=b8.trans c6
   have a5:=((blk_obj ((u6.blkT (b0.below n5.below) n5.blk Do).below b3) d6 u8).below n9.below).grown c2 a2 Do
   exact ze 2 (d7 _ _ _ ⟨i+1,_,_,rfl,rfl,c9,a5,e7,c8,by omega⟩ M0)
  have a3:Xo (Z.map Prod.fst) i≠i:=c4
  have d4:Xo (Z.map Prod.fst) i<i:=by omega
  refine xlkS 8 (txt (Z.getD i zvD).1.2) true Tryz.underlying64 (keyS Tryz.underlying9) a0 (by rw[←b4];exact Zb4 M0 d4) ?_
  refine xlkS 20 (txt (Z.getD i zvD).1.2) false Tryz.underlying64 (keyS Tryz.underlying9) a0 (by rw[←b4];exact Zb4 (j:=i) M0 M0) ?_
  refine xbs 0 1 [V0 (↑(Xo (Z.map Prod.fst) i):Int)] 3 fun f0 f3 b2=>?_
  have b6:=bln a7 b3
  have f4:=b2.ge b6
  have a9:=Za (u6.own2 (Za d1 n5.below) n5.blk Do) b3
  have c3:=Zg a9 b2
  have a1:=Za a9 b2.below
  have c1:=bln b6 b2.below
  refine xbi 0 fun _ _ _ _ zJ zQ zo zx zy zK=>Zr (m:=1) (news:=[V0 (↑(Xo (Z.map Prod.fst) i):Int)]) (V0 0) 1 8 (i+1) ((((List.range (i+1)).map (Xo (Z.map Prod.fst))).map nv)) zo Tryz.underlying27 K0 rfl Do zx a1 zy (b2.blk.sl 1 1 Do Do) rfl (by simp[Value.oneCell']) (by unfold maxLen;omega) M0 c1.size (by rfl) (Za5) fun e6 e2 e9 e3 b7 c7=>?_
  refine zK _ _ ?_
  refine xwm 5 ((i:Int)+1) (↑(i+1):Int) ?_
  have d3:=(a0.below b2.below).grown b7 a1
  have c5:=c1.trans c7
  have a6:=(((u6.blkT (b0.below n5.below) n5.blk Do).below b3).below b2.below).grown b7 a1 Do
  exact ze 2 (d7 _ _ _ ⟨i+1,_,_,rfl,rfl,c5,a6,e3,(knV_no a3▸d3),by omega⟩ M0)
 have e8:i=n:=by omega
 exact xe 12 (.slice rp i rc) (by subst e8;have q:=d1;exact⟨_,rfl,a4,_,_,rfl,by unfold owL;rw[At,hZ];exact q⟩)
end Go.Proofs.YtekomodnkfhihaaGreatDoor
namespace Go.Proofs.YtekomodnkfhihaaGreatDoor
set_option maxHeartbeats 8000000
set_option maxRecDepth 100000
open Go.RowKit
set_option linter.unusedVariables false
def rdPost(B:Nat)(Kp:World→World→Prop)(I:Nat→World→Prop)(Ix:Code→Nat→World→Prop)(k:Nat)(W:World):Exit→Act→World→Prop
 | .normal,_,V=>KeepsFrom B W V∧Kp W V∧I (k+1) V
 | .ret,_,V=>KeepsFrom B W V∧Ix .ret k V
 | .exit id,_,V=>KeepsFrom B W V∧Ix (.exit id) k V
 | .goto _,_,_=>False
 | .panic _,_,_=>False
 | .outgrown,_,_=>False
structure RecAt(n:Nat)(r:Loop)(W:World):Prop where
 l:W.heap[n+1]? = some (.loop r)
 d:W.heap[n]? = some (.deferred (some []))
theorem RecAt.lt{n:Nat}{r:Loop}{W:World}(h:RecAt n r W):n+1<W.heap.size:=(Array.getElem?_eq_some_iff.1 h.l).1
theorem RecAt.kept{n:Nat}{r:Loop}{A B:World}{row:Option Nat}(h:RecAt n r A)(hg:A.grownBy B row)(hr:∀ k,row=some k→k<n):RecAt n r B :=
 ⟨(hg.block _ h.lt (fun e=>by have:=hr _ e.symm;omega)).trans h.l,(hg.block _ (by have:=h.lt;omega) (fun e=>by have:=hr _ e.symm;omega)).trans h.d⟩
theorem RecAt.from{n:Nat}{r:Loop}{A B:World}(h:RecAt n r A)(k:KeepsFrom n A B):RecAt n r B:=⟨k.same _ _ M0 h.l rfl,k.same _ _ (A6 _) h.d rfl⟩
theorem RecAt.put{n:Nat}{r:Loop}{A:World}(h:RecAt n r A)(r':Loop):RecAt n r' (A.putObj (n+1) (.loop r')) :=
 ⟨World.putObj_heap_same h.lt,(G7 M0).trans h.d⟩
def SeqB{α:Type}(P:Program)(g:Nat)(lb:Array Value)(encs:α→Array Value)(Kp:World→World→Prop)(R:List α)(w:World):Prop :=
 ∀ (l:Nat) (J Jx:Nat→World→Prop) (W:World),B3 w W →
  (∀ k A B,J k A→Below A.heap.size A B→J k B) →
  (∀ k x V,R[k]? = some x→J k V→YieldAt Fence.wide 2 P l (encs x) V fun e U =>
   (e=.returned (.bool true)∧J (k+1) U∧Kp V U)∨(e=.returned (.bool false)∧Jx k U)) →
  J 0 W →
  CallsIn Fence.wide 3 P g (#[.func (.yield l) #[] #[]]++lb) W fun e U=>(∃ v,e=.returned v)∧(J R.length U∨∃ k,k<R.length∧Jx k U)
theorem RecAt.bel{n:Nat}{r:Loop}{A B:World}(h:RecAt n r A)(k:Below A.heap.size A B):RecAt n r B:=⟨(k.block _ h.lt).trans h.l,(k.block _ (by have:=h.lt;omega)).trans h.d⟩
theorem Zil{α:Type}{P:Program}{g:Operand}{ps:Array Tmp}{assign body:Code}{Q:Exit→Act→World→Prop}{a:Act}{w:World}{gf:Nat}{lb:Array Value}
  (hg:a.eval g=.func (.func gf) #[] lb) (eg:∀ args w,(callFunc gf args).run P w=.ok (.enter gf args) w) {encs:α→Array Value} {R:List α} (p:Nat→Prop) (hp:∀ b,p b→b<w.heap.size)
  (hseq:SeqB P gf lb encs (Keeps p) R w) (hps:∀ x,(encs x).size=ps.size)
  (I:Nat→World→Prop) (Ix:Code→Nat→World→Prop) (hIb:∀ k A B,I k A→Below A.heap.size A B→I k B) (hI:∀ k A B row,I k A→A.grownBy B row→(∀ r,row=some r→w.heap.size≤r∧∃ o:Obj,A.heap[r]? = some o∧o.isCells=false)→I k B)
  (hIx:∀ c k A B row,Ix c k A→A.grownBy B row→(∀ r,row=some r→w.heap.size≤r∧∃ o:Obj,A.heap[r]? = some o∧o.isCells=false)→Ix c k B) (h0:I 0 w) (A2:α→Act→World→Prop)
  (hA2:∀ x a A B row,A2 x a A→A.grownBy B row→(∀ r,row=some r→w.heap.size≤r∧∃ o:Obj,A.heap[r]? = some o∧o.isCells=false)→A2 x a B)
  (hassign:∀ (l k:Nat) (x:α) (W:World) (K:Act→World→Prop),R[k]? = some x→I k W→(∀ a2 W2,B3 W W2→A2 x a2 W2→K a2 W2) →
   assign.wpIn (Fence.wide.inRound l) 2 P (Exit.then K (fun _ _ _=>False)) { tmps:=(ps.zip (encs x)).foldl (fun t (p,v)=>t.setIfInBounds p v) a.tmps,defers:=[] } W)
  (hbody:∀ (l k:Nat) (x:α) (a2:Act) (W:World),w.heap.size≤l→R[k]? = some x→I k W→A2 x a2 W→body.wpIn (Fence.wide.inRound l) 2 P (rdPost w.heap.size (Keeps p) I Ix k W) a2 W)
  (hdone:∀ (D:Nat) (W:World),w.heap.size≤D→I R.length W→W.heap[D]? = some (.deferred (some []))→Q .normal { a with defers:={ target:=.collected D,args:=#[] }::a.defers } W)
  (hstop:∀ (D:Nat) (c:Code) (k:Nat) (W:World),w.heap.size≤D→k<R.length→Ix c k W→W.heap[D]? = some (.deferred (some []))→c.wp P Q { a with defers:={ target:=.collected D,args:=#[] }::a.defers } W) :
  (Code.rangeFunc g ps assign body).wp P Q a w:=by
 refine(wpIn_wide (n:=4)).1 (wpIn_rangeFunc fun fn _=>?_)
 obtain⟨a4,a0⟩:∃ a4:LoopState→Option Code→Loop,a4=fun st pe=>{ state:=st,pending:=pe,fn,tmps:=a.tmps,params:=ps,assign,body,defers:=w.heap.size }:=⟨_,rfl⟩
 obtain⟨W1,b3⟩:∃ W1,(w.alloc (.deferred (some []))).alloc (.loop (a4 .ready none))=W1:=⟨_,rfl⟩
 have b7:RecAt w.heap.size (a4 .ready none) W1:=by
  rw[←b3]
  refine⟨?_,(Below.heap_alloc _ _ _ (by simp)).trans (I9 w _)⟩
  have:=I9 (w.alloc (.deferred (some []))) (.loop (a4 .ready none))
  rwa [World.size_alloc] at this
 have c1:I 0 W1:=by
  rw[←b3]
  exact hI _ _ _ none (hI _ _ _ none h0 (L4 _ _ _) (fun _ e=>by cases e)) (L4 _ _ _) (fun _ e=>by cases e)
 have c0:B3 w W1:=by
  rw[←b3];exact((Below.refl _ w).alloc (A6 _) _).alloc (by simp) _
 refine⟨w.heap.size+1,[{ target:=.collected w.heap.size,args:=#[] }],W1,{ target:=.fn (.func gf) lb,args:=#[.func (.yield (w.heap.size+1)) #[] #[]] },W1,gf,
  #[.func (.yield (w.heap.size+1)) #[] #[]]++lb,W1,?_,?_,fun _ _=>trivial,?_,fun _=>by omega,?_⟩
 ·rw[←b3,a0];exact run_enterLoop_outer _ _ _ _ _
 ·simp only[resolve,hg]
  simp[go_sem]
 ·simp[invoke,go_sem,eg]
 refine(hseq (w.heap.size+1) (fun k W=>I k W∧RecAt w.heap.size (a4 .ready none) W) (fun k W=>∃ c,Ix c k W∧RecAt w.heap.size (a4 .done (some c)) W) W1 c0
  (fun k A B hs hb=>⟨hIb _ _ _ hs.1 hb,hs.2.bel hb⟩) ?_ ⟨c1,b7⟩).mono ?_
 ·rintro k x W hx ⟨hi,hl⟩
  have hy:=run_yield (P:=P) (args:=encs x) hl.l (by rw[a0];exact hps x)
  rw[a0] at hy
  refine⟨fn,_,assign,body,hy,roundIn_of_wpIn trivial (hassign _ k x W _ hx hi fun a2 W2 b1 b9=>⟨_,run_beginRound (hl.bel b1).l (by rw[a0]),?_⟩)⟩
  have b2:=hl.bel b1
  obtain⟨Wb,a6⟩:∃ Wb,W2.putObj (w.heap.size+1) (.loop { a4 .ready none with state:=.busy })=Wb:=⟨_,rfl⟩
  have b8:RecAt w.heap.size (a4 .busy none) Wb:=by
   have:=b2.put (a4 .busy none)
   rw[a0] at this a6
   rw[a6] at this
   rw[a0]
   exact this
  have c4:I k Wb:=by
   rw[←a6]
   exact hI _ _ _ _ (hIb _ _ _ hi b1) (grownBy_putObj' W2 _ _) (fun r e=>by cases e;exact⟨by omega,_,b2.l,rfl⟩)
  have c2:A2 x a2 Wb:=by
   rw[←a6]
   exact hA2 _ _ _ _ _ b9 (grownBy_putObj' W2 _ _) (fun r e=>by cases e;exact⟨by omega,_,b2.l,rfl⟩)
  have c3:Keeps p W Wb:=by
   have h1:Keeps p W W2:=⟨b1.size,fun b hb=>b1.block b (Nat.lt_trans (hp b hb) (by have:=hl.lt;omega))⟩
   rw[←a6]
   exact h1.trans (Zbg hp W2 _ _ _ M0 b2.l rfl rfl)
  rw[a6]
  refine wpIn_mono (hbody _ k x a2 Wb M0 hx c4 c2) ?_
  have b6:∀ (a1:Option Code) (V:World),KeepsFrom w.heap.size Wb V→RecAt w.heap.size (a4 .busy none) V∧∃ U,U=V.putObj (w.heap.size+1) (.loop (a4 (if a1.isNone then .ready else .done) a1)) ∧
    (Instr.endRound (w.heap.size+1) a1).run P V=.ok (.bool a1.isNone) U∧RecAt w.heap.size (a4 (if a1.isNone then .ready else .done) a1) U:=fun a1 V hk=>by
   have hv:=b8.from hk
   have he:=run_endRound (P:=P) a1 hv.l
   refine⟨hv,_,rfl,?_,hv.put _⟩
   rw[a0] at he ⊢
   exact he
  have b5:∀ {V:World} {r r':Loop} {k:Nat},RecAt w.heap.size r V→I k V→I k (V.putObj (w.heap.size+1) (.loop r')):=fun hv h=>hI _ _ _ _ h (grownBy_putObj' _ _ _) (fun r e=>(by cases e;exact⟨by omega,_,hv.l,rfl⟩))
  have a7:∀ {V:World} {r r':Loop} {c:Code} {k:Nat},RecAt w.heap.size r V→Ix c k V→Ix c k (V.putObj (w.heap.size+1) (.loop r')):=fun hv h=>hIx _ _ _ _ _ h (grownBy_putObj' _ _ _) (fun r e=>by cases e;exact⟨by omega,_,hv.l,rfl⟩)
  rintro e a3 V a5
  cases e with
  | normal =>
   obtain⟨a9,b4,a8⟩:=a5
   obtain⟨hv,U,rfl,hr,b0⟩:=b6 none V a9
   exact⟨_,_,hr,.inl ⟨rfl,⟨b5 hv a8,b0⟩,(c3.trans b4).trans (Zbg hp V _ _ _ M0 hv.l rfl rfl)⟩⟩
  | ret =>
   obtain⟨a9,a8⟩:=a5
   obtain⟨hv,U,rfl,hr,b0⟩:=b6 (some .ret) V a9
   exact⟨_,_,hr,.inr ⟨rfl,.ret,a7 hv a8,b0⟩⟩
  | exit id =>
   obtain⟨a9,a8⟩:=a5
   obtain⟨hv,U,rfl,hr,b0⟩:=b6 (some (.exit id)) V a9
   exact⟨_,_,hr,.inr ⟨rfl,.exit id,a7 hv a8,b0⟩⟩
  | goto t=>exact a5.elim
  | panic ch=>exact a5.elim
  | outgrown=>exact a5.elim
 ·rintro e W2 ⟨⟨v,rfl⟩,(⟨hi,hl⟩|⟨k,hk,c,hi,hl⟩)⟩
  ·have he:=run_endLoop (P:=P) hl.l (by rw[a0];simp)
   rw[show(a4 .ready none).pending=none by rw[a0]] at he
   exact⟨none,_,he,hdone _ _ (A6 _) (hI _ _ _ _ hi (grownBy_putObj' _ _ _) (fun r e=>(by cases e;exact⟨by omega,_,hl.l,rfl⟩))) ((G7 M0).trans hl.d)⟩
  ·have he:=run_endLoop (P:=P) hl.l (by rw[a0];simp)
   rw[show(a4 .done (some c)).pending=some c by rw[a0]] at he
   exact⟨some c,_,he,wpIn_wide.2 (hstop _ c k _ (A6 _) hk (hIx _ _ _ _ _ hi (grownBy_putObj' _ _ _) (fun r e=>by cases e;exact⟨by omega,_,hl.l,rfl⟩)) ((G7 M0).trans hl.d))⟩
end Go.Proofs.YtekomodnkfhihaaGreatDoor
namespace Go.Proofs.YtekomodnkfhihaaGreatDoor
set_option maxHeartbeats 8000000
set_option maxRecDepth 100000
open Go.RowKit
set_option linter.unusedVariables false
attribute [local go_sem] Oper.semAt_some
theorem Sl.to{w W:World}{v:Value}{n:Nat}{xs:List Value}(h:Sl w v n xs)(hk:∀ a x,w.cell? a=some x→W.cell? a=some x):Sl W v n xs:=by
 rcases h with h|⟨b,a1,a0,h1,h2,h3,h4⟩
 ·exact .inl h
 ·exact .inr ⟨b,a1,a0,h1,h2,h3,fun j x hj=>hk _ _ (h4 j x hj)⟩
theorem DevsR.to{w W:World}{p:O0}{c:Nat}{Z:List Zv}(h:DevsR w p c Z)(hk:∀ a x,w.cell? a=some x→W.cell? a=some x):DevsR W p c Z:=⟨Sl.to h.row hk,fun i hi=>Sl.to (h.each i hi) hk⟩
def encM(x:Nat×Mp):Array Value:=#[V0 (x.1:Int),.agg #[V0 x.2.1,V0 x.2.2.1,V0 x.2.2.2]]
theorem Ei{q:Nat→Prop}{W V:World}(h:Keeps q W V)(hq:∀ b,q b→b<W.heap.size)(o:Obj):Keeps q W (V.alloc o):=by
 have hb:=(Below.refl V.heap.size V).alloc (A6 _) o
 exact⟨N0 h.size hb.size,fun b a0=>(hb.block b (D0 (hq b a0) h.size)).trans (h.block b a0)⟩
theorem sl_lit{α:Type}{f:α→List Value}{w:World}{p:O0}{n c:Nat}{l:List α}(h:Sl w (.slice p n c) n (l.flatMap f))(hn:0<n):∃ pb po,p=some ⟨pb,po,none⟩∧∀ j x,(l.flatMap f)[j]? = some x→w.cell? ⟨pb,po+j,none⟩=some x:=by
 rcases h with ⟨a,cc,h1,h2,_⟩|⟨pb,po,a0,h1,_,_,h4⟩
 ·omega
 ·simp only[B6] at h1
  exact⟨pb,po,h1.1,h4⟩
theorem maps1_in(l B1:Nat)(pp:O0)(n c:Nat)(t u v x:Int)(Z:List Zv)(w:World)(hZ:Z.length=n)(hP:DevsR w pp c Z)(hn:n≤1000000000)(q:Nat→Prop)(hq:∀ b,b<w.heap.size→q b)(J Jx:Nat→World→Prop)(hJ:∀ k A B,J k A→Below A.heap.size A B→J k B)
 (hY:∀ k x V,(Vc 0 (Z.map Prod.fst))[k]? = some x→J k V→YieldAt Fence.wide 2 Tryz.prog l (encM x) V fun e U =>
 (e=.returned (.bool true)∧J (k+1) U∧Keeps q V U)∨(e=.returned (.bool false)∧Jx k U))
 (W:World) (hW:B3 w W) (hqlt:∀ b,q b→b<W.heap.size) (hk1:Blk W B1 [V0 t,V0 u,V0 v,V0 x,.slice pp n c] 24) (h0:J 0 W) :
 CallsIn Fence.wide 3 Tryz.prog 137 #[.func (.yield l) #[] #[],P0 B1] W fun e U=>(∃ v,e=.returned v)∧(J (Vc 0 (Z.map Prod.fst)).length U∨∃ k,k<(Vc 0 (Z.map Prod.fst)).length∧Jx k U):=by
 refine callsIn_of_wp Tryz.func137 rfl trivial ?_ rfl
 simp only[Tryz.ntmps137,G8,E4,K4,Nat.reduceAdd,Nat.reduceSub,L2,L3,L9,L6,G9,H1]
 have z4:=hk1.cell (i:=4) rfl
 have c5:(Z.map Prod.fst).length=n:=by rw[At];exact hZ
 gi_wp2
 gi_loopw [10] (fun i wr=>∃ k:Nat,k≤n∧i=V0 (k:Int)∧J (Vo ((Z.map Prod.fst).take k)) wr∧Keeps q W wr)
  (fun i _=>(n-(intOf i)).toNat)
 case atStart=>exact⟨0,A3 _,rfl,h0,Keeps.refl _ _⟩
 case round =>
  obtain⟨k,hk,rfl,a0,b4⟩:=hrel
  by_cases hlt:k<n
  ·have a9:∀ {V:World},Keeps q W V→DevsR V pp c Z:=fun hV=>hP.to (fun a x ha=>(hV.cell (a:=a) (hq _ (ltC ha))).trans (Zhb hW ha))
   have b3:=a9 b4
   have a1:Sl wr (.slice pp n c) n (Z.flatMap devZ):=b3.rowN hZ
   obtain⟨pb,po,b9,hc⟩:=sl_lit a1 M0
   have gz:∀ i x,i<5→(devZ (Z.getD k zvD))[i]? = some x→wr.cell? ⟨pb,po+k*5+i,none⟩=some x:=fun i x hi hx=>by
    rw[D4]
    exact hc _ _ ((Ck Xs Z k i zvD M0 hi).trans hx)
   have a2:=fun j hj=>Zcr (L:=Z.map Prod.fst) (i:=k) (j:=j) M0 hj
   rw[Rn M0] at a2
   have a8:=Ga (Z:=Z) (i:=k) M0
   have b0:=fun {V:World} (hV:Keeps q W V)=>(a9 hV).each k M0
   obtain⟨⟨⟨⟨i0,i1,i2,i3⟩,M⟩,mp,mc⟩,hz⟩:∃ z,Z.getD k zvD=z:=⟨_,rfl⟩
   rw[hz] at gz a2 a8
   simp only[hz] at b0
   have z5:=gz 0 _ Do rfl
   have z6:=gz 1 _ Do rfl
   have z7:=gz 2 _ Do rfl
   have z8:=gz 3 _ Do rfl
   have z9:=gz 4 _ Do rfl
   rw[I0] at z5
   clear gz hc hz a1 b3
   subst b9
   obtain⟨S,hS⟩:∃ S,Vo ((Z.map Prod.fst).take k)=S:=⟨_,rfl⟩
   rw[hS] at a0 a2 a8
   gi_wp2
   gi_loopw [18] (fun j b1=>∃ m:Nat,m≤M.length∧j=V0 (m:Int)∧J (S+m) b1∧Keeps q W b1)
    (fun j _=>(M.length-(intOf j)).toNat)
   case atStart=>exact⟨0,A3 _,rfl,hJ _ _ _ a0 ((Below.refl _ wr).alloc (A6 _) _),Ei b4 hqlt _⟩
   case round =>
    obtain⟨m,hm,rfl,b6,a5⟩:=hrel
    have hM:=b0 a5
    have c6:M.length≤9223372036854775807:=Sl.len hM
    by_cases hmt:m<M.length
    ·have b2:Sl wr (.slice mp M.length mc) M.length (M.flatMap Rp):=hM
     obtain⟨mb,mo,b8,b5⟩:=sl_lit b2 M0
     have gm:∀ i x,i<3→(Rp (M.getD m (0,0,0)))[i]? = some x→wr.cell? ⟨mb,mo+m*3+i,none⟩=some x:=fun i x hi hx=>by
      rw[D4]
      exact b5 _ _ ((Ck Xj M m i (0,0,0) hmt hi).trans hx)
     have hx:=a2 m hmt
     obtain⟨⟨m1,m2,m3⟩,a7⟩:∃ y,M.getD m (0,0,0)=y:=⟨_,rfl⟩
     rw[a7] at gm
     have a3:(Vc 0 (Z.map Prod.fst))[S+m]? = some (k,(m1,m2,m3)):=by rw[hx];exact congrArg (fun y=>some (k,y)) a7
     have y1:=gm 0 _ Do rfl
     have y2:=gm 1 _ Do rfl
     have y3:=gm 2 _ Do rfl
     rw[I0] at y1
     clear gm b5 b2 hM hx a7
     subst b8
     have c4:=(Below.refl wr.heap.size wr).alloc (A6 _) (.cells #[V0 m1,V0 m2,V0 m3] 63)
     obtain⟨fn,b7,a6,c1,hy,hR⟩:=hY _ _ (wr.alloc (.cells #[V0 m1,V0 m2,V0 m3] 63)) a3 (hJ _ _ _ b6 c4)
     have c2:=Ei a5 hqlt (.cells #[V0 m1,V0 m2,V0 m3] 63)
     simp only[encM] at hy
     gi_wp2
     refine hR.mono ?_
     rintro e W3 (⟨rfl,c3,c0⟩|⟨rfl,a4⟩)
     ·gi_wp2
      go_roundw
      case rel =>
       refine⟨m+1,by omega,?_,c3,c2.trans c0⟩
       exact congrArg V0 M0
      case measure=>simp only[intOf];omega
     ·gi_wp2
      refine bodyPost_ret (results_none rfl _ _ _) rfl ?_
      refine⟨⟨_,rfl⟩,.inr ⟨_,?_,a4⟩⟩
      rcases C3 (S+m) (Vc 0 (Z.map Prod.fst)).length with h|h
      ·exact h
      ·rw[C5 h] at a3;cases a3
    ·obtain rfl:m=M.length:=by omega
     gi_wp2
     go_roundw
     case rel =>
      refine⟨k+1,by omega,?_,by rw[a8];exact b6,a5⟩
      exact congrArg V0 M0
     case measure=>simp only[intOf];omega
  ·obtain rfl:k=n:=by omega
   have HJ:=Lib.hid a0;clear a0
   gi_wp2
   go_end0
   have a0:=HJ.out
   rw[A1 M0] at a0
   exact⟨⟨_,rfl⟩,.inl (by rw[Uv];exact a0)⟩
end Go.Proofs.YtekomodnkfhihaaGreatDoor
namespace Go.Proofs.YtekomodnkfhihaaGreatDoor
set_option maxHeartbeats 8000000
set_option maxRecDepth 100000
open Go.RowKit Go.Extern.Stop Go.Stop Go.Extern
set_option linter.unusedVariables false
attribute [local irreducible] wpList wpAnyH Code.wp Oper.wp Go
theorem Zbl(cs:List Nat):(cs.map fun c:Nat=>(c:Int)).map V0=cs.map nv:=by simp[nv]
theorem nv_get{cs:List Nat}{k:Nat}(h:k<cs.length):(cs.map nv)[k]? = some (V0 ((cs.getD k 0:Nat):Int)):=by simp[List.getD,h,nv]
theorem Zbv(cs:List Nat)(k:Nat):(cs.map nv).set k (V0 ((cs.getD k 0+1:Nat):Int))=(Tg cs (k:Int)).map nv:=by
 unfold Tg;rw[C4,List.map_set];rfl
theorem bump_get{cs:List Nat}{k:Nat}(h:k<cs.length):(Tg cs (k:Int)).getD k 0=cs.getD k 0+1:=by
 unfold Tg;rw[C4];simp[List.getD,h]
theorem Hf{w:World}{pc:O0}{n m:Nat}{cs:List Nat}(h:Sl w (.slice pc n m) n (cs.map nv)){k:Nat}(hk:k<cs.length):pc.isSome=true∧w.cell? (Xa pc (k*1))=some (V0 ((cs.getD k 0:Nat):Int)):=by
 rcases h with ⟨a,c,h1,h2,h3⟩|⟨b,a1,a0,h1,h2,h3,h4⟩
 ·simp only[B6] at h1
  have:(cs.map nv).length=0:=by rw[h3];rfl
  rw[At] at this;omega
 ·simp only[B6] at h1
  obtain⟨rfl,_,_⟩:=h1
  refine⟨rfl,?_⟩
  have:=h4 k _ (nv_get hk)
  simpa [Xa,Addr.add_mid] using this
theorem Zis(n:Nat):Hn (Value.int .i64 0).cells.toList n=(List.replicate n (0:Nat)).map nv:=by
 rw[show(Value.int .i64 0).cells.toList=[Value.int .i64 0] from rfl,Hn,K6]
 induction n with
 | zero=>rfl
 | succ n ih=>rw[H0,K7,ih,H0];rfl
theorem nv_one(cs:List Nat):∀ u∈cs.map nv,u.oneCell'=true:=fun u hu=>by obtain⟨y,_,rfl⟩:=List.mem_map.1 hu;rfl
theorem Zit(n:Nat)(w:World)(h:n≤65536) :
 C0 70 #[V0 (n:Int)] w (Qo (fun w' r=>∃ br g,r=.tuple #[P0 br,V0 0]∧w.heap.size≤br∧Blk w' br [.slice (S1 g) n n] 231∧w'.ownsRow w.heap.size 3 1 (.slice (S1 g) n n) n ((List.replicate n (0:Nat)).map nv)) w):=by
 refine zin 14 Tryz.func70 ?_
 refine xgk 12 [5,6] (show(decide ((n:Int)<(0:Int)):Bool)=false from decide_eq_false M0) ?_
 refine xk 5 (show(decide ((n:Int)>(65536:Int)):Bool)=false from decide_eq_false M0) ?_
 refine xmk 5 fun _ _ _ _ zJ zQ zo zx zy zK=>Kf n (V0 0) 1 8 ((List.replicate n (0:Nat)).map nv) zo zx zy Tryz.underlying27 K0 rfl M0 M0 ((Zis n)) fun b2 W2 n2=>?_
 refine zK _ _ ?_
 refine xa 1 [.slice (S1 b2) n n] 231 fun b3 W3 n3=>?_
 have o2:=Za (Zz (size:=1) (n:=n) n2.blk (n2.ge (B4 w)) (by rw[At,A7,D5]) (by unfold maxLen;omega)) n3.below
 have hB:=bln n2.below n3.below
 have g3:=n3.ge n2.below
 exact xe 5 (.tuple #[P0 b3,V0 0]) ⟨_,rfl,hB,_,_,rfl,g3,n3.blk,o2⟩
theorem refs_own(br n:Nat)(p:O0)(w:World)(kr:Blk w br [.slice p n n] 231) :
 C0 136 #[P0 br] w (Ret (.slice p n n) w):=by
 refine zin 9 Tryz.func136 ?_
 refine xb 20 0 kr ?_
 exact xe 4 (.slice p n n) ⟨rfl,(B4 w)⟩
theorem Zhq(br g n B0:Nat)(cs:List Nat)(w:World)(kr:Blk w br [.slice (S1 g) n n] 231)(hc:w.ownsRow B0 3 1 (.slice (S1 g) n n) n (cs.map nv))(hn:cs.length=n)(hn2:n≤100000) :
 C0 73 #[P0 br] w (Qo (fun w' r=>∃ q c2,r=.slice q n c2∧w'.ownsRow w.heap.size 3 1 (.slice q n c2) n (cs.map nv)) w):=by
 refine zin 6 Tryz.func73 ?_
 refine xr 8 (args:=#[P0 br]) (refs_own br n _ _ kr) fun W1 a1=>?_
 have a2:=Za hc a1
 refine xc 0 (args:=#[.slice (S1 g) n n]) (Ml ⟨g,0,none⟩ n n (cs.map nv) _ (Ze a2) (by rw[At];exact hn) (nv_one _) M0) ?_
 rintro _ W2 ⟨_,rfl,a3,q,c2,rfl,hq⟩
 have a0:=Zf hq a1.size
 have hB:=bln a1 a3
 exact xe 4 (.slice q n c2) ⟨_,rfl,hB,_,_,rfl,a0⟩
theorem Zi5(B br g n k:Nat)(cs:List Nat)(w:World)(kr:Blk w br [.slice (S1 g) n n] 231)(hBw:B≤w.heap.size)(hc:w.ownsRow B 3 1 (.slice (S1 g) n n) n (cs.map nv))(hn:cs.length=n)(hk:k<n)(hb:cs.getD k 0≤4000000000000000000) :
 C0 71 #[P0 br,V0 (k:Int)] w ((fun e w'=>e=.returned (.tuple #[V0 ((cs.getD k 0+1:Nat):Int),V0 0])∧Below B w w'∧Zd [3] w w'∧Fr [g] w w'∧w'.ownsRow B 3 1 (.slice (S1 g) n n) n ((Tg cs (k:Int)).map nv))):=by
 have a3:=Wg cs (k:Int)
 refine zin 37 Tryz.func71 ?_
 refine xg 21 [11,12] (decide ((k:Int)<(0:Int))) (fun a0=>?_) (fun a0=>?_)
 ·have a0:=of_decide_eq_true a0
  exact xe 21 (.tuple #[V0 0,V0 3]) (by exfalso;omega)
 have a0:=of_decide_eq_false a0
 refine xb 4 0 kr ?_
 refine xid 6 ((k:Int)≥(n:Int)) (fun a2=>?_) (fun a2=>?_)
 ·exact xe 9 (.tuple #[V0 0,V0 3]) (by exfalso;omega)
 refine xb 8 0 kr ?_
 refine xx 1 _ n k 1 (Hf (Ze hc) (k:=k) M0).1 ?_
 refine xl 0 ((Hf (Ze hc) (k:=k) M0).2) ?_
 refine xwm 0 ((↑(cs.getD k 0):Int)+1) (↑((cs.getD k 0)+1):Int) ?_
 refine xx 0 _ n k 1 (Hf (Ze hc) (k:=k) M0).1 ?_
 refine xst 0 fun _ _ _ _ zJ zQ zo zx zy zK=>Xk (t:=3) (k:=k) (v:=V0 (↑((cs.getD k 0)+1):Int)) zo zx zy K0 rfl hc M0 fun W3 u3 o3=>?_
 rw[Zbv cs k] at o3
 refine zK _ _ ?_
 have a1:=u3.blk kr (Xd kr hc Do)
 refine xb 7 0 a1 ?_
 refine xx 1 _ n k 1 (Hf (Ze o3) (k:=k) M0).1 ?_
 refine xl 0 ((Hf (Ze o3) (k:=k) M0).2) ?_
 have hB:=u3.below (Below.refl B w) (Qa hc)
 have hO:=(show Zd [3] w _ from(Zd.of_updRow u3 hc Do))
 have hX:=(show Fr [g] w _ from(Fr.of_upd u3 (by simp)))
 exact xe 5 (.tuple #[V0 (↑((Tg cs (k:Int)).getD k 0):Int),V0 0]) ⟨by rw[bump_get M0],hB,hO,hX,o3⟩
end Go.Proofs.YtekomodnkfhihaaGreatDoor
namespace Go.Proofs.YtekomodnkfhihaaGreatDoor
set_option maxHeartbeats 8000000
set_option maxRecDepth 100000
open Go.RowKit
set_option linter.unusedVariables false
theorem Zau{P:Program}{l n:Nat}{ops:Array Oper}{Q:Exit→Act→World→Prop}(hQ:¬ LetsOut Q):∀ (r:List Oper) (a:Act) (w:World),(∀ o∈r,∀ c,o.op≠.defer c)→wpList P ops Q r a w→wpListIn (Fence.wide.inRound l) n P ops Q r a w
 | [],_,_,_,h=>h
 | o::r,a,w,hd,h=>by
  unfold wpList at h
  unfold wpListIn
  split at h
  ·rename_i hw
   rw[if_pos hw]
   exact Oper.wpIn_mono (fun a w=>Zau hQ r a w (fun o ho=>hd o (by simp[ho]))) (Zkx (hd o (by simp)) (h.resolve_right fun q=>hQ q.2))
  ·rename_i hw
   rw[if_neg hw]
   exact⟨fun _ _=>trivial,Zau hQ r _ _ (fun o ho=>hd o (by simp[ho])) h⟩
theorem reg_in{P:Program}{l0 n0 id:Nat}{l:List Oper}{Q:Exit→Act→World→Prop}{a:Act}{w:World}(hQ:¬ LetsOut Q)(hd:∀ o∈l,∀ c,o.op≠.defer c)(h:wpList P l.toArray Q l a w):(Code.region id l.toArray false).wpIn (Fence.wide.inRound l0) n0 P Q a w :=
 wpIn_region_lit (Zau hQ l a w hd h)
def Turns(q:Nat→Prop)(n:Nat)(A:World)(row:Option Nat):Prop:=∀ r,row=some r→q r∨n≤r∧∃ o:Obj,A.heap[r]? = some o∧o.isCells=false
theorem below_ab{n m:Nat}{q:Nat→Prop}{w A B:World}{row:Option Nat}(h:Below n w A)(hg:A.grownBy B row)(hr:Turns q m A row)(hn:n≤w.heap.size)(hm:n≤m)(hq:∀ r,q r→n≤r):Below n w B :=
 h.grown hg (N0 hn h.size) (fun r e=>by rcases hr r e with h1|h1;exact hq _ h1;omega)
theorem own_ab{q:Nat→Prop}{A B:World}{row:Option Nat}{base size n m:Nat}{e:TypeId}{v:Value}{xs:List Value}(k:A.ownsRow base e size v n xs)(hg:A.grownBy B row)(hr:Turns q m A row)(hq:∀ r,q r→r<base):B.ownsRow base e size v n xs:=by
 obtain⟨h1,h2⟩:=k
 refine⟨h1,?_⟩
 rcases h2 with h2|⟨g,a0,a1,hv,hb,hh,r⟩
 ·exact Or.inl h2
 ·refine Or.inr ⟨g,a0,a1,hv,hb,?_,r⟩
  rw[hg.block g (Array.getElem?_eq_some_iff.1 hh).1 (fun q=>by
   rcases hr g q.symm with h3|⟨_,o,ho,hc⟩
   ·have:=hq _ h3;omega
   ·rw[hh] at ho
    cases ho
    cases hc)]
  exact hh
theorem Zh7{q:Nat→Prop}{A B:World}{row:Option Nat}{b m:Nat}{cs:List Value}{t:TypeId}(k:Blk A b cs t)(hg:A.grownBy B row)(hr:Turns q m A row)(hq:∀ r,q r→b≠r):Blk B b cs t :=
 k.kept hg (fun e'=>by
  rcases hr b e'.symm with h3|⟨_,o,ho,hc⟩
  ·exact hq _ h3 rfl
  ·rw[show A.heap[b]? = _ from k] at ho;cases ho;cases hc)
theorem zi_fr{F:Fence}{n:Nat}{P:Program}{c:Code}{Q:Exit→Act→World→Prop}{a:Act}{w:World}(a':Act)(h:a=a')(k:c.wpIn F n P Q a' w):c.wpIn F n P Q a w:=h▸k
theorem Dfr.put{D D2:Nat}{w:World}(h:Dfr D w)(hne:D≠D2)(o:Obj):Dfr D (w.putObj D2 o):=(G7 hne).trans h
theorem Gl.pt{D:Nat}{w:World}{l:List (Option Int)}{c:Option Int}{v:Value}(h:Gl w l c v)(hK:Dfr D w)(o:Obj):Gl (w.putObj D o) l c v:=h.kept fun _ _ k=>k.put hK rfl o
end Go.Proofs.YtekomodnkfhihaaGreatDoor
namespace Go.Proofs.YtekomodnkfhihaaGreatDoor
set_option maxHeartbeats 8000000
set_option maxRecDepth 100000
open Go.RowKit Go.Extern.Stop Go.Stop Go.Extern
set_option linter.unusedVariables false
attribute [local irreducible] wpList wpAnyH Code.wp Oper.wp Go
theorem maps_seq(B1:Nat)(p:O0)(n c:Nat)(t u v x:Int)(Z:List Zv)(w w0:World)(hZ:Z.length=n)(hP:DevsR w p c Z)(hn:n≤1000000000)(hW:B3 w w0)(q:Nat→Prop)(hq:∀ b,b<w.heap.size→q b)(hqlt:∀ b,q b→b<w0.heap.size)(hk1:Blk w0 B1 [V0 t,V0 u,V0 v,V0 x,.slice p n c] 24) :
  SeqB Tryz.prog 137 #[P0 B1] encM (Keeps q) (Vc 0 (Z.map Prod.fst)) w0:=fun l J Jx W hw hJ hY h0 =>
 maps1_in l B1 p n c t u v x Z w hZ hP hn q hq J Jx hJ hY W (bln hW hw) (fun b hb=>D0 (hqlt b hb) hw.size) (hk1.below hw) h0
theorem frg_ko{g:Nat}{W V:World}{cs:List Value}{t:TypeId}(h:Fr [g] W V)(k:Blk W g cs t):KeepsOthers W V:=⟨h.size,fun i o hi ho=>(h.block i (Array.getElem?_eq_some_iff.1 hi).1 (by
 simp only[E2]
 rintro rfl
 rw[show W.heap[i]? = _ from k] at hi
 cases hi;cases ho)).trans hi⟩
theorem Zlh{p:Nat→Prop}{g:Nat}{W V:World}(h:Fr [g] W V)(hp:∀ b,p b→b<W.heap.size)(hg:¬ p g):Keeps p W V:=⟨h.size,fun b hb=>h.block b (hp b hb) (by simp only[E2];rintro rfl;exact hg hb)⟩
theorem Zhy(t u v x:Int)(p:O0)(n c:Nat)(w:World) :
 C0 74 #[.agg #[V0 t,V0 u,V0 v,V0 x,.slice p n c]] w (Qo (fun w' r=>∃ b,r=.func (.func 137) #[] #[P0 b]∧w.heap.size≤b∧Blk w' b [V0 t,V0 u,V0 v,V0 x,.slice p n c] 24) w):=by
 refine zin 4 Tryz.func74 ?_
 refine xa 2 [V0 t,V0 u,V0 v,V0 x,.slice p n c] 24 fun b1 W1 n1=>?_
 exact xe 10 (.func (.func 137) #[] #[P0 b1]) ⟨_,rfl,n1.below,b1,rfl,(n1.ge (B4 w)),n1.blk⟩
theorem Ay(p:O0)(c n x:Nat)(t u v:Int)(Z:List Zv)(w:World)(hZ:Z.length=n)(hP:DevsR w p c Z)(hk:PoolOk t u v (x:Int) (Z.map Prod.fst)) :
 C0 28 #[.agg #[V0 t,V0 u,V0 v,V0 (x:Int),.slice p n c]] w (Qo (fun w' r=>∃ q d,r=.slice q x d∧w'.ownsRow w.heap.size 3 1 (.slice q x d) x ((Yn x (Z.map Prod.fst)).map nv)) w):=by
 have hx:x≤65536:=by have:=hk.hdata;omega
 have d4:n≤1000000000:=by have:=hk.devs.few;rw[At] at this;omega
 have a3:=Am hk.devs 0
 have c6:=hk.devs.sum
 refine Pb Tryz.func28 rfl ?_
 refine g_fr ⟨#[.agg #[V0 t,V0 u,V0 v,V0 (x:Int),.slice p n c],undef,undef,undef,undef,undef,undef,undef,undef,undef,undef,undef,undef,undef,undef,undef,undef,undef,undef,undef,undef,undef,undef,undef,undef,undef],[]⟩ K0 ?_
 refine wp_seq ?_
 refine wp_region_lit ?_
 refine Nl K0 (op_box [V0 t,V0 u,V0 v,V0 (x:Int),.slice p n c] rfl K0 ?_)
 intro b1 W1 n1
 have g1:=n1.ge (B4 w)
 have hB:=n1.below
 have k1:=n1.blk
 refine Na 1 [(2,S0)] K0 ?_
 refine wpList_nil ?_
 refine wp_seq ?_
 refine wp_seq ?_
 refine wp_region_lit ?_
 refine Nl K0 (Zc3 (b:=b1) (off:=0) [V0 t,V0 u,V0 v,V0 (x:Int),.slice p n c] _ rfl K0 Tryz.underlying24 rfl K0 k1.whole ?_)
 refine Nl K0 (Hq (lb:=#[]) 12 #[.agg #[V0 t,V0 u,V0 v,V0 (x:Int),.slice p n c]] rfl K0 (fun _ _=>by kernel_rfl) K0 ((Ko p c n t u v (x:Int) Z _ hZ (hP.below hB)).mono ?_))
 rintro e W2 ⟨rfl,c4⟩
 refine⟨_,rfl,?_⟩
 replace hB:=bln hB c4
 replace k1:=k1.below c4
 refine Na 1 [(9,.bool ((Yg t u v (x:Int) (Z.map Prod.fst)) != (0:Int)))] K0 ?_
 refine wpList_nil ?_
 refine wp_cond_split (t:=((Yg t u v (x:Int) (Z.map Prod.fst)) != (0:Int))) K0 (fun hh=>absurd (hh.symm.trans (show(((Yg t u v (x:Int) (Z.map Prod.fst)) != (0:Int)):Bool)=false from by rw[Qx.2 hk];rfl)) Do) (fun _=>?_)
 refine wp_skip ?_
 refine wp_seq ?_
 refine wp_region_lit ?_
 refine Na 1 [(11,.pointer (some ⟨b1,3,none⟩))] K0 ?_
 refine Nl K0 (Gr ⟨b1,3,none⟩ (V0 (x:Int)) rfl K0 K0 (k1.cell (i:=3) rfl) ?_)
 have d3:=hB.size
 have c7:w.heap.size≤(W2).heap.size:=hB.size
 refine Nl K0 (Hq (lb:=#[]) 70 #[V0 (x:Int)] rfl K0 (fun _ _=>by kernel_rfl) K0 ((Zit x _ hx).mono ?_))
 rintro e W4 ⟨_,rfl,c5,br,g,rfl,c0,a1,hc⟩
 refine⟨_,rfl,?_⟩
 replace hB:=bln hB c5
 replace k1:=k1.below c5
 replace hc:=Zf hc c7
 replace c0:=N0 d3 c0
 refine Na 3 [(10,.tuple #[P0 br,V0 0]),(14,P0 br),(15,V0 0)] K0 ?_
 refine Nl K0 (Cb [.pointer none] rfl K0 ?_)
 intro b5 W5 n5
 have a5:=n5.ne k1
 have a4:=n5.ne a1
 have g5:=n5.ge hB
 replace hB:=bln hB n5.below
 replace k1:=k1.below n5.below
 replace a1:=a1.below n5.below
 replace hc:=Za hc n5.below
 have k5:=n5.blk
 refine Nl K0 (Wo (v:=P0 br) (b:=b5) (off:=0) rfl K0 K0 K0 rfl k5 (by first|decide|simp) ?_)
 intro W6 u6 k6
 change Blk _ _ [P0 br] _ at k6
 replace hB:=u6.below hB g5
 replace k1:=u6.blk k1 a5
 replace a1:=u6.blk a1 a4
 replace hc:=u6.own2 hc k5 Do
 refine Na 1 [(4,V0 0)] K0 ?_
 refine wpList_nil ?_
 refine wp_seq ?_
 refine wp_seq ?_
 refine wp_region_lit ?_
 refine Nl K0 (Zc3 (b:=b1) (off:=0) [V0 t,V0 u,V0 v,V0 (x:Int),.slice p n c] _ rfl K0 Tryz.underlying24 rfl K0 k1.whole ?_)
 have c9:=hB.size
 refine Nl K0 (Hq (lb:=#[]) 74 #[.agg #[V0 t,V0 u,V0 v,V0 (x:Int),.slice p n c]] rfl K0 (fun _ _=>by kernel_rfl) K0 ((Zhy t u v (x:Int) p n c _).mono ?_))
 rintro e W7 ⟨_,rfl,a6,bm,rfl,c2,d1⟩
 refine⟨_,rfl,?_⟩
 replace hB:=bln hB a6
 replace k1:=k1.below a6
 replace a1:=a1.below a6
 replace k6:=k6.below a6
 replace hc:=Za hc a6
 replace c2:=N0 c9 c2
 refine wpList_nil ?_
 refine wp_block ?_
 have b2:=hB
 have a8:w.heap.size≤W7.heap.size:=b2.size
 have m3:=k6
 have mr:=a1
 have mm:=d1
 have mc:=hc
 have d2:w.heap.size≤g∧g<W7.heap.size:=mc.lt g rfl
 have hq:=maps_seq bm p n c t u v (x:Int) Z w W7 hZ hP d4 b2 (fun b=>b<w.heap.size) (fun b h=>h) (fun b h=>D0 h a8) mm
 refine g_fr ⟨#[.agg #[V0 t,V0 u,V0 v,V0 (x:Int),.slice p n c],P0 b1,S0,P0 b5,V0 0,undef,undef,.agg #[V0 t,V0 u,V0 v,V0 (x:Int),.slice p n c],V0 (Yg t u v (x:Int) (Z.map Prod.fst)),.bool ((Yg t u v (x:Int) (Z.map Prod.fst)) != (0:Int)),.tuple #[P0 br,V0 0],.pointer (some ⟨b1,3,none⟩),V0 (x:Int),.tuple #[P0 br,V0 0],P0 br,V0 0,.agg #[V0 t,V0 u,V0 v,V0 (x:Int),.slice p n c],.func (.func 137) #[] #[P0 bm],undef,undef,undef,undef,undef,undef,undef,undef],[]⟩ K0 ?_
 refine Zil (g:=.tmp 17) (gf:=137) (lb:=#[P0 bm]) rfl (enters_of Tryz.func137 K0 rfl) (fun b=>b<w.heap.size) (fun b h=>D0 h a8) hq (fun _=>rfl)
  (fun k V=>B3 w V∧Blk V b5 [P0 br] 136∧Blk V br [.slice (S1 g) x x] 231∧V.ownsRow w.heap.size 3 1 (.slice (S1 g) x x) x ((Ha (List.replicate x 0) ((Vc 0 (Z.map Prod.fst)).take k)).map nv))
  (fun _ _ _=>False) ?bel ?own (fun _ _ _ _ _ h _ _=>h.elim) ⟨b2,m3,mr,mc⟩
  (fun y a' V=>∃ b6,a'={ tmps:=#[.agg #[V0 t,V0 u,V0 v,V0 (x:Int),.slice p n c],P0 b1,S0,P0 b5,V0 0,undef,P0 b6,.agg #[V0 t,V0 u,V0 v,V0 (x:Int),.slice p n c],V0 (Yg t u v (x:Int) (Z.map Prod.fst)),.bool ((Yg t u v (x:Int) (Z.map Prod.fst)) != (0:Int)),.tuple #[P0 br,V0 0],.pointer (some ⟨b1,3,none⟩),V0 (x:Int),.tuple #[P0 br,V0 0],P0 br,V0 0,.agg #[V0 t,V0 u,V0 v,V0 (x:Int),.slice p n c],.func (.func 137) #[] #[P0 bm],V0 (y.1:Int),.agg #[V0 y.2.1,V0 y.2.2.1,V0 y.2.2.2],undef,undef,undef,undef,undef,undef],defers:=[] }∧Blk V b6 [V0 y.2.1,V0 y.2.2.1,V0 y.2.2.2] 63) ?two ?assign ?body ?done (fun _ _ _ _ _ _ h _=>h.elim)
 case bel=>exact fun k A B h hb=>⟨bln h.1 hb,h.2.1.below hb,h.2.2.1.below hb,Za h.2.2.2 hb⟩
 case own=>exact fun k A B c8 h hg hr=>⟨below_ab (q:=fun _=>False) h.1 hg (fun r e=>.inr (hr r e)) (A6 _) a8 (fun _ q=>q.elim),Zh7 (q:=fun _=>False) (m:=W7.heap.size) h.2.1 hg (fun r e=>.inr (hr r e)) (fun _ q=>q.elim),Zh7 (q:=fun _=>False) (m:=W7.heap.size) h.2.2.1 hg (fun r e=>.inr (hr r e)) (fun _ q=>q.elim),own_ab (q:=fun _=>False) (m:=W7.heap.size) h.2.2.2 hg (fun r e=>.inr (hr r e)) (fun _ q=>q.elim)⟩
 case two=>exact fun y a' A B c8 ⟨b6,ha,h6⟩ hg hr=>⟨b6,ha,Zh7 (q:=fun _=>False) (m:=W7.heap.size) h6 hg (fun r e=>.inr (hr r e)) (fun _ q=>q.elim)⟩
 case assign =>
  rintro lr k y W K hy hI hK
  refine zi_fr { tmps:=#[.agg #[V0 t,V0 u,V0 v,V0 (x:Int),.slice p n c],P0 b1,S0,P0 b5,V0 0,undef,undef,.agg #[V0 t,V0 u,V0 v,V0 (x:Int),.slice p n c],V0 (Yg t u v (x:Int) (Z.map Prod.fst)),.bool ((Yg t u v (x:Int) (Z.map Prod.fst)) != (0:Int)),.tuple #[P0 br,V0 0],.pointer (some ⟨b1,3,none⟩),V0 (x:Int),.tuple #[P0 br,V0 0],P0 br,V0 0,.agg #[V0 t,V0 u,V0 v,V0 (x:Int),.slice p n c],.func (.func 137) #[] #[P0 bm],V0 (y.1:Int),.agg #[V0 y.2.1,V0 y.2.2.1,V0 y.2.2.2],undef,undef,undef,undef,undef,undef],defers:=[] } K0 ?_
  refine reg_in (fun⟨_,_,q⟩=>q) (by simp) ?_
  refine Nl K0 (Cb [V0 0,V0 0,V0 0] rfl K0 ?_)
  intro b8 W8 n8
  have g8:=n8.ge (B4 W)
  have hB:=n8.below
  have k8:=n8.blk
  refine Nl K0 (Ib (b:=b8) (off:=0) [V0 y.2.1,V0 y.2.2.1,V0 y.2.2.2] rfl K0 K0 K0 (by first|decide|simp[Value.oneCell']) k8 (by first|decide|simp) ?_)
  intro W9 u9 k9
  change Blk _ _ [V0 y.2.1,V0 y.2.2.1,V0 y.2.2.2] _ at k9
  replace hB:=u9.below hB g8
  refine wpList_nil ?_
  exact hK _ _ hB ⟨_,rfl,k9⟩
 case body =>
  rintro lr k y a' W e1 hy ⟨a9,n3,nr,nc⟩ ⟨b6,rfl,n6⟩
  have c3:w.heap.size≤W.heap.size:=a9.size
  obtain⟨e0,d7⟩:=a3 y (List.mem_of_getElem? hy)
  obtain⟨j,hj⟩:∃ j:Nat,y.2.2.1=(j:Int):=⟨y.2.2.1.toNat,by omega⟩
  have d0:(Ha (List.replicate x 0) ((Vc 0 (Z.map Prod.fst)).take k)).length=x:=by rw[Fh,A7]
  have d8:=Pu (Ha (List.replicate x 0) ((Vc 0 (Z.map Prod.fst)).take k)) j
  have b9:=Fd (data:=x) ((Vc 0 (Z.map Prod.fst)).take k) (fun z hz=>a3 z (I4 hz)) (List.replicate x 0) A7
  rw[K9,D1] at b9
  have d5:=Nat.min_le_right k (Vc 0 (Z.map Prod.fst)).length
  rw[Uv] at d5 b9
  rw[hj] at n6
  obtain⟨cg,kg⟩:=Dh nc
  refine wpIn_block ?_
  refine reg_in (fun⟨_,_,q⟩=>q) (by simp) ?_
  refine Nl K0 (Gr ⟨b5,0,none⟩ (P0 br) rfl K0 K0 (n3.cell (i:=0) rfl) ?_)
  refine Na 1 [(21,.pointer (some ⟨b6,1,none⟩))] K0 ?_
  refine Nl K0 (Gr ⟨b6,1,none⟩ (V0 (j:Int)) rfl K0 K0 (n6.cell (i:=1) rfl) ?_)
  refine Nl K0 (Hq (lb:=#[]) 71 #[P0 br,V0 (j:Int)] rfl K0 (fun _ _=>by kernel_rfl) K0 ((Zi5 w.heap.size br g x j (Ha (List.replicate x 0) ((Vc 0 (Z.map Prod.fst)).take k)) _ nr (N0 c3 (Below.refl w.heap.size _).size) nc d0 M0 M0).mono ?_))
  rintro e d6 ⟨rfl,b3,a2,b4,b0⟩
  refine⟨_,rfl,?_⟩
  have hX:Fr [g] W _:=b4
  have hB:=b3
  replace n3:=n3.only a2 Do
  replace nr:=nr.only a2 Do
  replace n6:=n6.only a2 Do
  refine wpList_nil ?_
  exact⟨(frg_ko hX kg).from _,Zlh hX (fun b hb=>D0 hb c3) (Nat.not_lt.2 d2.1),a9.trans hB,n3,nr,by rw[Ru _ _ hy,hj];exact b0⟩
 case done =>
  rintro D W hD ⟨a9,n3,nr,nc⟩ c1
  have hK:Dfr D W:=c1;clear c1
  rw[A1 (A6 _)] at nc
  refine Zk8 ?_
  have hB:=a9
  refine wp_seq ?_
  refine wp_region_lit ?_
  refine Nl K0 (Gr ⟨b5,0,none⟩ (P0 br) rfl K0 K0 (n3.cell (i:=0) rfl) ?_)
  have b7:w.heap.size≤(W).heap.size:=hB.size
  refine Nl K0 (Hq (lb:=#[]) 73 #[P0 br] rfl K0 (fun _ _=>by kernel_rfl) K0 ((Zhq br g x w.heap.size (Yn x (Z.map Prod.fst)) _ nr nc (Yk _ _) M0).mono ?_))
  rintro e e2 ⟨_,rfl,a0,q9,d9,rfl,a7⟩
  refine⟨_,rfl,?_⟩
  replace hB:=bln hB a0
  replace n3:=n3.below a0
  replace nr:=nr.below a0
  replace nc:=Za nc a0
  replace hK:=hK.below a0
  replace a7:=Zf a7 b7
  refine Na 1 [(2,.slice q9 x d9)] K0 ?_
  refine wpList_nil ?_
  refine wp_ret ?_
  exact g_endM hK (.slice q9 x d9) K0 K0 ⟨_,rfl,(Upd.of_put _ _ _).below hB (N0 a8 hD),_,_,rfl,(Upd.of_put _ _ _).own3 a7 (hK.row a7)⟩
theorem Ly{cs:List Nat}{i:Nat}(h:i<cs.length):(cs.take (i+1)).sum=(cs.take i).sum+cs.getD i 0:=by
 rw[A8 h,F8];simp[List.getD,h]
theorem Zfa(cs:List Nat)(i:Nat):(cs.take i).sum≤cs.sum:=by
 conv=>rhs;rw[←G3 i cs]
 rw[F8];omega
theorem Yb{w:World}{pc:O0}{n m:Nat}{cs:List Nat}(h:Sl w (.slice pc n m) n (cs.map nv))(hn:cs.length=n){k:Nat}(hk:k<n):pc.isSome=true∧w.cell? (Xa pc (k*1))=some (V0 ((cs.getD k 0:Nat):Int)):=Hf h M0
theorem Zcv(a:O0)(n c:Nat)(cs:List Nat)(w:World)(hn:cs.length=n)(h:Sl w (.slice a n c) n (cs.map nv))(hs:cs.sum≤1000000000) :
 C0 81 #[.slice a n c] w (Ret (V0 (cs.sum:Int)) w):=by
 have a6:=Sl.len h
 refine zin 17 Tryz.func81 ?_
 have hB:=Below.refl w.heap.size w
 refine zl 19 17 (fun zm a1 V=>∃ (i:Nat),a1=[(2,V0 0),(3,V0 (↑((cs.take i).sum):Int)),(6,.slice a n c),(7,V0 (n:Int)),(8,V0 (i:Int))]∧zm=n-((i:Int)).toNat∧B3 w V∧i≤n) ⟨0,rfl,rfl,hB,A3 _⟩ ?_
 rintro _ _ W1 ⟨i,rfl,rfl,a0,hi⟩ J1 a3 r1
 have a4:=Zfa cs (i+1)
 refine xid 6 ((i:Int)<(n:Int)) (fun a2=>?_) (fun a2=>?_)
 ·have a5:=Ly (cs:=cs) (i:=i) M0
  refine xx 6 _ n i 1 (Yb h hn (k:=i) M0).1 ?_
  refine xl 0 ((Yb (h.below a0) hn (k:=i) M0).2) ?_
  refine xwm 6 ((↑((cs.take i).sum):Int)+(↑(cs.getD i 0):Int)) (↑(((cs.take i).sum)+(cs.getD i 0)):Int) ?_
  refine xwm 5 ((i:Int)+1) (↑(i+1):Int) ?_
  refine xv1 2 3 (show(V0 (↑(((cs.take i).sum)+(cs.getD i 0)):Int):Value)=V0 (↑((cs.take (i+1)).sum):Int) from by rw[Ly (i:=i) M0]) ?_
  exact ze 0 (a3 _ _ _ ⟨i+1,rfl,rfl,a0,by omega⟩ M0)
 exact xe 12 (V0 (↑((cs.take i).sum):Int)) ⟨by rw[A1 M0],a0⟩
theorem Zee(p:O0)(c n x:Nat)(t u v:Int)(Z:List Zv)(w:World)(hZ:Z.length=n)(hP:DevsR w p c Z)(hk:PoolOk t u v (x:Int) (Z.map Prod.fst)) :
 C0 82 #[.agg #[V0 t,V0 u,V0 v,V0 (x:Int),.slice p n c]] w (Ret (V0 (↑(Zag x (Z.map Prod.fst)):Int)) w):=by
 have hx:x≤65536:=by have:=hk.hdata;omega
 refine zin 19 Tryz.func82 ?_
 refine xa 2 [V0 t,V0 u,V0 v,V0 (x:Int),.slice p n c] 24 fun b1 W1 n1=>?_
 refine xlv 11 n1.blk.rp ?_
 refine xc 0 (args:=#[.agg #[V0 t,V0 u,V0 v,V0 (x:Int),.slice p n c]]) (Ay p c n x t u v Z _ hZ (hP.below n1.below) hk) ?_
 rintro _ W2 ⟨_,rfl,a6,q9,d9,rfl,a2⟩
 have a3:=Zf a2 n1.below.size
 have a4:=bln n1.below a6
 have a5:=n1.blk.below a6
 refine zl 5 19 (fun zm a9 V=>∃ (i:Nat),a9=[(2,V0 0),(3,V0 (↑(Yc (Yn x (Z.map Prod.fst)) i):Int)),(7,.slice q9 x d9),(8,V0 (x:Int)),(9,V0 (i:Int))]∧zm=x-((i:Int)).toNat∧B3 w V∧Blk V b1 ([V0 t,V0 u,V0 v,V0 (x:Int),.slice p n c]) 24∧V.ownsRow w.heap.size 3 1 (.slice q9 x d9) x ((Yn x (Z.map Prod.fst)).map nv)∧i≤x) ⟨0,rfl,rfl,a4,a5,a3,A3 _⟩ ?_
 rintro _ _ W3 ⟨i,rfl,rfl,a1,a0,a2,hi⟩ J3 a7 r3
 refine xid 6 ((i:Int)<(x:Int)) (fun b0=>?_) (fun b0=>?_)
 ·have b2:Yc (Yn x (Z.map Prod.fst)) i≤i:=by unfold Yc;exact N0 (H4 _ _) (by rw[D1];exact H5 _ _)
  refine xx 6 _ x i 1 (Yb (Ze a2) (Yk _ _) (k:=i) M0).1 ?_
  refine xl 0 ((Yb (Ze a2) (Yk _ _) (k:=i) M0).2) ?_
  refine xid 9 ((↑((Yn x (Z.map Prod.fst)).getD i 0):Int)≥(3:Int)) (fun a8=>?_) (fun a8=>?_)
  ·refine xwm 2 ((↑(Yc (Yn x (Z.map Prod.fst)) i):Int)+1) (↑((Yc (Yn x (Z.map Prod.fst)) i)+1):Int) ?_
   refine xwm 5 ((i:Int)+1) (↑(i+1):Int) ?_
   refine xv1 2 3 (show(V0 (↑((Yc (Yn x (Z.map Prod.fst)) i)+1):Int):Value)=V0 (↑(Yc (Yn x (Z.map Prod.fst)) (i+1)):Int) from by rw[Kj (k:=i) (by rw[Yk];omega),if_pos M0]) ?_
   exact ze 0 (a7 _ _ _ ⟨i+1,rfl,rfl,a1,a0,a2,by omega⟩ M0)
  refine xwm 4 ((i:Int)+1) (↑(i+1):Int) ?_
  refine xv1 2 3 (show(V0 (↑(Yc (Yn x (Z.map Prod.fst)) i):Int):Value)=V0 (↑(Yc (Yn x (Z.map Prod.fst)) (i+1)):Int) from by rw[Kj (k:=i) (by rw[Yk];omega),if_neg M0,I0]) ?_
  exact ze 0 (a7 _ _ _ ⟨i+1,rfl,rfl,a1,a0,a2,by omega⟩ M0)
 exact xe 12 (V0 (↑(Yc (Yn x (Z.map Prod.fst)) i):Int)) ⟨by obtain rfl:i=x:=M0;rfl,a1⟩
theorem devs_row{Z:List Zv}{i:Nat}(h:i<Z.length):((((Z.map Prod.fst).map fun d=>Zw 2 d.2.length).take i).map nv)++[V0 (↑(Zw 2 (Z.getD i zvD).1.2.length):Int)]=((((Z.map Prod.fst).map fun d=>Zw 2 d.2.length).take (i+1)).map nv):=by
 rw[A8 (by simpa using h),A9]
 simp[List.getD,h,nv]
theorem Aj{data:Int}{Z:List Zv}(hk:DevsOk data (Z.map Prod.fst)){i:Nat}(h:i<Z.length):(Z.getD i zvD).1.2.length≤16384:=by
 have a:=hk.sum
 have b:=He (L:=Z.map Prod.fst) (i:=i) (by rw[At];exact h)
 rw[Rn h] at b
 omega
theorem Zdm{L:List Dv}:(L.map fun d=>Zw 2 d.2.length).length=L.length:=At ..
theorem Zjx(b a1 a2 a3 a4 a5 a6:Nat)(w:World)(k:Blk w b [V0 1,V0 (a1:Int),V0 (a2:Int),V0 (a3:Int),V0 (a4:Int),V0 (a5:Int),V0 (a6:Int)] 3)(h:1+a1+a2+a3+a4+a5+a6≤1000000000) :
 C0 81 #[.slice (S1 b) 7 7] w (Ret (V0 (↑(1+a1+a2+a3+a4+a5+a6):Int)) w):=by
 have e:[1,a1,a2,a3,a4,a5,a6].sum=1+a1+a2+a3+a4+a5+a6:=by simp only[H8,List.sum_nil];omega
 have q:=Zcv (S1 b) 7 7 [1,a1,a2,a3,a4,a5,a6] w rfl (k.sl 7 7 Do Do) (by rw[e];exact h)
 rw[e] at q
 exact q
theorem Zku{x n:Nat}{L:List Dv}(h:L.length=n):1+Zw 3 n+Zw 1 n+Qj L+bmN x+Zw 4 (bmN x)+Zw 5 (Zag x L)=Ho x L:=by
 subst h;rfl
theorem Zh6(p:O0)(c n x:Nat)(t u v:Int)(Z:List Zv)(w:World)(hZ:Z.length=n)(hP:DevsR w p c Z)(hk:PoolOk t u v (x:Int) (Z.map Prod.fst)) :
 C0 33 #[.agg #[V0 t,V0 u,V0 v,V0 (x:Int),.slice p n c]] w (Ret (V0 (↑(Ho x (Z.map Prod.fst)):Int)) w):=by
 have hx:x≤65536:=by have:=hk.hdata;omega
 have c7:(Z.map Prod.fst).length=n:=by rw[At];exact hZ
 have d8:=hk.devs.few
 have e4:=hk.devs.sum
 rw[c7] at d8
 have e5:=Wr hk.devs
 have e6:=Sm hx hk.devs
 have f2:bmN x≤69:=by unfold bmN;omega
 have f3:=Sl.len (hP.rowN hZ)
 refine zin 46 Tryz.func33 ?_
 refine xa 2 [V0 t,V0 u,V0 v,V0 (x:Int),.slice p n c] 24 fun b1 W1 n1=>?_
 refine xlv 6 n1.blk.rp ?_
 refine xr 0 (args:=#[.agg #[V0 t,V0 u,V0 v,V0 (x:Int),.slice p n c]]) (Ko p c n t u v (x:Int) Z _ hZ (hP.below n1.below)) fun W2 d5=>?_
 refine xk 3 (show(((Yg t u v (x:Int) (Z.map Prod.fst)) != (0:Int)):Bool)=false from by rw[Qx.2 hk];rfl) ?_
 have b2:=n1.blk.below d5
 refine xb 11 4 b2 ?_
 have c9:=bln n1.below d5
 refine zl 5 46 (fun zm d6 V=>∃ (i:Nat) (p3:O0) (c3:Nat),d6=[(1,P0 b1),(2,V0 0),(3,.slice p3 i c3),(11,.slice p n c),(12,V0 (n:Int)),(13,V0 (i:Int))]∧zm=n-((i:Int)).toNat∧B3 w V∧Blk V b1 ([V0 t,V0 u,V0 v,V0 (x:Int),.slice p n c]) 24∧V.ownsRow w.heap.size 3 1 (.slice p3 i c3) i ((((Z.map Prod.fst).map fun d=>Zw 2 d.2.length).take i).map nv)∧i≤n) ⟨0,none,0,rfl,rfl,c9,b2,A4 _ _ _ _,A3 _⟩ ?_
 rintro _ _ W3 ⟨i,p3,c3,rfl,rfl,a2,a1,hl,hi⟩ J3 e0 r3
 refine xid 6 ((i:Int)<(n:Int)) (fun d9=>?_) (fun d9=>?_)
 ·have e9:=Aj hk.devs (i:=i) M0
  refine xx 6 _ n i 5 (hP.someN hZ (i:=i) M0) ?_
  refine xlv 0 (Sts.rp (k:=i) (hP.below a2).row Xs zvD M0 Do) ?_
  refine xa 0 [V0 0,V0 0,V0 0,V0 0,S0] 32 fun b5 W5 n5=>?_
  have g5:=n5.ge a2
  refine xsv 0 n5.blk [V0 ((Z.getD i zvD).1.1.1),V0 ((Z.getD i zvD).1.1.2.1),V0 ((Z.getD i zvD).1.1.2.2.1),V0 ((Z.getD i zvD).1.1.2.2.2),.slice ((Z.getD i zvD).2.1) ((Z.getD i zvD).1.2.length) ((Z.getD i zvD).2.2)] fun W6 u6 k6=>?_
  refine xb 5 4 k6 ?_
  refine xr 1 (args:=#[V0 2,V0 (↑((Z.getD i zvD).1.2.length):Int)]) (Yq 2 ((Z.getD i zvD).1.2.length) _ Do Do M0) fun W7 d1=>?_
  refine xbs 0 1 [V0 (↑(Zw 2 ((Z.getD i zvD).1.2.length)):Int)] 3 fun b8 W8 n8=>?_
  have c1:=bln (u6.below (bln a2 n5.below) g5) d1
  have g8:=n8.ge c1
  have b4:=Za (u6.own2 (Za hl n5.below) n5.blk Do) d1
  have d3:=Zg b4 n8
  have c0:=Za b4 n8.below
  have b3:=bln c1 n8.below
  refine xbi 0 fun _ _ _ _ zJ zQ zo zx zy zK=>Zr (m:=1) (news:=[V0 (↑(Zw 2 ((Z.getD i zvD).1.2.length)):Int)]) (V0 0) 1 8 (i+1) (((((Z.map Prod.fst).map fun d=>Zw 2 d.2.length).take (i+1)).map nv)) zo Tryz.underlying27 K0 rfl Do zx c0 zy (n8.blk.sl 1 1 Do Do) rfl (by simp[Value.oneCell']) (by unfold maxLen;omega) M0 b3.size (by rfl) (by exact devs_row M0) fun f4 f6 W9 o9 e1 d7=>?_
  refine zK _ _ ?_
  refine xwm 5 ((i:Int)+1) (↑(i+1):Int) ?_
  have c5:=b3.trans d7
  have a3:=(((u6.blkT (a1.below n5.below) n5.blk Do).below d1).below n8.below).grown e1 c0 Do
  exact ze 2 (e0 _ _ _ ⟨i+1,_,_,rfl,rfl,c5,a3,o9,by omega⟩ M0)
 obtain rfl:n=i:=by omega
 rw[A1 (by rw[Zdm,At];omega)] at hl
 refine xb 8 3 a1 ?_
 refine xr 0 (args:=#[V0 (x:Int)]) (Bj x _ hx) fun c6 a4=>?_
 refine xd 4 .z ?_
 have a0:=(a1.below a4).below (Zb c6)
 refine xb (.e [0] 1) 4 a0 ?_
 refine xb (.e [2,4] 5) 4 a0 ?_
 refine xlv (.e [6,8,10,11] 13) a0.rp ?_
 refine xr (.o [] 3) (args:=#[V0 3,V0 (n:Int)]) (Yq 3 n _ Do Do M0) fun f5 a6=>?_
 refine xr (.o [] 7) (args:=#[V0 1,V0 (n:Int)]) (Yq 1 n _ Do Do M0) fun e2 a7=>?_
 have b0:=Za (Za (Za (Za hl a4) (Zb c6)) a6) a7
 refine xr (.o [] 9) (args:=#[.slice p3 n c3]) (Zcv p3 n c3 ((Z.map Prod.fst).map fun d=>Zw 2 d.2.length) _ (by rw[Zdm,At];exact hZ) (Ze b0) (by have:=Sk (L:=(Z.map Prod.fst));unfold Qj at this;omega)) fun f8 b7=>?_
 refine xr (.o [] 12) (args:=#[V0 4,V0 (↑(bmN x):Int)]) (Yq 4 (bmN x) _ Do Do M0) fun f0 b6=>?_
 have a9:=bln (bln (bln (bln (bln (bln a2 a4) (Zb c6)) a6) a7) b7) b6
 refine xr (.o [] 14) (args:=#[.agg #[V0 t,V0 u,V0 v,V0 (x:Int),.slice p n c]]) (Zee p c n x t u v Z _ hZ (hP.below a9) hk) fun f7 b9=>?_
 refine xr (.o [] 15) (args:=#[V0 5,V0 (↑(Zag x (Z.map Prod.fst)):Int)]) (Yq 5 (Zag x (Z.map Prod.fst)) _ Do Do M0) fun e7 a8=>?_
 refine xbs (.o [] 16) 7 [V0 1,V0 (↑(Zw 3 n):Int),V0 (↑(Zw 1 n):Int),V0 (↑(Qj (Z.map Prod.fst)):Int),V0 (↑(bmN x):Int),V0 (↑(Zw 4 (bmN x)):Int),V0 (↑(Zw 5 (Zag x (Z.map Prod.fst))):Int)] 3 fun d4 e3 c2=>?_
 have a5:=bln (bln a9 b9) a8
 have e8:=c2.ge a5
 have d2:=Za (Za (Za (Za b0 b7) b6) b9) a8
 have c8:=Zg d2 c2
 refine xr (.o [] 17) (args:=#[.slice (S1 d4) 7 7]) (by have q:=Zjx d4 (Zw 3 n) (Zw 1 n) (Qj (Z.map Prod.fst)) (bmN x) (Zw 4 (bmN x)) (Zw 5 (Zag x (Z.map Prod.fst))) _ c2.blk (by rw[Zku c7];omega);rw[Zku c7] at q;exact q) fun f1 c4=>?_
 have d0:=bln (bln a5 c2.below) c4
 exact xe (.r [18] 3) (V0 (↑(Ho x (Z.map Prod.fst)):Int)) ⟨rfl,d0⟩
theorem Zft{cs O:List Nat}{j:Nat}(h:j<O.length):Jp cs (O.take (j+1))=Tg (Jp cs (O.take j)) (↑(O.getD j 0):Int):=by
 rw[A8 h,Zaj,show O.getD j 0=O[j] from by simp[List.getD,h]];rfl
theorem Zkp{n:Nat}{O:List Nat}{j:Nat}(h:j<O.length):((Jp (List.replicate n 0) (O.take j)).map nv).set (O.getD j 0) (V0 (↑((Jp (List.replicate n 0) (O.take j)).getD (O.getD j 0) 0+1):Int))=(Jp (List.replicate n 0) (O.take (j+1))).map nv:=by
 rw[Zbv,Zft h]
theorem Zbi{n:Nat}{O:List Nat}(ho:∀ b∈O,b<n)(j k:Nat):(Jp (List.replicate n 0) (O.take j)).getD k 0≤O.length:=by
 rw[Az _ _ (fun b hb=>by rw[A7];exact ho b (I4 hb))]
 have h0:(List.replicate n 0).getD k 0=0:=by simp[List.getD,I6];split<;>rfl
 have h1:=List.count_le_length (a:=k) (l:=O.take j)
 rw[D1] at h1
 omega
theorem getD_lt{n:Nat}{O:List Nat}(ho:∀ b∈O,b<n){j:Nat}(h:j<O.length):O.getD j 0<n:=ho _ (by rw[show O.getD j 0=O[j] from by simp[List.getD,h]];exact E5 h)
theorem quo959(m:Nat)(h:m≤1000000):IntKind.i64.wrap (Int.tdiv (m:Int) 959)=(↑(m/959):Int):=by
 rw[show(959:Int)=((959:Nat):Int) from rfl,←Int.ofNat_tdiv]
 exact IntWalk.i64_in _ M0
theorem okR{data:Int}{Z:List Zv}{n:Nat}(hZ:Z.length=n)(h:DevsOk data (Z.map Prod.fst))(hd:data≤65536):∀ i,i<n→(∀ m∈(Z.getD i zvD).1.2,MpR m)∧(Z.getD i zvD).1.2.length≤100000:=fun i hi=>by
 have hm:(Z.getD i zvD).1∈Z.map Prod.fst:=by
  rw[show Z.getD i zvD=Z[i] from by simp[List.getD,hZ▸hi]]
  exact List.mem_map.2 ⟨_,E5 (hZ▸hi),rfl⟩
 have h1:=(h.each _ hm).maps
 have h2:=Aj h (i:=i) M0
 refine⟨fun m hq=>?_,by omega⟩
 have q:=h1.each m hq
 unfold MpR InI
 omega
theorem Dj(a:O0)(n c:Nat)(O:List Nat)(w:World)(hn:O.length=n)(h:Sl w (.slice a n c) n (O.map nv))(ho:∀ b∈O,b<n)(hl:n≤100000) :
 C0 34 #[.slice a n c] w (Qo (fun w' r=>∃ q d,r=.slice q n d∧w'.ownsRow w.heap.size 3 1 (.slice q n d) n ((Jp (List.replicate n 0) O).map nv)) w):=by
 refine zin 23 Tryz.func34 ?_
 refine xmk 9 fun _ _ _ _ zJ zQ zo zx zy zK=>Kf n (V0 0) 1 8 ((List.replicate n (0:Nat)).map nv) zo zx zy Tryz.underlying27 K0 rfl M0 M0 ((Zis n)) fun b1 W1 n1=>?_
 refine zK _ _ ?_
 have o1:=Zz (size:=1) (n:=n) n1.blk (n1.ge (B4 w)) (by rw[At,A7,D5]) (by unfold maxLen;omega)
 refine zl 12 23 (fun zm a3 V=>∃ (j:Nat),a3=[(2,S0),(3,.slice (S1 b1) n n),(9,.slice a n c),(10,V0 (n:Int)),(11,V0 (j:Int))]∧zm=n-((j:Int)).toNat∧B3 w V∧V.ownsRow w.heap.size 3 1 (.slice (S1 b1) n n) n ((Jp (List.replicate n 0) (O.take j)).map nv)∧j≤n) ⟨0,rfl,rfl,n1.below,o1,A3 _⟩ ?_
 rintro _ _ W2 ⟨j,rfl,rfl,a0,hc,hj⟩ J2 a4 r2
 refine xid 6 ((j:Int)<(n:Int)) (fun a2=>?_) (fun a2=>?_)
 ·have a6:=getD_lt ho (j:=j) M0
  have a5:=Zbi ho j (O.getD j 0)
  refine xx 6 _ n j 1 (Yb h hn (k:=j) M0).1 ?_
  refine xl 0 ((Yb (h.below a0) hn (k:=j) M0).2) ?_
  refine xx 6 _ n (O.getD j 0) 1 (show(some (⟨b1,0,none⟩:Addr)).isSome=true from rfl) ?_
  refine xl 0 ((Yb (Ze hc) (by rw[Oj,A7]) (k:=(O.getD j 0)) M0).2) ?_
  refine xwm 0 ((↑((Jp (List.replicate n 0) (O.take j)).getD (O.getD j 0) 0):Int)+1) (↑(((Jp (List.replicate n 0) (O.take j)).getD (O.getD j 0) 0)+1):Int) ?_
  refine xx 0 _ n (O.getD j 0) 1 (show(some (⟨b1,0,none⟩:Addr)).isSome=true from rfl) ?_
  refine xst 0 fun _ _ _ _ zJ zQ zo zx zy zK=>Xk (t:=3) (k:=(O.getD j 0)) (v:=V0 (↑(((Jp (List.replicate n 0) (O.take j)).getD (O.getD j 0) 0)+1):Int)) zo zx zy K0 rfl hc M0 fun W4 u4 o4=>?_
  rw[Zkp (n:=n) (O:=O) (j:=j) M0] at o4
  refine zK _ _ ?_
  refine xwm 4 ((j:Int)+1) (↑(j+1):Int) ?_
  have a1:=u4.below a0 (Qa hc)
  exact ze 2 (a4 _ _ _ ⟨j+1,rfl,rfl,a1,o4,by omega⟩ M0)
 exact xe 12 (.slice (S1 b1) n n) ⟨_,rfl,a0,_,_,rfl,by have q:=hc;rw[A1 M0] at q;exact q⟩
theorem Np(p:O0)(c n x:Nat)(t u v:Int)(Z:List Zv)(w:World)(hI:ItT w)(hZ:Z.length=n)(hP:DevsR w p c Z)(hk:PoolOk t u v (x:Int) (Z.map Prod.fst)) :
 C0 10 #[.agg #[V0 t,V0 u,V0 v,V0 (x:Int),.slice p n c]] w (Ret (V0 (↑(Kw x (Z.map Prod.fst)):Int)) w):=by
 have hx:x≤65536:=by have:=hk.hdata;omega
 have e9:=Sl.len (hP.rowN hZ)
 have e1:=hk.devs.few
 rw[At] at e1
 have d1:=Sm hx hk.devs
 have e3:Qj (Z.map Prod.fst)+1≤Ho x (Z.map Prod.fst):=by unfold Ho;omega
 have c7:Zeo x (Z.map Prod.fst)=Ho x (Z.map Prod.fst)-Vb (Z.map Prod.fst) (Z.map Prod.fst).length+1+Zw 5 (Ar (Z.map Prod.fst)):=rfl
 obtain⟨bs,b8⟩:∃ y,Ho x (Z.map Prod.fst)=y:=⟨_,rfl⟩
 rw[b8] at d1 e3 c7
 refine zin 50 Tryz.func10 ?_
 refine xa 2 [V0 t,V0 u,V0 v,V0 (x:Int),.slice p n c] 24 fun b1 W1 n1=>?_
 refine xlv 5 n1.blk.rp ?_
 refine xr 0 (args:=#[.agg #[V0 t,V0 u,V0 v,V0 (x:Int),.slice p n c]]) (by have q:=Zh6 p c n x t u v Z _ hZ (hP.below n1.below) hk;rw[b8] at q;exact q) fun W2 c1=>?_
 refine xk 10 (show(((bs:Int)==(0:Int)):Bool)=false from beq_false_of_ne M0) ?_
 have a9:=n1.blk.below c1
 refine xlv 10 a9.rp ?_
 have a2:=bln n1.below c1
 refine xc 0 (args:=#[.agg #[V0 t,V0 u,V0 v,V0 (x:Int),.slice p n c]]) (Vw p c n t u v (x:Int) Z _ (hI.below a2) hZ (hP.below a2) (okR hZ hk.devs M0) M0) ?_
 rintro _ W3 ⟨_,rfl,b7,q8,d8,rfl,e2⟩
 have d2:=(bln n1.below c1).size
 have a7:=Zf e2 d2
 refine xc 0 (args:=#[.slice q8 n d8]) (Dj q8 n d8 (owL (Z.map Prod.fst)) _ (by rw[Jc,At];exact hZ) (Ze a7) (fun b hb=>by have:=Zct (Z.map Prod.fst) b hb;rw[At] at this;omega) M0) ?_
 rintro _ W4 ⟨_,rfl,c6,q9,d9,rfl,a6⟩
 have d3:=(bln a2 b7).size
 have a4:=Zf a6 d3
 rw[show Jp (List.replicate n 0) (owL (Z.map Prod.fst))=shN (Z.map Prod.fst) from by unfold shN;rw[At,hZ]] at a4
 refine xv1 5 3 (show(V0 (bs:Int):Value)=V0 (↑(bs-Vb (Z.map Prod.fst) 0):Int) from congrArg V0 (by first|rfl|simp[Vb,Yc])) ?_
 refine xv1 0 4 (show(V0 0:Value)=V0 (↑(Yc (shN (Z.map Prod.fst)) 0):Int) from congrArg V0 (by first|rfl|simp[Vb,Yc])) ?_
 have c2:=bln (bln a2 b7) c6
 have c3:=(a9.below b7).below c6
 refine zl 0 50 (fun zm d0 V=>∃ (i:Nat),d0=[(1,P0 b1),(2,V0 0),(3,V0 (↑(bs-Vb (Z.map Prod.fst) i):Int)),(4,V0 (↑(Yc (shN (Z.map Prod.fst)) i):Int)),(13,.slice q9 n d9),(14,V0 (n:Int)),(15,V0 (i:Int))]∧zm=n-((i:Int)).toNat∧B3 w V∧Blk V b1 ([V0 t,V0 u,V0 v,V0 (x:Int),.slice p n c]) 24∧V.ownsRow w.heap.size 3 1 (.slice q9 n d9) n ((shN (Z.map Prod.fst)).map nv)∧i≤n) ⟨0,rfl,rfl,c2,c3,a4,A3 _⟩ ?_
 rintro _ _ W5 ⟨i,rfl,rfl,a1,a0,a6,hi⟩ J5 b5 r5
 refine xid 6 ((i:Int)<(n:Int)) (fun d6=>?_) (fun d6=>?_)
 ·have b4:i<(Z.map Prod.fst).length:=by rw[At];omega
  have c4:=Zc6 b4
  have e7:=Kj (cs:=shN (Z.map Prod.fst)) (k:=i) (by rw[Uk];exact b4)
  have a5:Vb (Z.map Prod.fst) (i+1)=Vb (Z.map Prod.fst) i+if Xo (Z.map Prod.fst) i=i then 0 else Zw 2 ((Z.map Prod.fst).getD i dvD).2.length:=rfl
  rw[Rn M0] at a5
  have d5:=Zkk (Z.map Prod.fst) (i:=i+1) b4
  have e8:=Aj hk.devs (i:=i) M0
  have e5:Yc (shN (Z.map Prod.fst)) i≤i:=by unfold Yc;exact N0 (H4 _ _) (by rw[D1];exact H5 _ _)
  refine xx 7 _ n i 1 (Yb (Ze a6) (by rw[Uk,At];exact hZ) (k:=i) M0).1 ?_
  refine xl 0 ((Yb (Ze a6) (by rw[Uk,At];exact hZ) (k:=i) M0).2) ?_
  refine xie 12 (↑((shN (Z.map Prod.fst)).getD i 0):Int) (0:Int) (fun e0=>?_) (fun e0=>?_)
  ·have b9:Xo (Z.map Prod.fst) i≠i:=fun q=>c4.1 q M0
   rw[if_neg b9] at a5
   refine xb 3 4 a0 ?_
   refine xx 1 _ n i 5 (hP.someN hZ (i:=i) M0) ?_
   refine xl 1 ((Sts.cell (hP.below a1).row Xs zvD (k:=i) (i:=4) M0 rfl).2) ?_
   refine xr 1 (args:=#[V0 2,V0 (↑((Z.getD i zvD).1.2.length):Int)]) (Yq 2 ((Z.getD i zvD).1.2.length) _ Do Do M0) fun W8 b3=>?_
   refine xw 0 ((↑(bs-Vb (Z.map Prod.fst) i):Int)-(↑(Zw 2 ((Z.getD i zvD).1.2.length)):Int)) ?_
   refine xwm 6 ((i:Int)+1) (↑(i+1):Int) ?_
   refine xv1 2 3 (show(V0 ((↑(bs-Vb (Z.map Prod.fst) i):Int)-(↑(Zw 2 ((Z.getD i zvD).1.2.length)):Int)):Value)=V0 (↑(bs-Vb (Z.map Prod.fst) (i+1)):Int) from congrArg V0 (by first|(have:(if 3≤(shN (Z.map Prod.fst)).getD i 0 then 1 else 0)=0:=by split<;>omega)<;>omega|omega)) ?_
   refine xv1 0 4 (show(V0 (↑(Yc (shN (Z.map Prod.fst)) i):Int):Value)=V0 (↑(Yc (shN (Z.map Prod.fst)) (i+1)):Int) from congrArg V0 (by first|(have:(if 3≤(shN (Z.map Prod.fst)).getD i 0 then 1 else 0)=0:=by split<;>omega)<;>omega|omega)) ?_
   have c0:=bln a1 b3
   have a3:=a0.below b3
   have a8:=Za a6 b3
   exact ze 0 (b5 _ _ _ ⟨i+1,rfl,rfl,c0,a3,a8,by omega⟩ M0)
  have b9:Xo (Z.map Prod.fst) i=i:=c4.2 M0
  rw[if_pos b9] at a5
  refine xid 7 ((↑((shN (Z.map Prod.fst)).getD i 0):Int)≥(3:Int)) (fun c9=>?_) (fun c9=>?_)
  ·refine xwm 2 ((↑(Yc (shN (Z.map Prod.fst)) i):Int)+1) (↑((Yc (shN (Z.map Prod.fst)) i)+1):Int) ?_
   refine xwm 6 ((i:Int)+1) (↑(i+1):Int) ?_
   refine xv1 2 3 (show(V0 (↑(bs-Vb (Z.map Prod.fst) i):Int):Value)=V0 (↑(bs-Vb (Z.map Prod.fst) (i+1)):Int) from congrArg V0 (by first|(have:(if 3≤(shN (Z.map Prod.fst)).getD i 0 then 1 else 0)=1:=by split<;>omega)<;>omega|omega)) ?_
   refine xv1 0 4 (show(V0 (↑((Yc (shN (Z.map Prod.fst)) i)+1):Int):Value)=V0 (↑(Yc (shN (Z.map Prod.fst)) (i+1)):Int) from congrArg V0 (by first|(have:(if 3≤(shN (Z.map Prod.fst)).getD i 0 then 1 else 0)=1:=by split<;>omega)<;>omega|omega)) ?_
   exact ze 0 (b5 _ _ _ ⟨i+1,rfl,rfl,a1,a0,a6,by omega⟩ M0)
  refine xwm 5 ((i:Int)+1) (↑(i+1):Int) ?_
  refine xv1 2 3 (show(V0 (↑(bs-Vb (Z.map Prod.fst) i):Int):Value)=V0 (↑(bs-Vb (Z.map Prod.fst) (i+1)):Int) from congrArg V0 (by first|(have:(if 3≤(shN (Z.map Prod.fst)).getD i 0 then 1 else 0)=0:=by split<;>omega)<;>omega|omega)) ?_
  refine xv1 0 4 (show(V0 (↑(Yc (shN (Z.map Prod.fst)) i):Int):Value)=V0 (↑(Yc (shN (Z.map Prod.fst)) (i+1)):Int) from congrArg V0 (by first|(have:(if 3≤(shN (Z.map Prod.fst)).getD i 0 then 1 else 0)=0:=by split<;>omega)<;>omega|omega)) ?_
  exact ze 0 (b5 _ _ _ ⟨i+1,rfl,rfl,a1,a0,a6,by omega⟩ M0)
 have c5:i=n:=by omega
 have d4:=To (Z.map Prod.fst)
 have e4:Yc (shN (Z.map Prod.fst)) i=Ar (Z.map Prod.fst):=by rw[c5];unfold Ar;rw[At,hZ]
 have b6:Vb (Z.map Prod.fst) i=Vb (Z.map Prod.fst) (Z.map Prod.fst).length:=by rw[c5,At,hZ]
 have d7:=Yp 5 (Yc (shN (Z.map Prod.fst)) i)
 have c8:=Tk x (Z.map Prod.fst)
 rw[At] at d4
 refine xr 9 (args:=#[V0 5,V0 (↑(Yc (shN (Z.map Prod.fst)) i):Int)]) (Yq 5 (Yc (shN (Z.map Prod.fst)) i) _ Do Do M0) fun e6 b0=>?_
 refine xwm 0 (1+(↑(Zw 5 (Yc (shN (Z.map Prod.fst)) i)):Int)) (↑(1+(Zw 5 (Yc (shN (Z.map Prod.fst)) i))):Int) ?_
 refine xw 0 ((↑(bs-Vb (Z.map Prod.fst) i):Int)+(↑(1+(Zw 5 (Yc (shN (Z.map Prod.fst)) i))):Int)) ?_
 refine xw 7 ((↑(bs-Vb (Z.map Prod.fst) i):Int)+(↑(1+(Zw 5 (Yc (shN (Z.map Prod.fst)) i))):Int)-1) ?_
 refine xq 0 (congrArg V0 (show(IntKind.i64.wrap (Int.tdiv ((↑(bs-Vb (Z.map Prod.fst) i):Int)+(↑(1+(Zw 5 (Yc (shN (Z.map Prod.fst)) i))):Int)-1) 959):Int)=(↑((bs-Vb (Z.map Prod.fst) i+(1+Zw 5 (Yc (shN (Z.map Prod.fst)) i))-1)/959):Int) from(by rw[show((↑(bs-Vb (Z.map Prod.fst) i):Int)+(↑(1+(Zw 5 (Yc (shN (Z.map Prod.fst)) i))):Int)-1)=(↑(bs-Vb (Z.map Prod.fst) i+(1+Zw 5 (Yc (shN (Z.map Prod.fst)) i))-1):Int) by omega];exact quo959 _ M0))) ?_
 refine xw 0 ((↑(bs-Vb (Z.map Prod.fst) i):Int)+(↑(1+(Zw 5 (Yc (shN (Z.map Prod.fst)) i))):Int)+(↑((bs-Vb (Z.map Prod.fst) i+(1+Zw 5 (Yc (shN (Z.map Prod.fst)) i))-1)/959):Int)) ?_
 refine xw 0 ((↑(bs-Vb (Z.map Prod.fst) i):Int)+(↑(1+(Zw 5 (Yc (shN (Z.map Prod.fst)) i))):Int)+(↑((bs-Vb (Z.map Prod.fst) i+(1+Zw 5 (Yc (shN (Z.map Prod.fst)) i))-1)/959):Int)+1) ?_
 have b2:=bln a1 b0
 exact xe 4 (V0 ((↑(bs-Vb (Z.map Prod.fst) i):Int)+(↑(1+(Zw 5 (Yc (shN (Z.map Prod.fst)) i))):Int)+(↑((bs-Vb (Z.map Prod.fst) i+(1+Zw 5 (Yc (shN (Z.map Prod.fst)) i))-1)/959):Int)+1)) ⟨by rw[b8] at c8;unfold Kw Nh;rw[c7,←e4,←b6];exact congrArg (fun z:Int=>Ending.returned (Value.int .i64 z)) M0,b2⟩
theorem Ii{l:List Int}(h:l.length≤65536)(ho:(Zl l l.length).length≤32768):2≤Hl l∧Hl l≤80000∧bmN l.length≤69:=by
 have h4:=Yp 4 (bmN l.length)
 have h5:=Yp 5 (Zl l l.length).length
 have a1:=Yx 4 (bmN l.length)
 have a0:=Yx 5 (Zl l l.length).length
 have hb:bmN l.length≤69:=by unfold bmN;omega
 unfold Hl
 omega
theorem Zgu(B ba b g nn cc:Nat)(pa:O0)(ca f N k0:Nat)(bs:Bl)(a:O0)(c:Nat)(l:List Int)(w:World)(hC:AlC B ba nn cc ca f N)(hA:Al B ba b g nn cc pa ca f N k0 bs w)(h:Sl w (.slice a l.length c) l.length (l.map V0))(hl:l.length≤65536)(ho:(Zl l l.length).length≤32768)(hs:Qd l=0)(hf1:1≤f)(hkN:k0≤N)(hk:k0+Hl l≤N)(hBw:B≤w.heap.size) :
 C0 92 #[P0 ba,.slice a l.length c] w (DataP B ba b g nn cc pa ca f N k0 bs l w):=by
 have d3:=hC.hf
 have d5:=hC.hn
 have d4:=Ii hl ho
 have c9:=Gj hs
 have d9:=Ji l l.length
 have d6:Hl l=(bmN l.length)+Zw 4 (bmN l.length)+Zw 5 (Zl l l.length).length:=rfl
 have d7:=Yp 4 (bmN l.length)
 have d8:=Yp 5 (Zl l l.length).length
 refine zin 70 Tryz.func92 ?_
 refine xr 11 (args:=#[P0 ba]) (Pw ba b _ _ _ hA.blkA) fun W1 a1=>?_
 refine xc 9 (args:=#[.slice a l.length c]) (Wy a c l _ (h.below a1) M0 hs) ?_
 rintro _ W2 ⟨pb,cb,gs,po,co,rfl,a4,hL,b7⟩
 have c5:=(blB (Below.refl B w) hBw a1).size
 have a8:=(hA.below a1).below a4
 refine xr 23 (args:=#[P0 ba]) (Ll ba b pa N ca k0 _ a8.blkA hkN) fun W3 a2=>?_
 refine xr 4 (args:=#[V0 4,V0 (↑(bmN l.length):Int)]) (Yq 4 (bmN l.length) _ Do Do M0) fun W4 a3=>?_
 refine xwm 0 ((↑(bmN l.length):Int)+(↑(Zw 4 (bmN l.length)):Int)) (↑((bmN l.length)+(Zw 4 (bmN l.length))):Int) ?_
 refine xr 2 (args:=#[V0 5,V0 (↑((Zl l l.length).length):Int)]) (Yq 5 (Zl l l.length).length _ Do Do M0) fun W5 a0=>?_
 refine xwm 0 ((↑((bmN l.length)+(Zw 4 (bmN l.length))):Int)+(↑(Zw 5 (Zl l l.length).length):Int)) (↑(((bmN l.length)+(Zw 4 (bmN l.length)))+(Zw 5 (Zl l l.length).length)):Int) ?_
 refine xk 3 (show(decide ((↑(N-k0):Int)<(↑(((bmN l.length)+(Zw 4 (bmN l.length)))+(Zw 5 (Zl l l.length).length)):Int)):Bool)=false from decide_eq_false M0) ?_
 refine xa 4 [S0] 99 fun b6 W6 n6=>?_
 have hX:=(((((show Fr [ba,g] w _ from(Fr.of_below a1)).trans (Fr.of_below a4)).trans (Fr.of_below a2)).trans (Fr.of_below a3)).trans (Fr.of_below a0)).trans (Fr.of_below n6.below)
 have a6:=Za (Za (Za (Za (Zf b7 c5) a2) a3) a0) n6.below
 have b1:=(((a8.below a2).below a3).below a0).below n6.below
 have b4:=fun(W:World) (hX:Fr ([ba,g]++[b6]) _ W)=>own_keep a6 b1 n6.blk hX
 have b2:=(((hL.below a2).below a3).below a0).below n6.below
 have g6:=n6.ge0 (blB (blB (blB (blB (blB (Below.refl B w) hBw a1) hBw a4) hBw a2) hBw a3) hBw a0)
 have hB:=blB (blB (blB (blB (blB (blB (Below.refl B w) hBw a1) hBw a4) hBw a2) hBw a3) hBw a0) hBw n6.below
 refine xc 8 (args:=#[P0 ba,.slice pb (bmN l.length) cb,.func (.func 155) #[] #[P0 b6]]) (Zen B ba b g nn cc pa ca f N k0 bs b6 _ pb cb gs (Zo (Zh l) (bmN l.length)) (bmN l.length) (Xq _ _) _ hC b1 b2 (Bg c9.2 _) hf1 M0 n6.blk (N0 hBw g6) (N0 hBw hB.size)) ?_
 rintro _ W7 ⟨p8,c8,rfl,d2,c7,b8,hA,c4,d1⟩
 have c3:=(blB (blB (blB (blB (blB (blB (Below.refl B w) hBw a1) hBw a4) hBw a2) hBw a3) hBw a0) hBw n6.below).size
 replace b7:=b4 _ b8
 refine xb 15 0 c4 ?_
 have a9:=Zf d1 c3
 have a7:=hB.trans d2
 refine xc 0 (args:=#[P0 ba,V0 4,.slice p8 (bmN l.length) c8]) (Gw B ba b g nn cc pa ca f N (k0+(bmN l.length)) (Kn (Zo (Zh l) (bmN l.length)) (f+k0) bs (bmN l.length)) 4 p8 c8 (Xy (Zo (Zh l) (bmN l.length)) (f+k0) (bmN l.length)) (bmN l.length) _ (Qh _ _ _) hC hA Do Do (Rh _ _ _ M0) M0 hf1 M0 M0 (fun W _ h2=>by unfold Sts;rw[Qh];exact Ze (Zi a9 h2 Do)) (N0 hBw a7.size)) ?_
 rintro _ W8 ⟨rfl,c1,b9,c0,hA⟩
 rw[Qh] at hA
 have a5:=Zi b7 b9 Do
 have b0:=a7.trans c1
 refine xc 21 (args:=#[P0 ba,V0 5,.slice po ((Zl l l.length).length) co]) (Gw B ba b g nn cc pa ca f N (k0+(bmN l.length)+Zw 4 (bmN l.length)) (Vl 4 (Xy (Zo (Zh l) (bmN l.length)) (f+k0) (bmN l.length)) (f+(k0+(bmN l.length))) (Kn (Zo (Zh l) (bmN l.length)) (f+k0) bs (bmN l.length))).2 5 po co (Zl l l.length) (Zl l l.length).length _ rfl hC hA Do Do (Nd _ _ M0) M0 hf1 M0 M0 (fun W _ h2=>Ze (Zi a5 h2 Do)) (N0 hBw b0.size)) ?_
 rintro _ W9 ⟨rfl,c2,d0,c6,hA⟩
 have b5:=b0.trans c2
 have hO:=((((((((show Zd [169,5,99,124,39] w _ from(Zd.of_below a1)).trans (Zd.of_below a4)).trans (Zd.of_below a2)).trans (Zd.of_below a3)).trans (Zd.of_below a0)).trans (Zd.of_below n6.below)).trans (c7.wide)).trans (b9.wide)).trans (d0.wide)
 have b3:=((Fr.trans_new hX b8 g6).trans (c0.mono (by simp))).trans (c6.mono (by simp))
 refine xe 27 (.tuple #[V0 ((Vl 4 (Xy (Zo (Zh l) (bmN l.length)) (f+k0) (bmN l.length)) (f+(k0+(bmN l.length))) (Kn (Zo (Zh l) (bmN l.length)) (f+k0) bs (bmN l.length))).1),V0 ((Vl 5 (Zl l l.length) (f+(k0+(bmN l.length)+Zw 4 (bmN l.length))) (Vl 4 (Xy (Zo (Zh l) (bmN l.length)) (f+k0) (bmN l.length)) (f+(k0+(bmN l.length))) (Kn (Zo (Zh l) (bmN l.length)) (f+k0) bs (bmN l.length))).2).1),.nilIface]) ?_
 have e1:f+(k0+(bmN l.length))=f+k0+(bmN l.length):=by omega
 have e2:f+(k0+(bmN l.length)+Zw 4 (bmN l.length))=f+k0+(bmN l.length)+Zw 4 (bmN l.length):=by omega
 rw[e2,e1] at hA ⊢
 have e3:k0+(bmN l.length)+Zw 4 (bmN l.length)+Zw 5 (Zl l l.length).length=k0+Hl l:=by omega
 rw[e3] at hA
 exact⟨rfl,b5,hO,b3,hA⟩
theorem Fs(w:World) :
 C0 147 #[] w (Qo (fun w' r=>∃ b,r=.slice (S1 b) 1 1∧w.heap.size≤b∧Blk w' b [V0 8,V0 0,V0 1099511627775] 298) w):=by
 refine zin 3 Tryz.func147 ?_
 refine xbs 8 1 [V0 8,V0 0,V0 1099511627775] 298 fun b1 W1 n1=>?_
 exact xe 4 (.slice (S1 b1) 1 1) ⟨_,rfl,n1.below,b1,rfl,(n1.ge (B4 w)),n1.blk⟩
theorem Pf(w:World) :
 C0 150 #[] w (Qo (fun w' r=>∃ b,r=.slice (S1 b) 4 4∧w.heap.size≤b∧Blk w' b [V0 8,V0 0,V0 16384,V0 8,V0 0,V0 2147483647,V0 4,V0 0,V0 16777215,V0 4,V0 0,V0 16777215] 298) w):=by
 refine zin 6 Tryz.func150 ?_
 refine xbs 11 4 [V0 8,V0 0,V0 16384,V0 8,V0 0,V0 2147483647,V0 4,V0 0,V0 16777215,V0 4,V0 0,V0 16777215] 298 fun b1 W1 n1=>?_
 exact xe 4 (.slice (S1 b1) 4 4) ⟨_,rfl,n1.below,b1,rfl,(n1.ge (B4 w)),n1.blk⟩
theorem Mt(ps:List Ty)(N:List Int)(gl gn:O0)(cl cn n:Nat)(w:World)(hps:Dq ps)(hn:n=ps.length)(hNl:N.length=n)(hP:Sts partC w (.slice gl ps.length cl) ps)(hN:Sl w (.slice gn n cn) n (N.map V0))(h:Mb ps N n=true) :
  C0 146 #[.slice gl ps.length cl,.slice gn n cn] w (Ret (.string ⟨(Zgb ps N ps.length).toArray⟩) w):=(Zba ps N gl gn cl cn n w hps hn hNl hP hN).mono (by
 rintro e W q
 rcases q with ⟨q,_⟩|⟨_,rfl,hb⟩
 ·rw[h] at q;cases q
 ·exact⟨rfl,hb⟩)
theorem map_or{b t:Int}(h1:0≤b∧b≤65535)(h2:0≤t∧t≤16777215):IntKind.i64.wrap (↑(BitVec.ofInt 64 (b*16777216) ||| BitVec.ofInt 64 t).toNat:Int)=b*16777216+t:=by
 obtain⟨p,rfl⟩:∃ p:Nat,b=(p:Int):=⟨b.toNat,by omega⟩
 obtain⟨q,rfl⟩:∃ q:Nat,t=(q:Int):=⟨t.toNat,by omega⟩
 have e:((p:Int)*16777216)=((p*16777216:Nat):Int):=by omega
 rw[e,E6,E6,BitVec.toNat_or,F3,F3,F0 M0,F0 M0]
 have h:=Nat.two_pow_add_eq_or_of_lt (i:=24) (b:=q) M0 p
 rw[show(2:Nat) ^ 24*p=p*16777216 by omega] at h
 rw[←h]
 exact(IntWalk.i64_in _ M0).trans M0
theorem Zf7(m:Mp)(w:World)(h1:0≤m.2.1∧m.2.1≤65535)(h2:0≤m.2.2∧m.2.2≤16777215) :
 C0 88 #[V0 m.2.1,V0 m.2.2] w (Ret (.string ⟨(Ze5 m).toArray⟩) w):=by
 refine zin 26 Tryz.func88 ?_
 refine xgk 11 [6,7] (show(decide (m.2.1<(0:Int)):Bool)=false from decide_eq_false M0) ?_
 refine xgk 4 [9,10,11] (show(decide (m.2.1≥(65536:Int)):Bool)=false from decide_eq_false M0) ?_
 refine xgk 4 [13,14,15] (show(decide (m.2.2<(0:Int)):Bool)=false from decide_eq_false M0) ?_
 refine xk 5 (show(decide (m.2.2>(16777215:Int)):Bool)=false from decide_eq_false M0) ?_
 refine xc 4 (args:=#[]) (Fs _) ?_
 rintro _ W4 ⟨_,rfl,a2,gl,rfl,gg,kl⟩
 refine xq 1 (congrArg V0 (show(IntKind.i64.wrap (m.2.1*2 ^ 24):Int)=m.2.1*16777216 from IntWalk.i64_in _ M0)) ?_
 refine xq 1 (congrArg V0 (show(IntKind.i64.wrap (↑(BitVec.ofInt 64 (m.2.1*16777216) ||| BitVec.ofInt 64 m.2.2).toNat:Int):Int)=m.2.1*16777216+m.2.2 from map_or h1 h2)) ?_
 refine xbs 0 1 [V0 (m.2.1*16777216+m.2.2)] 3 fun b5 W5 n5=>?_
 have a0:=kl.below n5.below
 refine xr 0 (args:=#[.slice (S1 gl) 1 1,.slice (S1 b5) 1 1]) (Mt mapP [m.2.1*16777216+m.2.2] (S1 gl) (S1 b5) 1 1 1 _ mapP_ok rfl rfl (a0.sl 1 1 Do Do) (n5.blk.sl 1 1 Do Do) (by unfold Mb;rw[show List.range 1=[0] from rfl];simp[inP,mapP,List.getD];omega)) fun W6 a1=>?_
 have hB:=bln (bln a2 n5.below) a1
 exact xe 4 (.string ⟨(Ze5 m).toArray⟩) ⟨rfl,hB⟩
theorem Th(data n:Int)(d:Dv)(w:World)(h:DevOk data d)(hn:0≤n∧n≤16384) :
 C0 91 #[.agg #[V0 n,V0 d.1.2.1,V0 d.1.2.2.1,V0 d.1.2.2.2]] w (Ret (.string ⟨(Kt n d).toArray⟩) w):=by
 refine zin 14 Tryz.func91 ?_
 refine xa 2 [V0 n,V0 d.1.2.1,V0 d.1.2.2.1,V0 d.1.2.2.2] 174 fun b1 W1 n1=>?_
 refine xd 4 .z ?_
 have k1:=n1.blk.below (Zb W1)
 refine xb (.e [1] 2) 0 k1 ?_
 refine xb (.e [3] 4) 1 k1 ?_
 refine xb (.e [5] 6) 2 k1 ?_
 refine xb (.e [7] 8) 3 k1 ?_
 refine xm2 0 0 9 ?_ ?_
 ·refine yc 0 (args:=#[]) .z (Pf _) ?_
  rintro _ W2 ⟨_,rfl,a2,gl,rfl,gg,kl⟩
  refine⟨a2,?_⟩
  refine xbs (.o [] 9) 4 [V0 n,V0 d.1.2.1,V0 d.1.2.2.1,V0 d.1.2.2.2] 3 fun b3 W3 n3=>?_
  have a1:=kl.below n3.below
  refine xr (.o [] 10) (args:=#[.slice (S1 gl) 4 4,.slice (S1 b3) 4 4]) (Mt detP [n,d.1.2.1,d.1.2.2.1,d.1.2.2.2] (S1 gl) (S1 b3) 4 4 4 _ Zh0 rfl rfl (a1.sl 4 4 Do Do) (n3.blk.sl 4 4 Do Do) (by have a:=h.tx;have b:=h.made;have c:=h.snap;unfold Mb;rw[show List.range 4=[0,1,2,3] from rfl];simp[inP,detP,List.getD];omega)) fun W4 a4=>?_
  have hB:=bln (bln (bln (bln n1.below (Zb W1)) a2) n3.below) a4
  exact xe (.r [11] 3) (.string ⟨(Kt n d).toArray⟩) ⟨rfl,hB⟩
 refine xbs 0 4 [V0 n,V0 d.1.2.1,V0 d.1.2.2.1,V0 d.1.2.2.2] 3 fun b5 W5 n5=>?_
 refine yc (.o [] 0) (args:=#[]) .z (Pf _) ?_
 rintro _ W6 ⟨_,rfl,a0,gl,rfl,gg,kl⟩
 refine⟨a0,?_⟩
 have k5:=n5.blk.below a0
 refine xr (.o [] 10) (args:=#[.slice (S1 gl) 4 4,.slice (S1 b5) 4 4]) (Mt detP [n,d.1.2.1,d.1.2.2.1,d.1.2.2.2] (S1 gl) (S1 b5) 4 4 4 _ Zh0 rfl rfl (kl.sl 4 4 Do Do) (k5.sl 4 4 Do Do) (by have a:=h.tx;have b:=h.made;have c:=h.snap;unfold Mb;rw[show List.range 4=[0,1,2,3] from rfl];simp[inP,detP,List.getD];omega)) fun W7 a3=>?_
 have hB:=bln (bln (bln (bln n1.below (Zb W1)) n5.below) a0) a3
 exact xe (.r [11] 3) (.string ⟨(Kt n d).toArray⟩) ⟨rfl,hB⟩
structure Sup where
 tx:Int
 time:Int
 unit:Int
 data:Int
 blocks:Int
 top:Int
 details:Int
 dslots:Int
 dover:Int
 mindex:Int
 mover:Int
def Hj(s:Sup):List Int:=[s.tx,s.time,s.unit,s.data,s.blocks,s.top,s.details,s.dslots,s.dover,s.mindex,s.mover]
def Xp(s:Sup):Bool:=(((((((((((true&&decide ((0:Int)≤s.tx∧s.tx≤2147483647))&&decide ((0:Int)≤s.time∧s.time≤16777215))&&decide ((1:Int)≤s.unit∧s.unit≤65536))&&decide ((0:Int)≤s.data∧s.data≤65536))&&decide ((2:Int)≤s.blocks∧s.blocks≤14400))&&decide ((1:Int)≤s.top∧s.top≤(s.blocks-1)))&&decide ((1:Int)≤s.details∧s.details≤(s.blocks-1)))&&decide ((1:Int)≤s.dslots∧s.dslots≤(s.blocks-1)))&&decide ((1:Int)≤s.dover∧s.dover≤(s.blocks-1)))&&decide ((1:Int)≤s.mindex∧s.mindex≤(s.blocks-1)))&&decide ((1:Int)≤s.mover∧s.mover≤(s.blocks-1)))
def Ve:Bl:=[83,67,65,78,84,76,73,78]
def Vf(N:List Int):Bl:=N.flatMap fun n=>leB n 4
theorem Om(N:List Int):(Vf N).length=N.length*4:=by
 unfold Vf
 induction N with
 | nil=>rfl
 | cons n N ih=>rw[I7,A5,Zj,ih,E4];omega
def Zcm(s:Sup):Bl:=Ve++Vf (1::Hj s)++List.replicate 188 0
theorem Co(s:Sup):(Zcm s).length=244:=by
 unfold Zcm;rw[A5,A5,Om,A7];rfl
def Sg(n:Int):List Value:=[V0 4,V0 n]
theorem Zdf(n:Int):(Sg n).length=2:=rfl
theorem Qc(B bs bo off:Nat)(cs:List Value)(n lo hi:Int)(b:Bool)(w:World)(hBw:B≤w.heap.size)(hBo:B≤bo)(ks:Blk w bs cs 54)(hn:cs[off]? = some (V0 n))(ko:Blk w bo [.bool b] 4) :
 C0 133 #[.pointer (some ⟨bs,off,none⟩),V0 lo,V0 hi,P0 bo] w ((fun e w'=>∃ u,e=.returned u∧Below B w w'∧Zd [4] w w'∧Blk w' bo [.bool (b&&decide ((lo:Int)≤n∧n≤hi))] 4)):=by
 refine zin 22 Tryz.func133 ?_
 refine xb 1 0 ko ?_
 refine xg 1 [7,8] b (fun a1=>?_) (fun a1=>?_)
 ·refine xl 2 (ks.cell (i:=off) hn) ?_
  refine xg 4 [13,14,15] (decide (n≥lo)) (fun a0=>?_) (fun a0=>?_)
  ·have a0:=of_decide_eq_true a0
   refine xl 2 (ks.cell (i:=off) hn) ?_
   refine xs 3 ko [.bool (decide (n≤hi))] fun W3 u3 k3=>?_
   have hB:=u3.below (Below.refl B w) hBo
   have hO:=(show Zd [4] w _ from(Zd.of_upd u3 ko Do))
   exact xe 1 (.tuple #[]) ⟨_,rfl,hB,hO,by rw[show(b&&decide ((lo:Int)≤n∧n≤hi))=decide (n≤hi) from by first|(rw[show decide ((lo:Int)≤n∧n≤hi)=false from decide_eq_false M0,Bool.and_false];done)|(simp_all;done)|(simp_all;omega)];exact k3⟩
  have a0:=of_decide_eq_false a0
  refine xs 6 ko [.bool false] fun W4 u4 k4=>?_
  have hB:=u4.below (Below.refl B w) hBo
  have hO:=(show Zd [4] w _ from(Zd.of_upd u4 ko Do))
  exact xe 1 (.tuple #[]) ⟨_,rfl,hB,hO,by rw[show(b&&decide ((lo:Int)≤n∧n≤hi))=false from by first|(rw[show decide ((lo:Int)≤n∧n≤hi)=false from decide_eq_false M0,Bool.and_false];done)|(simp_all;done)|(simp_all;omega)];exact k4⟩
 refine xs 13 ko [.bool false] fun W5 u5 k5=>?_
 have hB:=u5.below (Below.refl B w) hBo
 have hO:=(show Zd [4] w _ from(Zd.of_upd u5 ko Do))
 exact xe 1 (.tuple #[]) ⟨_,rfl,hB,hO,by rw[show(b&&decide ((lo:Int)≤n∧n≤hi))=false from by first|(rw[show decide ((lo:Int)≤n∧n≤hi)=false from decide_eq_false M0,Bool.and_false];done)|(simp_all;done)|(simp_all;omega)];exact k5⟩
theorem Fp(B bs bo:Nat)(s:Sup)(w:World)(hBw:B≤w.heap.size)(hBo:B≤bo)(hb0:0≤s.blocks)(hb1:s.blocks<9223372036854775808)(ks:Blk w bs [V0 s.tx,V0 s.time,V0 s.unit,V0 s.data,V0 s.blocks,V0 s.top,V0 s.details,V0 s.dslots,V0 s.dover,V0 s.mindex,V0 s.mover] 54)(ko:Blk w bo [.bool true] 4) :
 C0 95 #[P0 bs,.func (.func 133) #[] #[P0 bo]] w ((fun e w'=>∃ u,e=.returned u∧Below B w w'∧Zd [4] w w'∧Blk w' bo [.bool (Xp s)] 4)):=by
 refine zin 64 Tryz.func95 ?_
 refine xc 6 (args:=#[P0 bs,V0 0,V0 2147483647,P0 bo]) (Qc B bs bo 0 _ s.tx 0 2147483647 true _ (N0 hBw (Below.refl B _).size) hBo ks rfl ko) ?_
 rintro _ W1 ⟨u1,rfl,hb1,e3,f7⟩
 have c5:=ks.only e3 Do
 refine xc 8 (args:=#[.pointer (some ⟨bs,1,none⟩),V0 0,V0 16777215,P0 bo]) (Qc B bs bo 1 _ s.time 0 16777215 (true&&decide ((0:Int)≤s.tx∧s.tx≤2147483647)) _ (N0 hBw hb1.size) hBo c5 rfl f7) ?_
 rintro _ W2 ⟨u2,rfl,f4,e0,f9⟩
 have b9:=hb1.trans f4
 have c7:=c5.only e0 Do
 refine xc 8 (args:=#[.pointer (some ⟨bs,2,none⟩),V0 1,V0 65536,P0 bo]) (Qc B bs bo 2 _ s.unit 1 65536 ((true&&decide ((0:Int)≤s.tx∧s.tx≤2147483647))&&decide ((0:Int)≤s.time∧s.time≤16777215)) _ (N0 hBw b9.size) hBo c7 rfl f9) ?_
 rintro _ W3 ⟨u3,rfl,f1,e2,f5⟩
 have c8:=b9.trans f1
 have b4:=c7.only e2 Do
 refine xc 8 (args:=#[.pointer (some ⟨bs,3,none⟩),V0 0,V0 65536,P0 bo]) (Qc B bs bo 3 _ s.data 0 65536 (((true&&decide ((0:Int)≤s.tx∧s.tx≤2147483647))&&decide ((0:Int)≤s.time∧s.time≤16777215))&&decide ((1:Int)≤s.unit∧s.unit≤65536)) _ (N0 hBw c8.size) hBo b4 rfl f5) ?_
 rintro _ W4 ⟨u4,rfl,f6,e4,f0⟩
 have c4:=c8.trans f6
 have c6:=b4.only e4 Do
 refine xc 8 (args:=#[.pointer (some ⟨bs,4,none⟩),V0 2,V0 14400,P0 bo]) (Qc B bs bo 4 _ s.blocks 2 14400 ((((true&&decide ((0:Int)≤s.tx∧s.tx≤2147483647))&&decide ((0:Int)≤s.time∧s.time≤16777215))&&decide ((1:Int)≤s.unit∧s.unit≤65536))&&decide ((0:Int)≤s.data∧s.data≤65536)) _ (N0 hBw c4.size) hBo c6 rfl f0) ?_
 rintro _ W5 ⟨u5,rfl,e7,e1,f8⟩
 refine xd 3 .z ?_
 refine xbs (.o [0,1,2,3,4,5,6,7,8,9,10,11,12,13,14,15,16,17,20] 18) 6 [.pointer (some ⟨bs,5,none⟩),.pointer (some ⟨bs,6,none⟩),.pointer (some ⟨bs,7,none⟩),.pointer (some ⟨bs,8,none⟩),.pointer (some ⟨bs,9,none⟩),.pointer (some ⟨bs,10,none⟩)] 181 fun b6 W6 n6=>?_
 have b5:=blB (c4.trans e7) hBw (Zb W5)
 have g6:=n6.ge0 b5
 refine xu (.r [19] 3) 7 ?_
 refine xb 14 0 n6.blk ?_
 have a3:=((c6.only e1 Do).below (Zb W5)).below n6.below
 refine xb 9 4 a3 ?_
 refine xw 0 (s.blocks-1) ?_
 have b8:=blB b5 hBw n6.below
 have b2:=(f8.below (Zb W5)).below n6.below
 refine xc 0 (args:=#[.pointer (some ⟨bs,5,none⟩),V0 1,V0 (s.blocks-1),P0 bo]) (Qc B bs bo 5 _ s.top 1 (s.blocks-1) (((((true&&decide ((0:Int)≤s.tx∧s.tx≤2147483647))&&decide ((0:Int)≤s.time∧s.time≤16777215))&&decide ((1:Int)≤s.unit∧s.unit≤65536))&&decide ((0:Int)≤s.data∧s.data≤65536))&&decide ((2:Int)≤s.blocks∧s.blocks≤14400)) _ (N0 hBw b8.size) hBo a3 rfl b2) ?_
 rintro _ W7 ⟨u7,rfl,f3,d6,e5⟩
 have c2:=n6.blk.only d6 Do
 refine xb 22 1 c2 ?_
 have a7:=a3.only d6 Do
 refine xb 9 4 a7 ?_
 refine xw 0 (s.blocks-1) ?_
 have b1:=b8.trans f3
 refine xc 0 (args:=#[.pointer (some ⟨bs,6,none⟩),V0 1,V0 (s.blocks-1),P0 bo]) (Qc B bs bo 6 _ s.details 1 (s.blocks-1) ((((((true&&decide ((0:Int)≤s.tx∧s.tx≤2147483647))&&decide ((0:Int)≤s.time∧s.time≤16777215))&&decide ((1:Int)≤s.unit∧s.unit≤65536))&&decide ((0:Int)≤s.data∧s.data≤65536))&&decide ((2:Int)≤s.blocks∧s.blocks≤14400))&&decide ((1:Int)≤s.top∧s.top≤(s.blocks-1))) _ (N0 hBw b1.size) hBo a7 rfl e5) ?_
 rintro _ W8 ⟨u8,rfl,e6,c9,f2⟩
 have c1:=c2.only c9 Do
 refine xb 22 2 c1 ?_
 have a2:=a7.only c9 Do
 refine xb 9 4 a2 ?_
 refine xw 0 (s.blocks-1) ?_
 have c3:=b1.trans e6
 refine xc 0 (args:=#[.pointer (some ⟨bs,7,none⟩),V0 1,V0 (s.blocks-1),P0 bo]) (Qc B bs bo 7 _ s.dslots 1 (s.blocks-1) (((((((true&&decide ((0:Int)≤s.tx∧s.tx≤2147483647))&&decide ((0:Int)≤s.time∧s.time≤16777215))&&decide ((1:Int)≤s.unit∧s.unit≤65536))&&decide ((0:Int)≤s.data∧s.data≤65536))&&decide ((2:Int)≤s.blocks∧s.blocks≤14400))&&decide ((1:Int)≤s.top∧s.top≤(s.blocks-1)))&&decide ((1:Int)≤s.details∧s.details≤(s.blocks-1))) _ (N0 hBw c3.size) hBo a2 rfl f2) ?_
 rintro _ W9 ⟨u9,rfl,e9,d7,e8⟩
 have c0:=c1.only d7 Do
 refine xb 22 3 c0 ?_
 have a6:=a2.only d7 Do
 refine xb 9 4 a6 ?_
 refine xw 0 (s.blocks-1) ?_
 have b0:=c3.trans e9
 refine xc 0 (args:=#[.pointer (some ⟨bs,8,none⟩),V0 1,V0 (s.blocks-1),P0 bo]) (Qc B bs bo 8 _ s.dover 1 (s.blocks-1) ((((((((true&&decide ((0:Int)≤s.tx∧s.tx≤2147483647))&&decide ((0:Int)≤s.time∧s.time≤16777215))&&decide ((1:Int)≤s.unit∧s.unit≤65536))&&decide ((0:Int)≤s.data∧s.data≤65536))&&decide ((2:Int)≤s.blocks∧s.blocks≤14400))&&decide ((1:Int)≤s.top∧s.top≤(s.blocks-1)))&&decide ((1:Int)≤s.details∧s.details≤(s.blocks-1)))&&decide ((1:Int)≤s.dslots∧s.dslots≤(s.blocks-1))) _ (N0 hBw b0.size) hBo a6 rfl e8) ?_
 rintro _ g3 ⟨g1,rfl,d0,a8,d8⟩
 have b3:=c0.only a8 Do
 refine xb 22 4 b3 ?_
 have a4:=a6.only a8 Do
 refine xb 9 4 a4 ?_
 refine xw 0 (s.blocks-1) ?_
 have b7:=b0.trans d0
 refine xc 0 (args:=#[.pointer (some ⟨bs,9,none⟩),V0 1,V0 (s.blocks-1),P0 bo]) (Qc B bs bo 9 _ s.mindex 1 (s.blocks-1) (((((((((true&&decide ((0:Int)≤s.tx∧s.tx≤2147483647))&&decide ((0:Int)≤s.time∧s.time≤16777215))&&decide ((1:Int)≤s.unit∧s.unit≤65536))&&decide ((0:Int)≤s.data∧s.data≤65536))&&decide ((2:Int)≤s.blocks∧s.blocks≤14400))&&decide ((1:Int)≤s.top∧s.top≤(s.blocks-1)))&&decide ((1:Int)≤s.details∧s.details≤(s.blocks-1)))&&decide ((1:Int)≤s.dslots∧s.dslots≤(s.blocks-1)))&&decide ((1:Int)≤s.dover∧s.dover≤(s.blocks-1))) _ (N0 hBw b7.size) hBo a4 rfl d8) ?_
 rintro _ g7 ⟨g5,rfl,d3,a5,d5⟩
 have d2:=b3.only a5 Do
 refine xb 22 5 d2 ?_
 have a1:=a4.only a5 Do
 refine xb 9 4 a1 ?_
 refine xw 0 (s.blocks-1) ?_
 have a0:=b7.trans d3
 refine xc 0 (args:=#[.pointer (some ⟨bs,10,none⟩),V0 1,V0 (s.blocks-1),P0 bo]) (Qc B bs bo 10 _ s.mover 1 (s.blocks-1) ((((((((((true&&decide ((0:Int)≤s.tx∧s.tx≤2147483647))&&decide ((0:Int)≤s.time∧s.time≤16777215))&&decide ((1:Int)≤s.unit∧s.unit≤65536))&&decide ((0:Int)≤s.data∧s.data≤65536))&&decide ((2:Int)≤s.blocks∧s.blocks≤14400))&&decide ((1:Int)≤s.top∧s.top≤(s.blocks-1)))&&decide ((1:Int)≤s.details∧s.details≤(s.blocks-1)))&&decide ((1:Int)≤s.dslots∧s.dslots≤(s.blocks-1)))&&decide ((1:Int)≤s.dover∧s.dover≤(s.blocks-1)))&&decide ((1:Int)≤s.mindex∧s.mindex≤(s.blocks-1))) _ (N0 hBw a0.size) hBo a1 rfl d5) ?_
 rintro _ g0 ⟨g2,rfl,d4,d1,d9⟩
 have a9:=a0.trans d4
 have hO:=((((((((((((show Zd [4] w _ from e3).trans e0).trans e2).trans e4).trans e1).trans (Zd.of_below (Zb W5))).trans (Zd.of_below n6.below)).trans d6).trans c9).trans d7).trans a8).trans a5).trans d1
 exact xe 19 (.tuple #[]) ⟨_,rfl,a9,hO,d9⟩
theorem Od(s:Sup)(w:World)(hb0:0≤s.blocks)(hb1:s.blocks<9223372036854775808) :
 C0 69 #[.agg #[V0 s.tx,V0 s.time,V0 s.unit,V0 s.data,V0 s.blocks,V0 s.top,V0 s.details,V0 s.dslots,V0 s.dover,V0 s.mindex,V0 s.mover]] w (Ret (.bool (Xp s)) w):=by
 refine zin 7 Tryz.func69 ?_
 refine xa 2 [V0 s.tx,V0 s.time,V0 s.unit,V0 s.data,V0 s.blocks,V0 s.top,V0 s.details,V0 s.dslots,V0 s.dover,V0 s.mindex,V0 s.mover] 54 fun b1 W1 n1=>?_
 refine xa 5 [.bool false] 4 fun b2 W2 n2=>?_
 refine xs 0 n2.blk [.bool true] fun W3 u3 k3=>?_
 have g2:=n2.ge n1.below
 have hB:=u3.below (bln n1.below n2.below) g2
 have k1:=u3.blkT (n1.blk.below n2.below) n2.blk Do
 refine xc 5 (args:=#[P0 b1,.func (.func 133) #[] #[P0 b2]]) (Fp w.heap.size b1 b2 s _ hB.size g2 hb0 hb1 k1 k3) ?_
 rintro _ W4 ⟨u4,rfl,a1,a3,a2⟩
 refine xb 4 0 a2 ?_
 have a0:=hB.trans a1
 exact xe 4 (.bool (Xp s)) ⟨rfl,a0⟩
theorem Kh(B Bx bs bl off n:Nat)(cs:List Value)(x:Int)(lo hi:Value)(p:O0)(c:Nat)(N:List Int)(w:World)(hBm:B≤Bx)(hBx:Bx≤w.heap.size)(hBw:B≤w.heap.size)(hBl:B≤bl)(ks:Blk w bs cs 54)(hn:cs[off]? = some (V0 x))(kl:Blk w bl [.slice p n c] 179)(hup:w.ownsRow Bx 178 2 (.slice p n c) n (N.flatMap Sg))(hnn:n≤1000) :
 C0 96 #[.pointer (some ⟨bs,off,none⟩),lo,hi,P0 bl] w ((fun e w'=>∃ u p' c',e=.returned u∧Below B w w'∧Zd [179,178] w w'∧Blk w' bl [.slice p' (n+1) c'] 179∧w'.ownsRow Bx 178 2 (.slice p' (n+1) c') (n+1) ((N++[x]).flatMap Sg))):=by
 refine zin 14 Tryz.func96 ?_
 refine xd 0 (.t B [179,178]) ?_
 have b2:=ks.below (Zb w)
 refine xlt (.e [1,2] 3) (.t B [179,178]) (fun V hV=>(b2.only hV.2 Do).cell (i:=off) hn) ?_
 refine xm2 (.b [4]) 0 5 ?_ ?_
 ·have a6:=kl.below (Zb w)
  refine xb 0 0 a6 ?_
  refine xbs (.o [] 5) 1 [V0 4,V0 x] 178 fun b1 W1 n1=>?_
  have a4:=Za hup (Zb w)
  have b7:=Zg a4 n1
  have a0:=Za a4 n1.below
  have hB:=blB (blB (Below.refl B w) hBw (Zb w)) hBw n1.below
  refine ybi (.o [] 6) (.t B [179,178]) fun _ _ _ _ zJ zQ zo zx zy zK=>Zr (m:=1) (news:=[V0 4,V0 x]) (.agg #[V0 0,V0 0]) 2 16 (n+1) (((N++[x]).flatMap Sg)) zo Tryz.underlying179 K0 rfl Do zx a0 zy (n1.blk.sl 1 1 Do Do) rfl (by simp[Value.oneCell']) (by unfold maxLen;omega) M0 (N0 hBx hB.size) (by rfl) (by rw[E1];rfl) fun c3 c4 W2 o2 b3 c0=>?_
  refine zK _ _ (Zt (c0.mono hBm) b3 a0 Do) ?_
  have a2:=(a6.below n1.below).grown b3 a0 Do
  refine ys (.o [] 7) a2 [.slice c3 (n+1) c4] (.t B [179,178]) fun W3 u3 k3=>⟨(Xb u3 a2 hBl Do),?_⟩
  have b0:=u3.below (hB.trans (c0.mono hBm)) hBl
  have hO:=(((show Zd [179,178] w _ from(Zd.of_below (Zb w))).trans (Zd.of_below n1.below)).trans (Zd.of_grown b3 a0 Do)).trans (Zd.of_upd u3 a2 Do)
  have b5:=u3.own2 o2 a2 Do
  exact xe 1 (.tuple #[]) ⟨_,_,_,rfl,b0,hO,k3,b5⟩
 refine xbs 0 1 [V0 4,V0 x] 178 fun b4 W4 n4=>?_
 have a5:=Za hup (Zb w)
 have b6:=Zg a5 n4
 have a7:=(kl.below (Zb w)).below n4.below
 refine xb (.o [] 0) 0 a7 ?_
 have a1:=Za a5 n4.below
 have hB:=blB (blB (Below.refl B w) hBw (Zb w)) hBw n4.below
 refine ybi (.o [] 6) (.t B [179,178]) fun _ _ _ _ zJ zQ zo zx zy zK=>Zr (m:=1) (news:=[V0 4,V0 x]) (.agg #[V0 0,V0 0]) 2 16 (n+1) (((N++[x]).flatMap Sg)) zo Tryz.underlying179 K0 rfl Do zx a1 zy (n4.blk.sl 1 1 Do Do) rfl (by simp[Value.oneCell']) (by unfold maxLen;omega) M0 (N0 hBx hB.size) (by rfl) (by rw[E1];rfl) fun c2 c1 W5 o5 a9 b9=>?_
 refine zK _ _ (Zt (b9.mono hBm) a9 a1 Do) ?_
 have a3:=a7.grown a9 a1 Do
 refine ys (.o [] 7) a3 [.slice c2 (n+1) c1] (.t B [179,178]) fun W6 u6 k6=>⟨(Xb u6 a3 hBl Do),?_⟩
 have b8:=u6.below (hB.trans (b9.mono hBm)) hBl
 have hO:=(((show Zd [179,178] w _ from(Zd.of_below (Zb w))).trans (Zd.of_below n4.below)).trans (Zd.of_grown a9 a1 Do)).trans (Zd.of_upd u6 a3 Do)
 have a8:=u6.own2 o5 a3 Do
 exact xe 1 (.tuple #[]) ⟨_,_,_,rfl,b8,hO,k6,a8⟩
theorem Ia(B Bx bs bl:Nat)(s:Sup)(p0:O0)(c0:Nat)(w:World)(hBm:B≤Bx)(hBx:Bx≤w.heap.size)(hBw:B≤w.heap.size)(hBl:B≤bl)(hb0:0≤s.blocks)(hb1:s.blocks<9223372036854775808)(ks:Blk w bs [V0 s.tx,V0 s.time,V0 s.unit,V0 s.data,V0 s.blocks,V0 s.top,V0 s.details,V0 s.dslots,V0 s.dover,V0 s.mindex,V0 s.mover] 54)(kl:Blk w bl [.slice p0 1 c0] 179)(hr0:w.ownsRow Bx 178 2 (.slice p0 1 c0) 1 ([1].flatMap Sg)) :
 C0 95 #[P0 bs,.func (.func 96) #[] #[P0 bl]] w ((fun e w'=>∃ u p c,e=.returned u∧Below B w w'∧Zd [179,178] w w'∧Blk w' bl [.slice p 12 c] 179∧w'.ownsRow Bx 178 2 (.slice p 12 c) 12 ((1::Hj s).flatMap Sg))):=by
 refine zin 64 Tryz.func95 ?_
 refine xc 6 (args:=#[P0 bs,V0 0,V0 2147483647,P0 bl]) (Kh B Bx bs bl 0 1 _ s.tx _ _ p0 c0 [1] _ hBm (N0 hBx (Below.refl B _).size) (N0 hBw (Below.refl B _).size) hBl ks rfl kl hr0 Do) ?_
 rintro _ W1 ⟨u1,p1,c1,rfl,hb1,h7,g5,i5⟩
 have f4:World.ownsRow _ _ _ _ (.slice p1 2 c1) 2 ([1,s.tx].flatMap Sg):=i5
 replace g5:Blk _ _ [.slice p1 2 c1] _:=g5
 have d8:=ks.only h7 Do
 refine xc 8 (args:=#[.pointer (some ⟨bs,1,none⟩),V0 0,V0 16777215,P0 bl]) (Kh B Bx bs bl 1 2 _ s.time _ _ p1 c1 [1,s.tx] _ hBm (N0 hBx hb1.size) (N0 hBw hb1.size) hBl d8 rfl g5 f4 Do) ?_
 rintro _ W2 ⟨u2,p2,c2,rfl,j5,i1,f2,j1⟩
 have h0:World.ownsRow _ _ _ _ (.slice p2 3 c2) 3 ([1,s.tx,s.time].flatMap Sg):=j1
 replace f2:Blk _ _ [.slice p2 3 c2] _:=f2
 have b3:=hb1.trans j5
 have d5:=d8.only i1 Do
 refine xc 8 (args:=#[.pointer (some ⟨bs,2,none⟩),V0 1,V0 65536,P0 bl]) (Kh B Bx bs bl 2 3 _ s.unit _ _ p2 c2 [1,s.tx,s.time] _ hBm (N0 hBx b3.size) (N0 hBw b3.size) hBl d5 rfl f2 h0 Do) ?_
 rintro _ W3 ⟨u3,p3,c3,rfl,i7,i0,g1,i3⟩
 have h5:World.ownsRow _ _ _ _ (.slice p3 4 c3) 4 ([1,s.tx,s.time,s.unit].flatMap Sg):=i3
 replace g1:Blk _ _ [.slice p3 4 c3] _:=g1
 have b0:=b3.trans i7
 have d9:=d5.only i0 Do
 refine xc 8 (args:=#[.pointer (some ⟨bs,3,none⟩),V0 0,V0 65536,P0 bl]) (Kh B Bx bs bl 3 4 _ s.data _ _ p3 c3 [1,s.tx,s.time,s.unit] _ hBm (N0 hBx b0.size) (N0 hBw b0.size) hBl d9 rfl g1 h5 Do) ?_
 rintro _ W4 ⟨u4,p4,c4,rfl,i6,h6,f3,j0⟩
 have f8:World.ownsRow _ _ _ _ (.slice p4 5 c4) 5 ([1,s.tx,s.time,s.unit,s.data].flatMap Sg):=j0
 replace f3:Blk _ _ [.slice p4 5 c4] _:=f3
 have d1:=b0.trans i6
 have e1:=d9.only h6 Do
 refine xc 8 (args:=#[.pointer (some ⟨bs,4,none⟩),V0 2,V0 14400,P0 bl]) (Kh B Bx bs bl 4 5 _ s.blocks _ _ p4 c4 [1,s.tx,s.time,s.unit,s.data] _ hBm (N0 hBx d1.size) (N0 hBw d1.size) hBl e1 rfl f3 f8 Do) ?_
 rintro _ W5 ⟨u5,p5,c5,rfl,j6,h9,h3,j2⟩
 have h1:World.ownsRow _ _ _ _ (.slice p5 6 c5) 6 ([1,s.tx,s.time,s.unit,s.data,s.blocks].flatMap Sg):=j2
 replace h3:Blk _ _ [.slice p5 6 c5] _:=h3
 refine xd 3 .z ?_
 refine xbs (.o [0,1,2,3,4,5,6,7,8,9,10,11,12,13,14,15,16,17,20] 18) 6 [.pointer (some ⟨bs,5,none⟩),.pointer (some ⟨bs,6,none⟩),.pointer (some ⟨bs,7,none⟩),.pointer (some ⟨bs,8,none⟩),.pointer (some ⟨bs,9,none⟩),.pointer (some ⟨bs,10,none⟩)] 181 fun b6 W6 n6=>?_
 have d7:=blB (d1.trans j6) hBw (Zb W5)
 have g6:=n6.ge0 d7
 refine xu (.r [19] 3) 7 ?_
 refine xb 14 0 n6.blk ?_
 have b5:=((e1.only h9 Do).below (Zb W5)).below n6.below
 refine xb 9 4 b5 ?_
 refine xw 0 (s.blocks-1) ?_
 have b9:=blB d7 hBw n6.below
 have e0:=(h3.below (Zb W5)).below n6.below
 have a4:=Za (Za h1 (Zb W5)) n6.below
 refine xc 0 (args:=#[.pointer (some ⟨bs,5,none⟩),V0 1,V0 (s.blocks-1),P0 bl]) (Kh B Bx bs bl 5 6 _ s.top _ _ p5 c5 [1,s.tx,s.time,s.unit,s.data,s.blocks] _ hBm (N0 hBx b9.size) (N0 hBw b9.size) hBl b5 rfl e0 a4 Do) ?_
 rintro _ W7 ⟨u7,p6,c6,rfl,j8,h4,f0,j4⟩
 have e5:World.ownsRow _ _ _ _ (.slice p6 7 c6) 7 ([1,s.tx,s.time,s.unit,s.data,s.blocks,s.top].flatMap Sg):=j4
 replace f0:Blk _ _ [.slice p6 7 c6] _:=f0
 have d4:=n6.blk.only h4 Do
 refine xb 22 1 d4 ?_
 have b2:=b5.only h4 Do
 refine xb 9 4 b2 ?_
 refine xw 0 (s.blocks-1) ?_
 have a6:=b9.trans j8
 refine xc 0 (args:=#[.pointer (some ⟨bs,6,none⟩),V0 1,V0 (s.blocks-1),P0 bl]) (Kh B Bx bs bl 6 7 _ s.details _ _ p6 c6 [1,s.tx,s.time,s.unit,s.data,s.blocks,s.top] _ hBm (N0 hBx a6.size) (N0 hBw a6.size) hBl b2 rfl f0 e5 Do) ?_
 rintro _ W8 ⟨u8,p7,c7,rfl,i9,f5,e9,i8⟩
 have g2:World.ownsRow _ _ _ _ (.slice p7 8 c7) 8 ([1,s.tx,s.time,s.unit,s.data,s.blocks,s.top,s.details].flatMap Sg):=i8
 replace e9:Blk _ _ [.slice p7 8 c7] _:=e9
 have e4:=d4.only f5 Do
 refine xb 22 2 e4 ?_
 have b1:=b2.only f5 Do
 refine xb 9 4 b1 ?_
 refine xw 0 (s.blocks-1) ?_
 have a9:=a6.trans i9
 refine xc 0 (args:=#[.pointer (some ⟨bs,7,none⟩),V0 1,V0 (s.blocks-1),P0 bl]) (Kh B Bx bs bl 7 8 _ s.dslots _ _ p7 c7 [1,s.tx,s.time,s.unit,s.data,s.blocks,s.top,s.details] _ hBm (N0 hBx a9.size) (N0 hBw a9.size) hBl b1 rfl e9 g2 Do) ?_
 rintro _ W9 ⟨u9,p8,c8,rfl,j7,f1,g3,i4⟩
 have h2:World.ownsRow _ _ _ _ (.slice p8 9 c8) 9 ([1,s.tx,s.time,s.unit,s.data,s.blocks,s.top,s.details,s.dslots].flatMap Sg):=i4
 replace g3:Blk _ _ [.slice p8 9 c8] _:=g3
 have d3:=e4.only f1 Do
 refine xb 22 3 d3 ?_
 have a8:=b1.only f1 Do
 refine xb 9 4 a8 ?_
 refine xw 0 (s.blocks-1) ?_
 have a5:=a9.trans j7
 refine xc 0 (args:=#[.pointer (some ⟨bs,8,none⟩),V0 1,V0 (s.blocks-1),P0 bl]) (Kh B Bx bs bl 8 9 _ s.dover _ _ p8 c8 [1,s.tx,s.time,s.unit,s.data,s.blocks,s.top,s.details,s.dslots] _ hBm (N0 hBx a5.size) (N0 hBw a5.size) hBl a8 rfl g3 h2 Do) ?_
 rintro _ j9 ⟨k3,p9,c9,rfl,f6,a3,a2,j3⟩
 have f7:World.ownsRow _ _ _ _ (.slice p9 10 c9) 10 ([1,s.tx,s.time,s.unit,s.data,s.blocks,s.top,s.details,s.dslots,s.dover].flatMap Sg):=j3
 replace a2:Blk _ _ [.slice p9 10 c9] _:=a2
 have e3:=d3.only a3 Do
 refine xb 22 4 e3 ?_
 have b7:=a8.only a3 Do
 refine xb 9 4 b7 ?_
 refine xw 0 (s.blocks-1) ?_
 have a7:=a5.trans f6
 refine xc 0 (args:=#[.pointer (some ⟨bs,9,none⟩),V0 1,V0 (s.blocks-1),P0 bl]) (Kh B Bx bs bl 9 10 _ s.mindex _ _ p9 c9 [1,s.tx,s.time,s.unit,s.data,s.blocks,s.top,s.details,s.dslots,s.dover] _ hBm (N0 hBx a7.size) (N0 hBw a7.size) hBl b7 rfl a2 f7 Do) ?_
 rintro _ k2 ⟨k4,e8,f9,rfl,g8,d0,b8,g7⟩
 have e2:World.ownsRow _ _ _ _ (.slice e8 11 f9) 11 ([1,s.tx,s.time,s.unit,s.data,s.blocks,s.top,s.details,s.dslots,s.dover,s.mindex].flatMap Sg):=g7
 replace b8:Blk _ _ [.slice e8 11 f9] _:=b8
 have e7:=e3.only d0 Do
 refine xb 22 5 e7 ?_
 have a1:=b7.only d0 Do
 refine xb 9 4 a1 ?_
 refine xw 0 (s.blocks-1) ?_
 have a0:=a7.trans g8
 refine xc 0 (args:=#[.pointer (some ⟨bs,10,none⟩),V0 1,V0 (s.blocks-1),P0 bl]) (Kh B Bx bs bl 10 11 _ s.mover _ _ e8 f9 [1,s.tx,s.time,s.unit,s.data,s.blocks,s.top,s.details,s.dslots,s.dover,s.mindex] _ hBm (N0 hBx a0.size) (N0 hBw a0.size) hBl a1 rfl b8 e2 Do) ?_
 rintro _ k1 ⟨k0,h8,i2,rfl,g9,e6,b4,g0⟩
 have d2:World.ownsRow _ _ _ _ (.slice h8 12 i2) 12 ([1,s.tx,s.time,s.unit,s.data,s.blocks,s.top,s.details,s.dslots,s.dover,s.mindex,s.mover].flatMap Sg):=g0
 replace b4:Blk _ _ [.slice h8 12 i2] _:=b4
 have d6:=a0.trans g9
 have hO:=((((((((((((show Zd [179,178] w _ from h7).trans i1).trans i0).trans h6).trans h9).trans (Zd.of_below (Zb W5))).trans (Zd.of_below n6.below)).trans h4).trans f5).trans f1).trans a3).trans d0).trans e6
 exact xe 19 (.tuple #[]) ⟨_,_,_,rfl,d6,hO,b4,d2⟩
theorem Zek{N:List Int}{i:Nat}(h:i<N.length):Vf (N.take (i+1))=Vf (N.take i)++leB (N.getD i 0) 4:=by
 unfold Vf
 rw[A8 h,E1]
 simp[List.getD,h]
theorem Pack_4s(p:O0)(c:Nat)(N:List Int)(w:World)(hn2:N.length≤1000)(hN:∀ i,i<N.length→0≤N.getD i 0∧N.getD i 0<4294967296)(hF:Sts Sg w (.slice p N.length c) N) :
 C0 97 #[.slice p N.length c] w (Qo (fun w' r=>∃ q d,r=.tuple #[.slice q (N.length*4) d,V0 0]∧w'.ownsRow w.heap.size 5 1 (.slice q (N.length*4) d) (N.length*4) ((Vf N).map bv)) w):=by
 refine zin 32 Tryz.func97 ?_
 have hB:=Below.refl w.heap.size w
 refine zl 20 32 (fun zm b2 V=>∃ (i m:Nat) (q:O0) (d:Nat),b2=[(4,.slice q m d),(7,.slice p N.length c),(8,V0 (N.length:Int)),(9,V0 (i:Int))]∧zm=N.length-((i:Int)).toNat∧B3 w V∧V.ownsRow w.heap.size 5 1 (.slice q m d) m ((Vf (N.take i)).map bv)∧i≤N.length∧m=i*4) ⟨0,0,_,_,rfl,rfl,hB,A4 _ _ _ _,A3 _,rfl⟩ ?_
 rintro _ _ W1 ⟨i,m,q,d,rfl,rfl,a0,ho,hi,hm⟩ J1 b4 r1
 refine xid 6 ((i:Int)<(N.length:Int)) (fun b0=>?_) (fun b0=>?_)
 ·refine xx 6 _ N.length i 2 (Sts.cell hF Zdf 0 (k:=i) (i:=0) M0 rfl).1 ?_
  refine xlv 0 (Sts.rp (k:=i) (hF.below a0) Zdf 0 M0 Do) ?_
  refine xa 0 [V0 0,V0 0] 178 fun b3 W3 n3=>?_
  have g3:=n3.ge a0
  refine xsv 0 n3.blk [V0 4,V0 (N.getD i 0)] fun W4 u4 k4=>?_
  refine xb 6 0 k4 ?_
  refine xr 0 (args:=#[V0 4]) (Tm _) fun W5 a5=>?_
  have a2:=k4.below a5
  refine xb 10 1 a2 ?_
  refine xb 1 0 a2 ?_
  refine xr 0 (args:=#[V0 (N.getD i 0),V0 4]) (Zc7 (N.getD i 0) (hN i M0).1 (hN i M0).2 _) fun W6 a6=>?_
  have a4:=a2.below a6
  refine xb 9 1 a4 ?_
  refine xb 1 0 a4 ?_
  refine xc 0 (args:=#[V0 (N.getD i 0),V0 4]) (Tl (N.getD i 0) (hN i M0).1 _) ?_
  rintro _ W7 ⟨_,rfl,a9,h2⟩
  have b1:=(bln (bln (u4.below (bln a0 n3.below) g3) a5) a6).size
  have a1:=Zf h2 b1
  unfold Pj at a1
  rw[Zj] at a1
  obtain⟨p2,c2,rfl⟩:=(Ze a1).slice
  have a7:=Za (Za (Za (u4.own2 (Za ho n3.below) n3.blk Do) a5) a6) a9
  have a3:=bln (bln (bln (u4.below (bln a0 n3.below) g3) a5) a6) a9
  refine xbi 0 fun _ _ _ _ zJ zQ zo zx zy zK=>Zr (m:=4) (news:=(leB (N.getD i 0) 4).map bv) (.int .u8 0) 1 1 (m+4) (((Vf (N.take (i+1))).map bv)) zo Tryz.underlying50 K0 rfl Do zx a7 zy (Ze a1) (by simp[Zj]) (Xw _) (by unfold maxLen;omega) M0 a3.size (by rfl) (by rw[Zek M0,A9]) fun b8 b6 W8 o8 b7 b5=>?_
  refine zK _ _ ?_
  refine xwm 5 ((i:Int)+1) (↑(i+1):Int) ?_
  have a8:=a3.trans b5
  exact ze 2 (b4 _ _ _ ⟨i+1,_,_,_,rfl,rfl,a8,o8,by omega,by omega⟩ M0)
 refine xe 13 (.tuple #[.slice q m d,V0 0]) ?_
 obtain rfl:i=N.length:=by omega
 rw[K1] at ho
 subst hm
 exact⟨_,rfl,a0,_,_,rfl,ho⟩
theorem sup_put3(s:Sup):((Ve++List.replicate 236 (0:UInt8)).map bv).take 8++(Vf (1::Hj s)).map bv++((Ve++List.replicate 236 (0:UInt8)).map bv).drop (8+48)=(Zcm s).map bv:=by
 unfold Zcm
 rw[A9 (l₁:=Ve++Vf (1::Hj s)),A9 (l₁:=Ve) (l₂:=Vf (1::Hj s))]
 congr 1
theorem supN_bd{s:Sup}(h:Xp s=true):∀ i,i<(1::Hj s).length→0≤(1::Hj s).getD i 0∧(1::Hj s).getD i 0<4294967296:=by
 unfold Xp at h
 simp only[D3,decide_eq_true_iff,Bool.true_and] at h
 intro i hi
 have a0:i<12:=hi
 obtain rfl|rfl|rfl|rfl|rfl|rfl|rfl|rfl|rfl|rfl|rfl|rfl:i=0∨i=1∨i=2∨i=3∨i=4∨i=5∨i=6∨i=7∨i=8∨i=9∨i=10∨i=11:=by omega
 all_goals simp[Hj,List.getD]
 all_goals omega
theorem Zbh(s:Sup)(w:World)(hb0:0≤s.blocks)(hb1:s.blocks<9223372036854775808)(hr:Xp s=false) :
 C0 46 #[.agg #[V0 s.tx,V0 s.time,V0 s.unit,V0 s.data,V0 s.blocks,V0 s.top,V0 s.details,V0 s.dslots,V0 s.dover,V0 s.mindex,V0 s.mover]] w (Ret (.tuple #[S0,V0 1]) w):=by
 refine zin 28 Tryz.func46 ?_
 refine xa 2 [V0 s.tx,V0 s.time,V0 s.unit,V0 s.data,V0 s.blocks,V0 s.top,V0 s.details,V0 s.dslots,V0 s.dover,V0 s.mindex,V0 s.mover] 54 fun b1 W1 n1=>?_
 refine xlv 7 n1.blk.rp ?_
 refine xr 0 (args:=#[.agg #[V0 s.tx,V0 s.time,V0 s.unit,V0 s.data,V0 s.blocks,V0 s.top,V0 s.details,V0 s.dslots,V0 s.dover,V0 s.mindex,V0 s.mover]]) (Od s _ hb0 hb1) fun W2 a0=>?_
 refine xk 3 (show(!(Xp s):Bool)=true from by rw[hr];rfl) ?_
 have hB:=bln n1.below a0
 exact xe 8 (.tuple #[S0,V0 1]) ⟨rfl,hB⟩
theorem Zg4(s:Sup)(w:World)(hb0:0≤s.blocks)(hb1:s.blocks<9223372036854775808)(hr:Xp s=true) :
 C0 46 #[.agg #[V0 s.tx,V0 s.time,V0 s.unit,V0 s.data,V0 s.blocks,V0 s.top,V0 s.details,V0 s.dslots,V0 s.dover,V0 s.mindex,V0 s.mover]] w (Qo (fun w' r=>∃ p c,r=.tuple #[.slice p 244 c,V0 0]∧w'.ownsRow w.heap.size 5 1 (.slice p 244 c) 244 ((Zcm s).map bv)) w):=by
 have hN:=supN_bd hr
 refine zin 28 Tryz.func46 ?_
 refine xa 2 [V0 s.tx,V0 s.time,V0 s.unit,V0 s.data,V0 s.blocks,V0 s.top,V0 s.details,V0 s.dslots,V0 s.dover,V0 s.mindex,V0 s.mover] 54 fun b1 W1 n1=>?_
 refine xlv 7 n1.blk.rp ?_
 refine xr 0 (args:=#[.agg #[V0 s.tx,V0 s.time,V0 s.unit,V0 s.data,V0 s.blocks,V0 s.top,V0 s.details,V0 s.dslots,V0 s.dover,V0 s.mindex,V0 s.mover]]) (Od s _ hb0 hb1) fun W2 a3=>?_
 refine xk 3 (show(!(Xp s):Bool)=false from by rw[hr];rfl) ?_
 refine xbs 5 1 [V0 4,V0 1] 178 fun b3 W3 n3=>?_
 refine xa 0 [S0] 179 fun b4 W4 n4=>?_
 refine xs 0 n4.blk [.slice (S1 b3) 1 1] fun W5 u5 k5=>?_
 have g4:=n4.ge (bln (bln n1.below a3) n3.below)
 have k3:=u5.blkT (n3.blk.below n4.below) n4.blk Do
 have g3:=n3.ge (bln n1.below a3)
 have a9:World.ownsRow W5 w.heap.size 178 2 (.slice (S1 b3) 1 1) 1 (([1]:List Int).flatMap Sg):=Zz (size:=2) (n:=1) k3 g3 rfl Do
 have hB:=u5.below (bln (bln (bln n1.below a3) n3.below) n4.below) g4
 have b2:=u5.blkT (((n1.blk.below a3).below n3.below).below n4.below) n4.blk Do
 refine xc 5 (args:=#[P0 b1,.func (.func 96) #[] #[P0 b4]]) (Ia w.heap.size w.heap.size b1 b4 s _ 1 _ (A6 _) hB.size hB.size g4 hb0 hb1 b2 k5 a9) ?_
 rintro _ W6 ⟨u6,c0,b7,rfl,c1,d1,c4,a7⟩
 refine xb 4 0 c4 ?_
 refine xc 0 (args:=#[.slice c0 12 b7]) (Pack_4s c0 b7 (1::Hj s) _ (show 12≤1000 by decide) hN (Ze a7)) ?_
 rintro _ W7 ⟨_,rfl,c6,q2,d2,rfl,h2⟩
 have c3:=(hB.trans c1).size
 have a5:=Zf h2 c3
 replace h2:World.ownsRow _ _ _ _ (.slice q2 48 d2) 48 ((Vf (1::Hj s)).map bv):=a5
 have b0:=bln (hB.trans c1) c6
 have b8:=b0
 refine xmk 9 fun _ _ _ _ zJ zQ zo zx zy zK=>Kf 244 (.int .u8 0) 1 1 ((List.replicate 244 (0:UInt8)).map bv) zo zx zy Tryz.underlying50 K0 rfl M0 M0 (Ea 244) fun b9 W9 n9=>?_
 refine zK _ _ ?_
 have o9:=Zz (size:=1) (n:=244) n9.blk (n9.ge (B4 W7)) (by rw[At,A7]) (by unfold maxLen;omega)
 refine xbi 7 (t2:=9) fun _ _ _ _ zJ zQ zo zx zy zK=>Zd1 (dLen:=244) (dCap:=244) (off:=0) ([83,67,65,78,84,76,73,78]) (((Ve++List.replicate 236 (0:UInt8)).map bv)) zo Tryz.underlying50 K0 zx zy o9 Do Do n9.below.size (by rfl) fun d0 c7 c9 a6=>?_
 refine zK _ _ ?_
 have a0:=Ze h2
 have a1:=n9.below.trans a6
 refine xbi 2 (t2:=50) fun _ _ _ _ zJ zQ zo zx zy zK=>We (dLen:=236) (dCap:=236) (off:=8) 48 ((Vf (1::Hj s)).map bv) (((Zcm s).map bv)) zo Tryz.underlying50 K0 zx zy (a0.below a1) c7 (by rw[At,Om];rfl) Do Do (Xw _) a1.size (sup_put3 s) fun c8 c2 c5 a8=>?_
 refine zK _ _ ?_
 have b5:=a1.trans a8
 have b6:B3 W7 c8:=b5
 have a4:w.heap.size≤W7.heap.size:=b8.size
 have hB:=bln b8 b6
 have a2:=Zf c2 a4
 exact xe 10 (.tuple #[.slice (S1 b9) 244 244,V0 0]) ⟨_,rfl,hB,_,_,rfl,a2⟩
theorem sup_PutP(s:Sup)(w:World)(hb:0≤s.blocks∧s.blocks<9223372036854775808):C0 46 #[.agg #[V0 s.tx,V0 s.time,V0 s.unit,V0 s.data,V0 s.blocks,V0 s.top,V0 s.details,V0 s.dslots,V0 s.dover,V0 s.mindex,V0 s.mover]] w (fun e w' =>
 (Xp s=false∧e=.returned (.tuple #[S0,V0 1])∧B3 w w') ∨
 (Xp s=true∧∃ p c,e=.returned (.tuple #[.slice p 244 c,V0 0])∧B3 w w'∧w'.ownsRow w.heap.size 5 1 (.slice p 244 c) 244 ((Zcm s).map bv))):=by
 cases hr:Xp s with
 | false =>
  refine(Zbh s w hb.1 hb.2 hr).mono ?_
  rintro e W ⟨rfl,h⟩
  exact .inl ⟨rfl,rfl,h⟩
 | true =>
  refine(Zg4 s w hb.1 hb.2 hr).mono ?_
  rintro e W ⟨_,rfl,h,p,c,rfl,ho⟩
  exact .inr ⟨rfl,p,c,rfl,h,ho⟩
theorem Ze8(B ba b g nn cc:Nat)(pa:O0)(ca f N k0:Nat)(bs:Bl)(bl B2:Nat)(pl:O0)(cl:Nat)(gs:List (Nat×Nat))(L:List (List Int))(n:Nat)(hn:L.length=n)(w:World)(hC:AlC B ba nn cc ca f N)(hA:Al B ba b g nn cc pa ca f N k0 bs w)(hL:Lists w B2 (.slice pl n cl) gs L)(hS:∀ i,i<L.length→Hp (L.getD i [])∧(L.getD i []).length≤960)(hf1:1≤f)(hk:k0+n≤N)(kl:Blk w bl [S0] 132)(hBl:B≤bl)(hBw:B≤w.heap.size) :
 C0 154 #[P0 ba,.slice pl n cl,.func (.func 159) #[] #[P0 bl]] w (fun e w'=>∃ p c,e=.returned .nilIface∧Below B w w'∧Zd [169,5,132,126] w w'∧Fr ([ba,g]++[bl]) w w'∧Al B ba b g nn cc pa ca f N (k0+n) (Kn L (f+k0) bs n) w'∧Blk w' bl [.slice p n c] 132∧w'.ownsRow w.heap.size 126 3 (.slice p n c) n (rsL L (f+k0) n)):=by
 subst hn;exact Zjt B ba b g nn cc pa ca f N k0 bs bl B2 pl cl gs L w hC hA hL hS hf1 hk kl hBl hBw
def MetaP(B ba b g nn cc:Nat)(pa:O0)(ca f N k0:Nat)(bs:Bl)(l:List Int)(w:World)(e:Ending)(w':World):Prop :=
 e=.returned (.tuple #[V0 (Ek l f k0 bs).1,V0 (Ek l f k0 bs).2.1,.nilIface])∧Below B w w'∧Zd [169,5,132,126,39] w w'∧Fr [ba,g] w w'∧Al B ba b g nn cc pa ca f N (k0+Xx l) (Ek l f k0 bs).2.2 w'
theorem Zel(B ba b g nn cc:Nat)(pa:O0)(ca f N k0:Nat)(bs:Bl)(a:Addr)(c:Nat)(l:List Int)(w:World)(hC:AlC B ba nn cc ca f N)(hA:Al B ba b g nn cc pa ca f N k0 bs w)(h:Sl w (.slice (some a) l.length c) l.length (l.map V0))(hl:l.length≤3000)(hlen:l.length=nn/256)(hs:Qd l=0)(hkN:k0≤N)(hk:k0+Xx l≤N)(hf1:1≤f)(hfree2:Zda l ((f+k0:Nat):Int))(hBw:B≤w.heap.size) :
 C0 94 #[P0 ba,.slice (some a) l.length c] w (MetaP B ba b g nn cc pa ca f N k0 bs l w):=by
 have hW:Sin w w:=⟨Below.refl _ _⟩
 have k4:=hC.hf
 have k6:=hC.hn
 have h0:=Gj hs
 have j0:=Ji l l.length
 have j4:Xx l=(Zw 5 (Zl l l.length).length)+(bmN l.length)+1:=rfl
 have k2:=Yp 5 (Zl l l.length).length
 have j6:bmN l.length≤4:=by unfold bmN;omega
 have i1:Qd (Yz l (f+k0) (Xx l))=0:=by unfold Qd;rw[if_neg (by rw[Qr];omega),if_pos (Ci hfree2 h0.2)]
 have g7:=Bg (Ci (n:=Xx l) hfree2 h0.2) (bmN l.length)
 refine zin 120 Tryz.func94 ?_
 refine xr 10 (args:=#[P0 ba]) (Pw ba b _ _ _ (hA.below hW.b).blkA) fun W1 a9=>?_
 have d3:=hW.below a9
 refine xr 19 (args:=#[P0 b]) (Hc b _ nn cc _ (hA.below d3.b).blkI M0) fun W2 b2=>?_
 refine xk 3 (show(((l.length:Int) != (↑(nn/256):Int)):Bool)=false from by rw[hlen];simp) ?_
 have d6:=d3.below b2
 refine xc 5 (args:=#[.slice (some a) l.length c]) (Bd l.length (some a) c l _ rfl (Sl.below h d6.b) M0 hs) ?_
 rintro _ W3 ⟨i4,k3,j7,po,co,rfl,b7,j1,e0⟩
 have h3:=(blB (blB (Below.refl B w) hBw a9) hBw b2).size
 refine xr 23 (args:=#[V0 5,V0 (↑((Zl l l.length).length):Int)]) (Yq 5 (Zl l l.length).length _ Do Do M0) fun W4 a6=>?_
 refine xr 2 (args:=#[V0 (l.length:Int)]) (Bj l.length _ M0) fun W5 b4=>?_
 refine xwm 0 ((↑(Zw 5 (Zl l l.length).length):Int)+(↑(bmN l.length):Int)) (↑((Zw 5 (Zl l l.length).length)+(bmN l.length)):Int) ?_
 refine xwm 0 ((↑((Zw 5 (Zl l l.length).length)+(bmN l.length)):Int)+1) (↑(((Zw 5 (Zl l l.length).length)+(bmN l.length))+1):Int) ?_
 have d0:=((d6.below b7).below a6).below b4
 refine xr 7 (args:=#[P0 ba]) (Ll ba b pa N ca k0 _ (hA.below d0.b).blkA hkN) fun W6 b0=>?_
 refine xk 4 (show(decide ((↑(N-k0):Int)<(↑(((Zw 5 (Zl l l.length).length)+(bmN l.length))+1):Int)):Bool)=false from decide_eq_false M0) ?_
 have a5:=d0.below b0
 have i0:=a5.b.size
 refine xc 5 (args:=#[.slice (some a) l.length c]) (Ml a l.length c (l.map V0) _ (Sl.below h a5.b) (by simp) (Cq _) M0) ?_
 rintro _ W7 ⟨_,rfl,c0,qb,cq,rfl,e5⟩
 have k5:=(blB (blB (blB (blB (blB (blB (Below.refl B w) hBw a9) hBw b2) hBw b7) hBw a6) hBw b4) hBw b0).size
 have a0:=Zf e5 i0
 have b6:=a5.below c0
 have h9:=b6.b.size
 have e8:=a0
 refine xc 8 (args:=#[P0 ba,V0 (↑(((Zw 5 (Zl l l.length).length)+(bmN l.length))+1):Int)]) (Zap (Xx l) B ba b g nn cc pa ca f N k0 bs _ hC (hA.below b6.b) hkN M0 M0 M0) ?_
 rintro _ W8 ⟨_,rfl,b8,qa,h1,rfl,c5⟩
 have i7:=(blB (blB (blB (blB (blB (blB (blB (Below.refl B w) hBw a9) hBw b2) hBw b7) hBw a6) hBw b4) hBw b0) hBw c0).size
 have h4:=Yf.of_lt e8 c5 (A6 _)
 have c6:=Zf c5 h9
 have a4:=Za a0 b8
 obtain⟨gb,rfl,i5⟩:=Qf a4 M0
 have d2:=Za (Za (Za (Za (Za (Zf e0 h3) a6) b4) b0) c0) b8
 have g2:=b6.below b8
 have hB:=blB (blB (blB (blB (blB (blB (blB (blB (Below.refl B w) hBw a9) hBw b2) hBw b7) hBw a6) hBw b4) hBw b0) hBw c0) hBw b8
 have hX:=(((((((show Fr [ba,g] w _ from(Fr.of_below a9)).trans (Fr.of_below b2)).trans (Fr.of_below b7)).trans (Fr.of_below a6)).trans (Fr.of_below b4)).trans (Fr.of_below b0)).trans (Fr.of_below c0)).trans (Fr.of_below b8)
 have hO:=(((((((show Zd [169,5,132,126,39] w _ from(Zd.of_below a9)).trans (Zd.of_below b2)).trans (Zd.of_below b7)).trans (Zd.of_below a6)).trans (Zd.of_below b4)).trans (Zd.of_below b0)).trans (Zd.of_below c0)).trans (Zd.of_below b8)
 refine zl 5 120 (fun zm h6 V=>∃ (i:Nat),h6=[(0,P0 ba),(4,V0 0),(5,V0 0),(6,.nilIface),(9,.slice po ((Zl l l.length).length) co),(10,V0 0),(12,.slice (S1 gb) l.length cq),(61,.slice qa (Xx l) h1),(62,V0 (↑(Xx l):Int)),(63,V0 (i:Int))]∧zm=Xx l-((i:Int)).toNat∧Below B w V∧Fr [ba,g] w V∧Zd [169,5,132,126,39] w V∧V.ownsRow w.heap.size 3 1 (.slice (S1 gb) l.length cq) l.length ((Yz l (f+k0) i).map V0)∧V.ownsRow w.heap.size 3 1 (.slice qa (Xx l) h1) (Xx l) ((((Qn f N).drop k0).take (Xx l)).map V0)∧V.ownsRow w.heap.size 124 3 (.slice po ((Zl l l.length).length) co) ((Zl l l.length).length) ((Zl l l.length).flatMap Yo)∧Sin w V∧i≤Xx l) ⟨0,rfl,rfl,hB,hX,hO,(by rw[Rf];exact a4),c6,d2,g2,A3 _⟩ ?_
 rintro _ _ W9 ⟨i,rfl,rfl,b3,c9,d4,a0,c6,e0,hW,hi⟩ J9 h5 r9
 have j8:i<Xx l→l.getD (f+k0+i) 0=0:=fun q=>(hfree2 (f+k0+i) M0).1 M0
 refine xid 6 ((i:Int)<(↑(Xx l):Int)) (fun f6=>?_) (fun f6=>?_)
 ·refine xx 6 _ (Xx l) i 1 (Wx (Ze c6) M0 (i:=i) M0).1 ?_
  refine xl 0 ((Wx (Ze c6) M0 (i:=i) M0).2) ?_
  refine xx 6 _ l.length (f+k0+i) 1 (Hw (Ze a0) rfl (q:=f+k0) (i:=i) M0).1 ?_
  refine xl 0 ((Hw (Ze a0) rfl (q:=f+k0) (i:=i) M0).2) ?_
  refine xw 0 ((l.getD (f+k0+i) 0)+1) ?_
  refine xx 0 _ l.length (f+k0+i) 1 (Hw (Ze a0) rfl (q:=f+k0) (i:=i) M0).1 ?_
  refine xst 0 fun _ _ _ _ zJ zQ zo zx zy zK=>Xk (t:=3) (k:=(f+k0+i)) (v:=V0 ((l.getD (f+k0+i) 0)+1)) zo zx zy K0 rfl a0 M0 fun k1 b9 g8=>?_
  rw[Of (l:=l) (f:=f+k0) (j:=i) M0] at g8
  refine zK _ _ ?_
  refine xwm 4 ((i:Int)+1) (↑(i+1):Int) ?_
  have g0:=b9.below b3 (N0 hBw (Qa a0))
  have f2:=(Fr.upd_new c9 b9 (Qa a0))
  have g1:=(Zd.upd_new d4 b9 (Qa a0))
  have d7:=b9.own3 c6 (fun j hj e=>h4 _ rfl (e▸hj))
  have c1:=b9.ownRow e0 a0 Do
  have e9:=hW.upd b9 (Qa a0)
  exact ze 2 (h5 _ _ _ ⟨i+1,rfl,rfl,g0,f2,g1,g8,d7,c1,e9,by omega⟩ M0)
 refine xc 9 (args:=#[P0 ba,V0 5,.slice po ((Zl l l.length).length) co]) (Gw B ba b g nn cc pa ca f N k0 bs 5 po co (Zl l l.length) (Zl l l.length).length _ rfl hC (hA.below hW.b) Do Do (Nd _ _ M0) M0 hf1 M0 M0 (fun W _ h2=>Ze (Zi e0 h2 Do)) (N0 hBw b3.size)) ?_
 rintro _ j5 ⟨rfl,f8,c2,f1,a7⟩
 have d8:=Zi a0 c2 Do
 refine xc 20 (args:=#[.slice (S1 gb) l.length cq]) (Bd l.length (S1 gb) cq (Yz l (f+k0) (Xx l)) _ (Qr _ _ _) (by have hh:=Ze d8;rw[show i=Xx l by omega] at hh;exact hh) M0 i1) ?_
 rintro _ j3 ⟨pb,cb,gs,j9,k7,rfl,a1,hL,h8⟩
 refine xa 21 [S0] 132 fun g9 i8 a3=>?_
 have a8:=blB (b3.trans f8) hBw a1
 have g6:=a3.ge0 a8
 have c3:=(a7.below a1).below a3.below
 have f7:=hL.below a3.below
 have b5:=blB a8 hBw a3.below
 refine xc 8 (args:=#[P0 ba,.slice pb (bmN l.length) cb,.func (.func 159) #[] #[P0 g9]]) (Ze8 B ba b g nn cc pa ca f N (k0+(Zw 5 (Zl l l.length).length)) (Vl 5 (Zl l l.length) (f+k0) bs).2 g9 _ pb cb gs (Zo (Zh (Yz l (f+k0) (Xx l))) (bmN l.length)) (bmN l.length) (Xq _ _) _ hC c3 f7 g7 hf1 M0 a3.blk (N0 hBw g6) (N0 hBw b5.size)) ?_
 rintro _ i9 ⟨p8,c8,rfl,d9,f0,e7,a7,h7,i3⟩
 have e4:=(blB a8 hBw a3.below).size
 refine xb 14 0 h7 ?_
 have d1:=Zf i3 e4
 refine xc 0 (args:=#[.slice p8 (bmN l.length) c8]) (Zfi (bmN l.length) p8 c8 (Rs (Zo (Zh (Yz l (f+k0) (Xx l))) (bmN l.length)) (f+(k0+(Zw 5 (Zl l l.length).length))) (bmN l.length)) _ (Pc _ _ _) (rs_ok g7 (Xq _ _) M0 M0 M0) (Zdj (Ze d1))) ?_
 rintro _ j2 ⟨_,rfl,a2,pz,cz,rfl,i2⟩
 have f4:=(b5.trans d9).size
 have d5:=a7.below a2
 have b1:=((((d4.trans (c2.wide)).trans (Zd.of_below a1)).trans (Zd.of_below a3.below)).trans (f0.wide)).trans (Zd.of_below a2)
 have c7:=Zf i2 f4
 have c4:=blB (b5.trans d9) hBw a2
 refine xc 21 (args:=#[P0 ba,V0 4,.slice pz 244 cz]) (Wp B ba b g nn cc pa ca f N (k0+(Zw 5 (Zl l l.length).length)+(bmN l.length)) (Kn (Zo (Zh (Yz l (f+k0) (Xx l))) (bmN l.length)) (f+(k0+(Zw 5 (Zl l l.length).length))) (Vl 5 (Zl l l.length) (f+k0) bs).2 (bmN l.length)) 4 pz cz (Ak (Rs (Zo (Zh (Yz l (f+k0) (Xx l))) (bmN l.length)) (f+(k0+(Zw 5 (Zl l l.length).length))) (bmN l.length))) (f+(k0+(Zw 5 (Zl l l.length).length)+(bmN l.length))) 244 _ rfl (Sn (by rw[Pc];omega)) hC d5 M0 Do Do (fun W _ b1=>Ya (Ze (Zi c7 b1 Do)) (Sn (by rw[Pc];omega))) Do (N0 hBw c4.size)) ?_
 rintro _ i6 ⟨rfl,f9,g3,e6,a7⟩
 have g5:=c4.trans f9
 have f5:=b1.trans (g3.wide)
 have f3:=((Fr.trans_new (((c9.trans (f1.mono (by simp))).trans (Fr.of_below a1)).trans (Fr.of_below a3.below)) e7 g6).trans (Fr.of_below a2)).trans (e6.mono (by simp))
 refine xe 27 (.tuple #[V0 (↑(f+(k0+(Zw 5 (Zl l l.length).length)+(bmN l.length))):Int),V0 ((Vl 5 (Zl l l.length) (f+k0) bs).1),.nilIface]) ?_
 have e1:f+(k0+(Zw 5 (Zl l l.length).length)+(bmN l.length))=f+k0+(Zw 5 (Zl l l.length).length)+(bmN l.length):=by omega
 have e2:f+(k0+(Zw 5 (Zl l l.length).length))=f+k0+(Zw 5 (Zl l l.length).length):=by omega
 rw[e1,e2] at a7
 rw[e1]
 have e3:k0+(Zw 5 (Zl l l.length).length)+(bmN l.length)+1=k0+Xx l:=by omega
 rw[e3] at a7
 refine⟨?_,g5,f5,f3,?_⟩
 ·unfold Ek;rw[Cf]
 ·unfold Ek;rw[Cf];exact a7
end Go.Proofs.YtekomodnkfhihaaGreatDoor
