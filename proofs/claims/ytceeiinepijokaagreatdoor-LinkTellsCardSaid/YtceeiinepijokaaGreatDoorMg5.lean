/- tally.Split of counts. -/
import Derived.Test.YtceeiinepijokaaGreatDoorMg4
namespace Go.Proofs.YtceeiinepijokaaGreatDoor
set_option maxHeartbeats 8000000
set_option maxRecDepth 100000
open Go.RowKit Go.Extern.Stop Go.Stop Go.Extern
set_option linter.unusedVariables false
attribute [local irreducible] wpList wpAnyH Code.wp Oper.wp Go
def SplitP(l:List Int)(w:World)(e:Ending)(w':World):Prop :=
 (Ji l≠0∧e=.returned (.tuple #[S0,S0,V0 2])∧B3 w w') ∨
 (Ji l=0∧∃ pb cb gs po co,e=.returned (.tuple #[.slice pb (bmN l.length) cb,.slice po (Zy l l.length).length co,V0 0])∧B3 w w'∧Lists w' w.heap.size (.slice pb (bmN l.length) cb) gs (Xp (Zu l) (bmN l.length))∧w'.ownsRow w.heap.size 132 3 (.slice po (Zy l l.length).length co) (Zy l l.length).length ((Zy l l.length).flatMap Jv))
theorem Ok{l:List Int}{i:Nat}(hl:l.length≤65536)(hi:i<l.length)(h:¬ Ng (l.getD i 0)):Ji l≠0:=fun q=>h ((So q).2 i hi)
theorem Zgy{l:List Int}(hl:l.length≤65536)(h:∀ k,k<l.length→Ng (l.getD k 0)):Ji l=0:=by
 unfold Ji;rw[if_neg (by omega),if_pos h]
attribute [local go_sem] Oper.semAt_some
theorem g_retM{P:Program}{fn:Func}{R:Ending→World→Prop}{a:Act}{w:World}(v:Value)(hd:a.defers=[])(hr:(results fn a.tmps).run P w=.ok v w)(h:R (.returned v) w):bodyPostM Fence.wide 4 P fn R .ret a w:=by
 show LeavesInM _ _ _ _ a.tmps R a.defers .returning w
 rw[hd]
 exact⟨v,hr,h⟩
theorem Lists.put{W U:World}{D base:Nat}{v:Value}{gs:List (Nat×Nat)}{L:List (List Int)}(h:Lists W base v gs L)(u:Upd W D U)(hK:Dfr D W):Lists U base v gs L:=⟨u.own3 h.row (hK.row h.row),fun i hi=>u.own3 (h.each i hi) (hK.row (h.each i hi))⟩
theorem mn3_if(n:Int):(if 3<n then 3 else n)=mn3 n:=by unfold mn3;split<;>split<;>omega
def Un(s:List Int){n:Nat}(pre:List (Fin n)):List (List Int):=pre.map fun j=>Wy s j.val
theorem Uy(s:List Int){n:Nat}(pre:List (Fin n))(x:Fin n):Un s (pre++[x])=Un s pre++[Wy s x.val]:=by simp[Un]
theorem preC_all(s:List Int)(n:Nat):Un s (List.finRange n)=Xp s n:=by
 unfold Un Xp
 apply List.ext_getElem
 ·simp
 ·intro i h1 h2;simp
theorem Zfw(a:O0)(c:Nat)(l:List Int)(w:World)(h:Sl w (.slice a l.length c) l.length (l.map V0))(hl:l.length≤65536) :
 C0 156 #[.slice a l.length c] w (SplitP l w):=by
 refine Mm Tryz.func156 rfl ?_
 refine g_fr ⟨#[.slice a l.length c,undef,undef,undef,undef,undef,undef,undef,undef,undef,undef,undef,undef,undef,undef,undef,undef,undef,undef,undef,undef,undef,undef,undef,undef,undef,undef,undef,undef,undef,undef,undef,undef,undef,undef,undef,undef,undef,undef,undef,undef,undef,undef,undef,undef,undef,undef,undef,undef,undef,undef,undef],[]⟩ (by kernel_rfl) ?_
 refine wp_seq ?_
 refine wp_region_lit ?_
 refine Ur 3 [(2,S0),(3,S0),(4,V0 0)] (by kernel_rfl) ?_
 refine wpList_nil ?_
 refine wp_seq ?_
 refine wp_seq ?_
 refine wp_region_lit ?_
 refine Ur 3 [(11,.slice a l.length c),(12,V0 (l.length:Int)),(13,.bool (decide ((l.length:Int)>(65536:Int))))] (by kernel_rfl) ?_
 refine wpList_nil ?_
 refine wp_cond_split (t:=decide ((l.length:Int)>(65536:Int))) (by kernel_rfl) (fun hh=>absurd (hh.symm.trans (show(decide ((l.length:Int)>(65536:Int)):Bool)=false from decide_eq_false (by omega))) (by decide)) (fun _=>?_)
 refine wp_skip ?_
 refine wp_seq ?_
 refine wp_region_lit ?_
 refine Ur 1 [(5,S0)] (by kernel_rfl) ?_
 refine wpList_nil ?_
 refine wp_seq ?_
 refine wp_region_lit ?_
 refine Ur 1 [(6,S0)] (by kernel_rfl) ?_
 refine wpList_nil ?_
 refine wp_seq ?_
 refine wp_seq ?_
 refine wp_region_lit ?_
 refine Ur 3 [(14,.slice a l.length c),(15,V0 (l.length:Int)),(16,V0 0)] (by kernel_rfl) ?_
 refine wpList_nil ?_
 refine wp_block ?_
 refine g_fr ⟨#[.slice a l.length c,undef,S0,S0,V0 0,S0,S0,undef,undef,undef,undef,.slice a l.length c,V0 (l.length:Int),.bool (decide ((l.length:Int)>(65536:Int))),.slice a l.length c,V0 (l.length:Int),V0 0,undef,undef,undef,undef,undef,undef,undef,undef,undef,undef,undef,undef,undef,undef,undef,undef,undef,undef,undef,undef,undef,undef,undef,undef,undef,undef,undef,undef,undef,undef,undef,undef,undef,undef,undef],[]⟩ (by kernel_rfl) ?_
 have hB:=Below.refl w.heap.size w
 refine wp_loop (fun i8 V=>∃ (i:Nat) (ps:O0) (cs:Nat) (po:O0) (co:Nat) (x2:Nat→Value),i8=⟨#[.slice a l.length c,undef,(x2 0),(x2 1),(x2 2),.slice ps i cs,.slice po ((Zy l i).length) co,(x2 3),(x2 4),undef,undef,.slice a l.length c,V0 (l.length:Int),.bool (decide ((l.length:Int)>(65536:Int))),.slice a l.length c,V0 (l.length:Int),V0 (i:Int),(x2 5),(x2 6),(x2 7),(x2 8),(x2 9),(x2 10),(x2 11),(x2 12),(x2 13),(x2 14),(x2 15),(x2 16),(x2 17),(x2 18),(x2 19),(x2 20),(x2 21),(x2 22),(x2 23),(x2 24),(x2 25),(x2 26),(x2 27),(x2 28),(x2 29),undef,undef,undef,undef,undef,undef,undef,undef,undef,undef],[]⟩∧B3 w V∧V.ownsRow w.heap.size 3 1 (.slice ps i cs) i ((Zu (l.take i)).map V0)∧V.ownsRow w.heap.size 132 3 (.slice po (Zy l i).length co) (Zy l i).length ((Zy l i).flatMap Jv)∧i≤l.length∧((∀ j,j<i→Ng (l.getD j 0)))) (fun i8 V=>l.length-((intOf (i8.tmps.getD 16 undef))).toNat) ⟨0,none,0,none,0,(pk [S0,S0,V0 0,undef,undef,undef,undef,undef,undef,undef,undef,undef,undef,undef,undef,undef,undef,undef,undef,undef,undef,undef,undef,undef,undef,undef,undef,undef,undef,undef]),rfl,hB,World.ownsRow_nil _ _ _ _,World.ownsRow_nil _ _ _ _,Nat.zero_le _,?_⟩ ?_
 ·exact fun j hj=>absurd hj (by omega)
 rintro _ W2 ⟨i,ps,cs,po,co,x2,rfl,hB,hs,ho,hi,hz⟩
 refine wp_seq ?_
 refine wp_region_lit ?_
 refine Ur 1 [(17,.bool (decide ((i:Int)<(l.length:Int))))] (by kernel_rfl) ?_
 refine wpList_nil ?_
 refine wp_seq ?_
 refine wp_cond_split (t:=decide ((i:Int)<(l.length:Int))) (by kernel_rfl) (fun e9=>?_) (fun e9=>?_)
 ·have e9:=of_decide_eq_true e9
  refine wp_skip ?_
  refine wp_seq ?_
  refine wp_block ?_
  refine wp_seq ?_
  refine wp_region_lit ?_
  refine Ur 1 [(18,V0 (i:Int))] (by kernel_rfl) ?_
  refine Hg (by kernel_rfl) (Gl (Ir (size:=1) (k:=i) (b:=a) (n:=l.length) (c:=c) (i:=(i:Int)) (ki:=.i64) rfl (by kernel_rfl) (by kernel_rfl) rfl (by omega) (Ints.elem h (k:=i) (by omega)).1 Tryz.underlying34 (by kernel_rfl) W2) ?_)
  refine Hg (by kernel_rfl) (Ha (Xd a (i*1)) (V0 (l.getD i 0)) rfl (by kernel_rfl) (by kernel_rfl) (Ints.elem (h.below hB) (k:=i) (by omega)).2 ?_)
  refine Ur 2 [(7,V0 (i:Int)),(8,V0 (l.getD i 0))] (by kernel_rfl) ?_
  refine wpList_nil ?_
  refine wp_seq ?_
  refine wp_seq ?_
  refine wp_region_lit ?_
  refine Ur 3 [(21,V0 (l.getD i 0)),(22,.bool (decide ((l.getD i 0)<(0:Int)))),(23,.bool (decide ((l.getD i 0)<(0:Int))))] (by kernel_rfl) ?_
  rcases Bool.eq_false_or_eq_true (decide ((l.getD i 0)<(0:Int))) with d7|d7
  ·refine g_b [22,23] _ _ d7 (by kernel_rfl) ?_
   have d7:=of_decide_eq_true d7
   refine Ur 3 [(24,undef),(25,undef),(26,.bool true)] (by kernel_rfl) ?_
   refine wpList_nil ?_
   refine wp_cond_true (by kernel_rfl) ?_
   refine wp_seq ?_
   refine wp_region_lit ?_
   refine Ur 3 [(2,S0),(3,S0),(4,V0 2)] (by kernel_rfl) ?_
   refine wpList_nil ?_
   refine wp_ret (Gn (Wt (Gn (Gn (Wt (Gn ?_))))))
   exact g_retM (.tuple #[S0,S0,V0 2]) (by kernel_rfl) (by kernel_rfl) (.inl ⟨Ok (i:=i) hl (by omega) (fun q=>by unfold Ng at q;omega),rfl,hB⟩)
  ·refine g_b [22,23] _ _ d7 (by kernel_rfl) ?_
   have d7:=of_decide_eq_false d7
   refine Ur 3 [(24,V0 (l.getD i 0)),(25,.bool (decide ((l.getD i 0)>(2147483647:Int)))),(26,.bool (decide ((l.getD i 0)>(2147483647:Int))))] (by kernel_rfl) ?_
   refine wpList_nil ?_
   refine wp_cond_split (t:=decide ((l.getD i 0)>(2147483647:Int))) (by kernel_rfl) (fun e6=>?_) (fun e6=>?_)
   ·have e6:=of_decide_eq_true e6
    refine wp_seq ?_
    refine wp_region_lit ?_
    refine Ur 3 [(2,S0),(3,S0),(4,V0 2)] (by kernel_rfl) ?_
    refine wpList_nil ?_
    refine wp_ret (Gn (Wt (Gn (Gn (Wt (Gn ?_))))))
    exact g_retM (.tuple #[S0,S0,V0 2]) (by kernel_rfl) (by kernel_rfl) (.inl ⟨Ok (i:=i) hl (by omega) (fun q=>by unfold Ng at q;omega),rfl,hB⟩)
   ·have e6:=of_decide_eq_false e6
    refine wp_skip ?_
    refine wp_seq ?_
    refine wp_region_lit ?_
    refine Ur 3 [(27,.slice ps i cs),(28,V0 (l.getD i 0)),(29,V0 (if(3:Int)<(l.getD i 0) then(3:Int) else(l.getD i 0)))] (by kernel_rfl) ?_
    refine Hg (by kernel_rfl) (Vj 3 [V0 (if(3:Int)<(l.getD i 0) then(3:Int) else(l.getD i 0))] rfl (by kernel_rfl) ?_)
    intro b6 W6 n6
    have g6:=n6.ge hB
    have l1:=Zn hs n6
    replace hB:=bln hB n6.below
    replace hs:=Zb hs n6.below
    replace ho:=Zb ho n6.below
    have k6:=n6.blk
    refine Hg (by kernel_rfl) (Zr (e:=3) (n:=i) (xs:=(Zu (l.take i)).map V0) (m:=1) (news:=[V0 (if(3:Int)<(l.getD i 0) then(3:Int) else(l.getD i 0))]) (V0 0) 1 8 (i+1) ((Zu (l.take (i+1))).map V0) rfl Tryz.underlying34 (by kernel_rfl) rfl (by decide) (by kernel_rfl) hs (by kernel_rfl) (k6.sl 1 1 (by decide) (by decide)) rfl (by simp[Value.oneCell']) (by unfold maxLen;omega) (by omega) hB.size (by rfl) (by rw[mn3_if,small_snoc (by omega),List.map_append];rfl) ?_)
    intro p7 c7 W7 o7 l8 m7
    replace ho:=Xk ho l8 hs (by decide)
    replace hB:=hB.trans m7
    refine Ur 1 [(5,.slice p7 (i+1) c7)] (by kernel_rfl) ?_
    refine wpList_nil ?_
    refine wp_seq ?_
    refine wp_region_lit ?_
    refine Ur 2 [(32,V0 (l.getD i 0)),(33,.bool (decide ((l.getD i 0)≥(3:Int))))] (by kernel_rfl) ?_
    refine wpList_nil ?_
    refine wp_cond_split (t:=decide ((l.getD i 0)≥(3:Int))) (by kernel_rfl) (fun f2=>?_) (fun f2=>?_)
    ·have f2:=of_decide_eq_true f2
     refine wp_region_lit ?_
     refine Ur 3 [(34,.slice po ((Zy l i).length) co),(35,V0 (i:Int)),(36,V0 (l.getD i 0))] (by kernel_rfl) ?_
     refine Hg (by kernel_rfl) (Vo (lb:=#[]) 216 #[V0 (l.getD i 0)] rfl (by kernel_rfl) (fun _ _=>by kernel_rfl) (by kernel_rfl) ((Ze3 (l.getD i 0) (by omega) (by omega) _).mono ?_))
     rintro e W9 ⟨rfl,c0⟩
     refine⟨_,rfl,?_⟩
     replace hB:=bln hB c0
     replace ho:=Zb ho c0
     replace o7:=Zb o7 c0
     refine Ur 1 [(38,.agg #[V0 (i:Int),.string ⟨(leB (l.getD i 0) 4).toArray⟩,V0 0])] (by kernel_rfl) ?_
     refine Hg (by kernel_rfl) (Vj 132 [V0 (i:Int),.string ⟨(leB (l.getD i 0) 4).toArray⟩,V0 0] rfl (by kernel_rfl) ?_)
     intro k3 n7 e4
     have o2:=e4.ge hB
     have i0:=Zn ho e4
     replace hB:=bln hB e4.below
     replace ho:=Zb ho e4.below
     replace o7:=Zb o7 e4.below
     have m0:=e4.blk
     refine Hg (by kernel_rfl) (Zr (e:=132) (n:=(Zy l i).length) (xs:=(Zy l i).flatMap Jv) (m:=1) (news:=[V0 (i:Int),.string ⟨(leB (l.getD i 0) 4).toArray⟩,V0 0]) (.agg #[V0 0,.string ⟨#[]⟩,V0 0]) 3 32 ((Zy l (i+1)).length) ((Zy l (i+1)).flatMap Jv) rfl Tryz.underlying123 (by kernel_rfl) rfl (by decide) (by kernel_rfl) ho (by kernel_rfl) (m0.sl 1 1 (by decide) (by decide)) rfl (by simp[Value.oneCell']) (by have:=Cg l i;unfold maxLen;omega) (by have:=Cg l i;omega) hB.size (by rw[Pw (by omega)];simp) (by rw[Pw (by omega)];simp[Jv]) ?_)
     intro g3 f7 n9 m8 i3 i9
     replace o7:=Xk o7 i3 ho (by decide)
     replace hB:=hB.trans i9
     refine Ur 1 [(6,.slice g3 ((Zy l (i+1)).length) f7)] (by kernel_rfl) ?_
     refine wpList_nil ?_
     refine wp_region_lit ?_
     refine Hg (by kernel_rfl) (op_wrap .i64 ((i:Int)+1) (↑(i+1):Int) (by kernel_rfl) ((show IntKind.i64.wrap ((i:Int)+1)=((i:Int)+1) from by first|exact IntWalk.i64_in _ (by omega)|(simp only[IntKind.wrap];omega)).trans (by omega)) ?_)
     refine Ur 1 [(16,V0 (↑(i+1):Int))] (by kernel_rfl) ?_
     refine wpList_nil ?_
     refine g_nfr ⟨#[.slice a l.length c,undef,(x2 0),(x2 1),(x2 2),.slice p7 (i+1) c7,.slice g3 ((Zy l (i+1)).length) f7,V0 (i:Int),V0 (l.getD i 0),undef,undef,.slice a l.length c,V0 (l.length:Int),.bool (decide ((l.length:Int)>(65536:Int))),.slice a l.length c,V0 (l.length:Int),V0 (↑(i+1):Int),.bool (decide ((i:Int)<(l.length:Int))),V0 (i:Int),.pointer (some (Xd a (i*1))),V0 (l.getD i 0),V0 (l.getD i 0),.bool false,.bool false,V0 (l.getD i 0),.bool (decide ((l.getD i 0)>(2147483647:Int))),.bool (decide ((l.getD i 0)>(2147483647:Int))),.slice ps i cs,V0 (l.getD i 0),V0 (if(3:Int)<(l.getD i 0) then(3:Int) else(l.getD i 0)),.slice (S1 b6) 1 1,.slice p7 (i+1) c7,V0 (l.getD i 0),.bool (decide ((l.getD i 0)≥(3:Int))),.slice po ((Zy l i).length) co,V0 (i:Int),V0 (l.getD i 0),.string ⟨(leB (l.getD i 0) 4).toArray⟩,.agg #[V0 (i:Int),.string ⟨(leB (l.getD i 0) 4).toArray⟩,V0 0],.slice (S1 k3) 1 1,.slice g3 ((Zy l (i+1)).length) f7,V0 (↑(i+1):Int),undef,undef,undef,undef,undef,undef,undef,undef,undef,undef],[]⟩ (by kernel_rfl) ?_
     refine⟨⟨i+1,_,_,_,_,(pk [(x2 0),(x2 1),(x2 2),V0 (i:Int),V0 (l.getD i 0),.bool (decide ((i:Int)<(l.length:Int))),V0 (i:Int),.pointer (some (Xd a (i*1))),V0 (l.getD i 0),V0 (l.getD i 0),.bool false,.bool false,V0 (l.getD i 0),.bool (decide ((l.getD i 0)>(2147483647:Int))),.bool (decide ((l.getD i 0)>(2147483647:Int))),.slice ps i cs,V0 (l.getD i 0),V0 (if(3:Int)<(l.getD i 0) then(3:Int) else(l.getD i 0)),.slice (S1 b6) 1 1,.slice p7 (i+1) c7,V0 (l.getD i 0),.bool (decide ((l.getD i 0)≥(3:Int))),.slice po ((Zy l i).length) co,V0 (i:Int),V0 (l.getD i 0),.string ⟨(leB (l.getD i 0) 4).toArray⟩,.agg #[V0 (i:Int),.string ⟨(leB (l.getD i 0) 4).toArray⟩,V0 0],.slice (S1 k3) 1 1,.slice g3 ((Zy l (i+1)).length) f7,V0 (↑(i+1):Int)]),rfl,hB,o7,m8,by omega,fun j hj=>(Nat.lt_or_ge j i).elim (hz j) (fun q=>by obtain rfl:j=i:=(by omega);exact⟨by omega,by omega⟩)⟩,?_⟩
     show l.length-((↑(i+1):Int)).toNat<l.length-((i:Int)).toNat
     omega
    ·have f2:=of_decide_eq_false f2
     refine wp_skip ?_
     refine wp_region_lit ?_
     refine Hg (by kernel_rfl) (op_wrap .i64 ((i:Int)+1) (↑(i+1):Int) (by kernel_rfl) ((show IntKind.i64.wrap ((i:Int)+1)=((i:Int)+1) from by first|exact IntWalk.i64_in _ (by omega)|(simp only[IntKind.wrap];omega)).trans (by omega)) ?_)
     refine Ur 1 [(16,V0 (↑(i+1):Int))] (by kernel_rfl) ?_
     refine wpList_nil ?_
     refine g_nfr ⟨#[.slice a l.length c,undef,(x2 0),(x2 1),(x2 2),.slice p7 (i+1) c7,.slice po ((Zy l i).length) co,V0 (i:Int),V0 (l.getD i 0),undef,undef,.slice a l.length c,V0 (l.length:Int),.bool (decide ((l.length:Int)>(65536:Int))),.slice a l.length c,V0 (l.length:Int),V0 (↑(i+1):Int),.bool (decide ((i:Int)<(l.length:Int))),V0 (i:Int),.pointer (some (Xd a (i*1))),V0 (l.getD i 0),V0 (l.getD i 0),.bool false,.bool false,V0 (l.getD i 0),.bool (decide ((l.getD i 0)>(2147483647:Int))),.bool (decide ((l.getD i 0)>(2147483647:Int))),.slice ps i cs,V0 (l.getD i 0),V0 (if(3:Int)<(l.getD i 0) then(3:Int) else(l.getD i 0)),.slice (S1 b6) 1 1,.slice p7 (i+1) c7,V0 (l.getD i 0),.bool (decide ((l.getD i 0)≥(3:Int))),(x2 22),(x2 23),(x2 24),(x2 25),(x2 26),(x2 27),(x2 28),V0 (↑(i+1):Int),undef,undef,undef,undef,undef,undef,undef,undef,undef,undef],[]⟩ (by kernel_rfl) ?_
     refine g_nfr ⟨#[.slice a l.length c,undef,(x2 0),(x2 1),(x2 2),.slice p7 (i+1) c7,.slice po ((Zy l (i+1)).length) co,V0 (i:Int),V0 (l.getD i 0),undef,undef,.slice a l.length c,V0 (l.length:Int),.bool (decide ((l.length:Int)>(65536:Int))),.slice a l.length c,V0 (l.length:Int),V0 (↑(i+1):Int),.bool (decide ((i:Int)<(l.length:Int))),V0 (i:Int),.pointer (some (Xd a (i*1))),V0 (l.getD i 0),V0 (l.getD i 0),.bool false,.bool false,V0 (l.getD i 0),.bool (decide ((l.getD i 0)>(2147483647:Int))),.bool (decide ((l.getD i 0)>(2147483647:Int))),.slice ps i cs,V0 (l.getD i 0),V0 (if(3:Int)<(l.getD i 0) then(3:Int) else(l.getD i 0)),.slice (S1 b6) 1 1,.slice p7 (i+1) c7,V0 (l.getD i 0),.bool (decide ((l.getD i 0)≥(3:Int))),(x2 22),(x2 23),(x2 24),(x2 25),(x2 26),(x2 27),(x2 28),V0 (↑(i+1):Int),undef,undef,undef,undef,undef,undef,undef,undef,undef,undef],[]⟩ (by rw[Me (by omega)]) ?_
     refine⟨⟨i+1,_,_,_,_,(pk [(x2 0),(x2 1),(x2 2),V0 (i:Int),V0 (l.getD i 0),.bool (decide ((i:Int)<(l.length:Int))),V0 (i:Int),.pointer (some (Xd a (i*1))),V0 (l.getD i 0),V0 (l.getD i 0),.bool false,.bool false,V0 (l.getD i 0),.bool (decide ((l.getD i 0)>(2147483647:Int))),.bool (decide ((l.getD i 0)>(2147483647:Int))),.slice ps i cs,V0 (l.getD i 0),V0 (if(3:Int)<(l.getD i 0) then(3:Int) else(l.getD i 0)),.slice (S1 b6) 1 1,.slice p7 (i+1) c7,V0 (l.getD i 0),.bool (decide ((l.getD i 0)≥(3:Int))),(x2 22),(x2 23),(x2 24),(x2 25),(x2 26),(x2 27),(x2 28),V0 (↑(i+1):Int)]),rfl,hB,o7,(by rw[Me (by omega)];exact ho),by omega,fun j hj=>(Nat.lt_or_ge j i).elim (hz j) (fun q=>by obtain rfl:j=i:=(by omega);exact⟨by omega,by omega⟩)⟩,?_⟩
     show l.length-((↑(i+1):Int)).toNat<l.length-((i:Int)).toNat
     omega
 ·have e9:=of_decide_eq_false e9
  refine wp_exit ?_
  refine Zds ?_
  refine Zds ?_
  refine Zgp ?_
  refine wp_seq ?_
  refine wp_region_lit ?_
  refine Hg (by kernel_rfl) (Nq [S0] rfl (by kernel_rfl) ?_)
  intro b5 n5 f3
  have k8:=f3.ge hB
  replace hB:=bln hB f3.below
  replace hs:=Zb hs f3.below
  replace ho:=Zb ho f3.below
  have c4:=f3.blk
  refine wpList_nil ?_
  refine wp_seq ?_
  refine wp_seq ?_
  refine wp_region_lit ?_
  refine Ur 1 [(42,.slice ps i cs)] (by kernel_rfl) ?_
  refine Hg (by kernel_rfl) (Vo (lb:=#[]) 217 #[.slice ps i cs,V0 960] rfl (by kernel_rfl) (fun _ _=>by kernel_rfl) (by kernel_rfl) ((Zdi ps i cs _).mono ?_))
  rintro e d1 ⟨b1,b2,rfl,c3,o6,o3,m2,e1,d3⟩
  refine⟨_,rfl,?_⟩
  replace hB:=bln hB c3
  replace c4:=c4.below c3
  replace hs:=Zb hs c3
  replace ho:=Zb ho c3
  refine wpList_nil ?_
  refine wp_block ?_
  have j3:i=l.length:=by omega
  obtain⟨g,hv⟩:=row_or hs
  have m6:=Zgs b1 b2 (fun b=>b<d1.heap.size∧b≠b5) g 0 i cs (.slice ps i cs) d1 (fun b h=>h.1) ⟨e1.lt,(by rintro rfl;exact absurd (e1.ty c4) (by decide))⟩ ⟨d3.lt,(by rintro rfl;exact absurd (d3.ty c4) (by decide))⟩ (by omega) hv (e1.cell (i:=0) rfl) (d3.cell (i:=0) rfl)
  refine g_fr ⟨#[.slice a l.length c,undef,(x2 0),(x2 1),(x2 2),.slice ps i cs,.slice po ((Zy l i).length) co,(x2 3),(x2 4),P0 b5,undef,.slice a l.length c,V0 (l.length:Int),.bool (decide ((l.length:Int)>(65536:Int))),.slice a l.length c,V0 (l.length:Int),V0 (i:Int),.bool (decide ((i:Int)<(l.length:Int))),(x2 6),(x2 7),(x2 8),(x2 9),(x2 10),(x2 11),(x2 12),(x2 13),(x2 14),(x2 15),(x2 16),(x2 17),(x2 18),(x2 19),(x2 20),(x2 21),(x2 22),(x2 23),(x2 24),(x2 25),(x2 26),(x2 27),(x2 28),(x2 29),.slice ps i cs,.func (.func 257) #[] #[P0 b1,P0 b2],undef,undef,undef,undef,undef,undef,undef,undef],[]⟩ (by kernel_rfl) ?_
  refine wp_range (g:=.tmp 43) (gf:=257) (lb:=#[P0 b1,P0 b2]) rfl (enters_of Tryz.func257 (by kernel_rfl) rfl) _ (fun b h=>h.1) m6 (fun _=>rfl)
   (fun a0 W=>(∃ pb cb gs,gs.length=a0.length∧Blk W b5 [.slice pb (Un (Zu (l.take i)) a0).length cb] 227∧Lists W d1.heap.size (.slice pb (Un (Zu (l.take i)) a0).length cb) gs (Un (Zu (l.take i)) a0))∧BelowBut d1 b5 W)
   (fun _ _ _=>False) ?own (fun _ _ _ _ _ h _ _=>h) ⟨⟨none,0,[],rfl,c4,⟨World.ownsRow_nil _ _ _ _,fun i hi=>absurd hi (Nat.not_lt_zero _)⟩⟩,(Below.refl _ _).but _⟩
   (fun x a' _=>a'={ tmps:=#[.slice a l.length c,undef,(x2 0),(x2 1),(x2 2),.slice ps i cs,.slice po ((Zy l i).length) co,(x2 3),(x2 4),P0 b5,.slice (some ⟨g,0+x.val*960,none⟩) (min 960 (i-x.val*960)) (min 960 (i-x.val*960)),.slice a l.length c,V0 (l.length:Int),.bool (decide ((l.length:Int)>(65536:Int))),.slice a l.length c,V0 (l.length:Int),V0 (i:Int),.bool (decide ((i:Int)<(l.length:Int))),(x2 6),(x2 7),(x2 8),(x2 9),(x2 10),(x2 11),(x2 12),(x2 13),(x2 14),(x2 15),(x2 16),(x2 17),(x2 18),(x2 19),(x2 20),(x2 21),(x2 22),(x2 23),(x2 24),(x2 25),(x2 26),(x2 27),(x2 28),(x2 29),.slice ps i cs,.func (.func 257) #[] #[P0 b1,P0 b2],.slice (some ⟨g,0+x.val*960,none⟩) (min 960 (i-x.val*960)) (min 960 (i-x.val*960)),undef,undef,undef,undef,undef,undef,undef],defers:=[] }) (fun _ _ _ _ _ _ h _ _=>h) ?assign ?body ?done (fun _ _ _ _ _ _ h _=>h.elim)
  case own=>exact OwnFrom.and (Own.from (fun s A B n4 hs hg hr=>by obtain⟨pb,cb,gs,h0,h1,h2⟩:=hs;exact⟨pb,cb,gs,h0,h1.turn hg hr,h2.turn hg hr⟩) _) (Zfn (Nat.le_refl _))
  case assign =>
   rintro lr a0 x W K hI hK
   unfold encK
   gi_wp2
   refine hK _ _ (KeepsFrom.refl _ _) (Keeps.refl _ _) hI ?_
   simp only[j3,Nat.zero_add,decide_eq_false (show ¬ ((l.length:Int)>65536) by omega),Int.lt_irrefl,decide_false]
  case body =>
   rintro lr a0 x a' W n3 ⟨⟨pb,cb,gs,d4,m9,hL⟩,e5⟩ rfl o5
   have hx:=bmN_lt x.isLt
   have n0:=hv.resolve_left (fun q=>by omega)
   have a2:=e5.own2 hs c4 (by decide)
   rw[n0.1] at a2
   obtain⟨m,hm⟩:∃ m,min 960 (i-x.val*960)=m:=⟨_,rfl⟩
   rw[hm]
   have e8:0<m:=by omega
   have k4:x.val*960+m≤i:=by omega
   have g0:(Zu (l.take i)).length=i:=by simp[Zu];omega
   have c9:(Wy (Zu (l.take i)) x.val).length=m:=by rw[Zad,g0];exact hm
   have k2:(((Zu (l.take i)).map V0).drop (x.val*960)).take m=(Wy (Zu (l.take i)) x.val).map V0:=by rw[←List.map_drop,←List.map_take];unfold Wy;rw[show((Zu (l.take i)).drop (x.val*960)).take m=((Zu (l.take i)).drop (x.val*960)).take 960 from by rw[List.take_eq_take_iff,List.length_drop,g0];omega]
   have h8:(Un (Zu (l.take i)) a0).length=a0.length:=by simp[Un]
   have o4:a0.length≤69:=by have:bmN i≤69:=(by unfold bmN;omega);omega
   have a1:=hL.row
   have hE:Each W d1.heap.size gs (Un (Zu (l.take i)) a0):=hL.each
   have hZ:RdZ d1 b5 W W:=RdZ.refl e5
   have a6:d1.heap.size≤W.heap.size:=e5.size
   have a3:w.heap.size≤d1.heap.size:=hB.size
   have c0:=k8
   refine wpIn_block ?_
   have hB:=blB (Below.refl w.heap.size W) (Nat.le_trans a3 a6) (Za W)
   replace m9:=m9.below (Za W)
   replace a2:=Zb a2 (Za W)
   replace a1:=Zb a1 (Za W)
   replace hE:=hE.below (Za W)
   replace hZ:=hZ.below (Za W)
   refine h_regIn (fun V=>Below w.heap.size (W.drew) V∧Zf [227,34] (W.drew) V) 6 rfl #[false,false,false,false,false,false] rfl (by kernel_rfl) (fun⟨_,_,q⟩=>q) (by simp) ⟨Below.refl _ _,Zf.refl _ _⟩ ?_
   intro c1
   have a4:=hB
   have f5:=m9
   have i1:=a1
   refine h_pv [1] 5 rfl #[false,true,false,false,false,false] [(46,.slice (some ⟨g,0+x.val*960,none⟩) m m)] (by kernel_rfl) (fun _ _ _ _ _ h=>h) (by kernel_rfl) c1 ?_
   refine h_two 0 2 4 rfl (by kernel_rfl) rfl rfl (by kernel_rfl) (by kernel_rfl) ?_ ?_
   ·refine Ha ⟨b5,0,none⟩ (.slice pb ((Un (Zu (l.take i)) a0).length) cb) rfl (by kernel_rfl) (by kernel_rfl) (m9.cell (i:=0) rfl) ?_
    have d6:Below w.heap.size (W.drew) (W.drew)∧Zf [227,34] (W.drew) (W.drew):=c1
    refine⟨d6,?_⟩
    have i2:W.heap.size≤(W.drew).heap.size:=hB.size
    refine Ig 2 3 rfl (by kernel_rfl) rfl (by kernel_rfl) (Vo (lb:=#[]) 118 #[.slice (some ⟨g,0+x.val*960,none⟩) m m] rfl (by kernel_rfl) (fun _ _=>by kernel_rfl) (by kernel_rfl) ((Bo ⟨g,0+x.val*960,none⟩ m m ((Wy (Zu (l.take i)) x.val).map V0) _ (k2▸Sl.midI (Ze a2) (by rw[List.length_map];exact g0) (x.val*960) m e8 k4) (by rw[List.length_map];exact c9) (fun u hu=>by obtain⟨y,_,rfl⟩:=List.mem_map.1 hu;rfl) (by omega)).mono ?_))
    rintro e j2 ⟨_,rfl,a5,q,c2,rfl,hq⟩
    refine⟨_,rfl,?_⟩
    replace hB:=blB hB (Nat.le_trans a3 a6) a5
    replace m9:=m9.below a5
    replace a2:=Zb a2 a5
    replace a1:=Zb a1 a5
    replace hE:=hE.below a5
    replace hZ:=hZ.below a5
    replace hq:=Zd hq i2
    have c5:Below w.heap.size (W.drew) (j2)∧Zf [227,34] (W.drew) (j2):=⟨blB d6.1 (Nat.le_trans (Nat.le_trans a3 a6) a4.size) a5,d6.2.trans (Zf.of_below a5)⟩
    refine⟨c5,?_⟩
    refine Ig 3 2 rfl (by kernel_rfl) rfl (by kernel_rfl) (Vj 34 [.slice q m c2] rfl (by kernel_rfl) ?_)
    intro m4 k1 a9
    have f8:=a9.ne m9
    have o1:=a9.ge0 hB
    have f6:=Zn a1 a9
    have h5:(W.drew).heap.size≤m4:=by have:=c5.1.size;have:=a9.at_;omega
    replace hB:=blB hB (Nat.le_trans a3 a6) a9.below
    replace m9:=m9.below a9.below
    replace a2:=Zb a2 a9.below
    replace a1:=Zb a1 a9.below
    replace hE:=hE.below a9.below
    replace hZ:=hZ.below a9.below
    replace hq:=Zb hq a9.below
    have m1:=a9.blk
    have e0:Below w.heap.size (W.drew) (k1)∧Zf [227,34] (W.drew) (k1):=⟨blB c5.1 (Nat.le_trans (Nat.le_trans a3 a6) a4.size) a9.below,c5.2.trans (Zf.of_below a9.below)⟩
    refine⟨e0,?_⟩
    refine Ig 4 1 rfl (by kernel_rfl) rfl (by kernel_rfl) (Zr (e:=34) (n:=(Un (Zu (l.take i)) a0).length) (xs:=(List.range (Un (Zu (l.take i)) a0).length).map (Zb7 gs (Un (Zu (l.take i)) a0))) (m:=1) (news:=[.slice q m c2]) (S0) 1 24 ((Un (Zu (l.take i)) a0).length+1) ((List.range (Un (Zu (l.take i)) a0).length).map (Zb7 gs (Un (Zu (l.take i)) a0))++[.slice q m c2]) rfl Tryz.underlying227 (by kernel_rfl) rfl (by decide) (by kernel_rfl) a1 (by kernel_rfl) (m1.sl 1 1 (by decide) (by decide)) rfl (by simp[Value.oneCell']) (by unfold maxLen;omega) (by omega) (Nat.le_trans a6 hZ.le) (by simp) (by simp) ?_)
    intro l2 j9 l4 h9 b4 f1
    replace m9:=m9.grown b4 a1 (by decide)
    replace a2:=Xk a2 b4 a1 (by decide)
    replace hE:=hE.only (Zf.of_grown (T:=[34]) b4 a1 (by decide)) (by decide)
    replace hZ:=hZ.grown b4 a1
    replace hq:=Xk hq b4 a1 (by decide)
    replace hB:=hB.trans (f1.mono a3)
    have e3:Below w.heap.size (W.drew) (l4)∧Zf [227,34] (W.drew) (l4):=⟨e0.1.trans (f1.mono a3),e0.2.trans (Zf.of_grown b4 a1 (by decide))⟩
    refine⟨e3,?_⟩
    refine Ig 5 0 rfl (by kernel_rfl) rfl (by kernel_rfl) (Jc (v:=.slice l2 ((Un (Zu (l.take i)) a0).length+1) j9) (b:=b5) (off:=0) rfl (by kernel_rfl) (by kernel_rfl) (by kernel_rfl) rfl m9 (by first|decide|simp) ?_)
    intro j6 d2 l5
    change Blk _ _ [.slice l2 ((Un (Zu (l.take i)) a0).length+1) j9] _ at l5
    replace hB:=d2.below hB c0
    replace a2:=d2.own2 a2 m9 (by decide)
    replace hE:=hE.only (Zf.of_upd (T:=[227]) d2 m9 (by decide)) (by decide)
    replace hZ:=hZ.upd d2 m9
    replace hq:=d2.own2 hq m9 (by decide)
    replace h9:=d2.own2 h9 m9 (by decide)
    have h7:Below w.heap.size (W.drew) (j6)∧Zf [227,34] (W.drew) (j6):=⟨d2.below e3.1 c0,e3.2.trans (Zf.of_upd d2 m9 (by decide))⟩
    refine⟨h7,?_⟩
    refine h_done _ (by kernel_rfl) ?_
    obtain⟨g2,rfl,k9⟩:=Bj hq e8
    rw[←c9] at hq
    have a8:=h9
    rw[←c9] at a8
    have hS:=Lists.snoc (n:=(Un (Zu (l.take i)) a0).length+1) rfl a8 hE (Zd hq a6) (by rw[d4,h8])
    exact⟨hZ.ko.from _,⟨hZ.le,fun b hb=>hZ.fr b hb.1 hb.2⟩,⟨_,_,gs++[(g2,_)],by simp[d4],by rw[Uy,List.length_append];exact l5,by rw[Uy,List.length_append];exact hS⟩,hZ.bb⟩
   ·have h6:W.heap.size≤(W.drew).heap.size:=hB.size
    refine Vo (lb:=#[]) 118 #[.slice (some ⟨g,0+x.val*960,none⟩) m m] rfl (by kernel_rfl) (fun _ _=>by kernel_rfl) (by kernel_rfl) ((Bo ⟨g,0+x.val*960,none⟩ m m ((Wy (Zu (l.take i)) x.val).map V0) _ (k2▸Sl.midI (Ze a2) (by rw[List.length_map];exact g0) (x.val*960) m e8 k4) (by rw[List.length_map];exact c9) (fun u hu=>by obtain⟨y,_,rfl⟩:=List.mem_map.1 hu;rfl) (by omega)).mono ?_)
    rintro e g1 ⟨_,rfl,a7,q,c2,rfl,hq⟩
    refine⟨_,rfl,?_⟩
    replace hB:=blB hB (Nat.le_trans a3 a6) a7
    replace m9:=m9.below a7
    replace a2:=Zb a2 a7
    replace a1:=Zb a1 a7
    replace hE:=hE.below a7
    replace hZ:=hZ.below a7
    replace hq:=Zd hq h6
    have b9:Below w.heap.size (W.drew) (g1)∧Zf [227,34] (W.drew) (g1):=⟨blB c1.1 (Nat.le_trans (Nat.le_trans a3 a6) a4.size) a7,c1.2.trans (Zf.of_below a7)⟩
    refine⟨b9,?_⟩
    refine h_two 0 3 3 rfl (by kernel_rfl) rfl rfl (by kernel_rfl) (by kernel_rfl) ?_ ?_
    ·refine Ha ⟨b5,0,none⟩ (.slice pb ((Un (Zu (l.take i)) a0).length) cb) rfl (by kernel_rfl) (by kernel_rfl) (m9.cell (i:=0) rfl) ?_
     have c6:Below w.heap.size (W.drew) (g1)∧Zf [227,34] (W.drew) (g1):=b9
     refine⟨c6,?_⟩
     refine Ig 3 2 rfl (by kernel_rfl) rfl (by kernel_rfl) (Vj 34 [.slice q m c2] rfl (by kernel_rfl) ?_)
     intro n1 j8 b3
     have f9:=b3.ne m9
     have n8:=b3.ge0 hB
     have g8:=Zn a1 b3
     have h3:(W.drew).heap.size≤n1:=by have:=c6.1.size;have:=b3.at_;omega
     replace hB:=blB hB (Nat.le_trans a3 a6) b3.below
     replace m9:=m9.below b3.below
     replace a2:=Zb a2 b3.below
     replace a1:=Zb a1 b3.below
     replace hE:=hE.below b3.below
     replace hZ:=hZ.below b3.below
     replace hq:=Zb hq b3.below
     have m3:=b3.blk
     have e2:Below w.heap.size (W.drew) (j8)∧Zf [227,34] (W.drew) (j8):=⟨blB c6.1 (Nat.le_trans (Nat.le_trans a3 a6) a4.size) b3.below,c6.2.trans (Zf.of_below b3.below)⟩
     refine⟨e2,?_⟩
     refine Ig 4 1 rfl (by kernel_rfl) rfl (by kernel_rfl) (Zr (e:=34) (n:=(Un (Zu (l.take i)) a0).length) (xs:=(List.range (Un (Zu (l.take i)) a0).length).map (Zb7 gs (Un (Zu (l.take i)) a0))) (m:=1) (news:=[.slice q m c2]) (S0) 1 24 ((Un (Zu (l.take i)) a0).length+1) ((List.range (Un (Zu (l.take i)) a0).length).map (Zb7 gs (Un (Zu (l.take i)) a0))++[.slice q m c2]) rfl Tryz.underlying227 (by kernel_rfl) rfl (by decide) (by kernel_rfl) a1 (by kernel_rfl) (m3.sl 1 1 (by decide) (by decide)) rfl (by simp[Value.oneCell']) (by unfold maxLen;omega) (by omega) (Nat.le_trans a6 hZ.le) (by simp) (by simp) ?_)
     intro l0 j0 l6 i5 b7 e7
     replace m9:=m9.grown b7 a1 (by decide)
     replace a2:=Xk a2 b7 a1 (by decide)
     replace hE:=hE.only (Zf.of_grown (T:=[34]) b7 a1 (by decide)) (by decide)
     replace hZ:=hZ.grown b7 a1
     replace hq:=Xk hq b7 a1 (by decide)
     replace hB:=hB.trans (e7.mono a3)
     have d8:Below w.heap.size (W.drew) (l6)∧Zf [227,34] (W.drew) (l6):=⟨e2.1.trans (e7.mono a3),e2.2.trans (Zf.of_grown b7 a1 (by decide))⟩
     refine⟨d8,?_⟩
     refine Ig 5 0 rfl (by kernel_rfl) rfl (by kernel_rfl) (Jc (v:=.slice l0 ((Un (Zu (l.take i)) a0).length+1) j0) (b:=b5) (off:=0) rfl (by kernel_rfl) (by kernel_rfl) (by kernel_rfl) rfl m9 (by first|decide|simp) ?_)
     intro j1 c8 l7
     change Blk _ _ [.slice l0 ((Un (Zu (l.take i)) a0).length+1) j0] _ at l7
     replace hB:=c8.below hB c0
     replace a2:=c8.own2 a2 m9 (by decide)
     replace hE:=hE.only (Zf.of_upd (T:=[227]) c8 m9 (by decide)) (by decide)
     replace hZ:=hZ.upd c8 m9
     replace hq:=c8.own2 hq m9 (by decide)
     replace i5:=c8.own2 i5 m9 (by decide)
     have h4:Below w.heap.size (W.drew) (j1)∧Zf [227,34] (W.drew) (j1):=⟨c8.below d8.1 c0,d8.2.trans (Zf.of_upd c8 m9 (by decide))⟩
     refine⟨h4,?_⟩
     refine h_done _ (by kernel_rfl) ?_
     obtain⟨g2,rfl,k9⟩:=Bj hq e8
     rw[←c9] at hq
     have a8:=i5
     rw[←c9] at a8
     have hS:=Lists.snoc (n:=(Un (Zu (l.take i)) a0).length+1) rfl a8 hE (Zd hq a6) (by rw[d4,h8])
     exact⟨hZ.ko.from _,⟨hZ.le,fun b hb=>hZ.fr b hb.1 hb.2⟩,⟨_,_,gs++[(g2,_)],by simp[d4],by rw[Uy,List.length_append];exact l7,by rw[Uy,List.length_append];exact hS⟩,hZ.bb⟩
    ·refine Vj 34 [.slice q m c2] rfl (by kernel_rfl) ?_
     intro n2 g9 b0
     have g5:=b0.ne m9
     have o0:=b0.ge0 hB
     have g7:=Zn a1 b0
     have i4:(W.drew).heap.size≤n2:=by have:=b9.1.size;have:=b0.at_;omega
     replace hB:=blB hB (Nat.le_trans a3 a6) b0.below
     replace m9:=m9.below b0.below
     replace a2:=Zb a2 b0.below
     replace a1:=Zb a1 b0.below
     replace hE:=hE.below b0.below
     replace hZ:=hZ.below b0.below
     replace hq:=Zb hq b0.below
     have m5:=b0.blk
     have f4:Below w.heap.size (W.drew) (g9)∧Zf [227,34] (W.drew) (g9):=⟨blB b9.1 (Nat.le_trans (Nat.le_trans a3 a6) a4.size) b0.below,b9.2.trans (Zf.of_below b0.below)⟩
     refine⟨f4,?_⟩
     refine Ig 0 2 rfl (by kernel_rfl) rfl (by kernel_rfl) (Ha ⟨b5,0,none⟩ (.slice pb ((Un (Zu (l.take i)) a0).length) cb) rfl (by kernel_rfl) (by kernel_rfl) (m9.cell (i:=0) rfl) ?_)
     have d9:Below w.heap.size (W.drew) (g9)∧Zf [227,34] (W.drew) (g9):=f4
     refine⟨d9,?_⟩
     refine Ig 4 1 rfl (by kernel_rfl) rfl (by kernel_rfl) (Zr (e:=34) (n:=(Un (Zu (l.take i)) a0).length) (xs:=(List.range (Un (Zu (l.take i)) a0).length).map (Zb7 gs (Un (Zu (l.take i)) a0))) (m:=1) (news:=[.slice q m c2]) (S0) 1 24 ((Un (Zu (l.take i)) a0).length+1) ((List.range (Un (Zu (l.take i)) a0).length).map (Zb7 gs (Un (Zu (l.take i)) a0))++[.slice q m c2]) rfl Tryz.underlying227 (by kernel_rfl) rfl (by decide) (by kernel_rfl) a1 (by kernel_rfl) (m5.sl 1 1 (by decide) (by decide)) rfl (by simp[Value.oneCell']) (by unfold maxLen;omega) (by omega) (Nat.le_trans a6 hZ.le) (by simp) (by simp) ?_)
     intro j4 l3 j7 i6 b8 f0
     replace m9:=m9.grown b8 a1 (by decide)
     replace a2:=Xk a2 b8 a1 (by decide)
     replace hE:=hE.only (Zf.of_grown (T:=[34]) b8 a1 (by decide)) (by decide)
     replace hZ:=hZ.grown b8 a1
     replace hq:=Xk hq b8 a1 (by decide)
     replace hB:=hB.trans (f0.mono a3)
     have d5:Below w.heap.size (W.drew) (j7)∧Zf [227,34] (W.drew) (j7):=⟨d9.1.trans (f0.mono a3),d9.2.trans (Zf.of_grown b8 a1 (by decide))⟩
     refine⟨d5,?_⟩
     refine Ig 5 0 rfl (by kernel_rfl) rfl (by kernel_rfl) (Jc (v:=.slice j4 ((Un (Zu (l.take i)) a0).length+1) l3) (b:=b5) (off:=0) rfl (by kernel_rfl) (by kernel_rfl) (by kernel_rfl) rfl m9 (by first|decide|simp) ?_)
     intro k0 d0 j5
     change Blk _ _ [.slice j4 ((Un (Zu (l.take i)) a0).length+1) l3] _ at j5
     replace hB:=d0.below hB c0
     replace a2:=d0.own2 a2 m9 (by decide)
     replace hE:=hE.only (Zf.of_upd (T:=[227]) d0 m9 (by decide)) (by decide)
     replace hZ:=hZ.upd d0 m9
     replace hq:=d0.own2 hq m9 (by decide)
     replace i6:=d0.own2 i6 m9 (by decide)
     have i7:Below w.heap.size (W.drew) (k0)∧Zf [227,34] (W.drew) (k0):=⟨d0.below d5.1 c0,d5.2.trans (Zf.of_upd d0 m9 (by decide))⟩
     refine⟨i7,?_⟩
     refine h_done _ (by kernel_rfl) ?_
     obtain⟨g2,rfl,k9⟩:=Bj hq e8
     rw[←c9] at hq
     have a8:=i6
     rw[←c9] at a8
     have hS:=Lists.snoc (n:=(Un (Zu (l.take i)) a0).length+1) rfl a8 hE (Zd hq a6) (by rw[d4,h8])
     exact⟨hZ.ko.from _,⟨hZ.le,fun b hb=>hZ.fr b hb.1 hb.2⟩,⟨_,_,gs++[(g2,_)],by simp[d4],by rw[Uy,List.length_append];exact j5,by rw[Uy,List.length_append];exact hS⟩,hZ.bb⟩
  case done =>
   rintro D xs W hD rfl ⟨⟨pb,cb,gs,d4,m9,hL⟩,e5⟩ k5
   rw[preC_all] at m9 hL
   have hK:Dfr D W:=k5;clear k5
   subst j3
   rw[List.take_length] at m9 hL
   rw[Hw] at m9 hL
   refine g_nopan ?_
   have l9:=hB
   replace hB:=e5.below hB k8 hB.size
   have k7:=e5.own2 ho c4 (by decide)
   have a3:=l9.size
   replace c4:=m9
   refine wp_seq ?_
   refine wp_region_lit ?_
   refine Hg (by kernel_rfl) (Ha ⟨b5,0,none⟩ (.slice pb (bmN l.length) cb) rfl (by kernel_rfl) (by kernel_rfl) (c4.cell (i:=0) rfl) ?_)
   refine Ur 4 [(51,.slice po ((Zy l l.length).length) co),(2,.slice pb (bmN l.length) cb),(3,.slice po ((Zy l l.length).length) co),(4,V0 0)] (by kernel_rfl) ?_
   refine wpList_nil ?_
   refine wp_ret ?_
   exact g_endM hK (.tuple #[.slice pb (bmN l.length) cb,.slice po ((Zy l l.length).length) co,V0 0]) (by kernel_rfl) (by kernel_rfl) (.inr ⟨Zgy hl (fun k hk=>hz k (by omega)),_,_,gs,_,_,rfl,(Upd.of_put _ _ _).below hB (Nat.le_trans a3 hD),(hL.mono a3).put (Upd.of_put _ _ _) hK,(Upd.of_put _ _ _).own3 k7 (hK.row k7)⟩)
end Go.Proofs.YtceeiinepijokaaGreatDoor
namespace Go.Proofs.YtceeiinepijokaaGreatDoor
set_option maxHeartbeats 8000000
set_option maxRecDepth 100000
open Go.RowKit Go.Extern.Stop Go.Stop Go.Extern
set_option linter.unusedVariables false
attribute [local irreducible] wpList wpAnyH Code.wp Oper.wp Go
theorem Zc8(B b:Nat)(p:O0)(n c:Nat)(l:Bl)(no:Int)(w:World)(hI:ImgR B b p n c l w) :
 C0 64 #[P0 b,V0 no] w (fun e w' =>
 (Xx l no≠0∧∃ ty x,e=.returned (.tuple #[S0,.iface ty x])∧B3 w w'∧Jy w' (([no]:List Int).map some) (some (Xx l no)) (.iface ty x)) ∨
 (Xx l no=0∧∃ p c,e=.returned (.tuple #[.slice p (Vz l no).length c,.nilIface])∧B3 w w'∧w'.ownsRow w.heap.size 134 3 (.slice p (Vz l no).length c) (Vz l no).length ((Vz l no).flatMap Zf6))):=by
 refine(Zfs B b p n c l no w hI).mono ?_
 rintro e W q
 rcases q with ⟨h,b,rfl,hb,hv⟩|⟨h,p,c,rfl,hb,ho⟩
 ·exact .inl ⟨h,_,_,rfl,hb,hv⟩
 ·refine .inr ⟨h,p,c,by rw[(Cx h).2],hb,?_⟩
  rw[(Cx h).2,(Cx h).1];exact ho
theorem hasE_6(l:Bl)(no:Int):Pb l no 6=Xx l no:=if_pos rfl
theorem Wx(l:Bl)(no:Int):Pb l no 7=Xn l no:=by unfold Pb;rw[if_neg (by decide),if_pos rfl]
theorem Zb8{l:Bl}{no t:Int}(h5:t≤5):Pb l no t=Xl l no t:=by unfold Pb;rw[if_neg (by omega),if_neg (by omega)]
theorem Za4(l:Bl)(no:Int):(Vy l no).length=Xi (inB l no):=by unfold Vy;exact Up _ _
theorem nodT_is{l:Bl}{no t:Int}(h:Xl l no t=0)(h1:1≤t):Xz (inB l no)=t:=by
 have h2:=(Iw h).2
 have h3:=Se h2
 unfold Ql at h2
 rw[if_pos h3] at h2
 split at h2
 ·rename_i h4;omega
 ·omega
theorem nodV_short(l:Bl)(no:Int)(i:Nat):((Vy l no).getD i []).length≤1000:=Wd _ _ _
end Go.Proofs.YtceeiinepijokaaGreatDoor
namespace Go.Proofs.YtceeiinepijokaaGreatDoor
set_option maxHeartbeats 8000000
set_option maxRecDepth 100000
open Go.RowKit Go.Extern.Stop Go.Stop Go.Extern
set_option linter.unusedVariables false
attribute [local irreducible] wpList wpAnyH Code.wp Oper.wp Go
def lkC (x:Lk):List Value:=[V0 x.1,V0 x.2.1,V0 x.2.2.1]
def Uv(rm:Nat)(out:List Lk)(w:World):Prop:=∃ kv,Wa V0 w rm kv∧∀ k,Pf kv k=if Vg out k=true then some (.bool true) else none
theorem Uv.below{rm:Nat}{out:List Lk}{w W:World}(h:Uv rm out w)(hb:B3 w W):Uv rm out W:=let ⟨kv,h1,h2⟩:=h;⟨kv,h1.below hb,h2⟩
theorem Uv.updBlk{rm b:Nat}{out:List Lk}{w W:World}{cs:List Value}{t:TypeId}(h:Uv rm out w)(u:Upd w b W)(k:Blk w b cs t):Uv rm out W:=let ⟨kv,h1,h2⟩:=h;⟨kv,h1.updBlk u k,h2⟩
theorem Uv.grown{rm:Nat}{out:List Lk}{w W:World}{base size n:Nat}{e:TypeId}{v:Value}{xs:List Value}(h:Uv rm out w)(hg:w.grownBy W v.ownBlock)(k:w.ownsRow base e size v n xs):Uv rm out W:=let ⟨kv,h1,h2⟩:=h;⟨kv,h1.grown hg k,h2⟩
theorem Uv.told{rm:Nat}{out:List Lk}{x:Lk}{w:World}(h:Uv rm out w)(ht:Vg out x.2.1=true):Uv rm (out++[x]) w:=by
 obtain⟨kv,h1,h2⟩:=h
 refine⟨kv,h1,fun k=>?_⟩
 rw[h2,Ed]
 by_cases e:x.2.1=k
 ·subst e;rw[ht];simp
 ·rw[decide_eq_false e,Bool.or_false]
theorem lookV_snoc{kv:List (Int×Value)}{k to:Int}{v:Value}:Pf (kv++[(to,v)]) k=(Pf kv k).or (if k=to then some v else none):=by
 induction kv with
 | nil=>simp[Pf]
 | cons p r ih =>
  rw[List.cons_append,Pf,Pf]
  by_cases e:k=p.1
  ·rw[if_pos e,if_pos e];rfl
  ·rw[if_neg e,if_neg e,ih]
theorem Yr{rm:Nat}{out:List Lk}{x:Lk}{W:World}{kv:List (Int×Value)}(h2:∀ k,Pf kv k=if Vg out k=true then some (.bool true) else none)(m:Wa V0 W rm (kv++[(x.2.1,.bool true)])):Uv rm (out++[x]) W:=by
 refine⟨_,m,fun k=>?_⟩
 rw[lookV_snoc,h2,Ed]
 by_cases e:x.2.1=k
 ·subst e;cases Vg out x.2.1<;>simp
 ·have e2:¬ k=x.2.1:=fun q=>e q.symm
  rw[decide_eq_false e,Bool.or_false,if_neg e2,Option.or_none]
structure LkM(B Bi b bx rm kb:Nat)(K:List Value)(pi:Option Addr)(ni ci:Nat)(l:List UInt8)(n:Nat)(po:Option Addr)(co:Nat)(out:List Lk)(w:World):Prop where
 hI:ImgR Bi b pi ni ci l w
 kx:Blk w bx [.pointer (some ⟨b,0,none⟩),.int .i64 (↑n:Int),.map (some rm),.slice po out.length co] 74
 ho:w.ownsRow B 76 3 (.slice po out.length co) out.length (out.flatMap lkC)
 hM:Uv rm out w
 hB:B≤w.heap.size
 hbx:B≤bx
 hrm:B≤rm
 hk:Blk w kb K 76
 hsp:∀ j,(Value.slice po out.length co).ownBlock=some j→j≠kb
theorem Qc{v v':Value}{kb:Nat}{w:World}(h:∀ j,v.ownBlock=some j→j≠kb)(ha:v'.ownBlock=v.ownBlock∨v'.ownBlock=some w.heap.size)(hk:kb<w.heap.size):∀ j,v'.ownBlock=some j→j≠kb:=fun j hj=>by
 rcases ha with ha|ha
 ·exact h j (ha.symm.trans hj)
 ·rw[ha,Option.some.injEq] at hj;omega
def Ac(B Bi b bx rm kb:Nat)(K:List Value)(pi:O0)(ni ci:Nat)(l:Bl)(n:Nat)(o:Kx)(w:World)(e:Ending)(w':World):Prop :=
 (o.2.2≠0∧∃ ty v,e=.returned (.iface ty v)∧Below B w w'∧Zf [74,76] w w'∧Jy w' (o.2.1.map some) (some o.2.2) (.iface ty v)) ∨
 (o.2.2=0∧∃ po co,e=.returned .nilIface∧Below B w w'∧Zf [74,76] w w'∧LkM B Bi b bx rm kb K pi ni ci l n po co o.1 w')
theorem Hr{B Bi b bx rm kb:Nat}{K:List Value}{pi:O0}{ni ci:Nat}{l:Bl}{n:Nat}{o:Kx}{c:List Lk}{bl:List Int}{er:Int}{w W:World}{ty:TypeId}{v:Value}(h:o=(c,bl,er))(her:er≠0)(hb:Below B w W)(hO:Zf [74,76] w W)(hv:Jy W (bl.map some) (some er) (.iface ty v)):Ac B Bi b bx rm kb K pi ni ci l n o w (.returned (.iface ty v)) W:=by
 subst h;exact .inl ⟨her,ty,v,rfl,hb,hO,hv⟩
theorem Wz{B Bi b bx rm kb:Nat}{K:List Value}{pi:O0}{ni ci:Nat}{l:Bl}{n:Nat}{o:Kx}{c:List Lk}{m:Nat}{po:O0}{co:Nat}{w W:World}(h:o=(c,[],0))(hm:c.length=m)(hb:Below B w W)(hO:Zf [74,76] w W)(hI:ImgR Bi b pi ni ci l W)(kx:Blk W bx [P0 b,V0 (n:Int),.map (some rm),.slice po m co] 74)(ho:W.ownsRow B 76 3 (.slice po m co) m (c.flatMap lkC))(hM:Uv rm c W)(hB:B≤W.heap.size)(hbx:B≤bx)(hrm:B≤rm)(hk:Blk W kb K 76)(hsp:∀ j,(Value.slice po m co).ownBlock=some j→j≠kb):Ac B Bi b bx rm kb K pi ni ci l n o w (.returned .nilIface) W:=by
 subst h hm;exact .inr ⟨rfl,po,co,rfl,hb,hO,hI,kx,ho,hM,hB,hbx,hrm,hk,hsp⟩
def Zdk(d:Nat)(B Bi b bx rm kb:Nat)(K:List Value)(pi:O0)(ni ci:Nat)(l:Bl)(n:Nat):Prop:=∀ (po:O0) (co:Nat) (out:List Lk) (fr to ak:Int) (w:World),LkM B Bi b bx rm kb K pi ni ci l n po co out w→0≤to→unt out n<d→Qn n out≤1000000000000→1≤ak→ak≤7 →
 C0 35 #[P0 bx,.agg #[V0 fr,V0 to,V0 ak]] w (Ac B Bi b bx rm kb K pi ni ci l n (Xv l n d out (fr,to,ak,0)) w)
variable {B Bi b bx rm kb:Nat} {K:List Value} {pi:Option Addr} {ni ci:Nat} {l:List UInt8} {n:Nat}
theorem linkX_err{d:Nat}{out:List Lk}{x:Lk}(hd:0<d)(h:x.2.2.2≠0):Xv l n d out x=(out,[x.1],x.2.2.2):=by
 obtain⟨d,rfl⟩:∃ e,d=e+1:=⟨d-1,by omega⟩
 exact if_pos h
theorem Zdz{d:Nat}{out:List Lk}{fr to ak:Int}(h:¬ (0≤to∧to<n)):Xv l n (d+1) out (fr,to,ak,0)=(out,[to],3):=by
 unfold Xv;rw[if_neg (fun q=>q rfl),if_pos h]
theorem Dw{d:Nat}{out:List Lk}{fr to ak:Int}(h:0≤to∧to<n)(ht:Vg out to=true):Xv l n (d+1) out (fr,to,ak,0)=(out++[(fr,to,ak,0)],[],0):=by
 unfold Xv;rw[if_neg (fun q=>q rfl),if_neg (fun q=>q h),if_pos ht]
def My(l:Bl)(n d:Nat)(out:List Lk)(no ak:Int):Kx:=if Pb l no ak≠0 then(out,[no],Pb l no ak) else Qq (Xv l n d) out (Nw l no ak)
theorem Js{d:Nat}{out:List Lk}{no ak e:Int}(he:Pb l no ak=e)(h:e≠0):My l n d out no ak=(out,[no],e):=by subst he;exact if_pos h
theorem Vm{d:Nat}{out:List Lk}{no ak:Int}(h:Pb l no ak=0):My l n d out no ak=Qq (Xv l n d) out (Nw l no ak):=if_neg (fun q=>q h)
theorem Xa{d:Nat}{out:List Lk}{fr to ak:Int}(h:0≤to∧to<n)(ht:Vg out to=false):Xv l n (d+1) out (fr,to,ak,0)=My l n d (out++[(fr,to,ak,0)]) to ak:=by
 conv=>lhs;unfold Xv
 rw[if_neg (fun q=>q rfl),if_neg (fun q=>q h),if_neg (by rw[ht];decide)]
 rfl
theorem hasJ_6(l:Bl)(no:Int):Nw l no 6=(Vz l no).map (Fh no):=if_pos rfl
theorem Ij(l:Bl)(no:Int):Nw l no 7=[]:=by unfold Nw;rw[if_neg (by decide),if_pos rfl]
theorem hasJ_n{no t:Int}(h5:t≤5):Nw l no t=Zd6 l no:=by unfold Nw;rw[if_neg (by omega),if_neg (by omega)]
theorem valK_slot{no t:Int}{leaf:Bool}{v:Bl}(h:leaf=true)(h4:t=4):Uz no t leaf v=(no,(((Yo Xj v).getD 0 0:Nat):Int),(7:Int),Yf Xj v):=if_pos ⟨h,h4⟩
theorem Zc9{no t:Int}{leaf:Bool}{v:Bl}(h:¬ (leaf=true∧t=4)):Uz no t leaf v=(no,(Jp v:Int),(if leaf then 2 else t),Ko v):=if_neg h
theorem valK_is(no t:Int)(leaf:Bool)(v:Bl):(Uz no t leaf v).1=no∧0≤(Uz no t leaf v).2.1∧(1≤t→t≤5→1≤(Uz no t leaf v).2.2.1∧(Uz no t leaf v).2.2.1≤7):=by
 unfold Uz
 split
 ·exact⟨rfl,by show(0:Int)≤((_:Nat):Int);omega,fun _ _=>⟨by show(1:Int)≤7;decide,by show(7:Int)≤7;decide⟩⟩
 ·refine⟨rfl,by show(0:Int)≤((_:Nat):Int);omega,fun h1 h5=>?_⟩
  show 1≤(if leaf then(2:Int) else t)∧(if leaf then(2:Int) else t)≤7
  split<;>omega
theorem valK_eta{no t:Int}{leaf:Bool}{v:Bl}(h:(Uz no t leaf v).2.2.2=0):(no,(Uz no t leaf v).2.1,(Uz no t leaf v).2.2.1,(0:Int))=Uz no t leaf v:=by
 have h1:=(valK_is no t leaf v).1
 generalize Uz no t leaf v=x at h h1 ⊢
 obtain⟨a,b,c,e⟩:=x
 have h:e=0:=h
 have h1:a=no:=h1
 subst h h1;rfl
theorem link_val(no t:Int)(leaf:Bool)(kp vp:O0)(kn kc vn vc:Nat)(v:Bl)(w:World)(hv:v.length≤1000) :
 C0 135 #[V0 no,.agg #[V0 t,.bool leaf,.slice kp kn kc,.slice vp vn vc],.string ⟨v.toArray⟩] w ((fun e w'=>(Pz t leaf∧e=.returned (.tuple #[.agg #[V0 0,V0 0,V0 0],V0 0,.bool false])∧B3 w w')∨(¬ Pz t leaf∧e=.returned (.tuple #[.agg #[V0 no,V0 ((Uz no t leaf v).2.1),V0 ((Uz no t leaf v).2.2.1)],V0 ((Uz no t leaf v).2.2.2),.bool true])∧B3 w w'))):=by
 refine zin 53 Tryz.func135 ?_
 refine xa 2 [V0 t,.bool leaf,.slice kp kn kc,.slice vp vn vc] 181 fun b1 W1 n1=>?_
 refine xa 0 [V0 0,V0 0,V0 0] 76 fun b2 W2 n2=>?_
 have k1:=n1.blk.below n2.below
 refine xb 8 1 k1 ?_
 refine xg 1 [15,16] leaf (fun a3=>?_) (fun a3=>?_)
 ·refine xb 1 0 k1 ?_
  refine xie 4 t (4:Int) (fun b4=>?_) (fun b4=>?_)
  ·refine xr 3 (args:=#[.string ⟨v.toArray⟩]) (Mq v _ hv) fun W5 a5=>?_
   refine xa 3 [V0 0,V0 0,V0 0] 134 fun b6 W6 n6=>?_
   refine xsv 0 n6.blk [V0 (↑((Yo Xj v).getD 0 0):Int),V0 (↑((Yo Xj v).getD 1 0):Int),V0 (↑((Yo Xj v).getD 2 0):Int)] fun W7 u7 k7=>?_
   have g6:=n6.ge (bln (bln n1.below n2.below) a5)
   refine xb 7 0 k7 ?_
   have k2:=u7.blkT ((n2.blk.below a5).below n6.below) n6.blk (by decide)
   refine xsv 2 k2 [V0 no,V0 (↑((Yo Xj v).getD 0 0):Int),V0 7] fun W8 u8 k8=>?_
   have g2:=n2.ge n1.below
   have hB:=u8.below (u7.below (bln (bln (bln n1.below n2.below) a5) n6.below) g6) g2
   exact xec 6 k8 (.tuple #[.agg #[V0 no,V0 (↑((Yo Xj v).getD 0 0):Int),V0 7],V0 (Yf Xj v),.bool true]) (.inr ⟨fun q=>q.2.2 (by omega),by rw[valK_slot (by assumption) (by omega)],hB⟩)
  refine xb 6 1 k1 ?_
  refine xgk 1 [32,33] (show(leaf:Bool)=true from a3) ?_
  refine xb 1 0 k1 ?_
  refine xin 4 t (1:Int) (fun a6=>?_) (fun a6=>?_)
  ·refine xsv 3 n2.blk [V0 0,V0 0,V0 0] fun b8 a7 b0=>?_
   have g2:=n2.ge n1.below
   have hB:=a7.below (bln n1.below n2.below) g2
   exact xec 6 b0 (.tuple #[.agg #[V0 0,V0 0,V0 0],V0 0,.bool false]) (.inl ⟨⟨by assumption,by omega,by omega⟩,rfl,hB⟩)
  refine xr 5 (args:=#[.string ⟨v.toArray⟩]) (Ml v _ hv) fun b7 a1=>?_
  have a4:=k1.below a1
  refine xb 10 0 a4 ?_
  refine xb 7 1 a4 ?_
  refine xk 2 (show(leaf:Bool)=true from a3) ?_
  have k2:=n2.blk.below a1
  refine xsv 11 k2 [V0 no,V0 (↑(Jp v):Int),V0 2] fun b9 a8 a9=>?_
  have g2:=n2.ge n1.below
  have hB:=a8.below (bln (bln n1.below n2.below) a1) g2
  exact xec 5 a9 (.tuple #[.agg #[V0 no,V0 (↑(Jp v):Int),V0 2],V0 (Ko v),.bool true]) (.inr ⟨fun q=>by obtain⟨q1,q2,q3⟩:=q;first|omega|exact absurd (q1.symm.trans (show leaf=false by assumption)) (by decide),by rw[Zc9 (fun q=>by obtain⟨q1,q2⟩:=q;first|omega|exact absurd (q1.symm.trans (show leaf=false by assumption)) (by decide))];first|(rw[if_pos (by assumption)];done)|(rw[if_pos (by assumption)];rfl)|(rw[if_neg (fun q1=>absurd (q1.symm.trans (show leaf=false by assumption)) (by decide))];done)|(rw[if_neg (fun q1=>absurd (q1.symm.trans (show leaf=false by assumption)) (by decide))];rfl),hB⟩)
 refine xb 13 1 k1 ?_
 refine xgk 1 [32,33] (show(leaf:Bool)=false from a3) ?_
 refine xr 12 (args:=#[.string ⟨v.toArray⟩]) (Ml v _ hv) fun c1 a0=>?_
 have a2:=k1.below a0
 refine xb 10 0 a2 ?_
 refine xb 7 1 a2 ?_
 refine xk 2 (show(leaf:Bool)=false from a3) ?_
 have k2:=n2.blk.below a0
 refine xsv 9 k2 [V0 no,V0 (↑(Jp v):Int),V0 t] fun c0 b5 b3=>?_
 have g2:=n2.ge n1.below
 have hB:=b5.below (bln (bln n1.below n2.below) a0) g2
 exact xec 5 b3 (.tuple #[.agg #[V0 no,V0 (↑(Jp v):Int),V0 t],V0 (Ko v),.bool true]) (.inr ⟨fun q=>by obtain⟨q1,q2,q3⟩:=q;first|omega|exact absurd (q1.symm.trans (show leaf=false by assumption)) (by decide),by rw[Zc9 (fun q=>by obtain⟨q1,q2⟩:=q;first|omega|exact absurd (q1.symm.trans (show leaf=false by assumption)) (by decide))];first|(rw[if_pos (by assumption)];done)|(rw[if_pos (by assumption)];rfl)|(rw[if_neg (fun q1=>absurd (q1.symm.trans (show leaf=false by assumption)) (by decide))];done)|(rw[if_neg (fun q1=>absurd (q1.symm.trans (show leaf=false by assumption)) (by decide))];rfl),hB⟩)
def ifQ:Option (TypeId×Value)→Value
 | none=>.nilIface
 | some q=>.iface q.1 q.2
def IdxQ(B Bi b bx rm kb:Nat)(K:List Value)(pi:O0)(ni ci:Nat)(l:Bl)(n:Nat)(d:Nat)(out:List Lk)(no:Int)(i:Nat)(q:Option (TypeId×Value))(w:World):Prop :=
 match q with
 | none=>i≤(Vz l no).length∧∃ c po co,Jo (Xv l n d) out (((Vz l no).take i).map (Fh no)) c∧LkM B Bi b bx rm kb K pi ni ci l n po co c w
 | some q=>(Qq (Xv l n d) out ((Vz l no).map (Fh no))).2.2≠0∧Jy w ((Qq (Xv l n d) out ((Vz l no).map (Fh no))).2.1.map some) (some (Qq (Xv l n d) out ((Vz l no).map (Fh no))).2.2) (.iface q.1 q.2)
theorem Ub{l:Bl}{n d:Nat}:∀ {L o:List Lk},(Qq (Xv l n d) o L).2.2=0→(Qq (Xv l n d) o L).2.1=[]
 | [],_,_=>rfl
 | y::L,o,h=>by
  rw[Yd] at h ⊢
  split
  ·rename_i q;rw[if_pos q] at h;exact absurd h q
  ·rename_i q;rw[if_neg q] at h;exact Ub h
theorem Hi(B Bi b bx rm kb:Nat)(K:List Value)(pi:O0)(ni ci:Nat)(l:Bl)(n:Nat)(d:Nat)(hA:Zdk d B Bi b bx rm kb K pi ni ci l n)(po:O0)(co:Nat)(out:List Lk)(no:Int)(w:World)(hL:LkM B Bi b bx rm kb K pi ni ci l n po co out w)(hz:unt out n<d)(hph:Qn n out≤999999999000) :
 C0 79 #[P0 bx,V0 no] w (Ac B Bi b bx rm kb K pi ni ci l n (My l n d out no 6) w):=by
 obtain⟨hI,kx,ho,hM,hBw,hbx,hrm,kk,hsp⟩:=hL
 refine zin 37 Tryz.func79 ?_
 refine xb 10 0 kx ?_
 refine xc 1 (args:=#[P0 b,V0 no]) (Zc8 Bi b pi ni ci l no _ hI) ?_
 rintro e W1 hq1
 rcases hq1 with ⟨hie,tyx,vx,rfl,hb1,hvx⟩|⟨hie,pl,cl,rfl,hb1,hs⟩
 ·refine xu 14 1 ?_
  have hB:=blB (Below.refl B w) hBw hb1
  have hO:=(show Zf [74,76] w _ from(Zf.of_below hb1))
  exact xe 26 (.iface tyx (vx)) (Hr (Js (hasE_6 l no) hie) hie hB hO hvx)
 have hs1:=Nat.le_refl w.heap.size
 have hfew:=Zbs l no
 have hI'1:=hI.below hb1
 have kx'1:=kx.below hb1
 have ho'1:=Zb ho hb1
 have hM'1:=hM.below hb1
 have hB:=blB (Below.refl B w) hBw hb1
 have kk'1:=kk.below hb1
 have hs'1:=Zd hs hs1
 have hO:=(show Zf [74,76] w _ from(Zf.of_below hb1))
 refine zl 14 37 (fun zm zkv V=>∃ (i:Nat) (q:Option (TypeId×Value)),zkv=[(0,P0 bx),(1,V0 no),(4,.nilIface),(5,.slice pl ((Vz l no).length) cl),(6,(ifQ q)),(7,V0 (i:Int))]∧zm=(Vz l no).length-((i:Int)).toNat∧Below B w V∧Zf [74,76] w V∧V.ownsRow w.heap.size 134 3 (.slice pl (Vz l no).length cl) (Vz l no).length ((Vz l no).flatMap Zf6)∧IdxQ B Bi b bx rm kb K pi ni ci l n d out no i q V∧ImgR Bi b pi ni ci l V) ⟨0,none,rfl,rfl,hB,hO,hs'1,⟨Nat.zero_le _,out,_,_,Jo.nil _ _,⟨hI'1,kx'1,ho'1,hM'1,(Nat.le_trans hBw hB.size),hbx,hrm,kk'1,hsp⟩⟩,hI'1⟩ ?_
 rintro _ _ W2 ⟨i,q,rfl,rfl,hB_2,hO_2,hs,hQ,hI⟩ J2 hJ2 r2
 rcases q with _|q
 ·obtain⟨hi,c,po,co,hf,_,kx,ho,hM,_,_,_,kk,hsp⟩:=hQ
  obtain⟨hw1,hw2⟩:=hf.well
  rw[List.length_map,List.length_take] at hw2
  have hw4:=Nat.min_le_left i (Vz l no).length
  refine xg 8 [20,21] (decide ((i:Int)<(↑((Vz l no).length):Int))) (fun hc3=>?_) (fun hc3=>?_)
  ·have hc3:=of_decide_eq_true hc3
   refine xx 15 _ ((Vz l no).length) i 3 (Sts.cell (f:=Zf6) (Ze hs) Rb (0,0,0) (k:=i) (i:=0) (by omega) rfl).1 ?_
   refine xl 1 ((Sts.cell (Ze hs) Rb (0,0,0) (k:=i) (i:=0) (by omega) rfl).2) ?_
   refine xc 1 (args:=#[P0 bx,.agg #[V0 no,V0 (↑((Vz l no).getD i (0,0,0)).1:Int),V0 7]]) (hA _ _ c no (↑((Vz l no).getD i (0,0,0)).1:Int) 7 _ ⟨hI,kx,ho,hM,(Nat.le_trans hBw hB_2.size),hbx,hrm,kk,hsp⟩ (by omega) (by omega) (by omega) (by decide) (by decide)) ?_
   rintro e W4 hq4
   rcases hq4 with ⟨hre,tyr,vr,rfl,hb4,hO4,hv9⟩|⟨hre,po2,co2,rfl,hb4,hO4,⟨_,kx2,ho,hM,_,_,_,kk2,hsp⟩⟩
   ·refine xwm 6 ((i:Int)+1) (↑(i+1):Int) ?_
    have hB'1:=hB_2.trans hb4
    have hO'1:=hO_2.trans hO4
    have hs'2:=Zj hs hO4 (by decide)
    have hI'2:=hI.only hO4 (by decide)
    exact ze 2 (hJ2 _ _ _ ⟨i+1,(some (tyr,vr)),rfl,rfl,hB'1,hO'1,hs'2,(by have e9:=hf.bad (x:=Fh no ((Vz l no).getD i (0,0,0))) hre (((Vz l no).drop (i+1)).map (Fh no));rw[←sltK_split (by omega)] at e9;exact⟨by rw[e9];exact hre,by rw[e9];exact hv9⟩),hI'2⟩ (by omega))
   refine xwm 6 ((i:Int)+1) (↑(i+1):Int) ?_
   have hI'3:=hI.only hO4 (by decide)
   have hB'2:=hB_2.trans hb4
   have hO'2:=hO_2.trans hO4
   have hs'3:=Zj hs hO4 (by decide)
   exact ze 2 (hJ2 _ _ _ ⟨i+1,none,rfl,rfl,hB'2,hO'2,hs'3,⟨by omega,_,_,_,(by have q9:=hf.next (x:=Fh no ((Vz l no).getD i (0,0,0))) hre;rwa [←Zcx (by omega)] at q9),⟨hI'3,kx2,ho,hM,(Nat.le_trans hBw hB'2.size),hbx,hrm,kk2,hsp⟩⟩,hI'3⟩ (by omega))
  have hc3:=of_decide_eq_false hc3
  refine xe 18 .nilIface ?_
  have e9:My l n d out no 6=Qq (Xv l n d) out ((Vz l no).map (Fh no)):=by rw[Vm ((hasE_6 l no).trans hie),hasJ_6]
  obtain rfl:i=(Vz l no).length:=by omega
  rw[List.take_length] at hf
  have e8:My l n d out no 6=(c,[],0):=by rw[e9];exact Prod.ext hf.2 (Prod.ext (Ub hf.1) hf.1)
  exact Wz e8 rfl hB_2 hO_2 hI kx ho hM (Nat.le_trans hBw hB_2.size) hbx hrm kk hsp
 refine xg 8 [20,21] (decide ((i:Int)<(↑((Vz l no).length):Int))) (fun hc5=>?_) (fun hc5=>?_)
 ·have hc5:=of_decide_eq_true hc5
  refine xe 18 (.iface q.1 (q.2)) ?_
  have e9:My l n d out no 6=Qq (Xv l n d) out ((Vz l no).map (Fh no)):=by rw[Vm ((hasE_6 l no).trans hie),hasJ_6]
  obtain⟨hQ1,hQ2⟩:=hQ
  exact .inl ⟨by rw[e9];exact hQ1,_,_,rfl,hB_2,hO_2,by rw[e9];exact hQ2⟩
 have hc5:=of_decide_eq_false hc5
 refine xe 18 (.iface q.1 (q.2)) ?_
 have e9:My l n d out no 6=Qq (Xv l n d) out ((Vz l no).map (Fh no)):=by rw[Vm ((hasE_6 l no).trans hie),hasJ_6]
 obtain⟨hQ1,hQ2⟩:=hQ
 exact .inl ⟨by rw[e9];exact hQ1,_,_,rfl,hB_2,hO_2,by rw[e9];exact hQ2⟩
theorem Um(B Bi b bx rm kb:Nat)(K:List Value)(pi:O0)(ni ci:Nat)(l:Bl)(n:Nat)(d:Nat)(hA:Zdk d B Bi b bx rm kb K pi ni ci l n)(po:O0)(co:Nat)(out:List Lk)(no t:Int)(w:World)(hL:LkM B Bi b bx rm kb K pi ni ci l n po co out w)(hz:unt out n<d)(hph:Qn n out≤999999999000)(ht1:1≤t)(ht5:t≤5) :
 C0 81 #[P0 bx,V0 no,V0 t] w (Ac B Bi b bx rm kb K pi ni ci l n (My l n d out no t) w):=by
 obtain⟨hI,kx,ho,hM,hBw,hbx,hrm,kk,hsp⟩:=hL
 refine zin 58 Tryz.func81 ?_
 refine xb 10 0 kx ?_
 refine xc 2 (args:=#[P0 b,V0 no,V0 t]) (block_Node Bi b pi ni ci l no t _ hI) ?_
 rintro e W1 hq1
 rcases hq1 with ⟨hie,bf,rfl,hb1,hvx⟩|⟨hie,kp,kc,vp,vc,rfl,hb1,hks,hvs⟩
 ·refine xa 3 [V0 0,.bool false,S0,S0] 181 fun b2 W2 n2=>?_
  refine xsv 0 n2.blk [V0 0,.bool false,S0,S0] fun W3 u3 k3=>?_
  have g2:=n2.ge0 (blB (Below.refl B w) hBw hb1)
  have hvx'1:=(hvx.below n2.below).only (Zf.of_upd (T:=[181]) u3 n2.blk (by decide)) (by decide)
  have hB:=u3.below (blB (blB (Below.refl B w) hBw hb1) hBw n2.below) (Nat.le_trans hBw g2)
  have hO:=(Zf.upd_new ((show Zf [74,76] w _ from(Zf.of_below hb1)).trans (Zf.of_below n2.below)) u3 g2)
  exact xe 19 (.iface 188 (P0 bf)) (Hr (Js (Zb8 ht5) hie) hie hB hO hvx'1)
 have hs1:=Nat.le_refl w.heap.size
 have hTt:=nodT_is hie ht1
 have hC18:=maxC l no t hie
 have hVl:=Za4 l no
 refine xa 3 [V0 0,.bool false,S0,S0] 181 fun b4 W4 n4=>?_
 refine xsv 0 n4.blk [V0 (Xz (inB l no)),.bool (Yi (inB l no)),.slice kp (Xi (inB l no)) kc,.slice vp (Xi (inB l no)) vc] fun W5 u5 k5=>?_
 have g4:=n4.ge0 (blB (Below.refl B w) hBw hb1)
 refine xb 17 3 k5 ?_
 have hvs'1:=u5.own2 (Zb (Zd hvs hs1) n4.below) n4.blk (by decide)
 have ho'1:=u5.own2 (Zb (Zb ho hb1) n4.below) n4.blk (by decide)
 have hM'1:=((hM.below hb1).below n4.below).updBlk u5 n4.blk
 have hI'1:=((hI.below hb1).below n4.below).only (Zf.of_upd (T:=[181]) u5 n4.blk (by decide)) (by decide)
 have hB:=u5.below (blB (blB (Below.refl B w) hBw hb1) hBw n4.below) (Nat.le_trans hBw g4)
 have hO:=(Zf.upd_new ((show Zf [74,76] w _ from(Zf.of_below hb1)).trans (Zf.of_below n4.below)) u5 g4)
 have kx'1:=u5.blkT ((kx.below hb1).below n4.below) n4.blk (by decide)
 have kk'1:=u5.blkT ((kk.below hb1).below n4.below) n4.blk (by decide)
 refine zl 5 58 (fun zm zkv V=>∃ (i:Nat) (c:List Lk) (po:O0) (co:Nat),zkv=[(0,P0 bx),(1,V0 no),(7,P0 b4),(29,.slice vp (Xi (inB l no)) vc),(30,V0 (↑(Xi (inB l no)):Int)),(31,V0 (i:Int))]∧zm=(Xi (inB l no))-((i:Int)).toNat∧Below B w V∧Zf [74,76] w V∧Blk V bx ([P0 b,V0 (n:Int),.map (some rm),.slice po c.length co]) 74∧Blk V kb K 76∧Blk V b4 ([V0 (Xz (inB l no)),.bool (Yi (inB l no)),.slice kp (Xi (inB l no)) kc,.slice vp (Xi (inB l no)) vc]) 181∧V.ownsRow w.heap.size 9 1 (.slice vp (Xi (inB l no)) vc) (Xi (inB l no)) ((Vy l no).map sv)∧V.ownsRow B 76 3 (.slice po c.length co) c.length (c.flatMap lkC)∧Uv rm c V∧ImgR Bi b pi ni ci l V∧i≤(Xi (inB l no))∧Jo (Xv l n d) out (Vp l no i) c∧((∀ j,(Value.slice po c.length co).ownBlock=some j→j≠kb))) ⟨0,out,po,co,rfl,rfl,hB,hO,kx'1,kk'1,k5,hvs'1,ho'1,hM'1,hI'1,Nat.zero_le _,(by rw[Dh];exact Jo.nil _ _),?_⟩ ?_
 ·exact hsp
 rintro _ _ W6 ⟨i,c,po,co,rfl,rfl,hB_6,hO_6,k6_bx,k6_kb,k6_b4,hvs,ho,hM,hI,hi,hf,hsp⟩ J6 hJ6 r6
 obtain⟨hw1,hw2⟩:=hf.well
 have hw4:=Zei l no i
 refine xid 6 ((i:Int)<(↑(Xi (inB l no)):Int)) (fun hc7=>?_) (fun hc7=>?_)
 ·refine xx 6 _ (Xi (inB l no)) i 1 (Strs.elem (Ze hvs) (Za4 l no) (k:=i) (by omega)).1 ?_
  refine xl 0 ((Strs.elem (Ze hvs) (Za4 l no) (k:=i) (by omega)).2) ?_
  refine xlv 6 k6_b4.rp ?_
  refine xc 1 (args:=#[V0 no,.agg #[V0 (Xz (inB l no)),.bool (Yi (inB l no)),.slice kp (Xi (inB l no)) kc,.slice vp (Xi (inB l no)) vc],.string ⟨((Vy l no).getD i []).toArray⟩]) (link_val no (Xz (inB l no)) (Yi (inB l no)) kp vp (Xi (inB l no)) kc (Xi (inB l no)) vc ((Vy l no).getD i []) _ (nodV_short l no i)) ?_
  rintro e W8 hq8
  rcases hq8 with ⟨hdd,rfl,hb8⟩|⟨hdd,rfl,hb8⟩
  ·refine xa 4 [V0 0,V0 0,V0 0] 76 fun b9 W9 n9=>?_
   have k6_kb'1:=k6_kb.below hb8
   have d9_kb:=n9.ne k6_kb'1
   have hB'1:=blB hB_6 hBw hb8
   have g9:=n9.ge0 hB'1
   have ho'2:=Zb ho hb8
   have r9_ho:=Zn ho'2 n9
   refine xsv 0 n9.blk [V0 0,V0 0,V0 0] fun W10 u10 k10=>?_
   have hI'2:=((hI.below hb8).below n9.below).only (Zf.of_upd (T:=[76]) u10 n9.blk (by decide)) (by decide)
   have k6_bx'1:=u10.blkT ((k6_bx.below hb8).below n9.below) n9.blk (by decide)
   have ho'3:=u10.own3 (Zb ho'2 n9.below) r9_ho
   have hM'2:=((hM.below hb8).below n9.below).updBlk u10 n9.blk
   have hB'2:=u10.below (blB hB'1 hBw n9.below) (Nat.le_trans hBw g9)
   have k6_kb'2:=u10.blk (k6_kb'1.below n9.below) (Ne.symm (Ne.symm d9_kb))
   have hO'1:=(Zf.upd_new ((hO_6.trans (Zf.of_below hb8)).trans (Zf.of_below n9.below)) u10 g9)
   refine xe 35 .nilIface ?_
   have e9:My l n d out no t=Qq (Xv l n d) out (Zd6 l no):=by rw[Vm ((Zb8 ht5).trans hie),hasJ_n ht5]
   have e6:Zd6 l no=Vp l no i:=by unfold Zd6 Vp;rw[if_pos hdd,if_pos hdd]
   have e8:My l n d out no t=(c,[],0):=by rw[e9,e6];exact Prod.ext hf.2 (Prod.ext (Ub hf.1) hf.1)
   exact Wz e8 rfl hB'2 hO'1 hI'2 k6_bx'1 ho'3 hM'2 (Nat.le_trans hBw hB'2.size) hbx hrm k6_kb'2 hsp
  obtain⟨hk1,hk2,hk3⟩:=valK_is no (Xz (inB l no)) (Yi (inB l no)) ((Vy l no).getD i [])
  have hk4:=hk3 (by omega) (by omega)
  refine xa 4 [V0 0,V0 0,V0 0] 76 fun b11 W11 n11=>?_
  have k6_kb'3:=k6_kb.below hb8
  have d11_kb:=n11.ne k6_kb'3
  have hB'3:=blB hB_6 hBw hb8
  have g11:=n11.ge0 hB'3
  have ho'4:=Zb ho hb8
  have r11_ho:=Zn ho'4 n11
  refine xsv 0 n11.blk [V0 no,V0 ((Uz no (Xz (inB l no)) (Yi (inB l no)) ((Vy l no).getD i [])).2.1),V0 ((Uz no (Xz (inB l no)) (Yi (inB l no)) ((Vy l no).getD i [])).2.2.1)] fun W12 u12 k12=>?_
  refine xin 11 ((Uz no (Xz (inB l no)) (Yi (inB l no)) ((Vy l no).getD i [])).2.2.2) (0:Int) (fun hc13=>?_) (fun hc13=>?_)
  ·refine xc 5 (args:=#[V0 no,.iface 50 (V0 ((Uz no (Xz (inB l no)) (Yi (inB l no)) ((Vy l no).getD i [])).2.2.2))]) (Ti no (Uz no (Xz (inB l no)) (Yi (inB l no)) ((Vy l no).getD i [])).2.2.2 [] _ _ rfl) ?_
   rintro _ W14 ⟨ty14,v14,rfl,hb14,hva⟩
   have hB'4:=blB (u12.below (blB hB'3 hBw n11.below) (Nat.le_trans hBw g11)) hBw hb14
   have hO'2:=(Zf.upd_new ((hO_6.trans (Zf.of_below hb8)).trans (Zf.of_below n11.below)) u12 g11).trans (Zf.of_below hb14)
   refine xe 10 (.iface ty14 (v14)) ?_
   have e9:My l n d out no t=Qq (Xv l n d) out (Zd6 l no):=by rw[Vm ((Zb8 ht5).trans hie),hasJ_n ht5]
   have hx1:(Uz no (Xz (inB l no)) (Yi (inB l no)) ((Vy l no).getD i [])).2.2.2≠0:=by assumption
   have e7:=linkX_err (l:=l) (n:=n) (out:=c) (by omega:0<d) hx1
   have e8:=hf.bad (by rw[e7];exact hx1) (((Vy l no).drop (i+1)).map (Uz no (Xz (inB l no)) (Yi (inB l no))))
   rw[←Tj (by omega) hdd,e7,hk1] at e8
   exact Hr (e9.trans e8) hx1 hB'4 hO'2 hva
  have hx0:(Uz no (Xz (inB l no)) (Yi (inB l no)) ((Vy l no).getD i [])).2.2.2=0:=by omega
  have hxe:=valK_eta hx0
  refine xlv 15 k12.rp ?_
  have hI'3:=((hI.below hb8).below n11.below).only (Zf.of_upd (T:=[76]) u12 n11.blk (by decide)) (by decide)
  have k6_bx'2:=u12.blkT ((k6_bx.below hb8).below n11.below) n11.blk (by decide)
  have ho'5:=u12.own3 (Zb ho'4 n11.below) r11_ho
  have hM'3:=((hM.below hb8).below n11.below).updBlk u12 n11.blk
  have hB'5:=u12.below (blB hB'3 hBw n11.below) (Nat.le_trans hBw g11)
  have k6_kb'4:=u12.blk (k6_kb'3.below n11.below) (Ne.symm (Ne.symm d11_kb))
  refine xc 0 (args:=#[P0 bx,.agg #[V0 no,V0 ((Uz no (Xz (inB l no)) (Yi (inB l no)) ((Vy l no).getD i [])).2.1),V0 ((Uz no (Xz (inB l no)) (Yi (inB l no)) ((Vy l no).getD i [])).2.2.1)]]) (hA _ _ c no (Uz no (Xz (inB l no)) (Yi (inB l no)) ((Vy l no).getD i [])).2.1 (Uz no (Xz (inB l no)) (Yi (inB l no)) ((Vy l no).getD i [])).2.2.1 _ ⟨hI'3,k6_bx'2,ho'5,hM'3,(Nat.le_trans hBw hB'5.size),hbx,hrm,k6_kb'4,hsp⟩ hk2 (by omega) (by omega) hk4.1 hk4.2) ?_
  rintro e W15 hq15
  rcases hq15 with ⟨hre,tyr,vr,rfl,hb15,hO15,hv9⟩|⟨hre,po2,co2,rfl,hb15,hO15,⟨_,kx2,ho,hM,_,_,_,kk2,hsp⟩⟩
  ·have hB'6:=hB'5.trans hb15
   have hO'3:=(Zf.upd_new ((hO_6.trans (Zf.of_below hb8)).trans (Zf.of_below n11.below)) u12 g11).trans hO15
   refine xe 22 (.iface tyr (vr)) ?_
   have e9:My l n d out no t=Qq (Xv l n d) out (Zd6 l no):=by rw[Vm ((Zb8 ht5).trans hie),hasJ_n ht5]
   have e8:=hf.bad hre (((Vy l no).drop (i+1)).map (Uz no (Xz (inB l no)) (Yi (inB l no))))
   rw[hxe,←Tj (by omega) hdd] at e8
   rw[hxe] at hre
   have hv8:=hv9
   rw[hxe] at hv8
   exact .inl ⟨by rw[e9,e8];exact hre,_,_,rfl,hB'6,hO'3,by rw[e9,e8];exact hv8⟩
  refine xwm 14 ((i:Int)+1) (↑(i+1):Int) ?_
  have hB'7:=hB'5.trans hb15
  have hO'4:=(Zf.upd_new ((hO_6.trans (Zf.of_below hb8)).trans (Zf.of_below n11.below)) u12 g11).trans hO15
  have k6_b4'1:=(u12.blkT ((k6_b4.below hb8).below n11.below) n11.blk (by decide)).only hO15 (by decide)
  have hvs'2:=Zj (u12.own2 (Zb (Zb hvs hb8) n11.below) n11.blk (by decide)) hO15 (by decide)
  have hI'4:=hI'3.only hO15 (by decide)
  exact ze 2 (hJ6 _ _ _ ⟨i+1,_,_,_,rfl,rfl,hB'7,hO'4,kx2,kk2,k6_b4'1,hvs'2,ho,hM,hI'4,by omega,(by have q9:=hf.next hre;rw[Ku (by omega) hdd];have e9:=congrArg (fun x=>Vp l no i++[x]) hxe;exact Eq.mp (congrArg (fun L=>Jo (Xv l n d) out L _) e9) q9),hsp⟩ (by omega))
 refine xe 11 .nilIface ?_
 have e9:My l n d out no t=Qq (Xv l n d) out (Zd6 l no):=by rw[Vm ((Zb8 ht5).trans hie),hasJ_n ht5]
 obtain rfl:i=(Vy l no).length:=by omega
 rw[Zc6] at hf
 have e8:My l n d out no t=(c,[],0):=by rw[e9];exact Prod.ext hf.2 (Prod.ext (Ub hf.1) hf.1)
 exact Wz e8 rfl hB_6 hO_6 hI k6_bx ho hM (Nat.le_trans hBw hB_6.size) hbx hrm k6_kb hsp
theorem link_add1(B Bi b bx rm kb:Nat)(K:List Value)(pi:O0)(ni ci:Nat)(l:Bl)(n:Nat)(d:Nat)(hA:Zdk d B Bi b bx rm kb K pi ni ci l n)(po:O0)(co:Nat)(out:List Lk)(fr to ak:Int)(w:World)(hL:LkM B Bi b bx rm kb K pi ni ci l n po co out w)(hz:unt out n<d+1)(hph:Qn n out≤1000000000000)(hto:0≤to)(h1:1≤ak)(h7:ak≤7)(ht:Vg out to=true) :
 C0 35 #[P0 bx,.agg #[V0 fr,V0 to,V0 ak]] w (Ac B Bi b bx rm kb K pi ni ci l n (Xv l n (d+1) out (fr,to,ak,0)) w):=by
 obtain⟨hI,kx,ho,hM,a0,b2,e9,kk,c2⟩:=hL
 refine zin 68 Tryz.func35 ?_
 refine xa 2 [V0 fr,V0 to,V0 ak] 76 fun b1 W1 n1=>?_
 have h2:=n1.ne kk
 have a9:=Zn ho n1
 refine xd 5 .z ?_
 have k1:=n1.blk.below (Za W1)
 refine xb (.e [0] 1) 1 k1 ?_
 have b3:=(kx.below n1.below).below (Za W1)
 refine xb (.e [2,3,4] 5) 1 b3 ?_
 refine xid (.r [6] 2) (to≥(n:Int)) (fun i8=>?_) (fun i8=>?_)
 ·refine xb 3 1 k1 ?_
  refine xc 1 (args:=#[V0 to,.iface 50 (V0 3)]) (Ti to 3 [] _ _ rfl) ?_
  rintro _ W3 ⟨i9,v3,rfl,g7,i1⟩
  have hB:=blB (blB (blB (Below.refl B w) a0 n1.below) a0 (Za W1)) a0 g7
  have hO:=((show Zf [74,76] w _ from(Zf.of_below n1.below)).trans (Zf.of_below (Za W1))).trans (Zf.of_below g7)
  exact xe 5 (.iface i9 (v3)) (Hr (Zdz (fun q=>by omega)) (by decide) hB hO i1)
 refine xd 3 (.t B [76,74]) ?_
 refine xm2 (.b [0,1,2,3]) 4 5 ?_ ?_
 ·have e2:=b3.below (Za W1.drew)
  refine xb 0 3 e2 ?_
  have c1:=k1.below (Za W1.drew)
  refine xlv (.o [] 5) c1.rp ?_
  refine xbs (.o [] 6) 1 [V0 fr,V0 to,V0 ak] 76 fun b4 W4 n4=>?_
  have e1:=((kk.below n1.below).below (Za W1)).below (Za W1.drew)
  have h3:=n4.ne e1
  have g6:=n4.ne c1
  have d8:=Zb (Zb (Zb ho n1.below) (Za W1)) (Za W1.drew)
  have h6:=Zn d8 n4
  have d1:=e1.below n4.below
  have d9:=(d1).lt
  have a5:=Zb d8 n4.below
  have hB:=blB (blB (blB (blB (Below.refl B w) a0 n1.below) a0 (Za W1)) a0 (Za W1.drew)) a0 n4.below
  refine ybi (.o [] 7) (.t B [76,74]) fun _ _ _ _ zJ zQ zo zx zy zK=>Kj (b:=b4) (c:=1) (m:=1) (news:=[V0 fr,V0 to,V0 ak]) (.agg #[V0 0,V0 0,V0 0]) 3 24 ((out++[(fr,to,ak,0)]).length) (((out++[(fr,to,ak,0)]).flatMap lkC)) zo Tryz.underlying26 (by kernel_rfl) rfl (by decide) zx a5 zy n4.blk rfl (by simp[Value.oneCell']) (by unfold maxLen;unfold Qn at hph;omega) (by unfold Qn at hph;omega) (Nat.le_trans a0 hB.size) (by simp) (by rw[List.flatMap_append];rfl) fun i0 i5 W5 o5 b9 h0 i3=>?_
  refine zK _ _ (Zx h0 b9 a5 (by decide)) ?_
  have a2:=(e2.below n4.below).grown b9 a5 (by decide)
  refine ys (.o [8,9] 10) a2 [P0 b,V0 (n:Int),.map (some rm),.slice i0 ((out++[(fr,to,ak,0)]).length) i5] (.t B [76,74]) fun W6 u6 k6=>⟨(Zl u6 a2 b2 (by decide)),?_⟩
  refine xd 4 .z ?_
  have d2:=k6.below (Za W6)
  refine xb (.e [0,1,2] 3) 2 d2 ?_
  have f3:=(u6.blkT ((c1.below n4.below).grown3 b9 a9) a2 (by decide)).below (Za W6)
  refine xb (.e [4] 5) 1 f3 ?_
  have d3:=((((((hM.below n1.below).below (Za W1)).below (Za W1.drew)).below n4.below).grown b9 a5).updBlk u6 a2).below (Za W6)
  obtain⟨kv,hm,e3⟩:=id (d3)
  refine xlkS (.o [] 6) to false Tryz.underlying72 (keyI Tryz.underlying3) hm (by rw[e3,ht];rfl) ?_
  have f8:=((((((hI.below n1.below).below (Za W1)).below (Za W1.drew)).below n4.below).only (Zf.of_grown (T:=[76]) b9 a5 (by decide)) (by decide)).only (Zf.of_upd (T:=[74]) u6 a2 (by decide)) (by decide)).below (Za W6)
  have g2:=Zb (u6.own2 o5 a2 (by decide)) (Za W6)
  have c4:=blB (u6.below (hB.trans h0) b2) a0 (Za W6)
  have g3:=(u6.blkT (d1.grown3 b9 c2) a2 (by decide)).below (Za W6)
  have hO:=((((((show Zf [74,76] w _ from(Zf.of_below n1.below)).trans (Zf.of_below (Za W1))).trans (Zf.of_below (Za W1.drew))).trans (Zf.of_below n4.below)).trans (Zf.of_grown b9 a5 (by decide))).trans (Zf.of_upd u6 a2 (by decide))).trans (Zf.of_below (Za W6))
  exact xe 10 .nilIface (Wz (Dw (by omega) ht) rfl c4 hO f8 d2 g2 (Uv.told (x:=(fr,to,ak,0)) d3 ht) (Nat.le_trans a0 c4.size) b2 e9 g3 (Qc c2 i3 d9))
 have b0:=k1.below (Za W1.drew)
 refine xlv 0 b0.rp ?_
 refine xm2 0 4 6 ?_ ?_
 ·have d6:=b3.below (Za W1.drew)
  refine xb 0 3 d6 ?_
  refine xbs (.o [] 6) 1 [V0 fr,V0 to,V0 ak] 76 fun b7 W7 n7=>?_
  have c7:=((kk.below n1.below).below (Za W1)).below (Za W1.drew)
  have g9:=n7.ne c7
  have g8:=n7.ne b0
  have d7:=Zb (Zb (Zb ho n1.below) (Za W1)) (Za W1.drew)
  have h4:=Zn d7 n7
  have e6:=c7.below n7.below
  have d9:=(e6).lt
  have a7:=Zb d7 n7.below
  have hB:=blB (blB (blB (blB (Below.refl B w) a0 n1.below) a0 (Za W1)) a0 (Za W1.drew)) a0 n7.below
  refine ybi (.o [] 7) (.t B [76,74]) fun _ _ _ _ zJ zQ zo zx zy zK=>Kj (b:=b7) (c:=1) (m:=1) (news:=[V0 fr,V0 to,V0 ak]) (.agg #[V0 0,V0 0,V0 0]) 3 24 ((out++[(fr,to,ak,0)]).length) (((out++[(fr,to,ak,0)]).flatMap lkC)) zo Tryz.underlying26 (by kernel_rfl) rfl (by decide) zx a7 zy n7.blk rfl (by simp[Value.oneCell']) (by unfold maxLen;unfold Qn at hph;omega) (by unfold Qn at hph;omega) (Nat.le_trans a0 hB.size) (by simp) (by rw[List.flatMap_append];rfl) fun h9 h8 W8 o8 c0 h5 i6=>?_
  refine zK _ _ (Zx h5 c0 a7 (by decide)) ?_
  have a1:=(d6.below n7.below).grown c0 a7 (by decide)
  refine ys (.o [8,9] 10) a1 [P0 b,V0 (n:Int),.map (some rm),.slice h9 ((out++[(fr,to,ak,0)]).length) h8] (.t B [76,74]) fun W9 u9 k9=>⟨(Zl u9 a1 b2 (by decide)),?_⟩
  refine xd 4 .z ?_
  have c5:=k9.below (Za W9)
  refine xb (.e [0,1,2] 3) 2 c5 ?_
  have f0:=(u9.blkT ((b0.below n7.below).grown3 c0 a9) a1 (by decide)).below (Za W9)
  refine xb (.e [4] 5) 1 f0 ?_
  have c3:=((((((hM.below n1.below).below (Za W1)).below (Za W1.drew)).below n7.below).grown c0 a7).updBlk u9 a1).below (Za W9)
  obtain⟨kv,hm,e3⟩:=id (c3)
  refine xlkS (.o [] 6) to false Tryz.underlying72 (keyI Tryz.underlying3) hm (by rw[e3,ht];rfl) ?_
  have g1:=((((((hI.below n1.below).below (Za W1)).below (Za W1.drew)).below n7.below).only (Zf.of_grown (T:=[76]) c0 a7 (by decide)) (by decide)).only (Zf.of_upd (T:=[74]) u9 a1 (by decide)) (by decide)).below (Za W9)
  have g5:=Zb (u9.own2 o8 a1 (by decide)) (Za W9)
  have e4:=blB (u9.below (hB.trans h5) b2) a0 (Za W9)
  have g0:=(u9.blkT (e6.grown3 c0 c2) a1 (by decide)).below (Za W9)
  have hO:=((((((show Zf [74,76] w _ from(Zf.of_below n1.below)).trans (Zf.of_below (Za W1))).trans (Zf.of_below (Za W1.drew))).trans (Zf.of_below n7.below)).trans (Zf.of_grown c0 a7 (by decide))).trans (Zf.of_upd u9 a1 (by decide))).trans (Zf.of_below (Za W9))
  exact xe 10 .nilIface (Wz (Dw (by omega) ht) rfl e4 hO g1 c5 g5 (Uv.told (x:=(fr,to,ak,0)) c3 ht) (Nat.le_trans a0 e4.size) b2 e9 g0 (Qc c2 i6 d9))
 refine xbs 0 1 [V0 fr,V0 to,V0 ak] 76 fun i4 j0 a8=>?_
 have c8:=((kk.below n1.below).below (Za W1)).below (Za W1.drew)
 have f4:=a8.ne c8
 have f1:=a8.ne b0
 have d4:=Zb (Zb (Zb ho n1.below) (Za W1)) (Za W1.drew)
 have f5:=Zn d4 a8
 have c9:=(b3.below (Za W1.drew)).below a8.below
 refine xb (.o [] 4) 3 c9 ?_
 have d5:=c8.below a8.below
 have d9:=(d5).lt
 have a6:=Zb d4 a8.below
 have hB:=blB (blB (blB (blB (Below.refl B w) a0 n1.below) a0 (Za W1)) a0 (Za W1.drew)) a0 a8.below
 refine ybi (.o [] 7) (.t B [76,74]) fun _ _ _ _ zJ zQ zo zx zy zK=>Kj (b:=i4) (c:=1) (m:=1) (news:=[V0 fr,V0 to,V0 ak]) (.agg #[V0 0,V0 0,V0 0]) 3 24 ((out++[(fr,to,ak,0)]).length) (((out++[(fr,to,ak,0)]).flatMap lkC)) zo Tryz.underlying26 (by kernel_rfl) rfl (by decide) zx a6 zy a8.blk rfl (by simp[Value.oneCell']) (by unfold maxLen;unfold Qn at hph;omega) (by unfold Qn at hph;omega) (Nat.le_trans a0 hB.size) (by simp) (by rw[List.flatMap_append];rfl) fun f6 e7 j1 i7 a4 e5 e8=>?_
 refine zK _ _ (Zx e5 a4 a6 (by decide)) ?_
 have a3:=c9.grown a4 a6 (by decide)
 refine ys (.o [8,9] 10) a3 [P0 b,V0 (n:Int),.map (some rm),.slice f6 ((out++[(fr,to,ak,0)]).length) e7] (.t B [76,74]) fun b6 b5 i2=>⟨(Zl b5 a3 b2 (by decide)),?_⟩
 refine xd 4 .z ?_
 have b8:=i2.below (Za b6)
 refine xb (.e [0,1,2] 3) 2 b8 ?_
 have f9:=(b5.blkT ((b0.below a8.below).grown3 a4 a9) a3 (by decide)).below (Za b6)
 refine xb (.e [4] 5) 1 f9 ?_
 have d0:=((((((hM.below n1.below).below (Za W1)).below (Za W1.drew)).below a8.below).grown a4 a6).updBlk b5 a3).below (Za b6)
 obtain⟨kv,hm,e3⟩:=id (d0)
 refine xlkS (.o [] 6) to false Tryz.underlying72 (keyI Tryz.underlying3) hm (by rw[e3,ht];rfl) ?_
 have f2:=((((((hI.below n1.below).below (Za W1)).below (Za W1.drew)).below a8.below).only (Zf.of_grown (T:=[76]) a4 a6 (by decide)) (by decide)).only (Zf.of_upd (T:=[74]) b5 a3 (by decide)) (by decide)).below (Za b6)
 have e0:=Zb (b5.own2 i7 a3 (by decide)) (Za b6)
 have c6:=blB (b5.below (hB.trans e5) b2) a0 (Za b6)
 have f7:=(b5.blkT (d5.grown3 a4 c2) a3 (by decide)).below (Za b6)
 have hO:=((((((show Zf [74,76] w _ from(Zf.of_below n1.below)).trans (Zf.of_below (Za W1))).trans (Zf.of_below (Za W1.drew))).trans (Zf.of_below a8.below)).trans (Zf.of_grown a4 a6 (by decide))).trans (Zf.of_upd b5 a3 (by decide))).trans (Zf.of_below (Za b6))
 exact xe 10 .nilIface (Wz (Dw (by omega) ht) rfl c6 hO f2 b8 e0 (Uv.told (x:=(fr,to,ak,0)) d0 ht) (Nat.le_trans a0 c6.size) b2 e9 f7 (Qc c2 e8 d9))
theorem link_add2(B Bi b bx rm kb:Nat)(K:List Value)(pi:O0)(ni ci:Nat)(l:Bl)(n:Nat)(d:Nat)(hA:Zdk d B Bi b bx rm kb K pi ni ci l n)(po:O0)(co:Nat)(out:List Lk)(fr to ak:Int)(w:World)(hL:LkM B Bi b bx rm kb K pi ni ci l n po co out w)(hz:unt out n<d+1)(hph:Qn n out≤1000000000000)(hto:0≤to)(h1:1≤ak)(h7:ak≤7)(ht:Vg out to=false) :
 C0 35 #[P0 bx,.agg #[V0 fr,V0 to,V0 ak]] w (Ac B Bi b bx rm kb K pi ni ci l n (Xv l n (d+1) out (fr,to,ak,0)) w):=by
 obtain⟨hI,kx,ho,hM,a0,a9,a3,kk,a4⟩:=hL
 refine zin 68 Tryz.func35 ?_
 refine xa 2 [V0 fr,V0 to,V0 ak] 76 fun b1 W1 n1=>?_
 have ee:=n1.ne kk
 have j7:=Zn ho n1
 refine xd 5 .z ?_
 have k1:=n1.blk.below (Za W1)
 refine xb (.e [0] 1) 1 k1 ?_
 have l0:=(kx.below n1.below).below (Za W1)
 refine xb (.e [2,3,4] 5) 1 l0 ?_
 refine xid (.r [6] 2) (to≥(n:Int)) (fun eo=>?_) (fun eo=>?_)
 · refine xb 3 1 k1 ?_
   refine xc 1 (args:=#[V0 to,.iface 50 (V0 3)]) (Ti to 3 [] _ _ rfl) ?_
   rintro _ W3 ⟨el,v3,rfl,ec,ek⟩
   have hB:=blB (blB (blB (Below.refl B w) a0 n1.below) a0 (Za W1)) a0 ec
   have hO:=((show Zf [74,76] w _ from(Zf.of_below n1.below)).trans (Zf.of_below (Za W1))).trans (Zf.of_below ec)
   exact xe 5 (.iface el (v3)) (Hr (Zdz (fun q=>by omega)) (by decide) hB hO ek)
 refine xd 3 (.t B [76,74]) ?_
 refine xm2 (.b [0,1,2,3]) 4 5 ?_ ?_
 · have w0:=l0.below (Za W1.drew)
   refine xb 0 3 w0 ?_
   have r9:=k1.below (Za W1.drew)
   refine xlv (.o [] 5) r9.rp ?_
   refine xbs (.o [] 6) 1 [V0 fr,V0 to,V0 ak] 76 fun b4 W4 n4=>?_
   have v6:=((kk.below n1.below).below (Za W1)).below (Za W1.drew)
   have eb:=n4.ne v6
   have ed:=n4.ne r9
   have v4:=Zb (Zb (Zb ho n1.below) (Za W1)) (Za W1.drew)
   have ea:=Zn v4 n4
   have f8:=v6.below n4.below
   have e8:=(f8).lt
   have b6:=Zb v4 n4.below
   have hB:=blB (blB (blB (blB (Below.refl B w) a0 n1.below) a0 (Za W1)) a0 (Za W1.drew)) a0 n4.below
   refine ybi (.o [] 7) (.t B [76,74]) fun _ _ _ _ zJ zQ zo zx zy zK=>Kj (b:=b4) (c:=1) (m:=1) (news:=[V0 fr,V0 to,V0 ak]) (.agg #[V0 0,V0 0,V0 0]) 3 24 ((out++[(fr,to,ak,0)]).length) (((out++[(fr,to,ak,0)]).flatMap lkC)) zo Tryz.underlying26 (by kernel_rfl) rfl (by decide) zx b6 zy n4.blk rfl (by simp[Value.oneCell']) (by unfold maxLen;unfold Qn at hph;omega) (by unfold Qn at hph;omega) (Nat.le_trans a0 hB.size) (by simp) (by rw[List.flatMap_append];rfl) fun ej em W5 o5 d3 m0 u0=>?_
   refine zK _ _ (Zx m0 d3 b6 (by decide)) ?_
   have b0:=(w0.below n4.below).grown d3 b6 (by decide)
   refine ys (.o [8,9] 10) b0 [P0 b,V0 (n:Int),.map (some rm),.slice ej ((out++[(fr,to,ak,0)]).length) em] (.t B [76,74]) fun W6 u6 k6=>⟨(Zl u6 b0 a9 (by decide)),?_⟩
   refine xd 4 .z ?_
   have s8:=k6.below (Za W6)
   refine xb (.e [0,1,2] 3) 2 s8 ?_
   have s0:=(u6.blkT ((r9.below n4.below).grown3 d3 j7) b0 (by decide)).below (Za W6)
   refine xb (.e [4] 5) 1 s0 ?_
   have t3:=((((((hM.below n1.below).below (Za W1)).below (Za W1.drew)).below n4.below).grown d3 b6).updBlk u6 b0).below (Za W6)
   obtain⟨kv,hm,z6⟩:=id (t3)
   refine xlkN (.o [] 6) (z:=.bool false) to false Tryz.underlying72 (keyI Tryz.underlying3) (fun V=>by kernel_rfl) hm (by rw[z6,ht];rfl) ?_
   refine xd 6 (.t B [74,76]) ?_
   refine xm2 (.b [0,1,2,4]) 3 5 ?_ ?_
   · have m3 := s8.below (Za W6.drew)
     refine xb 0 2 m3 ?_
     have al:=s0.below (Za W6.drew)
     refine xb (.o [] 5) 1 al ?_
     have az:=t3.below (Za W6.drew)
     obtain⟨u3,f3,b2⟩:=id (az)
     have f0:=Wa.obj f3
     refine ymuV (.o [] 6) to (.bool true) (.t B [74,76]) Tryz.underlying72 (keyI Tryz.underlying3) f3 (by rw[b2,ht];rfl) fun W7 u7 m7=>⟨Dz f0 u7 a3,?_⟩
     have i5:=Xf al f0 u7
     refine xb 6 2 i5 ?_
     refine xie 9 ak (6:Int) (fun eg=>?_) (fun eg=>?_)
     · refine xb 4 1 i5 ?_
       have y9:=((((((((hI.below n1.below).below (Za W1)).below (Za W1.drew)).below n4.below).only (Zf.of_grown (T:=[76]) d3 b6 (by decide)) (by decide)).only (Zf.of_upd (T:=[74]) u6 b0 (by decide)) (by decide)).below (Za W6)).below (Za W6.drew)).only (Zo (T:=[]) f0 u7) (by decide)
       have ch:=Xf m3 f0 u7
       have dt:=Qy (Zb (Zb (u6.own2 o5 b0 (by decide)) (Za W6)) (Za W6.drew)) f0 u7
       have hM:=(Yr (x:=(fr,to,ak,0)) b2 m7)
       have t0:=u7.below (blB (blB (u6.below (hB.trans m0) a9) a0 (Za W6)) a0 (Za W6.drew)) a3
       have dv:=Xf (((u6.blkT (f8.grown3 d3 a4) b0 (by decide)).below (Za W6)).below (Za W6.drew)) f0 u7
       have j1:=Vc (x:=(fr,to,ak,0)) (n:=n) (out:=out) ⟨hto,(show to<(n:Int) from by omega)⟩ ht
       have j4:Qn n (out++[(fr,to,ak,0)])≤999999999000:=by unfold Qn at hph ⊢;rw[List.length_append,List.length_singleton];omega
       refine xc 0 (args:=#[P0 bx,V0 to]) (Hi B Bi b bx rm kb K pi ni ci l n d hA _ _ (out++[(fr,to,ak,0)]) to _ ⟨y9,ch,dt,hM,(Nat.le_trans a0 t0.size),a9,a3,dv,(Qc a4 u0 e8)⟩ (by omega) (by omega)) ?_
       rintro e W9 ei
       rcases ei with ⟨a5,e7,vr,rfl,ca,ax,c7⟩|⟨a5,j8,h8,rfl,ca,ax,⟨_,c6,c9,hM,_,_,_,c8,a4⟩⟩
       · have w4:=t0.trans ca
         have hO:=(((((((((show Zf [74,76] w _ from(Zf.of_below n1.below)).trans (Zf.of_below (Za W1))).trans (Zf.of_below (Za W1.drew))).trans (Zf.of_below n4.below)).trans (Zf.of_grown d3 b6 (by decide))).trans (Zf.of_upd u6 b0 (by decide))).trans (Zf.of_below (Za W6))).trans (Zf.of_below (Za W6.drew))).trans (Zo f0 u7)).trans ax
         refine xe 6 (.iface e7 (vr)) ?_
         have e9:=Xa (l:=l) (n:=n) (d:=d) (fr:=fr) (ak:=ak) (to:=to) (out:=out) (by omega) ht
         first|(have a6:ak=6:=by omega
                  subst a6
                  exact .inl ⟨by rw[e9];exact a5,_,_,rfl,w4,hO,by rw[e9];exact c7⟩)|exact .inl ⟨by rw[e9];exact a5,_,_,rfl,w4,hO,by rw[e9];exact c7⟩
       have x9:=y9.only ax (by decide)
       have l3:=t0.trans ca
       have hO:=(((((((((show Zf [74,76] w _ from(Zf.of_below n1.below)).trans (Zf.of_below (Za W1))).trans (Zf.of_below (Za W1.drew))).trans (Zf.of_below n4.below)).trans (Zf.of_grown d3 b6 (by decide))).trans (Zf.of_upd u6 b0 (by decide))).trans (Zf.of_below (Za W6))).trans (Zf.of_below (Za W6.drew))).trans (Zo f0 u7)).trans ax
       refine xe 6 .nilIface ?_
       have e9:=Xa (l:=l) (n:=n) (d:=d) (fr:=fr) (ak:=ak) (to:=to) (out:=out) (by omega) ht
       first|(have a6:ak=6:=by omega
                subst a6
                exact .inr ⟨by rw[e9];exact a5,_,_,rfl,l3,hO,by rw[e9];exact⟨x9,c6,c9,hM,(Nat.le_trans a0 l3.size),a9,a3,c8,a4⟩⟩)|exact .inr ⟨by rw[e9];exact a5,_,_,rfl,l3,hO,by rw[e9];exact⟨x9,c6,c9,hM,(Nat.le_trans a0 l3.size),a9,a3,c8,a4⟩⟩
     refine xie 6 ak (7:Int) (fun dd=>?_) (fun dd=>?_)
     · refine xd 1 .z ?_
       have w7:=(Xf m3 f0 u7).below (Za W7)
       refine xb (.e [0,1,2] 3) 0 w7 ?_
       have dq:=i5.below (Za W7)
       refine xb (.e [4] 5) 1 dq ?_
       have y7:=(((((((((hI.below n1.below).below (Za W1)).below (Za W1.drew)).below n4.below).only (Zf.of_grown (T:=[76]) d3 b6 (by decide)) (by decide)).only (Zf.of_upd (T:=[74]) u6 b0 (by decide)) (by decide)).below (Za W6)).below (Za W6.drew)).only (Zo (T:=[]) f0 u7) (by decide)).below (Za W7)
       refine yc (.o [] 6) (args:=#[P0 b,V0 to]) .z (Kt Bi b pi ni ci l to _ y7) ?_
       rintro e eq cc
       rcases cc with ⟨d0,i0,vx,rfl,d9,j2⟩|⟨d0,pl,cl,rfl,d9,hs⟩
       · refine⟨d9,?_⟩
         have cq:=blB (blB (u7.below (blB (blB (u6.below (hB.trans m0) a9) a0 (Za W6)) a0 (Za W6.drew)) a3) a0 (Za W7)) a0 d9
         have hO:=((((((((((show Zf [74,76] w _ from(Zf.of_below n1.below)).trans (Zf.of_below (Za W1))).trans (Zf.of_below (Za W1.drew))).trans (Zf.of_below n4.below)).trans (Zf.of_grown d3 b6 (by decide))).trans (Zf.of_upd u6 b0 (by decide))).trans (Zf.of_below (Za W6))).trans (Zf.of_below (Za W6.drew))).trans (Zo f0 u7)).trans (Zf.of_below (Za W7))).trans (Zf.of_below d9)
         refine xe (.r [7,8,9,10,11] 11) (.iface i0 (vx)) ?_
         have e9:=Xa (l:=l) (n:=n) (d:=d) (fr:=fr) (ak:=ak) (to:=to) (out:=out) (by omega) ht
         have a6:ak=7:=by omega
         subst a6
         rw[Js (Wx l to) d0] at e9
         exact Hr e9 d0 cq hO j2
       refine⟨d9,?_⟩
       have bc:=y7.below d9
       have bb:=w7.below d9
       have ds:=Zb (Zb (Qy (Zb (Zb (u6.own2 o5 b0 (by decide)) (Za W6)) (Za W6.drew)) f0 u7) (Za W7)) d9
       have hM:=((Yr (x:=(fr,to,ak,0)) b2 m7).below (Za W7)).below d9
       have w3:=blB (blB (u7.below (blB (blB (u6.below (hB.trans m0) a9) a0 (Za W6)) a0 (Za W6.drew)) a3) a0 (Za W7)) a0 d9
       have bf:=((Xf (((u6.blkT (f8.grown3 d3 a4) b0 (by decide)).below (Za W6)).below (Za W6.drew)) f0 u7).below (Za W7)).below d9
       have hO:=((((((((((show Zf [74,76] w _ from(Zf.of_below n1.below)).trans (Zf.of_below (Za W1))).trans (Zf.of_below (Za W1.drew))).trans (Zf.of_below n4.below)).trans (Zf.of_grown d3 b6 (by decide))).trans (Zf.of_upd u6 b0 (by decide))).trans (Zf.of_below (Za W6))).trans (Zf.of_below (Za W6.drew))).trans (Zo f0 u7)).trans (Zf.of_below (Za W7))).trans (Zf.of_below d9)
       refine xe (.r [7,8,9,10,11] 11) .nilIface ?_
       have e9:=Xa (l:=l) (n:=n) (d:=d) (fr:=fr) (ak:=ak) (to:=to) (out:=out) (by omega) ht
       have a6:ak=7:=by omega
       subst a6
       rw[Vm ((Wx l to).trans d0),Ij,Uq] at e9
       exact Wz e9 rfl w3 hO bc bb ds hM (Nat.le_trans a0 w3.size) a9 a3 bf (Qc a4 u0 e8)
     refine xb 7 1 i5 ?_
     refine xb 1 2 i5 ?_
     have u2:=((((((((hI.below n1.below).below (Za W1)).below (Za W1.drew)).below n4.below).only (Zf.of_grown (T:=[76]) d3 b6 (by decide)) (by decide)).only (Zf.of_upd (T:=[74]) u6 b0 (by decide)) (by decide)).below (Za W6)).below (Za W6.drew)).only (Zo (T:=[]) f0 u7) (by decide)
     have cj:=Xf m3 f0 u7
     have bl:=Qy (Zb (Zb (u6.own2 o5 b0 (by decide)) (Za W6)) (Za W6.drew)) f0 u7
     have hM:=(Yr (x:=(fr,to,ak,0)) b2 m7)
     have s5:=u7.below (blB (blB (u6.below (hB.trans m0) a9) a0 (Za W6)) a0 (Za W6.drew)) a3
     have bz:=Xf (((u6.blkT (f8.grown3 d3 a4) b0 (by decide)).below (Za W6)).below (Za W6.drew)) f0 u7
     have j1:=Vc (x:=(fr,to,ak,0)) (n:=n) (out:=out) ⟨hto,(show to<(n:Int) from by omega)⟩ ht
     have j4:Qn n (out++[(fr,to,ak,0)])≤999999999000:=by unfold Qn at hph ⊢;rw[List.length_append,List.length_singleton];omega
     refine xc 0 (args:=#[P0 bx,V0 to,V0 ak]) (Um B Bi b bx rm kb K pi ni ci l n d hA _ _ (out++[(fr,to,ak,0)]) to ak _ ⟨u2,cj,bl,hM,(Nat.le_trans a0 s5.size),a9,a3,bz,(Qc a4 u0 e8)⟩ (by omega) (by omega) h1 (by omega)) ?_
     rintro e ex db
     rcases db with ⟨a5,e7,vr,rfl,s3,k8,c7⟩|⟨a5,j8,h8,rfl,s3,k8,⟨_,c6,c9,hM,_,_,_,c8,a4⟩⟩
     · have aq:=s5.trans s3
       have hO:=(((((((((show Zf [74,76] w _ from(Zf.of_below n1.below)).trans (Zf.of_below (Za W1))).trans (Zf.of_below (Za W1.drew))).trans (Zf.of_below n4.below)).trans (Zf.of_grown d3 b6 (by decide))).trans (Zf.of_upd u6 b0 (by decide))).trans (Zf.of_below (Za W6))).trans (Zf.of_below (Za W6.drew))).trans (Zo f0 u7)).trans k8
       refine xe 4 (.iface e7 (vr)) ?_
       have e9:=Xa (l:=l) (n:=n) (d:=d) (fr:=fr) (ak:=ak) (to:=to) (out:=out) (by omega) ht
       first|(have a6:ak=6:=by omega
                subst a6
                exact .inl ⟨by rw[e9];exact a5,_,_,rfl,aq,hO,by rw[e9];exact c7⟩)|exact .inl ⟨by rw[e9];exact a5,_,_,rfl,aq,hO,by rw[e9];exact c7⟩
     have z9:=u2.only k8 (by decide)
     have l8:=s5.trans s3
     have hO:=(((((((((show Zf [74,76] w _ from(Zf.of_below n1.below)).trans (Zf.of_below (Za W1))).trans (Zf.of_below (Za W1.drew))).trans (Zf.of_below n4.below)).trans (Zf.of_grown d3 b6 (by decide))).trans (Zf.of_upd u6 b0 (by decide))).trans (Zf.of_below (Za W6))).trans (Zf.of_below (Za W6.drew))).trans (Zo f0 u7)).trans k8
     refine xe 4 .nilIface ?_
     have e9:=Xa (l:=l) (n:=n) (d:=d) (fr:=fr) (ak:=ak) (to:=to) (out:=out) (by omega) ht
     first|(have a6:ak=6:=by omega
              subst a6
              exact .inr ⟨by rw[e9];exact a5,_,_,rfl,l8,hO,by rw[e9];exact⟨z9,c6,c9,hM,(Nat.le_trans a0 l8.size),a9,a3,c8,a4⟩⟩)|exact .inr ⟨by rw[e9];exact a5,_,_,rfl,l8,hO,by rw[e9];exact⟨z9,c6,c9,hM,(Nat.le_trans a0 l8.size),a9,a3,c8,a4⟩⟩
   have y2:=s0.below (Za W6.drew)
   refine xb 0 1 y2 ?_
   have k9:=s8.below (Za W6.drew)
   refine xb (.o [] 3) 2 k9 ?_
   have cv:=t3.below (Za W6.drew)
   obtain⟨u3,f3,b2⟩:=id (cv)
   have c5:=Wa.obj f3
   refine ymuV (.o [] 6) to (.bool true) (.t B [74,76]) Tryz.underlying72 (keyI Tryz.underlying3) f3 (by rw[b2,ht];rfl) fun k3 e0 ba=>⟨Dz c5 e0 a3,?_⟩
   have i9:=Xf y2 c5 e0
   refine xb 6 2 i9 ?_
   refine xie 9 ak (6:Int) (fun cx=>?_) (fun cx=>?_)
   · refine xb 4 1 i9 ?_
     have ap:=((((((((hI.below n1.below).below (Za W1)).below (Za W1.drew)).below n4.below).only (Zf.of_grown (T:=[76]) d3 b6 (by decide)) (by decide)).only (Zf.of_upd (T:=[74]) u6 b0 (by decide)) (by decide)).below (Za W6)).below (Za W6.drew)).only (Zo (T:=[]) c5 e0) (by decide)
     have bw:=Xf k9 c5 e0
     have cp:=Qy (Zb (Zb (u6.own2 o5 b0 (by decide)) (Za W6)) (Za W6.drew)) c5 e0
     have hM:=(Yr (x:=(fr,to,ak,0)) b2 ba)
     have s9:=e0.below (blB (blB (u6.below (hB.trans m0) a9) a0 (Za W6)) a0 (Za W6.drew)) a3
     have dr:=Xf (((u6.blkT (f8.grown3 d3 a4) b0 (by decide)).below (Za W6)).below (Za W6.drew)) c5 e0
     have j1:=Vc (x:=(fr,to,ak,0)) (n:=n) (out:=out) ⟨hto,(show to<(n:Int) from by omega)⟩ ht
     have j4:Qn n (out++[(fr,to,ak,0)])≤999999999000:=by unfold Qn at hph ⊢;rw[List.length_append,List.length_singleton];omega
     refine xc 0 (args:=#[P0 bx,V0 to]) (Hi B Bi b bx rm kb K pi ni ci l n d hA _ _ (out++[(fr,to,ak,0)]) to _ ⟨ap,bw,cp,hM,(Nat.le_trans a0 s9.size),a9,a3,dr,(Qc a4 u0 e8)⟩ (by omega) (by omega)) ?_
     rintro e fc bm
     rcases bm with ⟨a5,e7,vr,rfl,s6,l5,c7⟩|⟨a5,j8,h8,rfl,s6,l5,⟨_,c6,c9,hM,_,_,_,c8,a4⟩⟩
     · have m6:=s9.trans s6
       have hO:=(((((((((show Zf [74,76] w _ from(Zf.of_below n1.below)).trans (Zf.of_below (Za W1))).trans (Zf.of_below (Za W1.drew))).trans (Zf.of_below n4.below)).trans (Zf.of_grown d3 b6 (by decide))).trans (Zf.of_upd u6 b0 (by decide))).trans (Zf.of_below (Za W6))).trans (Zf.of_below (Za W6.drew))).trans (Zo c5 e0)).trans l5
       refine xe 6 (.iface e7 (vr)) ?_
       have e9:=Xa (l:=l) (n:=n) (d:=d) (fr:=fr) (ak:=ak) (to:=to) (out:=out) (by omega) ht
       first|(have a6:ak=6:=by omega
                subst a6
                exact .inl ⟨by rw[e9];exact a5,_,_,rfl,m6,hO,by rw[e9];exact c7⟩)|exact .inl ⟨by rw[e9];exact a5,_,_,rfl,m6,hO,by rw[e9];exact c7⟩
     have ad:=ap.only l5 (by decide)
     have g2:=s9.trans s6
     have hO:=(((((((((show Zf [74,76] w _ from(Zf.of_below n1.below)).trans (Zf.of_below (Za W1))).trans (Zf.of_below (Za W1.drew))).trans (Zf.of_below n4.below)).trans (Zf.of_grown d3 b6 (by decide))).trans (Zf.of_upd u6 b0 (by decide))).trans (Zf.of_below (Za W6))).trans (Zf.of_below (Za W6.drew))).trans (Zo c5 e0)).trans l5
     refine xe 6 .nilIface ?_
     have e9:=Xa (l:=l) (n:=n) (d:=d) (fr:=fr) (ak:=ak) (to:=to) (out:=out) (by omega) ht
     first|(have a6:ak=6:=by omega
              subst a6
              exact .inr ⟨by rw[e9];exact a5,_,_,rfl,g2,hO,by rw[e9];exact⟨ad,c6,c9,hM,(Nat.le_trans a0 g2.size),a9,a3,c8,a4⟩⟩)|exact .inr ⟨by rw[e9];exact a5,_,_,rfl,g2,hO,by rw[e9];exact⟨ad,c6,c9,hM,(Nat.le_trans a0 g2.size),a9,a3,c8,a4⟩⟩
   refine xie 6 ak (7:Int) (fun bi=>?_) (fun bi=>?_)
   · refine xd 1 .z ?_
     have z4:=(Xf k9 c5 e0).below (Za k3)
     refine xb (.e [0,1,2] 3) 0 z4 ?_
     have cr:=i9.below (Za k3)
     refine xb (.e [4] 5) 1 cr ?_
     have z8:=(((((((((hI.below n1.below).below (Za W1)).below (Za W1.drew)).below n4.below).only (Zf.of_grown (T:=[76]) d3 b6 (by decide)) (by decide)).only (Zf.of_upd (T:=[74]) u6 b0 (by decide)) (by decide)).below (Za W6)).below (Za W6.drew)).only (Zo (T:=[]) c5 e0) (by decide)).below (Za k3)
     refine yc (.o [] 6) (args:=#[P0 b,V0 to]) .z (Kt Bi b pi ni ci l to _ z8) ?_
     rintro e fd cz
     rcases cz with ⟨d0,i0,vx,rfl,d8,j2⟩|⟨d0,pl,cl,rfl,d8,hs⟩
     · refine⟨d8,?_⟩
       have x2:=blB (blB (e0.below (blB (blB (u6.below (hB.trans m0) a9) a0 (Za W6)) a0 (Za W6.drew)) a3) a0 (Za k3)) a0 d8
       have hO:=((((((((((show Zf [74,76] w _ from(Zf.of_below n1.below)).trans (Zf.of_below (Za W1))).trans (Zf.of_below (Za W1.drew))).trans (Zf.of_below n4.below)).trans (Zf.of_grown d3 b6 (by decide))).trans (Zf.of_upd u6 b0 (by decide))).trans (Zf.of_below (Za W6))).trans (Zf.of_below (Za W6.drew))).trans (Zo c5 e0)).trans (Zf.of_below (Za k3))).trans (Zf.of_below d8)
       refine xe (.r [7,8,9,10,11] 11) (.iface i0 (vx)) ?_
       have e9:=Xa (l:=l) (n:=n) (d:=d) (fr:=fr) (ak:=ak) (to:=to) (out:=out) (by omega) ht
       have a6:ak=7:=by omega
       subst a6
       rw[Js (Wx l to) d0] at e9
       exact Hr e9 d0 x2 hO j2
     refine⟨d8,?_⟩
     have au:=z8.below d8
     have z1:=z4.below d8
     have da:=Zb (Zb (Qy (Zb (Zb (u6.own2 o5 b0 (by decide)) (Za W6)) (Za W6.drew)) c5 e0) (Za k3)) d8
     have hM:=((Yr (x:=(fr,to,ak,0)) b2 ba).below (Za k3)).below d8
     have o4:=blB (blB (e0.below (blB (blB (u6.below (hB.trans m0) a9) a0 (Za W6)) a0 (Za W6.drew)) a3) a0 (Za k3)) a0 d8
     have cf:=((Xf (((u6.blkT (f8.grown3 d3 a4) b0 (by decide)).below (Za W6)).below (Za W6.drew)) c5 e0).below (Za k3)).below d8
     have hO:=((((((((((show Zf [74,76] w _ from(Zf.of_below n1.below)).trans (Zf.of_below (Za W1))).trans (Zf.of_below (Za W1.drew))).trans (Zf.of_below n4.below)).trans (Zf.of_grown d3 b6 (by decide))).trans (Zf.of_upd u6 b0 (by decide))).trans (Zf.of_below (Za W6))).trans (Zf.of_below (Za W6.drew))).trans (Zo c5 e0)).trans (Zf.of_below (Za k3))).trans (Zf.of_below d8)
     refine xe (.r [7,8,9,10,11] 11) .nilIface ?_
     have e9:=Xa (l:=l) (n:=n) (d:=d) (fr:=fr) (ak:=ak) (to:=to) (out:=out) (by omega) ht
     have a6:ak=7:=by omega
     subst a6
     rw[Vm ((Wx l to).trans d0),Ij,Uq] at e9
     exact Wz e9 rfl o4 hO au z1 da hM (Nat.le_trans a0 o4.size) a9 a3 cf (Qc a4 u0 e8)
   refine xb 7 1 i9 ?_
   refine xb 1 2 i9 ?_
   have o3:=((((((((hI.below n1.below).below (Za W1)).below (Za W1.drew)).below n4.below).only (Zf.of_grown (T:=[76]) d3 b6 (by decide)) (by decide)).only (Zf.of_upd (T:=[74]) u6 b0 (by decide)) (by decide)).below (Za W6)).below (Za W6.drew)).only (Zo (T:=[]) c5 e0) (by decide)
   have x7:=Xf k9 c5 e0
   have ay:=Qy (Zb (Zb (u6.own2 o5 b0 (by decide)) (Za W6)) (Za W6.drew)) c5 e0
   have hM:=(Yr (x:=(fr,to,ak,0)) b2 ba)
   have i7:=e0.below (blB (blB (u6.below (hB.trans m0) a9) a0 (Za W6)) a0 (Za W6.drew)) a3
   have bn:=Xf (((u6.blkT (f8.grown3 d3 a4) b0 (by decide)).below (Za W6)).below (Za W6.drew)) c5 e0
   have j1:=Vc (x:=(fr,to,ak,0)) (n:=n) (out:=out) ⟨hto,(show to<(n:Int) from by omega)⟩ ht
   have j4:Qn n (out++[(fr,to,ak,0)])≤999999999000:=by unfold Qn at hph ⊢;rw[List.length_append,List.length_singleton];omega
   refine xc 0 (args:=#[P0 bx,V0 to,V0 ak]) (Um B Bi b bx rm kb K pi ni ci l n d hA _ _ (out++[(fr,to,ak,0)]) to ak _ ⟨o3,x7,ay,hM,(Nat.le_trans a0 i7.size),a9,a3,bn,(Qc a4 u0 e8)⟩ (by omega) (by omega) h1 (by omega)) ?_
   rintro e ev bk
   rcases bk with ⟨a5,e7,vr,rfl,t1,l1,c7⟩|⟨a5,j8,h8,rfl,t1,l1,⟨_,c6,c9,hM,_,_,_,c8,a4⟩⟩
   · have n5:=i7.trans t1
     have hO:=(((((((((show Zf [74,76] w _ from(Zf.of_below n1.below)).trans (Zf.of_below (Za W1))).trans (Zf.of_below (Za W1.drew))).trans (Zf.of_below n4.below)).trans (Zf.of_grown d3 b6 (by decide))).trans (Zf.of_upd u6 b0 (by decide))).trans (Zf.of_below (Za W6))).trans (Zf.of_below (Za W6.drew))).trans (Zo c5 e0)).trans l1
     refine xe 4 (.iface e7 (vr)) ?_
     have e9:=Xa (l:=l) (n:=n) (d:=d) (fr:=fr) (ak:=ak) (to:=to) (out:=out) (by omega) ht
     first|(have a6:ak=6:=by omega
              subst a6
              exact .inl ⟨by rw[e9];exact a5,_,_,rfl,n5,hO,by rw[e9];exact c7⟩)|exact .inl ⟨by rw[e9];exact a5,_,_,rfl,n5,hO,by rw[e9];exact c7⟩
   have q3:=o3.only l1 (by decide)
   have h2:=i7.trans t1
   have hO:=(((((((((show Zf [74,76] w _ from(Zf.of_below n1.below)).trans (Zf.of_below (Za W1))).trans (Zf.of_below (Za W1.drew))).trans (Zf.of_below n4.below)).trans (Zf.of_grown d3 b6 (by decide))).trans (Zf.of_upd u6 b0 (by decide))).trans (Zf.of_below (Za W6))).trans (Zf.of_below (Za W6.drew))).trans (Zo c5 e0)).trans l1
   refine xe 4 .nilIface ?_
   have e9:=Xa (l:=l) (n:=n) (d:=d) (fr:=fr) (ak:=ak) (to:=to) (out:=out) (by omega) ht
   first|(have a6:ak=6:=by omega
            subst a6
            exact .inr ⟨by rw[e9];exact a5,_,_,rfl,h2,hO,by rw[e9];exact⟨q3,c6,c9,hM,(Nat.le_trans a0 h2.size),a9,a3,c8,a4⟩⟩)|exact .inr ⟨by rw[e9];exact a5,_,_,rfl,h2,hO,by rw[e9];exact⟨q3,c6,c9,hM,(Nat.le_trans a0 h2.size),a9,a3,c8,a4⟩⟩
 have i8:=k1.below (Za W1.drew)
 refine xlv 0 i8.rp ?_
 refine xm2 0 4 6 ?_ ?_
 · have x4:=l0.below (Za W1.drew)
   refine xb 0 3 x4 ?_
   refine xbs (.o [] 6) 1 [V0 fr,V0 to,V0 ak] 76 fun eh fi d2=>?_
   have u9:=((kk.below n1.below).below (Za W1)).below (Za W1.drew)
   have bt:=d2.ne u9
   have bp:=d2.ne i8
   have z0:=Zb (Zb (Zb ho n1.below) (Za W1)) (Za W1.drew)
   have dz:=Zn z0 d2
   have e5:=u9.below d2.below
   have e8:=(e5).lt
   have b7:=Zb z0 d2.below
   have hB:=blB (blB (blB (blB (Below.refl B w) a0 n1.below) a0 (Za W1)) a0 (Za W1.drew)) a0 d2.below
   refine ybi (.o [] 7) (.t B [76,74]) fun _ _ _ _ zJ zQ zo zx zy zK=>Kj (b:=eh) (c:=1) (m:=1) (news:=[V0 fr,V0 to,V0 ak]) (.agg #[V0 0,V0 0,V0 0]) 3 24 ((out++[(fr,to,ak,0)]).length) (((out++[(fr,to,ak,0)]).flatMap lkC)) zo Tryz.underlying26 (by kernel_rfl) rfl (by decide) zx b7 zy d2.blk rfl (by simp[Value.oneCell']) (by unfold maxLen;unfold Qn at hph;omega) (by unfold Qn at hph;omega) (Nat.le_trans a0 hB.size) (by simp) (by rw[List.flatMap_append];rfl) fun bq dy fe t9 b5 f1 h6=>?_
   refine zK _ _ (Zx f1 b5 b7 (by decide)) ?_
   have a8:=(x4.below d2.below).grown b5 b7 (by decide)
   refine ys (.o [8,9] 10) a8 [P0 b,V0 (n:Int),.map (some rm),.slice bq ((out++[(fr,to,ak,0)]).length) dy] (.t B [76,74]) fun a2 c0 en=>⟨(Zl c0 a8 a9 (by decide)),?_⟩
   refine xd 4 .z ?_
   have j6:=en.below (Za a2)
   refine xb (.e [0,1,2] 3) 2 j6 ?_
   have i6:=(c0.blkT ((i8.below d2.below).grown3 b5 j7) a8 (by decide)).below (Za a2)
   refine xb (.e [4] 5) 1 i6 ?_
   have t8:=((((((hM.below n1.below).below (Za W1)).below (Za W1.drew)).below d2.below).grown b5 b7).updBlk c0 a8).below (Za a2)
   obtain⟨kv,hm,z6⟩:=id (t8)
   refine xlkN (.o [] 6) (z:=.bool false) to false Tryz.underlying72 (keyI Tryz.underlying3) (fun V=>by kernel_rfl) hm (by rw[z6,ht];rfl) ?_
   refine xd 6 (.t B [74,76]) ?_
   refine xm2 (.b [0,1,2,4]) 3 5 ?_ ?_
   · have g8:=j6.below (Za a2.drew)
     refine xb 0 2 g8 ?_
     have p3:=i6.below (Za a2.drew)
     refine xb (.o [] 5) 1 p3 ?_
     have bu:=t8.below (Za a2.drew)
     obtain⟨u3,f3,b2⟩:=id (bu)
     have c3:=Wa.obj f3
     refine ymuV (.o [] 6) to (.bool true) (.t B [74,76]) Tryz.underlying72 (keyI Tryz.underlying3) f3 (by rw[b2,ht];rfl) fun k5 e2 du=>⟨Dz c3 e2 a3,?_⟩
     have f4:=Xf p3 c3 e2
     refine xb 6 2 f4 ?_
     refine xie 9 ak (6:Int) (fun dc=>?_) (fun dc=>?_)
     · refine xb 4 1 f4 ?_
       have r2:=((((((((hI.below n1.below).below (Za W1)).below (Za W1.drew)).below d2.below).only (Zf.of_grown (T:=[76]) b5 b7 (by decide)) (by decide)).only (Zf.of_upd (T:=[74]) c0 a8 (by decide)) (by decide)).below (Za a2)).below (Za a2.drew)).only (Zo (T:=[]) c3 e2) (by decide)
       have u5:=Xf g8 c3 e2
       have ag:=Qy (Zb (Zb (c0.own2 t9 a8 (by decide)) (Za a2)) (Za a2.drew)) c3 e2
       have hM:=(Yr (x:=(fr,to,ak,0)) b2 du)
       have i2:=e2.below (blB (blB (c0.below (hB.trans f1) a9) a0 (Za a2)) a0 (Za a2.drew)) a3
       have x8:=Xf (((c0.blkT (e5.grown3 b5 a4) a8 (by decide)).below (Za a2)).below (Za a2.drew)) c3 e2
       have j1:=Vc (x:=(fr,to,ak,0)) (n:=n) (out:=out) ⟨hto,(show to<(n:Int) from by omega)⟩ ht
       have j4:Qn n (out++[(fr,to,ak,0)])≤999999999000:=by unfold Qn at hph ⊢;rw[List.length_append,List.length_singleton];omega
       refine xc 0 (args:=#[P0 bx,V0 to]) (Hi B Bi b bx rm kb K pi ni ci l n d hA _ _ (out++[(fr,to,ak,0)]) to _ ⟨r2,u5,ag,hM,(Nat.le_trans a0 i2.size),a9,a3,x8,(Qc a4 h6 e8)⟩ (by omega) (by omega)) ?_
       rintro e ew cw
       rcases cw with ⟨a5,e7,vr,rfl,s7,l9,c7⟩|⟨a5,j8,h8,rfl,s7,l9,⟨_,c6,c9,hM,_,_,_,c8,a4⟩⟩
       · have q8:=i2.trans s7
         have hO:=(((((((((show Zf [74,76] w _ from(Zf.of_below n1.below)).trans (Zf.of_below (Za W1))).trans (Zf.of_below (Za W1.drew))).trans (Zf.of_below d2.below)).trans (Zf.of_grown b5 b7 (by decide))).trans (Zf.of_upd c0 a8 (by decide))).trans (Zf.of_below (Za a2))).trans (Zf.of_below (Za a2.drew))).trans (Zo c3 e2)).trans l9
         refine xe 6 (.iface e7 (vr)) ?_
         have e9:=Xa (l:=l) (n:=n) (d:=d) (fr:=fr) (ak:=ak) (to:=to) (out:=out) (by omega) ht
         first|(have a6:ak=6:=by omega
                  subst a6
                  exact .inl ⟨by rw[e9];exact a5,_,_,rfl,q8,hO,by rw[e9];exact c7⟩)|exact .inl ⟨by rw[e9];exact a5,_,_,rfl,q8,hO,by rw[e9];exact c7⟩
       have n7:=r2.only l9 (by decide)
       have g5:=i2.trans s7
       have hO:=(((((((((show Zf [74,76] w _ from(Zf.of_below n1.below)).trans (Zf.of_below (Za W1))).trans (Zf.of_below (Za W1.drew))).trans (Zf.of_below d2.below)).trans (Zf.of_grown b5 b7 (by decide))).trans (Zf.of_upd c0 a8 (by decide))).trans (Zf.of_below (Za a2))).trans (Zf.of_below (Za a2.drew))).trans (Zo c3 e2)).trans l9
       refine xe 6 .nilIface ?_
       have e9:=Xa (l:=l) (n:=n) (d:=d) (fr:=fr) (ak:=ak) (to:=to) (out:=out) (by omega) ht
       first|(have a6:ak=6:=by omega
                subst a6
                exact .inr ⟨by rw[e9];exact a5,_,_,rfl,g5,hO,by rw[e9];exact⟨n7,c6,c9,hM,(Nat.le_trans a0 g5.size),a9,a3,c8,a4⟩⟩)|exact .inr ⟨by rw[e9];exact a5,_,_,rfl,g5,hO,by rw[e9];exact⟨n7,c6,c9,hM,(Nat.le_trans a0 g5.size),a9,a3,c8,a4⟩⟩
     refine xie 6 ak (7:Int) (fun bj=>?_) (fun bj=>?_)
     · refine xd 1 .z ?_
       have q1:=(Xf g8 c3 e2).below (Za k5)
       refine xb (.e [0,1,2] 3) 0 q1 ?_
       have y1:=f4.below (Za k5)
       refine xb (.e [4] 5) 1 y1 ?_
       have q0:=(((((((((hI.below n1.below).below (Za W1)).below (Za W1.drew)).below d2.below).only (Zf.of_grown (T:=[76]) b5 b7 (by decide)) (by decide)).only (Zf.of_upd (T:=[74]) c0 a8 (by decide)) (by decide)).below (Za a2)).below (Za a2.drew)).only (Zo (T:=[]) c3 e2) (by decide)).below (Za k5)
       refine yc (.o [] 6) (args:=#[P0 b,V0 to]) .z (Kt Bi b pi ni ci l to _ q0) ?_
       rintro e er bs
       rcases bs with ⟨d0,i0,vx,rfl,d7,j2⟩|⟨d0,pl,cl,rfl,d7,hs⟩
       · refine⟨d7,?_⟩
         have z3:=blB (blB (e2.below (blB (blB (c0.below (hB.trans f1) a9) a0 (Za a2)) a0 (Za a2.drew)) a3) a0 (Za k5)) a0 d7
         have hO:=((((((((((show Zf [74,76] w _ from(Zf.of_below n1.below)).trans (Zf.of_below (Za W1))).trans (Zf.of_below (Za W1.drew))).trans (Zf.of_below d2.below)).trans (Zf.of_grown b5 b7 (by decide))).trans (Zf.of_upd c0 a8 (by decide))).trans (Zf.of_below (Za a2))).trans (Zf.of_below (Za a2.drew))).trans (Zo c3 e2)).trans (Zf.of_below (Za k5))).trans (Zf.of_below d7)
         refine xe (.r [7,8,9,10,11] 11) (.iface i0 (vx)) ?_
         have e9:=Xa (l:=l) (n:=n) (d:=d) (fr:=fr) (ak:=ak) (to:=to) (out:=out) (by omega) ht
         have a6:ak=7:=by omega
         subst a6
         rw[Js (Wx l to) d0] at e9
         exact Hr e9 d0 z3 hO j2
       refine⟨d7,?_⟩
       have y5:=q0.below d7
       have x3:=q1.below d7
       have ab:=Zb (Zb (Qy (Zb (Zb (c0.own2 t9 a8 (by decide)) (Za a2)) (Za a2.drew)) c3 e2) (Za k5)) d7
       have hM:=((Yr (x:=(fr,to,ak,0)) b2 du).below (Za k5)).below d7
       have p4:=blB (blB (e2.below (blB (blB (c0.below (hB.trans f1) a9) a0 (Za a2)) a0 (Za a2.drew)) a3) a0 (Za k5)) a0 d7
       have v5:=((Xf (((c0.blkT (e5.grown3 b5 a4) a8 (by decide)).below (Za a2)).below (Za a2.drew)) c3 e2).below (Za k5)).below d7
       have hO:=((((((((((show Zf [74,76] w _ from(Zf.of_below n1.below)).trans (Zf.of_below (Za W1))).trans (Zf.of_below (Za W1.drew))).trans (Zf.of_below d2.below)).trans (Zf.of_grown b5 b7 (by decide))).trans (Zf.of_upd c0 a8 (by decide))).trans (Zf.of_below (Za a2))).trans (Zf.of_below (Za a2.drew))).trans (Zo c3 e2)).trans (Zf.of_below (Za k5))).trans (Zf.of_below d7)
       refine xe (.r [7,8,9,10,11] 11) .nilIface ?_
       have e9:=Xa (l:=l) (n:=n) (d:=d) (fr:=fr) (ak:=ak) (to:=to) (out:=out) (by omega) ht
       have a6:ak=7:=by omega
       subst a6
       rw[Vm ((Wx l to).trans d0),Ij,Uq] at e9
       exact Wz e9 rfl p4 hO y5 x3 ab hM (Nat.le_trans a0 p4.size) a9 a3 v5 (Qc a4 h6 e8)
     refine xb 7 1 f4 ?_
     refine xb 1 2 f4 ?_
     have o8:=((((((((hI.below n1.below).below (Za W1)).below (Za W1.drew)).below d2.below).only (Zf.of_grown (T:=[76]) b5 b7 (by decide)) (by decide)).only (Zf.of_upd (T:=[74]) c0 a8 (by decide)) (by decide)).below (Za a2)).below (Za a2.drew)).only (Zo (T:=[]) c3 e2) (by decide)
     have ac:=Xf g8 c3 e2
     have y0:=Qy (Zb (Zb (c0.own2 t9 a8 (by decide)) (Za a2)) (Za a2.drew)) c3 e2
     have hM:=(Yr (x:=(fr,to,ak,0)) b2 du)
     have j3:=e2.below (blB (blB (c0.below (hB.trans f1) a9) a0 (Za a2)) a0 (Za a2.drew)) a3
     have ar:=Xf (((c0.blkT (e5.grown3 b5 a4) a8 (by decide)).below (Za a2)).below (Za a2.drew)) c3 e2
     have j1:=Vc (x:=(fr,to,ak,0)) (n:=n) (out:=out) ⟨hto,(show to<(n:Int) from by omega)⟩ ht
     have j4:Qn n (out++[(fr,to,ak,0)])≤999999999000:=by unfold Qn at hph ⊢;rw[List.length_append,List.length_singleton];omega
     refine xc 0 (args:=#[P0 bx,V0 to,V0 ak]) (Um B Bi b bx rm kb K pi ni ci l n d hA _ _ (out++[(fr,to,ak,0)]) to ak _ ⟨o8,ac,y0,hM,(Nat.le_trans a0 j3.size),a9,a3,ar,(Qc a4 h6 e8)⟩ (by omega) (by omega) h1 (by omega)) ?_
     rintro e fk cb
     rcases cb with ⟨a5,e7,vr,rfl,r5,l4,c7⟩|⟨a5,j8,h8,rfl,r5,l4,⟨_,c6,c9,hM,_,_,_,c8,a4⟩⟩
     · have p5:=j3.trans r5
       have hO:=(((((((((show Zf [74,76] w _ from(Zf.of_below n1.below)).trans (Zf.of_below (Za W1))).trans (Zf.of_below (Za W1.drew))).trans (Zf.of_below d2.below)).trans (Zf.of_grown b5 b7 (by decide))).trans (Zf.of_upd c0 a8 (by decide))).trans (Zf.of_below (Za a2))).trans (Zf.of_below (Za a2.drew))).trans (Zo c3 e2)).trans l4
       refine xe 4 (.iface e7 (vr)) ?_
       have e9:=Xa (l:=l) (n:=n) (d:=d) (fr:=fr) (ak:=ak) (to:=to) (out:=out) (by omega) ht
       first|(have a6:ak=6:=by omega
                subst a6
                exact .inl ⟨by rw[e9];exact a5,_,_,rfl,p5,hO,by rw[e9];exact c7⟩)|exact .inl ⟨by rw[e9];exact a5,_,_,rfl,p5,hO,by rw[e9];exact c7⟩
     have r4:=o8.only l4 (by decide)
     have g1:=j3.trans r5
     have hO:=(((((((((show Zf [74,76] w _ from(Zf.of_below n1.below)).trans (Zf.of_below (Za W1))).trans (Zf.of_below (Za W1.drew))).trans (Zf.of_below d2.below)).trans (Zf.of_grown b5 b7 (by decide))).trans (Zf.of_upd c0 a8 (by decide))).trans (Zf.of_below (Za a2))).trans (Zf.of_below (Za a2.drew))).trans (Zo c3 e2)).trans l4
     refine xe 4 .nilIface ?_
     have e9:=Xa (l:=l) (n:=n) (d:=d) (fr:=fr) (ak:=ak) (to:=to) (out:=out) (by omega) ht
     first|(have a6:ak=6:=by omega
              subst a6
              exact .inr ⟨by rw[e9];exact a5,_,_,rfl,g1,hO,by rw[e9];exact⟨r4,c6,c9,hM,(Nat.le_trans a0 g1.size),a9,a3,c8,a4⟩⟩)|exact .inr ⟨by rw[e9];exact a5,_,_,rfl,g1,hO,by rw[e9];exact⟨r4,c6,c9,hM,(Nat.le_trans a0 g1.size),a9,a3,c8,a4⟩⟩
   have r0:=i6.below (Za a2.drew)
   refine xb 0 1 r0 ?_
   have g7:=j6.below (Za a2.drew)
   refine xb (.o [] 3) 2 g7 ?_
   have dp:=t8.below (Za a2.drew)
   obtain⟨u3,f3,b2⟩:=id (dp)
   have c1:=Wa.obj f3
   refine ymuV (.o [] 6) to (.bool true) (.t B [74,76]) Tryz.underlying72 (keyI Tryz.underlying3) f3 (by rw[b2,ht];rfl) fun k2 e4 df=>⟨Dz c1 e4 a3,?_⟩
   have f6:=Xf r0 c1 e4
   refine xb 6 2 f6 ?_
   refine xie 9 ak (6:Int) (fun dw=>?_) (fun dw=>?_)
   · refine xb 4 1 f6 ?_
     have m9:=((((((((hI.below n1.below).below (Za W1)).below (Za W1.drew)).below d2.below).only (Zf.of_grown (T:=[76]) b5 b7 (by decide)) (by decide)).only (Zf.of_upd (T:=[74]) c0 a8 (by decide)) (by decide)).below (Za a2)).below (Za a2.drew)).only (Zo (T:=[]) c1 e4) (by decide)
     have z7:=Xf g7 c1 e4
     have w1:=Qy (Zb (Zb (c0.own2 t9 a8 (by decide)) (Za a2)) (Za a2.drew)) c1 e4
     have hM:=(Yr (x:=(fr,to,ak,0)) b2 df)
     have i1:=e4.below (blB (blB (c0.below (hB.trans f1) a9) a0 (Za a2)) a0 (Za a2.drew)) a3
     have y6:=Xf (((c0.blkT (e5.grown3 b5 a4) a8 (by decide)).below (Za a2)).below (Za a2.drew)) c1 e4
     have j1:=Vc (x:=(fr,to,ak,0)) (n:=n) (out:=out) ⟨hto,(show to<(n:Int) from by omega)⟩ ht
     have j4:Qn n (out++[(fr,to,ak,0)])≤999999999000:=by unfold Qn at hph ⊢;rw[List.length_append,List.length_singleton];omega
     refine xc 0 (args:=#[P0 bx,V0 to]) (Hi B Bi b bx rm kb K pi ni ci l n d hA _ _ (out++[(fr,to,ak,0)]) to _ ⟨m9,z7,w1,hM,(Nat.le_trans a0 i1.size),a9,a3,y6,(Qc a4 h6 e8)⟩ (by omega) (by omega)) ?_
     rintro e ey cu
     rcases cu with ⟨a5,e7,vr,rfl,t5,l6,c7⟩|⟨a5,j8,h8,rfl,t5,l6,⟨_,c6,c9,hM,_,_,_,c8,a4⟩⟩
     · have o7:=i1.trans t5
       have hO:=(((((((((show Zf [74,76] w _ from(Zf.of_below n1.below)).trans (Zf.of_below (Za W1))).trans (Zf.of_below (Za W1.drew))).trans (Zf.of_below d2.below)).trans (Zf.of_grown b5 b7 (by decide))).trans (Zf.of_upd c0 a8 (by decide))).trans (Zf.of_below (Za a2))).trans (Zf.of_below (Za a2.drew))).trans (Zo c1 e4)).trans l6
       refine xe 6 (.iface e7 (vr)) ?_
       have e9:=Xa (l:=l) (n:=n) (d:=d) (fr:=fr) (ak:=ak) (to:=to) (out:=out) (by omega) ht
       first|(have a6:ak=6:=by omega
                subst a6
                exact .inl ⟨by rw[e9];exact a5,_,_,rfl,o7,hO,by rw[e9];exact c7⟩)|exact .inl ⟨by rw[e9];exact a5,_,_,rfl,o7,hO,by rw[e9];exact c7⟩
     have n6:=m9.only l6 (by decide)
     have g0:=i1.trans t5
     have hO:=(((((((((show Zf [74,76] w _ from(Zf.of_below n1.below)).trans (Zf.of_below (Za W1))).trans (Zf.of_below (Za W1.drew))).trans (Zf.of_below d2.below)).trans (Zf.of_grown b5 b7 (by decide))).trans (Zf.of_upd c0 a8 (by decide))).trans (Zf.of_below (Za a2))).trans (Zf.of_below (Za a2.drew))).trans (Zo c1 e4)).trans l6
     refine xe 6 .nilIface ?_
     have e9:=Xa (l:=l) (n:=n) (d:=d) (fr:=fr) (ak:=ak) (to:=to) (out:=out) (by omega) ht
     first|(have a6:ak=6:=by omega
              subst a6
              exact .inr ⟨by rw[e9];exact a5,_,_,rfl,g0,hO,by rw[e9];exact⟨n6,c6,c9,hM,(Nat.le_trans a0 g0.size),a9,a3,c8,a4⟩⟩)|exact .inr ⟨by rw[e9];exact a5,_,_,rfl,g0,hO,by rw[e9];exact⟨n6,c6,c9,hM,(Nat.le_trans a0 g0.size),a9,a3,c8,a4⟩⟩
   refine xie 6 ak (7:Int) (fun cs=>?_) (fun cs=>?_)
   · refine xd 1 .z ?_
     have p7:=(Xf g7 c1 e4).below (Za k2)
     refine xb (.e [0,1,2] 3) 0 p7 ?_
     have ah:=f6.below (Za k2)
     refine xb (.e [4] 5) 1 ah ?_
     have n2:=(((((((((hI.below n1.below).below (Za W1)).below (Za W1.drew)).below d2.below).only (Zf.of_grown (T:=[76]) b5 b7 (by decide)) (by decide)).only (Zf.of_upd (T:=[74]) c0 a8 (by decide)) (by decide)).below (Za a2)).below (Za a2.drew)).only (Zo (T:=[]) c1 e4) (by decide)).below (Za k2)
     refine yc (.o [] 6) (args:=#[P0 b,V0 to]) .z (Kt Bi b pi ni ci l to _ n2) ?_
     rintro e fg dj
     rcases dj with ⟨d0,i0,vx,rfl,d6,j2⟩|⟨d0,pl,cl,rfl,d6,hs⟩
     · refine⟨d6,?_⟩
       have v1:=blB (blB (e4.below (blB (blB (c0.below (hB.trans f1) a9) a0 (Za a2)) a0 (Za a2.drew)) a3) a0 (Za k2)) a0 d6
       have hO:=((((((((((show Zf [74,76] w _ from(Zf.of_below n1.below)).trans (Zf.of_below (Za W1))).trans (Zf.of_below (Za W1.drew))).trans (Zf.of_below d2.below)).trans (Zf.of_grown b5 b7 (by decide))).trans (Zf.of_upd c0 a8 (by decide))).trans (Zf.of_below (Za a2))).trans (Zf.of_below (Za a2.drew))).trans (Zo c1 e4)).trans (Zf.of_below (Za k2))).trans (Zf.of_below d6)
       refine xe (.r [7,8,9,10,11] 11) (.iface i0 (vx)) ?_
       have e9:=Xa (l:=l) (n:=n) (d:=d) (fr:=fr) (ak:=ak) (to:=to) (out:=out) (by omega) ht
       have a6:ak=7:=by omega
       subst a6
       rw[Js (Wx l to) d0] at e9
       exact Hr e9 d0 v1 hO j2
     refine⟨d6,?_⟩
     have v7:=n2.below d6
     have s4:=p7.below d6
     have y4:=Zb (Zb (Qy (Zb (Zb (c0.own2 t9 a8 (by decide)) (Za a2)) (Za a2.drew)) c1 e4) (Za k2)) d6
     have hM:=((Yr (x:=(fr,to,ak,0)) b2 df).below (Za k2)).below d6
     have q9:=blB (blB (e4.below (blB (blB (c0.below (hB.trans f1) a9) a0 (Za a2)) a0 (Za a2.drew)) a3) a0 (Za k2)) a0 d6
     have x5:=((Xf (((c0.blkT (e5.grown3 b5 a4) a8 (by decide)).below (Za a2)).below (Za a2.drew)) c1 e4).below (Za k2)).below d6
     have hO:=((((((((((show Zf [74,76] w _ from(Zf.of_below n1.below)).trans (Zf.of_below (Za W1))).trans (Zf.of_below (Za W1.drew))).trans (Zf.of_below d2.below)).trans (Zf.of_grown b5 b7 (by decide))).trans (Zf.of_upd c0 a8 (by decide))).trans (Zf.of_below (Za a2))).trans (Zf.of_below (Za a2.drew))).trans (Zo c1 e4)).trans (Zf.of_below (Za k2))).trans (Zf.of_below d6)
     refine xe (.r [7,8,9,10,11] 11) .nilIface ?_
     have e9:=Xa (l:=l) (n:=n) (d:=d) (fr:=fr) (ak:=ak) (to:=to) (out:=out) (by omega) ht
     have a6:ak=7:=by omega
     subst a6
     rw[Vm ((Wx l to).trans d0),Ij,Uq] at e9
     exact Wz e9 rfl q9 hO v7 s4 y4 hM (Nat.le_trans a0 q9.size) a9 a3 x5 (Qc a4 h6 e8)
   refine xb 7 1 f6 ?_
   refine xb 1 2 f6 ?_
   have o9:=((((((((hI.below n1.below).below (Za W1)).below (Za W1.drew)).below d2.below).only (Zf.of_grown (T:=[76]) b5 b7 (by decide)) (by decide)).only (Zf.of_upd (T:=[74]) c0 a8 (by decide)) (by decide)).below (Za a2)).below (Za a2.drew)).only (Zo (T:=[]) c1 e4) (by decide)
   have r8:=Xf g7 c1 e4
   have w9:=Qy (Zb (Zb (c0.own2 t9 a8 (by decide)) (Za a2)) (Za a2.drew)) c1 e4
   have hM:=(Yr (x:=(fr,to,ak,0)) b2 df)
   have j5:=e4.below (blB (blB (c0.below (hB.trans f1) a9) a0 (Za a2)) a0 (Za a2.drew)) a3
   have v9:=Xf (((c0.blkT (e5.grown3 b5 a4) a8 (by decide)).below (Za a2)).below (Za a2.drew)) c1 e4
   have j1:=Vc (x:=(fr,to,ak,0)) (n:=n) (out:=out) ⟨hto,(show to<(n:Int) from by omega)⟩ ht
   have j4:Qn n (out++[(fr,to,ak,0)])≤999999999000:=by unfold Qn at hph ⊢;rw[List.length_append,List.length_singleton];omega
   refine xc 0 (args:=#[P0 bx,V0 to,V0 ak]) (Um B Bi b bx rm kb K pi ni ci l n d hA _ _ (out++[(fr,to,ak,0)]) to ak _ ⟨o9,r8,w9,hM,(Nat.le_trans a0 j5.size),a9,a3,v9,(Qc a4 h6 e8)⟩ (by omega) (by omega) h1 (by omega)) ?_
   rintro e fh cm
   rcases cm with ⟨a5,e7,vr,rfl,t4,l2,c7⟩|⟨a5,j8,h8,rfl,t4,l2,⟨_,c6,c9,hM,_,_,_,c8,a4⟩⟩
   · have p0:=j5.trans t4
     have hO:=(((((((((show Zf [74,76] w _ from(Zf.of_below n1.below)).trans (Zf.of_below (Za W1))).trans (Zf.of_below (Za W1.drew))).trans (Zf.of_below d2.below)).trans (Zf.of_grown b5 b7 (by decide))).trans (Zf.of_upd c0 a8 (by decide))).trans (Zf.of_below (Za a2))).trans (Zf.of_below (Za a2.drew))).trans (Zo c1 e4)).trans l2
     refine xe 4 (.iface e7 (vr)) ?_
     have e9:=Xa (l:=l) (n:=n) (d:=d) (fr:=fr) (ak:=ak) (to:=to) (out:=out) (by omega) ht
     first|(have a6:ak=6:=by omega
              subst a6
              exact .inl ⟨by rw[e9];exact a5,_,_,rfl,p0,hO,by rw[e9];exact c7⟩)|exact .inl ⟨by rw[e9];exact a5,_,_,rfl,p0,hO,by rw[e9];exact c7⟩
   have p9:=o9.only l2 (by decide)
   have g9:=j5.trans t4
   have hO:=(((((((((show Zf [74,76] w _ from(Zf.of_below n1.below)).trans (Zf.of_below (Za W1))).trans (Zf.of_below (Za W1.drew))).trans (Zf.of_below d2.below)).trans (Zf.of_grown b5 b7 (by decide))).trans (Zf.of_upd c0 a8 (by decide))).trans (Zf.of_below (Za a2))).trans (Zf.of_below (Za a2.drew))).trans (Zo c1 e4)).trans l2
   refine xe 4 .nilIface ?_
   have e9:=Xa (l:=l) (n:=n) (d:=d) (fr:=fr) (ak:=ak) (to:=to) (out:=out) (by omega) ht
   first|(have a6:ak=6:=by omega
            subst a6
            exact .inr ⟨by rw[e9];exact a5,_,_,rfl,g9,hO,by rw[e9];exact⟨p9,c6,c9,hM,(Nat.le_trans a0 g9.size),a9,a3,c8,a4⟩⟩)|exact .inr ⟨by rw[e9];exact a5,_,_,rfl,g9,hO,by rw[e9];exact⟨p9,c6,c9,hM,(Nat.le_trans a0 g9.size),a9,a3,c8,a4⟩⟩
 refine xbs 0 1 [V0 fr,V0 to,V0 ak] 76 fun ep ff d1=>?_
 have o1:=((kk.below n1.below).below (Za W1)).below (Za W1.drew)
 have dg:=d1.ne o1
 have ck:=d1.ne i8
 have u8:=Zb (Zb (Zb ho n1.below) (Za W1)) (Za W1.drew)
 have cd:=Zn u8 d1
 have aj:=(l0.below (Za W1.drew)).below d1.below
 refine xb (.o [] 4) 3 aj ?_
 have e6:=o1.below d1.below
 have e8:=(e6).lt
 have b8:=Zb u8 d1.below
 have hB:=blB (blB (blB (blB (Below.refl B w) a0 n1.below) a0 (Za W1)) a0 (Za W1.drew)) a0 d1.below
 refine ybi (.o [] 7) (.t B [76,74]) fun _ _ _ _ zJ zQ zo zx zy zK=>Kj (b:=ep) (c:=1) (m:=1) (news:=[V0 fr,V0 to,V0 ak]) (.agg #[V0 0,V0 0,V0 0]) 3 24 ((out++[(fr,to,ak,0)]).length) (((out++[(fr,to,ak,0)]).flatMap lkC)) zo Tryz.underlying26 (by kernel_rfl) rfl (by decide) zx b8 zy d1.blk rfl (by simp[Value.oneCell']) (by unfold maxLen;unfold Qn at hph;omega) (by unfold Qn at hph;omega) (Nat.le_trans a0 hB.size) (by simp) (by rw[List.flatMap_append];rfl) fun bh br et u1 b3 f2 h5=>?_
 refine zK _ _ (Zx f2 b3 b8 (by decide)) ?_
 have a7:=aj.grown b3 b8 (by decide)
 refine ys (.o [8,9] 10) a7 [P0 b,V0 (n:Int),.map (some rm),.slice bh ((out++[(fr,to,ak,0)]).length) br] (.t B [76,74]) fun a1 b9 ef=>⟨(Zl b9 a7 a9 (by decide)),?_⟩
 refine xd 4 .z ?_
 have j9:=ef.below (Za a1)
 refine xb (.e [0,1,2] 3) 2 j9 ?_
 have k0:=(b9.blkT ((i8.below d1.below).grown3 b3 j7) a7 (by decide)).below (Za a1)
 refine xb (.e [4] 5) 1 k0 ?_
 have s1:=((((((hM.below n1.below).below (Za W1)).below (Za W1.drew)).below d1.below).grown b3 b8).updBlk b9 a7).below (Za a1)
 obtain⟨kv,hm,z6⟩:=id (s1)
 refine xlkN (.o [] 6) (z:=.bool false) to false Tryz.underlying72 (keyI Tryz.underlying3) (fun V=>by kernel_rfl) hm (by rw[z6,ht];rfl) ?_
 refine xd 6 (.t B [74,76]) ?_
 refine xm2 (.b [0,1,2,4]) 3 5 ?_ ?_
 · have g6:=j9.below (Za a1.drew)
   refine xb 0 2 g6 ?_
   have p8:=k0.below (Za a1.drew)
   refine xb (.o [] 5) 1 p8 ?_
   have ce:=s1.below (Za a1.drew)
   obtain⟨u3,f3,b2⟩:=id (ce)
   have c2:=Wa.obj f3
   refine ymuV (.o [] 6) to (.bool true) (.t B [74,76]) Tryz.underlying72 (keyI Tryz.underlying3) f3 (by rw[b2,ht];rfl) fun k4 e1 cy=>⟨Dz c2 e1 a3,?_⟩
   have f7:=Xf p8 c2 e1
   refine xb 6 2 f7 ?_
   refine xie 9 ak (6:Int) (fun ct=>?_) (fun ct=>?_)
   · refine xb 4 1 f7 ?_
     have r1:=((((((((hI.below n1.below).below (Za W1)).below (Za W1.drew)).below d1.below).only (Zf.of_grown (T:=[76]) b3 b8 (by decide)) (by decide)).only (Zf.of_upd (T:=[74]) b9 a7 (by decide)) (by decide)).below (Za a1)).below (Za a1.drew)).only (Zo (T:=[]) c2 e1) (by decide)
     have v2:=Xf g6 c2 e1
     have w2:=Qy (Zb (Zb (b9.own2 u1 a7 (by decide)) (Za a1)) (Za a1.drew)) c2 e1
     have hM:=(Yr (x:=(fr,to,ak,0)) b2 cy)
     have i4:=e1.below (blB (blB (b9.below (hB.trans f2) a9) a0 (Za a1)) a0 (Za a1.drew)) a3
     have ai:=Xf (((b9.blkT (e6.grown3 b3 a4) a7 (by decide)).below (Za a1)).below (Za a1.drew)) c2 e1
     have j1:=Vc (x:=(fr,to,ak,0)) (n:=n) (out:=out) ⟨hto,(show to<(n:Int) from by omega)⟩ ht
     have j4:Qn n (out++[(fr,to,ak,0)])≤999999999000:=by unfold Qn at hph ⊢;rw[List.length_append,List.length_singleton];omega
     refine xc 0 (args:=#[P0 bx,V0 to]) (Hi B Bi b bx rm kb K pi ni ci l n d hA _ _ (out++[(fr,to,ak,0)]) to _ ⟨r1,v2,w2,hM,(Nat.le_trans a0 i4.size),a9,a3,ai,(Qc a4 h5 e8)⟩ (by omega) (by omega)) ?_
     rintro e eu de
     rcases de with ⟨a5,e7,vr,rfl,t6,m1,c7⟩|⟨a5,j8,h8,rfl,t6,m1,⟨_,c6,c9,hM,_,_,_,c8,a4⟩⟩
     · have n9:=i4.trans t6
       have hO:=(((((((((show Zf [74,76] w _ from(Zf.of_below n1.below)).trans (Zf.of_below (Za W1))).trans (Zf.of_below (Za W1.drew))).trans (Zf.of_below d1.below)).trans (Zf.of_grown b3 b8 (by decide))).trans (Zf.of_upd b9 a7 (by decide))).trans (Zf.of_below (Za a1))).trans (Zf.of_below (Za a1.drew))).trans (Zo c2 e1)).trans m1
       refine xe 6 (.iface e7 (vr)) ?_
       have e9:=Xa (l:=l) (n:=n) (d:=d) (fr:=fr) (ak:=ak) (to:=to) (out:=out) (by omega) ht
       first|(have a6:ak=6:=by omega
                subst a6
                exact .inl ⟨by rw[e9];exact a5,_,_,rfl,n9,hO,by rw[e9];exact c7⟩)|exact .inl ⟨by rw[e9];exact a5,_,_,rfl,n9,hO,by rw[e9];exact c7⟩
     have r3:=r1.only m1 (by decide)
     have g3:=i4.trans t6
     have hO:=(((((((((show Zf [74,76] w _ from(Zf.of_below n1.below)).trans (Zf.of_below (Za W1))).trans (Zf.of_below (Za W1.drew))).trans (Zf.of_below d1.below)).trans (Zf.of_grown b3 b8 (by decide))).trans (Zf.of_upd b9 a7 (by decide))).trans (Zf.of_below (Za a1))).trans (Zf.of_below (Za a1.drew))).trans (Zo c2 e1)).trans m1
     refine xe 6 .nilIface ?_
     have e9:=Xa (l:=l) (n:=n) (d:=d) (fr:=fr) (ak:=ak) (to:=to) (out:=out) (by omega) ht
     first|(have a6:ak=6:=by omega
              subst a6
              exact .inr ⟨by rw[e9];exact a5,_,_,rfl,g3,hO,by rw[e9];exact⟨r3,c6,c9,hM,(Nat.le_trans a0 g3.size),a9,a3,c8,a4⟩⟩)|exact .inr ⟨by rw[e9];exact a5,_,_,rfl,g3,hO,by rw[e9];exact⟨r3,c6,c9,hM,(Nat.le_trans a0 g3.size),a9,a3,c8,a4⟩⟩
   refine xie 6 ak (7:Int) (fun bo=>?_) (fun bo=>?_)
   · refine xd 1 .z ?_
     have m8:=(Xf g6 c2 e1).below (Za k4)
     refine xb (.e [0,1,2] 3) 0 m8 ?_
     have x6:=f7.below (Za k4)
     refine xb (.e [4] 5) 1 x6 ?_
     have q2:=(((((((((hI.below n1.below).below (Za W1)).below (Za W1.drew)).below d1.below).only (Zf.of_grown (T:=[76]) b3 b8 (by decide)) (by decide)).only (Zf.of_upd (T:=[74]) b9 a7 (by decide)) (by decide)).below (Za a1)).below (Za a1.drew)).only (Zo (T:=[]) c2 e1) (by decide)).below (Za k4)
     refine yc (.o [] 6) (args:=#[P0 b,V0 to]) .z (Kt Bi b pi ni ci l to _ q2) ?_
     rintro e fb cn
     rcases cn with ⟨d0,i0,vx,rfl,d5,j2⟩|⟨d0,pl,cl,rfl,d5,hs⟩
     · refine⟨d5,?_⟩
       have x0:=blB (blB (e1.below (blB (blB (b9.below (hB.trans f2) a9) a0 (Za a1)) a0 (Za a1.drew)) a3) a0 (Za k4)) a0 d5
       have hO:=((((((((((show Zf [74,76] w _ from(Zf.of_below n1.below)).trans (Zf.of_below (Za W1))).trans (Zf.of_below (Za W1.drew))).trans (Zf.of_below d1.below)).trans (Zf.of_grown b3 b8 (by decide))).trans (Zf.of_upd b9 a7 (by decide))).trans (Zf.of_below (Za a1))).trans (Zf.of_below (Za a1.drew))).trans (Zo c2 e1)).trans (Zf.of_below (Za k4))).trans (Zf.of_below d5)
       refine xe (.r [7,8,9,10,11] 11) (.iface i0 (vx)) ?_
       have e9:=Xa (l:=l) (n:=n) (d:=d) (fr:=fr) (ak:=ak) (to:=to) (out:=out) (by omega) ht
       have a6:ak=7:=by omega
       subst a6
       rw[Js (Wx l to) d0] at e9
       exact Hr e9 d0 x0 hO j2
     refine⟨d5,?_⟩
     have aa:=q2.below d5
     have z2:=m8.below d5
     have ao:=Zb (Zb (Qy (Zb (Zb (b9.own2 u1 a7 (by decide)) (Za a1)) (Za a1.drew)) c2 e1) (Za k4)) d5
     have hM:=((Yr (x:=(fr,to,ak,0)) b2 cy).below (Za k4)).below d5
     have n0:=blB (blB (e1.below (blB (blB (b9.below (hB.trans f2) a9) a0 (Za a1)) a0 (Za a1.drew)) a3) a0 (Za k4)) a0 d5
     have w8:=((Xf (((b9.blkT (e6.grown3 b3 a4) a7 (by decide)).below (Za a1)).below (Za a1.drew)) c2 e1).below (Za k4)).below d5
     have hO:=((((((((((show Zf [74,76] w _ from(Zf.of_below n1.below)).trans (Zf.of_below (Za W1))).trans (Zf.of_below (Za W1.drew))).trans (Zf.of_below d1.below)).trans (Zf.of_grown b3 b8 (by decide))).trans (Zf.of_upd b9 a7 (by decide))).trans (Zf.of_below (Za a1))).trans (Zf.of_below (Za a1.drew))).trans (Zo c2 e1)).trans (Zf.of_below (Za k4))).trans (Zf.of_below d5)
     refine xe (.r [7,8,9,10,11] 11) .nilIface ?_
     have e9:=Xa (l:=l) (n:=n) (d:=d) (fr:=fr) (ak:=ak) (to:=to) (out:=out) (by omega) ht
     have a6:ak=7:=by omega
     subst a6
     rw[Vm ((Wx l to).trans d0),Ij,Uq] at e9
     exact Wz e9 rfl n0 hO aa z2 ao hM (Nat.le_trans a0 n0.size) a9 a3 w8 (Qc a4 h5 e8)
   refine xb 7 1 f7 ?_
   refine xb 1 2 f7 ?_
   have o0:=((((((((hI.below n1.below).below (Za W1)).below (Za W1.drew)).below d1.below).only (Zf.of_grown (T:=[76]) b3 b8 (by decide)) (by decide)).only (Zf.of_upd (T:=[74]) b9 a7 (by decide)) (by decide)).below (Za a1)).below (Za a1.drew)).only (Zo (T:=[]) c2 e1) (by decide)
   have v8:=Xf g6 c2 e1
   have y3:=Qy (Zb (Zb (b9.own2 u1 a7 (by decide)) (Za a1)) (Za a1.drew)) c2 e1
   have hM:=(Yr (x:=(fr,to,ak,0)) b2 cy)
   have j0:=e1.below (blB (blB (b9.below (hB.trans f2) a9) a0 (Za a1)) a0 (Za a1.drew)) a3
   have aw:=Xf (((b9.blkT (e6.grown3 b3 a4) a7 (by decide)).below (Za a1)).below (Za a1.drew)) c2 e1
   have j1:=Vc (x:=(fr,to,ak,0)) (n:=n) (out:=out) ⟨hto,(show to<(n:Int) from by omega)⟩ ht
   have j4:Qn n (out++[(fr,to,ak,0)])≤999999999000:=by unfold Qn at hph ⊢;rw[List.length_append,List.length_singleton];omega
   refine xc 0 (args:=#[P0 bx,V0 to,V0 ak]) (Um B Bi b bx rm kb K pi ni ci l n d hA _ _ (out++[(fr,to,ak,0)]) to ak _ ⟨o0,v8,y3,hM,(Nat.le_trans a0 j0.size),a9,a3,aw,(Qc a4 h5 e8)⟩ (by omega) (by omega) h1 (by omega)) ?_
   rintro e es dm
   rcases dm with ⟨a5,e7,vr,rfl,r6,m4,c7⟩|⟨a5,j8,h8,rfl,r6,m4,⟨_,c6,c9,hM,_,_,_,c8,a4⟩⟩
   · have m5:=j0.trans r6
     have hO:=(((((((((show Zf [74,76] w _ from(Zf.of_below n1.below)).trans (Zf.of_below (Za W1))).trans (Zf.of_below (Za W1.drew))).trans (Zf.of_below d1.below)).trans (Zf.of_grown b3 b8 (by decide))).trans (Zf.of_upd b9 a7 (by decide))).trans (Zf.of_below (Za a1))).trans (Zf.of_below (Za a1.drew))).trans (Zo c2 e1)).trans m4
     refine xe 4 (.iface e7 (vr)) ?_
     have e9:=Xa (l:=l) (n:=n) (d:=d) (fr:=fr) (ak:=ak) (to:=to) (out:=out) (by omega) ht
     first|(have a6:ak=6:=by omega
              subst a6
              exact .inl ⟨by rw[e9];exact a5,_,_,rfl,m5,hO,by rw[e9];exact c7⟩)|exact .inl ⟨by rw[e9];exact a5,_,_,rfl,m5,hO,by rw[e9];exact c7⟩
   have q6:=o0.only m4 (by decide)
   have h3:=j0.trans r6
   have hO:=(((((((((show Zf [74,76] w _ from(Zf.of_below n1.below)).trans (Zf.of_below (Za W1))).trans (Zf.of_below (Za W1.drew))).trans (Zf.of_below d1.below)).trans (Zf.of_grown b3 b8 (by decide))).trans (Zf.of_upd b9 a7 (by decide))).trans (Zf.of_below (Za a1))).trans (Zf.of_below (Za a1.drew))).trans (Zo c2 e1)).trans m4
   refine xe 4 .nilIface ?_
   have e9:=Xa (l:=l) (n:=n) (d:=d) (fr:=fr) (ak:=ak) (to:=to) (out:=out) (by omega) ht
   first|(have a6:ak=6:=by omega
            subst a6
            exact .inr ⟨by rw[e9];exact a5,_,_,rfl,h3,hO,by rw[e9];exact⟨q6,c6,c9,hM,(Nat.le_trans a0 h3.size),a9,a3,c8,a4⟩⟩)|exact .inr ⟨by rw[e9];exact a5,_,_,rfl,h3,hO,by rw[e9];exact⟨q6,c6,c9,hM,(Nat.le_trans a0 h3.size),a9,a3,c8,a4⟩⟩
 have o2:=k0.below (Za a1.drew)
 refine xb 0 1 o2 ?_
 have h4:=j9.below (Za a1.drew)
 refine xb (.o [] 3) 2 h4 ?_
 have cg:=s1.below (Za a1.drew)
 obtain⟨u3,f3,b2⟩:=id (cg)
 have c4:=Wa.obj f3
 refine ymuV (.o [] 6) to (.bool true) (.t B [74,76]) Tryz.underlying72 (keyI Tryz.underlying3) f3 (by rw[b2,ht];rfl) fun k7 e3 dk=>⟨Dz c4 e3 a3,?_⟩
 have f5:=Xf o2 c4 e3
 refine xb 6 2 f5 ?_
 refine xie 9 ak (6:Int) (fun dh=>?_) (fun dh=>?_)
 · refine xb 4 1 f5 ?_
   have q7:=((((((((hI.below n1.below).below (Za W1)).below (Za W1.drew)).below d1.below).only (Zf.of_grown (T:=[76]) b3 b8 (by decide)) (by decide)).only (Zf.of_upd (T:=[74]) b9 a7 (by decide)) (by decide)).below (Za a1)).below (Za a1.drew)).only (Zo (T:=[]) c4 e3) (by decide)
   have w6:=Xf h4 c4 e3
   have w5:=Qy (Zb (Zb (b9.own2 u1 a7 (by decide)) (Za a1)) (Za a1.drew)) c4 e3
   have hM:=(Yr (x:=(fr,to,ak,0)) b2 dk)
   have h9:=e3.below (blB (blB (b9.below (hB.trans f2) a9) a0 (Za a1)) a0 (Za a1.drew)) a3
   have y8:=Xf (((b9.blkT (e6.grown3 b3 a4) a7 (by decide)).below (Za a1)).below (Za a1.drew)) c4 e3
   have j1:=Vc (x:=(fr,to,ak,0)) (n:=n) (out:=out) ⟨hto,(show to<(n:Int) from by omega)⟩ ht
   have j4:Qn n (out++[(fr,to,ak,0)])≤999999999000:=by unfold Qn at hph ⊢;rw[List.length_append,List.length_singleton];omega
   refine xc 0 (args:=#[P0 bx,V0 to]) (Hi B Bi b bx rm kb K pi ni ci l n d hA _ _ (out++[(fr,to,ak,0)]) to _ ⟨q7,w6,w5,hM,(Nat.le_trans a0 h9.size),a9,a3,y8,(Qc a4 h5 e8)⟩ (by omega) (by omega)) ?_
   rintro e fj dn
   rcases dn with ⟨a5,e7,vr,rfl,t7,l7,c7⟩|⟨a5,j8,h8,rfl,t7,l7,⟨_,c6,c9,hM,_,_,_,c8,a4⟩⟩
   · have p6:=h9.trans t7
     have hO:=(((((((((show Zf [74,76] w _ from(Zf.of_below n1.below)).trans (Zf.of_below (Za W1))).trans (Zf.of_below (Za W1.drew))).trans (Zf.of_below d1.below)).trans (Zf.of_grown b3 b8 (by decide))).trans (Zf.of_upd b9 a7 (by decide))).trans (Zf.of_below (Za a1))).trans (Zf.of_below (Za a1.drew))).trans (Zo c4 e3)).trans l7
     refine xe 6 (.iface e7 (vr)) ?_
     have e9:=Xa (l:=l) (n:=n) (d:=d) (fr:=fr) (ak:=ak) (to:=to) (out:=out) (by omega) ht
     first|(have a6:ak=6:=by omega
              subst a6
              exact .inl ⟨by rw[e9];exact a5,_,_,rfl,p6,hO,by rw[e9];exact c7⟩)|exact .inl ⟨by rw[e9];exact a5,_,_,rfl,p6,hO,by rw[e9];exact c7⟩
   have n8:=q7.only l7 (by decide)
   have h0:=h9.trans t7
   have hO:=(((((((((show Zf [74,76] w _ from(Zf.of_below n1.below)).trans (Zf.of_below (Za W1))).trans (Zf.of_below (Za W1.drew))).trans (Zf.of_below d1.below)).trans (Zf.of_grown b3 b8 (by decide))).trans (Zf.of_upd b9 a7 (by decide))).trans (Zf.of_below (Za a1))).trans (Zf.of_below (Za a1.drew))).trans (Zo c4 e3)).trans l7
   refine xe 6 .nilIface ?_
   have e9:=Xa (l:=l) (n:=n) (d:=d) (fr:=fr) (ak:=ak) (to:=to) (out:=out) (by omega) ht
   first|(have a6:ak=6:=by omega
            subst a6
            exact .inr ⟨by rw[e9];exact a5,_,_,rfl,h0,hO,by rw[e9];exact⟨n8,c6,c9,hM,(Nat.le_trans a0 h0.size),a9,a3,c8,a4⟩⟩)|exact .inr ⟨by rw[e9];exact a5,_,_,rfl,h0,hO,by rw[e9];exact⟨n8,c6,c9,hM,(Nat.le_trans a0 h0.size),a9,a3,c8,a4⟩⟩
 refine xie 6 ak (7:Int) (fun bg=>?_) (fun bg=>?_)
 · refine xd 1 .z ?_
   have q5:=(Xf h4 c4 e3).below (Za k7)
   refine xb (.e [0,1,2] 3) 0 q5 ?_
   have ae:=f5.below (Za k7)
   refine xb (.e [4] 5) 1 ae ?_
   have n3:=(((((((((hI.below n1.below).below (Za W1)).below (Za W1.drew)).below d1.below).only (Zf.of_grown (T:=[76]) b3 b8 (by decide)) (by decide)).only (Zf.of_upd (T:=[74]) b9 a7 (by decide)) (by decide)).below (Za a1)).below (Za a1.drew)).only (Zo (T:=[]) c4 e3) (by decide)).below (Za k7)
   refine yc (.o [] 6) (args:=#[P0 b,V0 to]) .z (Kt Bi b pi ni ci l to _ n3) ?_
   rintro e fa bd
   rcases bd with ⟨d0,i0,vx,rfl,d4,j2⟩|⟨d0,pl,cl,rfl,d4,hs⟩
   · refine⟨d4,?_⟩
     have x1:=blB (blB (e3.below (blB (blB (b9.below (hB.trans f2) a9) a0 (Za a1)) a0 (Za a1.drew)) a3) a0 (Za k7)) a0 d4
     have hO:=((((((((((show Zf [74,76] w _ from(Zf.of_below n1.below)).trans (Zf.of_below (Za W1))).trans (Zf.of_below (Za W1.drew))).trans (Zf.of_below d1.below)).trans (Zf.of_grown b3 b8 (by decide))).trans (Zf.of_upd b9 a7 (by decide))).trans (Zf.of_below (Za a1))).trans (Zf.of_below (Za a1.drew))).trans (Zo c4 e3)).trans (Zf.of_below (Za k7))).trans (Zf.of_below d4)
     refine xe (.r [7,8,9,10,11] 11) (.iface i0 (vx)) ?_
     have e9:=Xa (l:=l) (n:=n) (d:=d) (fr:=fr) (ak:=ak) (to:=to) (out:=out) (by omega) ht
     have a6:ak=7:=by omega
     subst a6
     rw[Js (Wx l to) d0] at e9
     exact Hr e9 d0 x1 hO j2
   refine⟨d4,?_⟩
   have af:=n3.below d4
   have t2:=q5.below d4
   have z5:=Zb (Zb (Qy (Zb (Zb (b9.own2 u1 a7 (by decide)) (Za a1)) (Za a1.drew)) c4 e3) (Za k7)) d4
   have hM:=((Yr (x:=(fr,to,ak,0)) b2 dk).below (Za k7)).below d4
   have o6:=blB (blB (e3.below (blB (blB (b9.below (hB.trans f2) a9) a0 (Za a1)) a0 (Za a1.drew)) a3) a0 (Za k7)) a0 d4
   have u4:=((Xf (((b9.blkT (e6.grown3 b3 a4) a7 (by decide)).below (Za a1)).below (Za a1.drew)) c4 e3).below (Za k7)).below d4
   have hO:=((((((((((show Zf [74,76] w _ from(Zf.of_below n1.below)).trans (Zf.of_below (Za W1))).trans (Zf.of_below (Za W1.drew))).trans (Zf.of_below d1.below)).trans (Zf.of_grown b3 b8 (by decide))).trans (Zf.of_upd b9 a7 (by decide))).trans (Zf.of_below (Za a1))).trans (Zf.of_below (Za a1.drew))).trans (Zo c4 e3)).trans (Zf.of_below (Za k7))).trans (Zf.of_below d4)
   refine xe (.r [7,8,9,10,11] 11) .nilIface ?_
   have e9:=Xa (l:=l) (n:=n) (d:=d) (fr:=fr) (ak:=ak) (to:=to) (out:=out) (by omega) ht
   have a6:ak=7:=by omega
   subst a6
   rw[Vm ((Wx l to).trans d0),Ij,Uq] at e9
   exact Wz e9 rfl o6 hO af t2 z5 hM (Nat.le_trans a0 o6.size) a9 a3 u4 (Qc a4 h5 e8)
 refine xb 7 1 f5 ?_
 refine xb 1 2 f5 ?_
 have p1:=((((((((hI.below n1.below).below (Za W1)).below (Za W1.drew)).below d1.below).only (Zf.of_grown (T:=[76]) b3 b8 (by decide)) (by decide)).only (Zf.of_upd (T:=[74]) b9 a7 (by decide)) (by decide)).below (Za a1)).below (Za a1.drew)).only (Zo (T:=[]) c4 e3) (by decide)
 have s2:=Xf h4 c4 e3
 have av:=Qy (Zb (Zb (b9.own2 u1 a7 (by decide)) (Za a1)) (Za a1.drew)) c4 e3
 have hM:=(Yr (x:=(fr,to,ak,0)) b2 dk)
 have i3:=e3.below (blB (blB (b9.below (hB.trans f2) a9) a0 (Za a1)) a0 (Za a1.drew)) a3
 have v0:=Xf (((b9.blkT (e6.grown3 b3 a4) a7 (by decide)).below (Za a1)).below (Za a1.drew)) c4 e3
 have j1:=Vc (x:=(fr,to,ak,0)) (n:=n) (out:=out) ⟨hto,(show to<(n:Int) from by omega)⟩ ht
 have j4:Qn n (out++[(fr,to,ak,0)])≤999999999000:=by unfold Qn at hph ⊢;rw[List.length_append,List.length_singleton];omega
 refine xc 0 (args:=#[P0 bx,V0 to,V0 ak]) (Um B Bi b bx rm kb K pi ni ci l n d hA _ _ (out++[(fr,to,ak,0)]) to ak _ ⟨p1,s2,av,hM,(Nat.le_trans a0 i3.size),a9,a3,v0,(Qc a4 h5 e8)⟩ (by omega) (by omega) h1 (by omega)) ?_
 rintro e ez di
 rcases di with ⟨a5,e7,vr,rfl,r7,m2,c7⟩|⟨a5,j8,h8,rfl,r7,m2,⟨_,c6,c9,hM,_,_,_,c8,a4⟩⟩
 · have q4:=i3.trans r7
   have hO:=(((((((((show Zf [74,76] w _ from(Zf.of_below n1.below)).trans (Zf.of_below (Za W1))).trans (Zf.of_below (Za W1.drew))).trans (Zf.of_below d1.below)).trans (Zf.of_grown b3 b8 (by decide))).trans (Zf.of_upd b9 a7 (by decide))).trans (Zf.of_below (Za a1))).trans (Zf.of_below (Za a1.drew))).trans (Zo c4 e3)).trans m2
   refine xe 4 (.iface e7 (vr)) ?_
   have e9:=Xa (l:=l) (n:=n) (d:=d) (fr:=fr) (ak:=ak) (to:=to) (out:=out) (by omega) ht
   first|(have a6:ak=6:=by omega
            subst a6
            exact .inl ⟨by rw[e9];exact a5,_,_,rfl,q4,hO,by rw[e9];exact c7⟩)|exact .inl ⟨by rw[e9];exact a5,_,_,rfl,q4,hO,by rw[e9];exact c7⟩
 have p2:=p1.only m2 (by decide)
 have f9:=i3.trans r7
 have hO:=(((((((((show Zf [74,76] w _ from(Zf.of_below n1.below)).trans (Zf.of_below (Za W1))).trans (Zf.of_below (Za W1.drew))).trans (Zf.of_below d1.below)).trans (Zf.of_grown b3 b8 (by decide))).trans (Zf.of_upd b9 a7 (by decide))).trans (Zf.of_below (Za a1))).trans (Zf.of_below (Za a1.drew))).trans (Zo c4 e3)).trans m2
 refine xe 4 .nilIface ?_
 have e9:=Xa (l:=l) (n:=n) (d:=d) (fr:=fr) (ak:=ak) (to:=to) (out:=out) (by omega) ht
 first|(have a6:ak=6:=by omega
          subst a6
          exact .inr ⟨by rw[e9];exact a5,_,_,rfl,f9,hO,by rw[e9];exact⟨p2,c6,c9,hM,(Nat.le_trans a0 f9.size),a9,a3,c8,a4⟩⟩)|exact .inr ⟨by rw[e9];exact a5,_,_,rfl,f9,hO,by rw[e9];exact⟨p2,c6,c9,hM,(Nat.le_trans a0 f9.size),a9,a3,c8,a4⟩⟩
theorem Lv(B Bi b bx rm kb:Nat)(K:List Value)(pi:O0)(ni ci:Nat)(l:Bl)(n:Nat):∀ d,Zdk d B Bi b bx rm kb K pi ni ci l n
 | 0=>fun po co a0 fr to ak w hL a2 hz a1 h1 h7=>absurd hz (by omega)
 | d+1=>fun po co a0 fr to ak w hL a2 hz a1 h1 h7=>by
  have hA:=Lv B Bi b bx rm kb K pi ni ci l n d
  cases ht:Vg a0 to with
  | true=>exact link_add1 B Bi b bx rm kb K pi ni ci l n d hA po co a0 fr to ak w hL hz a1 a2 h1 h7 ht
  | false=>exact link_add2 B Bi b bx rm kb K pi ni ci l n d hA po co a0 fr to ak w hL hz a1 a2 h1 h7 ht
end Go.Proofs.YtceeiinepijokaaGreatDoor
namespace Go.Proofs.YtceeiinepijokaaGreatDoor
set_option maxHeartbeats 8000000
set_option maxRecDepth 100000
open Go.RowKit Go.Extern.Stop Go.Stop Go.Extern
set_option linter.unusedVariables false
attribute [local irreducible] wpList wpAnyH Code.wp Oper.wp Go
def rightZ(s:Sup)(z:Int):Bool:=(((((((((((true&&decide ((0:Int)≤s.tx∧s.tx≤2147483647))&&decide ((0:Int)≤s.time∧s.time≤16777215))&&decide ((1:Int)≤s.unit∧s.unit≤65536))&&decide ((0:Int)≤s.data∧s.data≤65536))&&decide ((2:Int)≤s.blocks∧s.blocks≤14400))&&decide ((1:Int)≤s.top∧s.top≤z))&&decide ((1:Int)≤s.details∧s.details≤z))&&decide ((1:Int)≤s.dslots∧s.dslots≤z))&&decide ((1:Int)≤s.dover∧s.dover≤z))&&decide ((1:Int)≤s.mindex∧s.mindex≤z))&&decide ((1:Int)≤s.mover∧s.mover≤z))
theorem rightZ_eq{s:Sup}{z:Int}(h:IntKind.i64.wrap (s.blocks-1)=z):rightZ s z=Zp s:=by
 by_cases hb:(2:Int)≤s.blocks∧s.blocks≤14400
 ·have e:z=s.blocks-1:=by rw[←h];exact IntWalk.i64_in _ (by omega)
  subst e;rfl
 ·have hd:decide ((2:Int)≤s.blocks∧s.blocks≤14400)=false:=decide_eq_false hb
  unfold rightZ Zp
  rw[hd];simp
theorem Tb{s:Sup}(h:Zp s=true):2≤s.blocks∧s.blocks≤14400:=by
 by_cases hb:(2:Int)≤s.blocks∧s.blocks≤14400
 ·exact hb
 ·have hd:decide ((2:Int)≤s.blocks∧s.blocks≤14400)=false:=decide_eq_false hb
  unfold Zp at h
  rw[hd] at h;simp at h
theorem Sc(B bs bo:Nat)(s:Sup)(w:World)(hBw:B≤w.heap.size)(hBo:B≤bo)(ks:Blk w bs [V0 s.tx,V0 s.time,V0 s.unit,V0 s.data,V0 s.blocks,V0 s.top,V0 s.details,V0 s.dslots,V0 s.dover,V0 s.mindex,V0 s.mover] 24)(ko:Blk w bo [.bool true] 4) :
 C0 77 #[P0 bs,.func (.func 78) #[] #[P0 bo]] w ((fun e w'=>∃ u,e=.returned u∧Below B w w'∧Zf [4] w w'∧Blk w' bo [.bool (rightZ s (IntKind.i64.wrap (s.blocks-1)))] 4)):=by
 refine zin 64 Tryz.func77 ?_
 refine xc 6 (args:=#[P0 bs,V0 0,V0 2147483647,P0 bo]) (Xm B bs bo 0 _ s.tx 0 2147483647 true _ (Nat.le_trans hBw (Below.refl B _).size) hBo ks rfl ko) ?_
 rintro _ W1 ⟨u1,rfl,e0,e3,f2⟩
 have a9:=ks.only e3 (by decide)
 refine xc 8 (args:=#[.pointer (some ⟨bs,1,none⟩),V0 0,V0 16777215,P0 bo]) (Xm B bs bo 1 _ s.time 0 16777215 (true&&decide ((0:Int)≤s.tx∧s.tx≤2147483647)) _ (Nat.le_trans hBw e0.size) hBo a9 rfl f2) ?_
 rintro _ W2 ⟨u2,rfl,f7,e5,e7⟩
 have c3:=e0.trans f7
 have b0:=a9.only e5 (by decide)
 refine xc 8 (args:=#[.pointer (some ⟨bs,2,none⟩),V0 1,V0 65536,P0 bo]) (Xm B bs bo 2 _ s.unit 1 65536 ((true&&decide ((0:Int)≤s.tx∧s.tx≤2147483647))&&decide ((0:Int)≤s.time∧s.time≤16777215)) _ (Nat.le_trans hBw c3.size) hBo b0 rfl e7) ?_
 rintro _ W3 ⟨u3,rfl,g0,e1,e9⟩
 have c1:=c3.trans g0
 have c7:=b0.only e1 (by decide)
 refine xc 8 (args:=#[.pointer (some ⟨bs,3,none⟩),V0 0,V0 65536,P0 bo]) (Xm B bs bo 3 _ s.data 0 65536 (((true&&decide ((0:Int)≤s.tx∧s.tx≤2147483647))&&decide ((0:Int)≤s.time∧s.time≤16777215))&&decide ((1:Int)≤s.unit∧s.unit≤65536)) _ (Nat.le_trans hBw c1.size) hBo c7 rfl e9) ?_
 rintro _ W4 ⟨u4,rfl,f4,e4,e6⟩
 have b2:=c1.trans f4
 have b5:=c7.only e4 (by decide)
 refine xc 8 (args:=#[.pointer (some ⟨bs,4,none⟩),V0 2,V0 14400,P0 bo]) (Xm B bs bo 4 _ s.blocks 2 14400 ((((true&&decide ((0:Int)≤s.tx∧s.tx≤2147483647))&&decide ((0:Int)≤s.time∧s.time≤16777215))&&decide ((1:Int)≤s.unit∧s.unit≤65536))&&decide ((0:Int)≤s.data∧s.data≤65536)) _ (Nat.le_trans hBw b2.size) hBo b5 rfl e6) ?_
 rintro _ W5 ⟨u5,rfl,f0,e2,f8⟩
 refine xd 3 .z ?_
 refine xbs (.o [0,1,2,3,4,5,6,7,8,9,10,11,12,13,14,15,16,17,20] 18) 6 [.pointer (some ⟨bs,5,none⟩),.pointer (some ⟨bs,6,none⟩),.pointer (some ⟨bs,7,none⟩),.pointer (some ⟨bs,8,none⟩),.pointer (some ⟨bs,9,none⟩),.pointer (some ⟨bs,10,none⟩)] 171 fun b6 W6 n6=>?_
 have b1:=blB (b2.trans f0) hBw (Za W5)
 have g6:=n6.ge0 b1
 refine xu (.r [19] 3) 7 ?_
 refine xb 14 0 n6.blk ?_
 have a3:=((b5.only e2 (by decide)).below (Za W5)).below n6.below
 refine xb 9 4 a3 ?_
 have b9:=blB b1 hBw n6.below
 have c5:=(f8.below (Za W5)).below n6.below
 refine xc 1 (args:=#[.pointer (some ⟨bs,5,none⟩),V0 1,V0 (IntKind.i64.wrap (s.blocks-(1:Int))),P0 bo]) (Xm B bs bo 5 _ s.top 1 (IntKind.i64.wrap (s.blocks-(1:Int))) (((((true&&decide ((0:Int)≤s.tx∧s.tx≤2147483647))&&decide ((0:Int)≤s.time∧s.time≤16777215))&&decide ((1:Int)≤s.unit∧s.unit≤65536))&&decide ((0:Int)≤s.data∧s.data≤65536))&&decide ((2:Int)≤s.blocks∧s.blocks≤14400)) _ (Nat.le_trans hBw b9.size) hBo a3 rfl c5) ?_
 rintro _ W7 ⟨u7,rfl,f9,d5,f6⟩
 have c8:=n6.blk.only d5 (by decide)
 refine xb 22 1 c8 ?_
 have a7:=a3.only d5 (by decide)
 refine xb 9 4 a7 ?_
 have c0:=b9.trans f9
 refine xc 1 (args:=#[.pointer (some ⟨bs,6,none⟩),V0 1,V0 (IntKind.i64.wrap (s.blocks-(1:Int))),P0 bo]) (Xm B bs bo 6 _ s.details 1 (IntKind.i64.wrap (s.blocks-(1:Int))) ((((((true&&decide ((0:Int)≤s.tx∧s.tx≤2147483647))&&decide ((0:Int)≤s.time∧s.time≤16777215))&&decide ((1:Int)≤s.unit∧s.unit≤65536))&&decide ((0:Int)≤s.data∧s.data≤65536))&&decide ((2:Int)≤s.blocks∧s.blocks≤14400))&&decide ((1:Int)≤s.top∧s.top≤IntKind.i64.wrap (s.blocks-1))) _ (Nat.le_trans hBw c0.size) hBo a7 rfl f6) ?_
 rintro _ W8 ⟨u8,rfl,f3,d8,e8⟩
 have b4:=c8.only d8 (by decide)
 refine xb 22 2 b4 ?_
 have a6:=a7.only d8 (by decide)
 refine xb 9 4 a6 ?_
 have b3:=c0.trans f3
 refine xc 1 (args:=#[.pointer (some ⟨bs,7,none⟩),V0 1,V0 (IntKind.i64.wrap (s.blocks-(1:Int))),P0 bo]) (Xm B bs bo 7 _ s.dslots 1 (IntKind.i64.wrap (s.blocks-(1:Int))) (((((((true&&decide ((0:Int)≤s.tx∧s.tx≤2147483647))&&decide ((0:Int)≤s.time∧s.time≤16777215))&&decide ((1:Int)≤s.unit∧s.unit≤65536))&&decide ((0:Int)≤s.data∧s.data≤65536))&&decide ((2:Int)≤s.blocks∧s.blocks≤14400))&&decide ((1:Int)≤s.top∧s.top≤IntKind.i64.wrap (s.blocks-1)))&&decide ((1:Int)≤s.details∧s.details≤IntKind.i64.wrap (s.blocks-1))) _ (Nat.le_trans hBw b3.size) hBo a6 rfl e8) ?_
 rintro _ W9 ⟨u9,rfl,f5,d2,f1⟩
 have b7:=b4.only d2 (by decide)
 refine xb 22 3 b7 ?_
 have a2:=a6.only d2 (by decide)
 refine xb 9 4 a2 ?_
 have c6:=b3.trans f5
 refine xc 1 (args:=#[.pointer (some ⟨bs,8,none⟩),V0 1,V0 (IntKind.i64.wrap (s.blocks-(1:Int))),P0 bo]) (Xm B bs bo 8 _ s.dover 1 (IntKind.i64.wrap (s.blocks-(1:Int))) ((((((((true&&decide ((0:Int)≤s.tx∧s.tx≤2147483647))&&decide ((0:Int)≤s.time∧s.time≤16777215))&&decide ((1:Int)≤s.unit∧s.unit≤65536))&&decide ((0:Int)≤s.data∧s.data≤65536))&&decide ((2:Int)≤s.blocks∧s.blocks≤14400))&&decide ((1:Int)≤s.top∧s.top≤IntKind.i64.wrap (s.blocks-1)))&&decide ((1:Int)≤s.details∧s.details≤IntKind.i64.wrap (s.blocks-1)))&&decide ((1:Int)≤s.dslots∧s.dslots≤IntKind.i64.wrap (s.blocks-1))) _ (Nat.le_trans hBw c6.size) hBo a2 rfl f1) ?_
 rintro _ g1 ⟨g8,rfl,d3,a8,d6⟩
 have c2:=b7.only a8 (by decide)
 refine xb 22 4 c2 ?_
 have a5:=a2.only a8 (by decide)
 refine xb 9 4 a5 ?_
 have b8:=c6.trans d3
 refine xc 1 (args:=#[.pointer (some ⟨bs,9,none⟩),V0 1,V0 (IntKind.i64.wrap (s.blocks-(1:Int))),P0 bo]) (Xm B bs bo 9 _ s.mindex 1 (IntKind.i64.wrap (s.blocks-(1:Int))) (((((((((true&&decide ((0:Int)≤s.tx∧s.tx≤2147483647))&&decide ((0:Int)≤s.time∧s.time≤16777215))&&decide ((1:Int)≤s.unit∧s.unit≤65536))&&decide ((0:Int)≤s.data∧s.data≤65536))&&decide ((2:Int)≤s.blocks∧s.blocks≤14400))&&decide ((1:Int)≤s.top∧s.top≤IntKind.i64.wrap (s.blocks-1)))&&decide ((1:Int)≤s.details∧s.details≤IntKind.i64.wrap (s.blocks-1)))&&decide ((1:Int)≤s.dslots∧s.dslots≤IntKind.i64.wrap (s.blocks-1)))&&decide ((1:Int)≤s.dover∧s.dover≤IntKind.i64.wrap (s.blocks-1))) _ (Nat.le_trans hBw b8.size) hBo a5 rfl d6) ?_
 rintro _ g7 ⟨g2,rfl,d4,a4,d0⟩
 have d7:=c2.only a4 (by decide)
 refine xb 22 5 d7 ?_
 have a0:=a5.only a4 (by decide)
 refine xb 9 4 a0 ?_
 have a1:=b8.trans d4
 refine xc 1 (args:=#[.pointer (some ⟨bs,10,none⟩),V0 1,V0 (IntKind.i64.wrap (s.blocks-(1:Int))),P0 bo]) (Xm B bs bo 10 _ s.mover 1 (IntKind.i64.wrap (s.blocks-(1:Int))) ((((((((((true&&decide ((0:Int)≤s.tx∧s.tx≤2147483647))&&decide ((0:Int)≤s.time∧s.time≤16777215))&&decide ((1:Int)≤s.unit∧s.unit≤65536))&&decide ((0:Int)≤s.data∧s.data≤65536))&&decide ((2:Int)≤s.blocks∧s.blocks≤14400))&&decide ((1:Int)≤s.top∧s.top≤IntKind.i64.wrap (s.blocks-1)))&&decide ((1:Int)≤s.details∧s.details≤IntKind.i64.wrap (s.blocks-1)))&&decide ((1:Int)≤s.dslots∧s.dslots≤IntKind.i64.wrap (s.blocks-1)))&&decide ((1:Int)≤s.dover∧s.dover≤IntKind.i64.wrap (s.blocks-1)))&&decide ((1:Int)≤s.mindex∧s.mindex≤IntKind.i64.wrap (s.blocks-1))) _ (Nat.le_trans hBw a1.size) hBo a0 rfl d0) ?_
 rintro _ g3 ⟨g5,rfl,d1,c9,d9⟩
 have c4:=a1.trans d1
 have hO:=((((((((((((show Zf [4] w _ from e3).trans e5).trans e1).trans e4).trans e2).trans (Zf.of_below (Za W5))).trans (Zf.of_below n6.below)).trans d5).trans d8).trans d2).trans a8).trans a4).trans c9
 exact xe 19 (.tuple #[]) ⟨_,rfl,c4,hO,d9⟩
theorem sup_RightG(s:Sup)(w:World) :
 C0 34 #[.agg #[V0 s.tx,V0 s.time,V0 s.unit,V0 s.data,V0 s.blocks,V0 s.top,V0 s.details,V0 s.dslots,V0 s.dover,V0 s.mindex,V0 s.mover]] w (Ret (.bool (Zp s)) w):=by
 refine zin 7 Tryz.func34 ?_
 refine xa 2 [V0 s.tx,V0 s.time,V0 s.unit,V0 s.data,V0 s.blocks,V0 s.top,V0 s.details,V0 s.dslots,V0 s.dover,V0 s.mindex,V0 s.mover] 24 fun b1 W1 n1=>?_
 refine xa 5 [.bool false] 4 fun b2 W2 n2=>?_
 refine xs 0 n2.blk [.bool true] fun W3 u3 k3=>?_
 have g2:=n2.ge n1.below
 have hB:=u3.below (bln n1.below n2.below) g2
 have k1:=u3.blkT (n1.blk.below n2.below) n2.blk (by decide)
 refine xc 5 (args:=#[P0 b1,.func (.func 78) #[] #[P0 b2]]) (Sc w.heap.size b1 b2 s _ hB.size g2 k1 k3) ?_
 rintro _ W4 ⟨u4,rfl,a2,a3,a1⟩
 refine xb 4 0 a1 ?_
 have a0:=hB.trans a2
 exact xe 4 (.bool (rightZ s (IntKind.i64.wrap (s.blocks-1)))) ⟨by rw[rightZ_eq rfl],a0⟩
def Zdv(O:Kx)(w:World)(e:Ending)(w':World):Prop :=
 (O.2.2≠0∧∃ ty v,e=.returned (.tuple #[S0,.iface ty v])∧B3 w w'∧Jy w' (O.2.1.map some) (some O.2.2) (.iface ty v)) ∨
 (O.2.2=0∧∃ p c,e=.returned (.tuple #[.slice p O.1.length c,.nilIface])∧B3 w w'∧w'.ownsRow w.heap.size 76 3 (.slice p O.1.length c) O.1.length (O.1.flatMap lkC))
theorem Kv{O:Kx}{c:List Lk}{bl:List Int}{er:Int}{w W:World}{ty:TypeId}{v:Value}(h:O=(c,bl,er))(her:er≠0)(hb:B3 w W)(hv:Jy W (bl.map some) (some er) (.iface ty v)):Zdv O w (.returned (.tuple #[S0,.iface ty v])) W:=by
 subst h;exact .inl ⟨her,ty,v,rfl,hb,hv⟩
theorem linksP_ok{O:Kx}{c:List Lk}{m d:Nat}{p:O0}{w W:World}(h:O.2.2=0)(h1:O.1=c)(hm:c.length=m)(hb:B3 w W)(ho:W.ownsRow w.heap.size 76 3 (.slice p m d) m (c.flatMap lkC)):Zdv O w (.returned (.tuple #[.slice p m d,.nilIface])) W:=by
 subst h1 hm;exact .inr ⟨h,p,d,rfl,hb,ho⟩
theorem Im{l:Bl}{s:Sup}(h:Zp s=false):Xr l s=([],[],1):=if_pos h
theorem Jl{l:Bl}{s:Sup}(h:Zp s=true):Xr l s=Qq (Xv l s.blocks.toNat (s.blocks.toNat+1)) [] (Ia s):=by
 unfold Xr;rw[if_neg (by rw[h];decide)];rfl
theorem Jo.more{f:List Lk→Lk→Kx}{o c c':List Lk}{L:List Lk}(h:Jo f o L c){x:Lk}(hc:(f c x).1=c')(h2:(f c x).2.2=0):Jo f o (L++[x]) c':=hc▸h.next h2
theorem rightS_ge{s:Sup}(h:Zp s=true):0≤s.top∧0≤s.details∧0≤s.dslots∧0≤s.dover∧0≤s.mindex∧0≤s.mover:=by
 unfold Zp at h
 simp only[Bool.and_eq_true,decide_eq_true_eq,true_and] at h
 omega
theorem seenM_new{w W:World}{rm:Nat}(m:NewMV V0 w rm W):Uv rm [] W:=⟨[],m.map,fun k=>rfl⟩
theorem unt_nil(n:Nat):unt [] n≤n:=Zee [] n
theorem Of(Bi b:Nat)(pi:O0)(ni ci:Nat)(l:Bl)(s:Sup)(w:World)(hI:ImgR Bi b pi ni ci l w) :
 C0 6 #[P0 b,.agg #[V0 s.tx,V0 s.time,V0 s.unit,V0 s.data,V0 s.blocks,V0 s.top,V0 s.details,V0 s.dslots,V0 s.dover,V0 s.mindex,V0 s.mover]] w (Zdv (Xr l s) w):=by
 refine zin 55 Tryz.func6 ?_
 refine xa 2 [V0 s.tx,V0 s.time,V0 s.unit,V0 s.data,V0 s.blocks,V0 s.top,V0 s.details,V0 s.dslots,V0 s.dover,V0 s.mindex,V0 s.mover] 24 fun b1 W1 n1=>?_
 refine xlv 7 n1.blk.rp ?_
 refine xr 0 (args:=#[.agg #[V0 s.tx,V0 s.time,V0 s.unit,V0 s.data,V0 s.blocks,V0 s.top,V0 s.details,V0 s.dslots,V0 s.dover,V0 s.mindex,V0 s.mover]]) (sup_RightG s _) fun W2 m1=>?_
 refine xi 3 (!(Zp s)) (fun e6=>?_) (fun e6=>?_)
 ·have b4:Zp s=false:=Kc e6
  have hB:=bln n1.below m1
  refine xe 9 (.tuple #[S0,.iface 50 (V0 1)]) ?_
  exact Kv (bl:=[]) (Im b4) (by decide) hB rfl
 have b4:Zp s=true:=Ka e6
 have r8:=Tb b4
 have s1:=rightS_ge b4
 have p4:s.blocks=((s.blocks.toNat:Nat):Int):=(Int.toNat_of_nonneg (by omega)).symm
 have o3:Jo (Xv l s.blocks.toNat (s.blocks.toNat+1)) [] [] []:=Jo.nil _ _
 have u7:=unt_nil s.blocks.toNat
 have q0:s.blocks.toNat≤14400:=by omega
 have i2:=n1.blk.below m1
 refine xb 6 4 i2 ?_
 refine xmmV V0 0 72 fun rm W4 m4=>?_
 have hB:=bln n1.below m1
 have e5:=m4.ge hB
 refine xa 1 [P0 b,V0 s.blocks,.map (some rm),S0] 74 fun b5 W5 n5=>?_
 have f7:=bln hB m4.below
 have g5:=n5.ge f7
 have a5:=(i2.below m4.below).below n5.below
 refine xb 7 5 a5 ?_
 refine xb 2 6 a5 ?_
 refine xb 2 7 a5 ?_
 refine xb 2 8 a5 ?_
 refine xb 2 9 a5 ?_
 refine xb 2 10 a5 ?_
 refine xbs 1 6 [V0 0,V0 s.top,V0 1,V0 0,V0 s.details,V0 3,V0 0,V0 s.dslots,V0 4,V0 0,V0 s.dover,V0 5,V0 0,V0 s.mindex,V0 6,V0 0,V0 s.mover,V0 5] 76 fun b6 W6 n6=>?_
 have i1:=bln f7 n5.below
 have g6:=n6.ge i1
 refine xu 5 7 ?_
 refine xlv 14 (n6.blk.rpp 0 3) ?_
 refine xa 0 [V0 0,V0 0,V0 0] 76 fun b7 W7 n7=>?_
 have h4:=n7.ne n6.blk
 have g1:=bln i1 n6.below
 have g7:=n7.ge g1
 refine xsv 0 n7.blk [V0 0,V0 s.top,V0 1] fun W8 u8 k8=>?_
 refine xlv 5 k8.rp ?_
 have k5:=u8.blkT ((n5.blk.below n6.below).below n7.below) n7.blk (by decide)
 have hM:=((((seenM_new m4).below n5.below).below n6.below).below n7.below).updBlk u8 n7.blk
 have j8:=u8.blk (n6.blk.below n7.below) (Ne.symm (Ne.symm h4))
 have n8:=k5
 rw[p4] at n8
 have b9:=u8.below (bln g1 n7.below) g7
 refine xc 0 (args:=#[P0 b5,.agg #[V0 0,V0 s.top,V0 1]]) (Lv w.heap.size Bi b b5 rm b6 [V0 0,V0 s.top,V0 1,V0 0,V0 s.details,V0 3,V0 0,V0 s.dslots,V0 4,V0 0,V0 s.dover,V0 5,V0 0,V0 s.mindex,V0 6,V0 0,V0 s.mover,V0 5] pi ni ci l s.blocks.toNat (s.blocks.toNat+1) none 0 [] 0 s.top 1 _ ⟨hI.below b9,n8,(World.ownsRow_nil _ _ _ _),hM,b9.size,g5,e5,j8,(fun j hj=>(by cases hj))⟩ (by omega) (by omega) (by unfold Qn;first|(simp only[List.length_nil];omega)|(unfold Qn at hp0;omega)) (by decide) (by decide)) ?_
 rintro e W9 p3
 rcases p3 with ⟨a0,a8,vr,rfl,l8,p2,a9⟩|⟨a0,q2,o9,rfl,l8,p2,⟨_,m7,ho,hM,_,_,_,l7,h5⟩⟩
 ·have b2:=o3.bad (x:=(0,s.top,1,0)) a0 [(0,s.details,3,0),(0,s.dslots,4,0),(0,s.dover,5,0),(0,s.mindex,6,0),(0,s.mover,5,0)]
  have l6:=b9.trans l8
  refine xe 23 (.tuple #[S0,.iface a8 (vr)]) ?_
  exact Kv ((Jl b4).trans b2) a0 l6 a9
 obtain⟨c1,n2⟩:∃ c,(Xv l s.blocks.toNat (s.blocks.toNat+1) [] (0,s.top,1,0)).1=c:=⟨_,rfl⟩
 rw[n2] at ho hM m7 h5
 have l1:Jo (Xv l s.blocks.toNat (s.blocks.toNat+1)) [] [(0,s.top,1,0)] c1:=o3.more n2 a0
 have o1:=l1.well
 have q7:Qn s.blocks.toNat c1≤30000000:=by have:=o1.2;unfold Qn at this ⊢;simp only[List.length_cons,List.length_nil] at this;omega
 have r9:unt c1 s.blocks.toNat<s.blocks.toNat+1:=by have:=o1.1;omega
 refine xlv 32 (l7.rpp 3 3) ?_
 refine xa 0 [V0 0,V0 0,V0 0] 76 fun t7 t2 a6=>?_
 have e0:=a6.ne l7
 have i0:=b9.trans l8
 have r1:=a6.ge i0
 have d9:=Zn ho a6
 refine xsv 0 a6.blk [V0 0,V0 s.details,V0 3] fun t4 g2 q9=>?_
 refine xlv 5 q9.rp ?_
 have k9:=g2.own3 (Zb ho a6.below) d9
 have f9:=g2.blkT (m7.below a6.below) a6.blk (by decide)
 have j7:=(hM.below a6.below).updBlk g2 a6.blk
 have f2:=g2.blk (l7.below a6.below) (Ne.symm (Ne.symm e0))
 have c0:=g2.below (bln i0 a6.below) r1
 refine xc 0 (args:=#[P0 b5,.agg #[V0 0,V0 s.details,V0 3]]) (Lv w.heap.size Bi b b5 rm b6 [V0 0,V0 s.top,V0 1,V0 0,V0 s.details,V0 3,V0 0,V0 s.dslots,V0 4,V0 0,V0 s.dover,V0 5,V0 0,V0 s.mindex,V0 6,V0 0,V0 s.mover,V0 5] pi ni ci l s.blocks.toNat (s.blocks.toNat+1) q2 o9 c1 0 s.details 3 _ ⟨hI.below c0,f9,k9,j7,c0.size,g5,e5,f2,h5⟩ (by omega) (by omega) (by unfold Qn;first|(simp only[List.length_nil];omega)|(unfold Qn at q7;omega)) (by decide) (by decide)) ?_
 rintro e s6 l3
 rcases l3 with ⟨a0,a8,vr,rfl,e1,i7,a9⟩|⟨a0,p5,o7,rfl,e1,i7,⟨_,m3,ho,hM,_,_,_,k1,f1⟩⟩
 ·have b2:=l1.bad (x:=(0,s.details,3,0)) a0 [(0,s.dslots,4,0),(0,s.dover,5,0),(0,s.mindex,6,0),(0,s.mover,5,0)]
  have l2:=c0.trans e1
  refine xe 23 (.tuple #[S0,.iface a8 (vr)]) ?_
  exact Kv ((Jl b4).trans b2) a0 l2 a9
 obtain⟨c2,o5⟩:∃ c,(Xv l s.blocks.toNat (s.blocks.toNat+1) c1 (0,s.details,3,0)).1=c:=⟨_,rfl⟩
 rw[o5] at ho hM m3 f1
 have j3:Jo (Xv l s.blocks.toNat (s.blocks.toNat+1)) [] [(0,s.top,1,0),(0,s.details,3,0)] c2:=l1.more o5 a0
 have o2:=j3.well
 have r5:Qn s.blocks.toNat c2≤30000000:=by have:=o2.2;unfold Qn at this ⊢;simp only[List.length_cons,List.length_nil] at this;omega
 have t3:unt c2 s.blocks.toNat<s.blocks.toNat+1:=by have:=o2.1;omega
 refine xlv 32 (k1.rpp 6 3) ?_
 refine xa 0 [V0 0,V0 0,V0 0] 76 fun u1 u2 b0=>?_
 have d3:=b0.ne k1
 have h9:=c0.trans e1
 have q1:=b0.ge h9
 have d1:=Zn ho b0
 refine xsv 0 b0.blk [V0 0,V0 s.dslots,V0 4] fun t9 f3 r0=>?_
 refine xlv 5 r0.rp ?_
 have j1:=f3.own3 (Zb ho b0.below) d1
 have f0:=f3.blkT (m3.below b0.below) b0.blk (by decide)
 have i5:=(hM.below b0.below).updBlk f3 b0.blk
 have f4:=f3.blk (k1.below b0.below) (Ne.symm (Ne.symm d3))
 have a2:=f3.below (bln h9 b0.below) q1
 refine xc 0 (args:=#[P0 b5,.agg #[V0 0,V0 s.dslots,V0 4]]) (Lv w.heap.size Bi b b5 rm b6 [V0 0,V0 s.top,V0 1,V0 0,V0 s.details,V0 3,V0 0,V0 s.dslots,V0 4,V0 0,V0 s.dover,V0 5,V0 0,V0 s.mindex,V0 6,V0 0,V0 s.mover,V0 5] pi ni ci l s.blocks.toNat (s.blocks.toNat+1) p5 o7 c2 0 s.dslots 4 _ ⟨hI.below a2,f0,j1,i5,a2.size,g5,e5,f4,f1⟩ (by omega) (by omega) (by unfold Qn;first|(simp only[List.length_nil];omega)|(unfold Qn at r5;omega)) (by decide) (by decide)) ?_
 rintro e s3 k2
 rcases k2 with ⟨a0,a8,vr,rfl,d6,j5,a9⟩|⟨a0,q5,r6,rfl,d6,j5,⟨_,o0,ho,hM,_,_,_,m0,g9⟩⟩
 ·have b2:=j3.bad (x:=(0,s.dslots,4,0)) a0 [(0,s.dover,5,0),(0,s.mindex,6,0),(0,s.mover,5,0)]
  have h3:=a2.trans d6
  refine xe 23 (.tuple #[S0,.iface a8 (vr)]) ?_
  exact Kv ((Jl b4).trans b2) a0 h3 a9
 obtain⟨c3,e6⟩:∃ c,(Xv l s.blocks.toNat (s.blocks.toNat+1) c2 (0,s.dslots,4,0)).1=c:=⟨_,rfl⟩
 rw[e6] at ho hM o0 g9
 have m2:Jo (Xv l s.blocks.toNat (s.blocks.toNat+1)) [] [(0,s.top,1,0),(0,s.details,3,0),(0,s.dslots,4,0)] c3:=j3.more e6 a0
 have n3:=m2.well
 have r2:Qn s.blocks.toNat c3≤30000000:=by have:=n3.2;unfold Qn at this ⊢;simp only[List.length_cons,List.length_nil] at this;omega
 have u6:unt c3 s.blocks.toNat<s.blocks.toNat+1:=by have:=n3.1;omega
 refine xlv 32 (m0.rpp 9 3) ?_
 refine xa 0 [V0 0,V0 0,V0 0] 76 fun s9 u3 b3=>?_
 have e2:=b3.ne m0
 have c8:=a2.trans d6
 have r7:=b3.ge c8
 have e3:=Zn ho b3
 refine xsv 0 b3.blk [V0 0,V0 s.dover,V0 5] fun s4 e7 q6=>?_
 refine xlv 5 q6.rp ?_
 have k7:=e7.own3 (Zb ho b3.below) e3
 have h0:=e7.blkT (o0.below b3.below) b3.blk (by decide)
 have j2:=(hM.below b3.below).updBlk e7 b3.blk
 have f8:=e7.blk (m0.below b3.below) (Ne.symm (Ne.symm e2))
 have a1:=e7.below (bln c8 b3.below) r7
 refine xc 0 (args:=#[P0 b5,.agg #[V0 0,V0 s.dover,V0 5]]) (Lv w.heap.size Bi b b5 rm b6 [V0 0,V0 s.top,V0 1,V0 0,V0 s.details,V0 3,V0 0,V0 s.dslots,V0 4,V0 0,V0 s.dover,V0 5,V0 0,V0 s.mindex,V0 6,V0 0,V0 s.mover,V0 5] pi ni ci l s.blocks.toNat (s.blocks.toNat+1) q5 r6 c3 0 s.dover 5 _ ⟨hI.below a1,h0,k7,j2,a1.size,g5,e5,f8,g9⟩ (by omega) (by omega) (by unfold Qn;first|(simp only[List.length_nil];omega)|(unfold Qn at r2;omega)) (by decide) (by decide)) ?_
 rintro e s0 j9
 rcases j9 with ⟨a0,a8,vr,rfl,d4,i9,a9⟩|⟨a0,q3,q4,rfl,d4,i9,⟨_,o6,ho,hM,_,_,_,j6,g0⟩⟩
 ·have b2:=m2.bad (x:=(0,s.dover,5,0)) a0 [(0,s.mindex,6,0),(0,s.mover,5,0)]
  have h2:=a1.trans d4
  refine xe 23 (.tuple #[S0,.iface a8 (vr)]) ?_
  exact Kv ((Jl b4).trans b2) a0 h2 a9
 obtain⟨c4,n0⟩:∃ c,(Xv l s.blocks.toNat (s.blocks.toNat+1) c3 (0,s.dover,5,0)).1=c:=⟨_,rfl⟩
 rw[n0] at ho hM o6 g0
 have l5:Jo (Xv l s.blocks.toNat (s.blocks.toNat+1)) [] [(0,s.top,1,0),(0,s.details,3,0),(0,s.dslots,4,0),(0,s.dover,5,0)] c4:=m2.more n0 a0
 have n9:=l5.well
 have p7:Qn s.blocks.toNat c4≤30000000:=by have:=n9.2;unfold Qn at this ⊢;simp only[List.length_cons,List.length_nil] at this;omega
 have s7:unt c4 s.blocks.toNat<s.blocks.toNat+1:=by have:=n9.1;omega
 refine xlv 32 (j6.rpp 12 3) ?_
 refine xa 0 [V0 0,V0 0,V0 0] 76 fun t8 s2 b8=>?_
 have d8:=b8.ne j6
 have c7:=a1.trans d4
 have q8:=b8.ge c7
 have e4:=Zn ho b8
 refine xsv 0 b8.blk [V0 0,V0 s.mindex,V0 6] fun t5 e8 p6=>?_
 refine xlv 5 p6.rp ?_
 have k3:=e8.own3 (Zb ho b8.below) e4
 have h6:=e8.blkT (o6.below b8.below) b8.blk (by decide)
 have l9:=(hM.below b8.below).updBlk e8 b8.blk
 have i3:=e8.blk (j6.below b8.below) (Ne.symm (Ne.symm d8))
 have a4:=e8.below (bln c7 b8.below) q8
 refine xc 0 (args:=#[P0 b5,.agg #[V0 0,V0 s.mindex,V0 6]]) (Lv w.heap.size Bi b b5 rm b6 [V0 0,V0 s.top,V0 1,V0 0,V0 s.details,V0 3,V0 0,V0 s.dslots,V0 4,V0 0,V0 s.dover,V0 5,V0 0,V0 s.mindex,V0 6,V0 0,V0 s.mover,V0 5] pi ni ci l s.blocks.toNat (s.blocks.toNat+1) q3 q4 c4 0 s.mindex 6 _ ⟨hI.below a4,h6,k3,l9,a4.size,g5,e5,i3,g0⟩ (by omega) (by omega) (by unfold Qn;first|(simp only[List.length_nil];omega)|(unfold Qn at p7;omega)) (by decide) (by decide)) ?_
 rintro e u9 k4
 rcases k4 with ⟨a0,a8,vr,rfl,d2,l0,a9⟩|⟨a0,p1,p8,rfl,d2,l0,⟨_,m5,ho,hM,_,_,_,k6,h1⟩⟩
 ·have b2:=l5.bad (x:=(0,s.mindex,6,0)) a0 [(0,s.mover,5,0)]
  have h7:=a4.trans d2
  refine xe 23 (.tuple #[S0,.iface a8 (vr)]) ?_
  exact Kv ((Jl b4).trans b2) a0 h7 a9
 obtain⟨c5,m9⟩:∃ c,(Xv l s.blocks.toNat (s.blocks.toNat+1) c4 (0,s.mindex,6,0)).1=c:=⟨_,rfl⟩
 rw[m9] at ho hM m5 h1
 have i6:Jo (Xv l s.blocks.toNat (s.blocks.toNat+1)) [] [(0,s.top,1,0),(0,s.details,3,0),(0,s.dslots,4,0),(0,s.dover,5,0),(0,s.mindex,6,0)] c5:=l5.more m9 a0
 have n4:=i6.well
 have p0:Qn s.blocks.toNat c5≤30000000:=by have:=n4.2;unfold Qn at this ⊢;simp only[List.length_cons,List.length_nil] at this;omega
 have t1:unt c5 s.blocks.toNat<s.blocks.toNat+1:=by have:=n4.1;omega
 refine xlv 32 (k6.rpp 15 3) ?_
 refine xa 0 [V0 0,V0 0,V0 0] 76 fun u4 u5 a7=>?_
 have d5:=a7.ne k6
 have c9:=a4.trans d2
 have o8:=a7.ge c9
 have d0:=Zn ho a7
 refine xsv 0 a7.blk [V0 0,V0 s.mover,V0 5] fun t0 g3 r3=>?_
 refine xlv 5 r3.rp ?_
 have k0:=g3.own3 (Zb ho a7.below) d0
 have g8:=g3.blkT (m5.below a7.below) a7.blk (by decide)
 have l4:=(hM.below a7.below).updBlk g3 a7.blk
 have f6:=g3.blk (k6.below a7.below) (Ne.symm (Ne.symm d5))
 have a3:=g3.below (bln c9 a7.below) o8
 refine xc 0 (args:=#[P0 b5,.agg #[V0 0,V0 s.mover,V0 5]]) (Lv w.heap.size Bi b b5 rm b6 [V0 0,V0 s.top,V0 1,V0 0,V0 s.details,V0 3,V0 0,V0 s.dslots,V0 4,V0 0,V0 s.dover,V0 5,V0 0,V0 s.mindex,V0 6,V0 0,V0 s.mover,V0 5] pi ni ci l s.blocks.toNat (s.blocks.toNat+1) p1 p8 c5 0 s.mover 5 _ ⟨hI.below a3,g8,k0,l4,a3.size,g5,e5,f6,h1⟩ (by omega) (by omega) (by unfold Qn;first|(simp only[List.length_nil];omega)|(unfold Qn at p0;omega)) (by decide) (by decide)) ?_
 rintro e s5 j4
 rcases j4 with ⟨a0,a8,vr,rfl,d7,j0,a9⟩|⟨a0,p9,r4,rfl,d7,j0,⟨_,m6,ho,hM,_,_,_,t6,i4⟩⟩
 ·have b2:=i6.bad (x:=(0,s.mover,5,0)) a0 []
  have h8:=a3.trans d7
  refine xe 23 (.tuple #[S0,.iface a8 (vr)]) ?_
  exact Kv ((Jl b4).trans b2) a0 h8 a9
 obtain⟨c6,m8⟩:∃ c,(Xv l s.blocks.toNat (s.blocks.toNat+1) c5 (0,s.mover,5,0)).1=c:=⟨_,rfl⟩
 rw[m8] at ho hM m6 i4
 have i8:Jo (Xv l s.blocks.toNat (s.blocks.toNat+1)) [] [(0,s.top,1,0),(0,s.details,3,0),(0,s.dslots,4,0),(0,s.dover,5,0),(0,s.mindex,6,0),(0,s.mover,5,0)] c6:=i6.more m8 a0
 have o4:=i8.well
 have s8:Qn s.blocks.toNat c6≤30000000:=by have:=o4.2;unfold Qn at this ⊢;simp only[List.length_cons,List.length_nil] at this;omega
 have u0:unt c6 s.blocks.toNat<s.blocks.toNat+1:=by have:=o4.1;omega
 refine xb 35 3 m6 ?_
 have f5:=a3.trans d7
 refine xe 5 (.tuple #[.slice p9 c6.length r4,.nilIface]) ?_
 have e9:=Jl (l:=l) b4
 exact linksP_ok (by rw[e9];exact i8.1) (by rw[e9];exact i8.2) rfl f5 ho
theorem Zgu(B bm:Nat)(p:O0)(k c:Nat)(l:Bl)(no:Int)(w:World)(hI:RefI B bm p k c l w) :
 C0 84 #[P0 bm,V0 no] w (fun e w' =>
 (Xn l no≠0∧∃ p c a c2,e=.returned (.tuple #[.slice p 0 c,.agg #[.slice a 1 c2,V0 (Xn l no)]])∧B3 w w'∧w'.ownsRow w.heap.size 3 1 (.slice a 1 c2) 1 (([no]:List Int).map V0)) ∨
 (Xn l no=0∧∃ p c a c2,e=.returned (.tuple #[.slice p (Zb4 l no).length c,.agg #[.slice a 0 c2,V0 0]])∧B3 w w'∧w'.ownsRow w.heap.size 3 1 (.slice p (Zb4 l no).length c) (Zb4 l no).length ((Zb4 l no).map V0))):=by
 refine(ref11_Bits B bm p k c l no w hI).mono ?_
 rintro e W ⟨p,c,a5,c5,rfl,hb,ho,hf⟩
 by_cases h:Xn l no=0
 ·refine .inr ⟨h,p,c,a5,c5,?_,hb,ho⟩
  rw[h];rfl
 ·refine .inl ⟨h,p,c,a5,c5,?_,hb,?_⟩
  ·rw[Zbm h,Cz h];rfl
  ·rw[Cz h] at hf;exact hf
theorem Zcb(B bm:Nat)(p:O0)(k c:Nat)(l:Bl)(no:Int)(w:World)(hI:RefI B bm p k c l w) :
 C0 85 #[P0 bm,V0 no] w (fun e w' =>
 (Xx l no≠0∧∃ p c a c2,e=.returned (.tuple #[.slice p 0 c,.agg #[.slice a 1 c2,V0 (Xx l no)]])∧B3 w w'∧w'.ownsRow w.heap.size 3 1 (.slice a 1 c2) 1 (([no]:List Int).map V0)) ∨
 (Xx l no=0∧∃ p c a c2,e=.returned (.tuple #[.slice p (Vz l no).length c,.agg #[.slice a 0 c2,V0 0]])∧B3 w w'∧w'.ownsRow w.heap.size 134 3 (.slice p (Vz l no).length c) (Vz l no).length ((Vz l no).flatMap Zf6))):=by
 refine(Zeu B bm p k c l no w hI).mono ?_
 rintro e W ⟨p,c,a5,c5,rfl,hb,ho,hf⟩
 by_cases h:Xx l no=0
 ·refine .inr ⟨h,p,c,a5,c5,?_,hb,ho⟩
  rw[h];rfl
 ·refine .inl ⟨h,p,c,a5,c5,?_,hb,?_⟩
  ·rw[Rk h,Cz h];rfl
  ·rw[Cz h] at hf;exact hf
def wkC (x:Lk):List Value:=[V0 x.1,V0 x.2.1,V0 x.2.2.1,V0 x.2.2.2]
theorem Zan(x:Lk):(wkC x).length=4:=rfl
theorem wk_one(ts:List Lk):∀ u∈ts.flatMap wkC,u.oneCell'=true:=by
 intro u hu
 obtain⟨t,_,h⟩:=List.mem_flatMap.1 hu
 simp only[wkC,List.mem_cons,List.not_mem_nil,or_false] at h
 rcases h with rfl|rfl|rfl|rfl<;>rfl
def lrC (x:Lk):List Value:=[V0 x.1,V0 x.2.1,V0 x.2.2.1]
theorem lrC_len(x:Lk):(lrC x).length=3:=rfl
def lkD:Lk:=(0,0,0,0)
def Zcn(B:Nat)(w:World)(a:O0)(c:Nat)(ts:List Lk):Prop:=∃ v0 n0 xs0,w.ownsRow B 83 4 v0 n0 xs0∧∀ W,W.ownsRow B 83 4 v0 n0 xs0→Sts wkC W (.slice a ts.length c) ts
theorem Zcn.below{B:Nat}{w W:World}{a:O0}{c:Nat}{ts:List Lk}(h:Zcn B w a c ts)(hb:B3 w W):Zcn B W a c ts:=by
 obtain⟨v0,n0,a0,h1,h2⟩:=h
 exact⟨v0,n0,a0,Zb h1 hb,h2⟩
theorem Zcn.sts{B:Nat}{w:World}{a:O0}{c:Nat}{ts:List Lk}(h:Zcn B w a c ts):Sts wkC w (.slice a ts.length c) ts:=by
 obtain⟨v0,n0,a0,h1,h2⟩:=h
 exact h2 w h1
theorem Zcn.of{B:Nat}{w:World}{a:O0}{n c:Nat}{ts:List Lk}(h:w.ownsRow B 83 4 (.slice a n c) n (ts.flatMap wkC))(hn:n=ts.length):Zcn B w a c ts:=by
 subst hn
 exact⟨_,_,_,h,fun W k=>Ze k⟩
theorem Zcn.tail{B:Nat}{w:World}{a:O0}{c:Nat}{t:Lk}{ts:List Lk}(h:Zcn B w a c (t::ts)):Zcn B w (Qu a 1 c 4) (c-1) ts:=by
 obtain⟨v0,n0,a0,h1,h2⟩:=h
 exact⟨v0,n0,a0,h1,fun W k=>Sts.cut Zan (h2 W k) 1 (by simp)⟩
def Wj(B N:Nat)(w:World)(a:O0)(c:Nat)(ts:List Lk):Prop:=∃ v0 n0 xs0,w.ownsRow B 83 4 v0 n0 xs0∧(∀ j,v0.ownBlock=some j→j<N)∧∀ W,W.ownsRow B 83 4 v0 n0 xs0→Sts wkC W (.slice a ts.length c) ts
theorem Zcn.at_{B:Nat}{w:World}{a:O0}{c:Nat}{ts:List Lk}(h:Zcn B w a c ts):Wj B w.heap.size w a c ts:=by
 obtain⟨v0,n0,a0,h1,h2⟩:=h
 exact⟨v0,n0,a0,h1,fun j hj=>(h1.lt j hj).2,h2⟩
theorem Wj.un{B N:Nat}{w:World}{a:O0}{c:Nat}{ts:List Lk}(h:Wj B N w a c ts):Zcn B w a c ts:=by
 obtain⟨v0,n0,a0,h1,_,h2⟩:=h
 exact⟨v0,n0,a0,h1,h2⟩
theorem Wj.below{B N:Nat}{w W:World}{a:O0}{c:Nat}{ts:List Lk}(h:Wj B N w a c ts)(hb:B3 w W):Wj B N W a c ts:=by
 obtain⟨v0,n0,a0,h1,h3,h2⟩:=h
 exact⟨v0,n0,a0,Zb h1 hb,h3,h2⟩
theorem Wj.only{B N:Nat}{w W:World}{a:O0}{c:Nat}{ts:List Lk}{T:List TypeId}(h:Wj B N w a c ts)(hO:Zf T w W)(hT:T.contains 83=false):Wj B N W a c ts:=by
 obtain⟨v0,n0,a0,h1,h3,h2⟩:=h
 exact⟨v0,n0,a0,Zj h1 hO hT,h3,h2⟩
theorem Wj.updN{B N:Nat}{w w0 W W2:World}{b:Nat}{cs:List Value}{e:TypeId}{a:O0}{c:Nat}{ts:List Lk}(h:Wj B N w a c ts)(u:Upd w b W)(n:New w0 b cs e W2)(hN:N≤w0.heap.size):Wj B N W a c ts:=by
 obtain⟨v0,n0,a0,h1,h3,h2⟩:=h
 exact⟨v0,n0,a0,u.own3 h1 (fun j hj=>by have:=h3 j hj;have:=n.at_;omega),h3,h2⟩
theorem sufk_eq{w:World}{a:O0}{c:Nat}{ts us:List Lk}(h:Sts wkC w (.slice a ts.length c) ts)(e:ts=us):Sts wkC w (.slice a us.length c) us:=by subst e;exact h
theorem Wj.sts{B N:Nat}{w:World}{a:O0}{c:Nat}{ts us:List Lk}(h:Wj B N w a c ts)(e:ts=us):Sts wkC w (.slice a us.length c) us:=sufk_eq h.un.sts e
theorem Wj.tail{B N:Nat}{w:World}{a:O0}{c:Nat}{ts us:List Lk}{t:Lk}(h:Wj B N w a c ts)(e:ts=t::us):Zcn B w (Qu a 1 c 4) (c-1) us:=by subst e;exact h.un.tail
theorem Wj.slN{B N:Nat}{w:World}{a:O0}{c:Nat}{ts us:List Lk}{t:Lk}(h:Wj B N w a c ts)(e:ts=t::us):Sl w (.slice (Qu a 1 c 4) (ts.length-1) (c-1)) (ts.length-1) (us.flatMap wkC):=by subst e;exact h.un.tail.sts
def RHasK(l:Bl)(no ak:Int)(w:World)(e:Ending)(w':World):Prop :=
 (Pb l no ak≠0∧∃ p m c a d,e=.returned (.tuple #[.slice p m c,.agg #[.slice a 1 d,V0 (Pb l no ak)]])∧B3 w w'∧w'.ownsRow w.heap.size 3 1 (.slice a 1 d) 1 (([no]:List Int).map V0)) ∨
 (Pb l no ak=0∧∃ p c a d,e=.returned (.tuple #[.slice p (Nw l no ak).length c,.agg #[.slice a 0 d,V0 0]])∧B3 w w'∧w'.ownsRow w.heap.size 83 4 (.slice p (Nw l no ak).length c) (Nw l no ak).length ((Nw l no ak).flatMap wkC))
theorem Te{l:Bl}{no ak er:Int}{w W:World}{p a:O0}{m c d:Nat}(h:Pb l no ak=er)(her:er≠0)(hb:B3 w W)(ho:W.ownsRow w.heap.size 3 1 (.slice a 1 d) 1 (([no]:List Int).map V0)):RHasK l no ak w (.returned (.tuple #[.slice p m c,.agg #[.slice a 1 d,V0 er]])) W:=by
 subst h;exact .inl ⟨her,p,m,c,a,d,rfl,hb,ho⟩
theorem Zbg{l:Bl}{no ak:Int}{L:List Lk}{n:Nat}{w W:World}{p a:O0}{c d:Nat}(h:Pb l no ak=0)(hL:Nw l no ak=L)(hn:L.length=n)(hb:B3 w W)(ho:W.ownsRow w.heap.size 83 4 (.slice p n c) n (L.flatMap wkC)):RHasK l no ak w (.returned (.tuple #[.slice p n c,.agg #[.slice a 0 d,V0 0]])) W:=by
 subst hL hn;exact .inr ⟨h,p,c,a,d,rfl,hb,ho⟩
theorem hasE_6K(l:Bl)(no:Int):Pb l no 6=Xx l no:=if_pos rfl
theorem hasE_7K(l:Bl)(no:Int):Pb l no 7=Xn l no:=by unfold Pb;rw[if_neg (by decide),if_pos rfl]
theorem hasE_nK{l:Bl}{no t:Int}(h6:t≠6)(h7:t≠7):Pb l no t=Xl l no t:=by unfold Pb;rw[if_neg h6,if_neg h7]
theorem hasJ_6K(l:Bl)(no:Int):Nw l no 6=(Vz l no).map (Fh no):=if_pos rfl
theorem hasJ_7K(l:Bl)(no:Int):Nw l no 7=[]:=by unfold Nw;rw[if_neg (by decide),if_pos rfl]
theorem hasJ_nK{l:Bl}{no t:Int}(h6:t≠6)(h7:t≠7):Nw l no t=Zd6 l no:=by unfold Nw;rw[if_neg h6,if_neg h7]
theorem Ht(l:Bl)(no:Int):(Vy l no).length=Xi (inB l no):=by unfold Vy;exact Up _ _
theorem Oa{l:Bl}{no:Int}{i:Nat}(h:Pz (Xz (inB l no)) (Yi (inB l no))):Vp l no (i+1)=Vp l no i:=by unfold Vp;rw[if_pos h,if_pos h]
theorem takeJ_full{l:Bl}{no:Int}{i:Nat}(h:i=(Vy l no).length):Vp l no i=Zd6 l no:=by subst h;exact Zc6 l no
theorem Zf7{no t:Int}{leaf:Bool}{v:Bl}(h:leaf=true)(h4:t=4):wkC (Uz no t leaf v)=[V0 no,V0 (((Yo Xj v).getD 0 0:Nat):Int),V0 7,V0 (Yf Xj v)]:=by
 unfold Uz;rw[if_pos ⟨h,h4⟩];rfl
theorem Zbc{no t:Int}{leaf:Bool}{v:Bl}(h:leaf=true)(h4:t≠4):wkC (Uz no t leaf v)=[V0 no,V0 (Jp v:Int),V0 2,V0 (Ko v)]:=by
 unfold Uz;rw[if_neg (fun q=>h4 q.2),if_pos h];rfl
theorem Zb1{no t:Int}{leaf:Bool}{v:Bl}(h:leaf=false):wkC (Uz no t leaf v)=[V0 no,V0 (Jp v:Int),V0 t,V0 (Ko v)]:=by
 unfold Uz;rw[if_neg (fun q=>by rw[h] at q;exact absurd q.1 (by decide)),h];rfl
theorem sltK_flat(no:Int)(L:List (Nat×Nat×Nat)){i:Nat}(hi:i<L.length):((L.take (i+1)).map (Fh no)).flatMap wkC=((L.take i).map (Fh no)).flatMap wkC++[V0 no,V0 ((L.getD i (0,0,0)).1:Int),V0 7,V0 0]:=by
 rw[Zcx hi,List.flatMap_append];simp[Fh,wkC]
theorem toldK_at{out:List Lk}{no:Int}{i:Nat}(hi:i<out.length)(h:(out.getD i lkD).2.1=no):Vg out no=true:=by
 unfold Vg
 rw[List.any_eq_true]
 exact⟨out.getD i lkD,by rw[show out.getD i lkD=out[i] from by simp[List.getD,hi]];exact List.getElem_mem hi,by simpa using h⟩
theorem toldK_none{out:List Lk}{no:Int}(h:∀ i,i<out.length→(out.getD i lkD).2.1≠no):Vg out no=false:=by
 unfold Vg
 rw[List.any_eq_false]
 intro x hx
 obtain⟨i,hi,rfl⟩:=List.mem_iff_getElem.1 hx
 have:=h i hi
 rw[show out.getD i lkD=out[i] from by simp[List.getD,hi]] at this
 simpa using this
theorem ref47_told(pl:O0)(cl:Nat)(out:List Lk)(no:Int)(w:World)(hL:Sts lrC w (.slice pl out.length cl) out) :
 C0 39 #[.slice pl out.length cl,V0 no] w (Ret (.bool (Vg out no)) w):=by
 have a6:=Sl.len hL
 refine zin 19 Tryz.func39 ?_
 have hB:=Below.refl w.heap.size w
 refine zl 12 19 (fun zm a2 V=>∃ (i:Nat),a2=[(0,.slice pl out.length cl),(1,V0 no),(5,V0 (i:Int))]∧zm=out.length-((i:Int)).toNat∧B3 w V∧i≤out.length∧(∀ j,j<i→(out.getD j lkD).2.1≠no)) ⟨0,rfl,rfl,hB,Nat.zero_le _,?_⟩ ?_
 ·exact fun j hj=>absurd hj (by omega)
 rintro _ _ W1 ⟨i,rfl,rfl,a0,hi,a1⟩ J1 a3 r1
 refine xid 9 ((i:Int)<(out.length:Int)) (fun a5=>?_) (fun a5=>?_)
 ·refine xx 8 _ out.length i 3 (Sts.cell (f:=lrC) hL lrC_len lkD (k:=i) (i:=0) (by omega) rfl).1 ?_
  refine xl 1 ((Sts.cell (hL.below a0) lrC_len lkD (k:=i) (i:=1) (by omega) rfl).2) ?_
  refine xie 4 ((out.getD i lkD).2.1) no (fun a4=>?_) (fun a4=>?_)
  ·exact xe 11 (.bool true) ⟨by rw[toldK_at (i:=i) (by omega) (by assumption)],a0⟩
  refine xwm 5 ((i:Int)+1) (↑(i+1):Int) ?_
  exact ze 2 (a3 _ _ _ ⟨i+1,rfl,rfl,a0,by omega,(fun j hj=>by rcases Nat.lt_succ_iff_lt_or_eq.1 hj with q|q;exact a1 j q;subst q;assumption)⟩ (by omega))
 exact xe 11 (.bool false) ⟨by rw[toldK_none (fun j hj=>a1 j (by omega))],a0⟩
theorem ref47_has6(B bm:Nat)(p:O0)(k c:Nat)(l:Bl)(no:Int)(w:World)(hI:RefI B bm p k c l w) :
 C0 40 #[P0 bm,V0 no,V0 6] w (RHasK l no 6 w):=by
 refine zin 142 Tryz.func40 ?_
 refine xa 3 [S0,V0 0] 36 fun b1 W1 n1=>?_
 refine xc 29 (args:=#[P0 bm,V0 no]) (Zcb B bm p k c l no _ (hI.below n1.below)) ?_
 rintro e W2 d7
 rcases d7 with ⟨d3,p9,c9,a9,d9,rfl,c2,e4⟩|⟨d3,p9,c9,a9,d9,rfl,c2,hs⟩
 ·refine xa 3 [S0,V0 0] 36 fun b3 W3 n3=>?_
  have k1:=n1.blk.below c2
  have c0:=n3.ne k1
  have b8:=bln n1.below c2
  have g3:=n3.ge b8
  refine xsv 1 n3.blk [.slice a9 1 d9,V0 (Xx l no)] fun W4 u4 k4=>?_
  refine xu 9 1 ?_
  refine xd 16 (.t w.heap.size [36]) ?_
  have d0:=k4.below (Za W4)
  refine xlv (.o [0,2] 1) d0.rp ?_
  have b0:=(u4.blk (k1.below n3.below) (Ne.symm (Ne.symm c0))).below (Za W4)
  have g1:=n1.ge (B4 w)
  refine ysv (.o [] 3) b0 [.slice a9 1 d9,V0 (Xx l no)] (.t w.heap.size [36]) fun W5 u5 k5=>⟨(Zl u5 b0 g1 (by decide)),?_⟩
  have b4:=u5.own2 (Zb (u4.own2 (Zb (Zd e4 n1.below.size) n3.below) n3.blk (by decide)) (Za W4)) b0 (by decide)
  have d1:=u5.below (bln (u4.below (bln b8 n3.below) g3) (Za W4)) g1
  exact xec 4 k5 (.tuple #[S0,.agg #[.slice a9 1 d9,V0 (Xx l no)]]) (Te (hasE_6K l no) d3 d1 b4)
 have e5:=Zbs l no
 refine xa 3 [S0,V0 0] 36 fun b6 W6 n6=>?_
 have k1:=n1.blk.below c2
 have c1:=n6.ne k1
 have b5:=bln n1.below c2
 have g6:=n6.ge b5
 refine xsv 1 n6.blk [.slice a9 0 d9,V0 0] fun W7 u7 k7=>?_
 have d5:=u7.own2 (Zb (Zd hs n1.below.size) n6.below) n6.blk (by decide)
 have c4:=u7.below (bln b5 n6.below) g6
 have c7:=u7.blk (k1.below n6.below) (Ne.symm (Ne.symm c1))
 refine zl 9 142 (fun zm d6 V=>∃ (i:Nat) (pz:O0) (cz:Nat),d6=[(0,P0 bm),(1,V0 no),(2,V0 6),(6,S0),(7,P0 b1),(8,.slice pz i cz),(11,.slice p9 ((Vz l no).length) c9),(12,P0 b6),(13,V0 (i:Int))]∧zm=(Vz l no).length-((i:Int)).toNat∧B3 w V∧Blk V b1 ([S0,V0 0]) 36∧Blk V b6 ([.slice a9 0 d9,V0 0]) 36∧V.ownsRow w.heap.size 134 3 (.slice p9 (Vz l no).length c9) (Vz l no).length ((Vz l no).flatMap Zf6)∧V.ownsRow w.heap.size 83 4 (.slice pz i cz) i ((((Vz l no).take i).map (Fh no)).flatMap wkC)∧i≤(Vz l no).length) ⟨0,none,0,rfl,rfl,c4,c7,k7,d5,World.ownsRow_nil _ _ _ _,Nat.zero_le _⟩ ?_
 rintro _ _ W8 ⟨i,pz,cz,rfl,rfl,a8,a7,a6,hs,ho,hi⟩ J8 e3 r8
 refine xid 9 ((i:Int)<(↑((Vz l no).length):Int)) (fun e2=>?_) (fun e2=>?_)
 ·refine xx 9 _ ((Vz l no).length) i 3 (Sts.cell (f:=Zf6) (Ze hs) Rb (0,0,0) (k:=i) (i:=0) (by omega) rfl).1 ?_
  refine xl 1 ((Sts.cell (Ze hs) Rb (0,0,0) (k:=i) (i:=0) (by omega) rfl).2) ?_
  refine xbs 2 1 [V0 no,V0 (↑((Vz l no).getD i (0,0,0)).1:Int),V0 7,V0 0] 83 fun f0 e7 a5=>?_
  have f1:=a5.ge a8
  have c3:=Zn ho a5
  have a2:=Zb ho a5.below
  have b7:=bln a8 a5.below
  refine xbi 0 fun _ _ _ _ zJ zQ zo zx zy zK=>Zr (m:=1) (news:=[V0 no,V0 (↑((Vz l no).getD i (0,0,0)).1:Int),V0 7,V0 0]) (.agg #[V0 0,V0 0,V0 0,V0 0]) 4 32 (i+1) (((((Vz l no).take (i+1)).map (Fh no)).flatMap wkC)) zo Tryz.underlying84 (by kernel_rfl) rfl (by decide) zx a2 zy (a5.blk.sl 1 1 (by decide) (by decide)) rfl (by simp[Value.oneCell']) (by unfold maxLen;omega) (by omega) b7.size (rfl) (by rw[sltK_flat no _ (by omega)]) fun d8 e1 e9 e0 b2 d2=>?_
  refine zK _ _ ?_
  refine xwm 6 ((i:Int)+1) (↑(i+1):Int) ?_
  have c8:=b7.trans d2
  have a1:=(a7.below a5.below).grown b2 a2 (by decide)
  have a4:=(a6.below a5.below).grown b2 a2 (by decide)
  have d4:=Xk (Zb hs a5.below) b2 a2 (by decide)
  exact ze 2 (e3 _ _ _ ⟨i+1,_,_,rfl,rfl,c8,a1,a4,d4,e0,by omega⟩ (by omega))
 refine xd 6 (.t w.heap.size [36]) ?_
 have a3:=a6.below (Za W8)
 refine xlv (.o [0,2] 1) a3.rp ?_
 have a0:=a7.below (Za W8)
 have g1:=n1.ge (B4 w)
 refine ysv (.o [] 3) a0 [.slice a9 0 d9,V0 0] (.t w.heap.size [36]) fun e8 c6 e6=>⟨(Zl c6 a0 g1 (by decide)),?_⟩
 have b9:=c6.own2 (Zb ho (Za W8)) a0 (by decide)
 have c5:=c6.below (bln a8 (Za W8)) g1
 refine xec 4 e6 (.tuple #[.slice pz i cz,.agg #[.slice a9 0 d9,V0 0]]) ?_
 obtain rfl:i=(Vz l no).length:=by omega
 rw[List.take_length] at b9
 exact Zbg ((hasE_6K l no).trans d3) (hasJ_6K l no) (List.length_map _) c5 b9
theorem ref47_has7(B bm:Nat)(p:O0)(k c:Nat)(l:Bl)(no:Int)(w:World)(hI:RefI B bm p k c l w) :
 C0 40 #[P0 bm,V0 no,V0 7] w (RHasK l no 7 w):=by
 refine zin 142 Tryz.func40 ?_
 refine xa 3 [S0,V0 0] 36 fun b1 W1 n1=>?_
 refine xc 19 (args:=#[P0 bm,V0 no]) (Zgu B bm p k c l no _ (hI.below n1.below)) ?_
 rintro e W2 b7
 rcases b7 with ⟨b5,p9,c9,a9,d9,rfl,a4,b8⟩|⟨b5,p9,c9,a9,d9,rfl,a4,hs⟩
 ·refine xa 3 [S0,V0 0] 36 fun b3 W3 n3=>?_
  have k1:=n1.blk.below a4
  have a2:=n3.ne k1
  have a7:=bln n1.below a4
  have g3:=n3.ge a7
  refine xsv 1 n3.blk [.slice a9 1 d9,V0 (Xn l no)] fun W4 u4 k4=>?_
  refine xd 3 (.t w.heap.size [36]) ?_
  have a8:=k4.below (Za W4)
  refine xlv (.o [1] 0) a8.rp ?_
  have a0:=(u4.blk (k1.below n3.below) (Ne.symm (Ne.symm a2))).below (Za W4)
  have g1:=n1.ge (B4 w)
  refine ysv (.o [] 2) a0 [.slice a9 1 d9,V0 (Xn l no)] (.t w.heap.size [36]) fun W5 u5 k5=>⟨(Zl u5 a0 g1 (by decide)),?_⟩
  have a1:=u5.own2 (Zb (u4.own2 (Zb (Zd b8 n1.below.size) n3.below) n3.blk (by decide)) (Za W4)) a0 (by decide)
  have b0:=u5.below (bln (u4.below (bln a7 n3.below) g3) (Za W4)) g1
  exact xec 4 k5 (.tuple #[S0,.agg #[.slice a9 1 d9,V0 (Xn l no)]]) (Te (hasE_7K l no) b5 b0 a1)
 refine xa 3 [S0,V0 0] 36 fun b6 W6 n6=>?_
 have k1:=n1.blk.below a4
 have a3:=n6.ne k1
 have a5:=bln n1.below a4
 have g6:=n6.ge a5
 refine xsv 1 n6.blk [.slice a9 0 d9,V0 0] fun W7 u7 k7=>?_
 refine xd 3 (.t w.heap.size [36]) ?_
 have b2:=k7.below (Za W7)
 refine xlv (.o [1] 0) b2.rp ?_
 have a6:=(u7.blk (k1.below n6.below) (Ne.symm (Ne.symm a3))).below (Za W7)
 have g1:=n1.ge (B4 w)
 refine ysv (.o [] 2) a6 [.slice a9 0 d9,V0 0] (.t w.heap.size [36]) fun W8 u8 k8=>⟨(Zl u8 a6 g1 (by decide)),?_⟩
 have b4:=u8.below (bln (u7.below (bln a5 n6.below) g6) (Za W7)) g1
 exact xec 4 k8 (.tuple #[S0,.agg #[.slice a9 0 d9,V0 0]]) (Zbg (n:=0) ((hasE_7K l no).trans b5) (hasJ_7K l no) rfl b4 (World.ownsRow_nil _ _ _ _))
theorem ref47_hasN(B bm:Nat)(p:O0)(k c:Nat)(l:Bl)(no t:Int)(w:World)(hI:RefI B bm p k c l w)(h6:t≠6)(h7:t≠7) :
 C0 40 #[P0 bm,V0 no,V0 t] w (RHasK l no t w):=by
 refine zin 142 Tryz.func40 ?_
 refine xa 3 [S0,V0 0] 36 fun b1 W1 n1=>?_
 refine xk 14 (show((t==(7:Int)):Bool)=false from beq_false_of_ne h7) ?_
 refine xk 9 (show((t==(6:Int)):Bool)=false from beq_false_of_ne h6) ?_
 refine xc 7 (args:=#[P0 bm,V0 no,V0 t]) (ref11_Node B bm p k c l no t _ (hI.below n1.below)) ?_
 rintro e W2 m0
 rcases m0 with ⟨h8,a9,d9,rfl,h3,l0⟩|⟨h8,kp,kc,vp,vc,rfl,h3,o8,b2⟩
 ·refine xa 3 [V0 0,.bool false,S0,S0] 181 fun b3 W3 n3=>?_
  have e8:=bln n1.below h3
  have g3:=n3.ge e8
  refine xa 0 [S0,V0 0] 36 fun b4 W4 n4=>?_
  have k1:=(n1.blk.below h3).below n3.below
  have e7:=n4.ne k1
  have h0:=bln e8 n3.below
  have g4:=n4.ge h0
  have k3:=n3.blk.below n4.below
  refine xsv 0 k3 [V0 0,.bool false,S0,S0] fun W5 u5 k5=>?_
  have k4:=u5.blkT n4.blk k3 (by decide)
  refine xsv 0 k4 [.slice a9 1 d9,V0 (Xl l no t)] fun W6 u6 k6=>?_
  refine xu 9 1 ?_
  have i0:=u6.blkT k5 k4 (by decide)
  refine xb 5 3 i0 ?_
  refine xd 11 (.t w.heap.size [36]) ?_
  have i5:=k6.below (Za W6)
  refine xlv (.o [0,2] 1) i5.rp ?_
  have e3:=(u6.blk (u5.blkT (k1.below n4.below) k3 (by decide)) (Ne.symm (Ne.symm e7))).below (Za W6)
  have g1:=n1.ge (B4 w)
  refine ysv (.o [] 3) e3 [.slice a9 1 d9,V0 (Xl l no t)] (.t w.heap.size [36]) fun W7 u7 k7=>⟨(Zl u7 e3 g1 (by decide)),?_⟩
  have f9:=u7.own2 (Zb (u6.own2 (u5.own2 (Zb (Zb (Zd l0 n1.below.size) n3.below) n4.below) k3 (by decide)) k4 (by decide)) (Za W6)) e3 (by decide)
  have i2:=u7.below (bln (u6.below (u5.below (bln h0 n4.below) g3) g4) (Za W6)) g1
  exact xec 3 k7 (.tuple #[S0,.agg #[.slice a9 1 d9,V0 (Xl l no t)]]) (Te (hasE_nK h6 h7) h8 i2 f9)
 have l4:=maxC l no t h8
 have o9:=Ht l no
 refine xa 3 [V0 0,.bool false,S0,S0] 181 fun b8 W8 n8=>?_
 have e6:=bln n1.below h3
 have g8:=n8.ge e6
 refine xa 0 [S0,V0 0] 36 fun b9 W9 n9=>?_
 have k1:=(n1.blk.below h3).below n8.below
 have e5:=n9.ne k1
 have g7:=bln e6 n8.below
 have g9:=n9.ge g7
 have k8:=n8.blk.below n9.below
 refine xsv 0 k8 [V0 (Xz (inB l no)),.bool (Yi (inB l no)),.slice kp (Xi (inB l no)) kc,.slice vp (Xi (inB l no)) vc] fun n5 h9 j9=>?_
 have k9:=h9.blkT n9.blk k8 (by decide)
 refine xsv 0 k9 [S0,V0 0] fun n7 h4 l6=>?_
 refine xv1 9 8 (show(S0:Value)=.slice none ((Vp l no 0).length) 0 from by rw[Dh];rfl) ?_
 have g5:=h4.own2 (h9.own2 (Zb (Zb (Zd b2 n1.below.size) n8.below) n9.below) k8 (by decide)) k9 (by decide)
 have j1:=h4.below (h9.below (bln g7 n9.below) g8) g9
 have i4:=h4.blk (h9.blkT (k1.below n9.below) k8 (by decide)) (Ne.symm (Ne.symm e5))
 have h2:=h4.blkT j9 k9 (by decide)
 refine zl 0 142 (fun zm k2 V=>∃ (i:Nat) (pz:O0) (cz:Nat),k2=[(1,V0 no),(6,S0),(7,P0 b1),(8,.slice pz ((Vp l no i).length) cz),(14,P0 b8),(15,P0 b9),(16,V0 (i:Int))]∧zm=(Xi (inB l no))-((i:Int)).toNat∧B3 w V∧Blk V b1 ([S0,V0 0]) 36∧Blk V b8 ([V0 (Xz (inB l no)),.bool (Yi (inB l no)),.slice kp (Xi (inB l no)) kc,.slice vp (Xi (inB l no)) vc]) 181∧Blk V b9 ([S0,V0 0]) 36∧V.ownsRow w.heap.size 9 1 (.slice vp (Xi (inB l no)) vc) (Xi (inB l no)) ((Vy l no).map sv)∧V.ownsRow w.heap.size 83 4 (.slice pz (Vp l no i).length cz) (Vp l no i).length ((Vp l no i).flatMap wkC)∧i≤(Xi (inB l no))) ⟨0,none,0,rfl,rfl,j1,i4,h2,l6,g5,(by rw[Dh];exact World.ownsRow_nil _ _ _ _),Nat.zero_le _⟩ ?_
 rintro _ _ h5 ⟨i,pz,cz,rfl,rfl,a5,a1,a0,a3,b2,ho,hi⟩ n2 d0 o7
 have m7:=Zei l no i
 refine xb 5 3 a0 ?_
 refine xid 4 ((i:Int)<(↑(Xi (inB l no)):Int)) (fun i7=>?_) (fun i7=>?_)
 ·refine xb 7 1 a0 ?_
  refine xg 1 [74,75] (Yi (inB l no)) (fun e2=>?_) (fun e2=>?_)
  ·refine xb 1 0 a0 ?_
   refine xie 4 (Xz (inB l no)) (4:Int) (fun i8=>?_) (fun i8=>?_)
   ·refine xb 3 3 a0 ?_
    refine xx 1 _ (Xi (inB l no)) i 1 (Strs.elem (Ze b2) (Ht l no) (k:=i) (by omega)).1 ?_
    refine xl 0 ((Strs.elem (Ze b2) (Ht l no) (k:=i) (by omega)).2) ?_
    refine xr 0 (args:=#[.string ⟨((Vy l no).getD i []).toArray⟩]) (Mr ((Vy l no).getD i []) _ (Wd _ _ i)) fun p0 a6=>?_
    refine xa 3 [V0 0,V0 0,V0 0] 134 fun m5 m4 b0=>?_
    have g0:=bln a5 a6
    have l2:=b0.ge g0
    refine xsv 0 b0.blk [V0 (↑((Yo Xj ((Vy l no).getD i [])).getD 0 0):Int),V0 (↑((Yo Xj ((Vy l no).getD i [])).getD 1 0):Int),V0 (↑((Yo Xj ((Vy l no).getD i [])).getD 2 0):Int)] fun m2 e4 l3=>?_
    refine xb 7 0 l3 ?_
    refine xbs 3 1 [V0 no,V0 (↑((Yo Xj ((Vy l no).getD i [])).getD 0 0):Int),V0 7,V0 (Yf Xj ((Vy l no).getD i []))] 83 fun o3 m3 d6=>?_
    have f8:=e4.below (bln g0 b0.below) l2
    have o1:=d6.ge f8
    have f7:=e4.own2 (Zb (Zb ho a6) b0.below) b0.blk (by decide)
    have j4:=Zn f7 d6
    have b5:=Zb f7 d6.below
    have g6:=bln f8 d6.below
    refine xbi 0 fun _ _ _ _ zJ zQ zo zx zy zK=>Zr (m:=1) (news:=[V0 no,V0 (↑((Yo Xj ((Vy l no).getD i [])).getD 0 0):Int),V0 7,V0 (Yf Xj ((Vy l no).getD i []))]) (.agg #[V0 0,V0 0,V0 0,V0 0]) 4 32 ((Vp l no (i+1)).length) (((Vp l no (i+1)).flatMap wkC)) zo Tryz.underlying84 (by kernel_rfl) rfl (by decide) zx b5 zy (d6.blk.sl 1 1 (by decide) (by decide)) rfl (by simp[Value.oneCell']) (by unfold maxLen;omega) (by omega) g6.size (by rw[Ku (by omega) (show ¬ Pz (Xz (inB l no)) (Yi (inB l no)) from fun q=>by obtain⟨q1,q2,q3⟩:=q;first|omega|exact absurd (q1.symm.trans (show(Yi (inB l no))=false by assumption)) (by decide)),List.length_append];rfl) (by rw[Ku (by omega) (show ¬ Pz (Xz (inB l no)) (Yi (inB l no)) from fun q=>by obtain⟨q1,q2,q3⟩:=q;first|omega|exact absurd (q1.symm.trans (show(Yi (inB l no))=false by assumption)) (by decide)),List.flatMap_append,List.flatMap_cons,List.flatMap_nil,List.append_nil];first|rw[Zf7 (by assumption) (by omega)]|rw[Zbc (by assumption) (by omega)]|rw[Zb1 (by assumption)]) fun l7 m1 o0 j6 d3 i9=>?_
    refine zK _ _ ?_
    refine xwm 6 ((i:Int)+1) (↑(i+1):Int) ?_
    have f2:=g6.trans i9
    have b6:=((e4.blkT ((a1.below a6).below b0.below) b0.blk (by decide)).below d6.below).grown d3 b5 (by decide)
    have c1:=((e4.blkT ((a0.below a6).below b0.below) b0.blk (by decide)).below d6.below).grown d3 b5 (by decide)
    have c9:=((e4.blkT ((a3.below a6).below b0.below) b0.blk (by decide)).below d6.below).grown d3 b5 (by decide)
    have f4:=Xk (Zb (e4.own2 (Zb (Zb b2 a6) b0.below) b0.blk (by decide)) d6.below) d3 b5 (by decide)
    exact ze 2 (d0 _ _ _ ⟨i+1,_,_,rfl,rfl,f2,b6,c1,c9,f4,j6,by omega⟩ (by omega))
   refine xb 3 1 a0 ?_
   refine xk 3 (show(!(Yi (inB l no)):Bool)=false from by rw[e2];rfl) ?_
   refine xb 3 0 a0 ?_
   refine xie 3 (Xz (inB l no)) (1:Int) (fun i6=>?_) (fun i6=>?_)
   ·refine xb 3 3 a0 ?_
    refine xx 1 _ (Xi (inB l no)) i 1 (Strs.elem (Ze b2) (Ht l no) (k:=i) (by omega)).1 ?_
    refine xl 0 ((Strs.elem (Ze b2) (Ht l no) (k:=i) (by omega)).2) ?_
    refine xr 0 (args:=#[.string ⟨((Vy l no).getD i []).toArray⟩]) (Oy ((Vy l no).getD i []) _ (Wd _ _ i)) fun p2 a7=>?_
    refine xbs 14 1 [V0 no,V0 (↑(Jp ((Vy l no).getD i [])):Int),V0 2,V0 (Ko ((Vy l no).getD i []))] 83 fun p1 n0 d5=>?_
    have e1:=bln a5 a7
    have m9:=d5.ge e1
    have f6:=Zb ho a7
    have j3:=Zn f6 d5
    have c5:=Zb f6 d5.below
    have d8:=bln e1 d5.below
    refine xbi 0 fun _ _ _ _ zJ zQ zo zx zy zK=>Zr (m:=1) (news:=[V0 no,V0 (↑(Jp ((Vy l no).getD i [])):Int),V0 2,V0 (Ko ((Vy l no).getD i []))]) (.agg #[V0 0,V0 0,V0 0,V0 0]) 4 32 ((Vp l no (i+1)).length) (((Vp l no (i+1)).flatMap wkC)) zo Tryz.underlying84 (by kernel_rfl) rfl (by decide) zx c5 zy (d5.blk.sl 1 1 (by decide) (by decide)) rfl (by simp[Value.oneCell']) (by unfold maxLen;omega) (by omega) d8.size (by rw[Ku (by omega) (show ¬ Pz (Xz (inB l no)) (Yi (inB l no)) from fun q=>by obtain⟨q1,q2,q3⟩:=q;first|omega|exact absurd (q1.symm.trans (show(Yi (inB l no))=false by assumption)) (by decide)),List.length_append];rfl) (by rw[Ku (by omega) (show ¬ Pz (Xz (inB l no)) (Yi (inB l no)) from fun q=>by obtain⟨q1,q2,q3⟩:=q;first|omega|exact absurd (q1.symm.trans (show(Yi (inB l no))=false by assumption)) (by decide)),List.flatMap_append,List.flatMap_cons,List.flatMap_nil,List.append_nil];first|rw[Zf7 (by assumption) (by omega)]|rw[Zbc (by assumption) (by omega)]|rw[Zb1 (by assumption)]) fun l9 k0 m6 l5 d2 i3=>?_
    refine zK _ _ ?_
    refine xwm 6 ((i:Int)+1) (↑(i+1):Int) ?_
    have f0:=d8.trans i3
    have c6:=((a1.below a7).below d5.below).grown d2 c5 (by decide)
    have c7:=((a0.below a7).below d5.below).grown d2 c5 (by decide)
    have c3:=((a3.below a7).below d5.below).grown d2 c5 (by decide)
    have h1:=Xk (Zb (Zb b2 a7) d5.below) d2 c5 (by decide)
    exact ze 2 (d0 _ _ _ ⟨i+1,_,_,rfl,rfl,f0,c6,c7,c3,h1,l5,by omega⟩ (by omega))
   refine xwm 5 ((i:Int)+1) (↑(i+1):Int) ?_
   refine xv1 2 8 (show(.slice pz ((Vp l no i).length) cz:Value)=.slice pz ((Vp l no (i+1)).length) cz from by rw[Oa (show Pz (Xz (inB l no)) (Yi (inB l no)) from⟨by assumption,by omega,by omega⟩)]) ?_
   exact ze 0 (d0 _ _ _ ⟨i+1,pz,cz,rfl,rfl,a5,a1,a0,a3,b2,(by rw[Oa (show Pz (Xz (inB l no)) (Yi (inB l no)) from⟨by assumption,by omega,by omega⟩)];exact ho),by omega⟩ (by omega))
  refine xb 10 1 a0 ?_
  refine xk 3 (show(!(Yi (inB l no)):Bool)=true from by rw[e2];rfl) ?_
  refine xb 3 3 a0 ?_
  refine xx 1 _ (Xi (inB l no)) i 1 (Strs.elem (Ze b2) (Ht l no) (k:=i) (by omega)).1 ?_
  refine xl 0 ((Strs.elem (Ze b2) (Ht l no) (k:=i) (by omega)).2) ?_
  refine xr 0 (args:=#[.string ⟨((Vy l no).getD i []).toArray⟩]) (Oy ((Vy l no).getD i []) _ (Wd _ _ i)) fun o4 a8=>?_
  have a4:=a0.below a8
  refine xb 12 0 a4 ?_
  refine xbs 3 1 [V0 no,V0 (↑(Jp ((Vy l no).getD i [])):Int),V0 (Xz (inB l no)),V0 (Ko ((Vy l no).getD i []))] 83 fun m8 o5 d4=>?_
  have e0:=bln a5 a8
  have n6:=d4.ge e0
  have f3:=Zb ho a8
  have j2:=Zn f3 d4
  have c4:=Zb f3 d4.below
  have d7:=bln e0 d4.below
  refine xbi 0 fun _ _ _ _ zJ zQ zo zx zy zK=>Zr (m:=1) (news:=[V0 no,V0 (↑(Jp ((Vy l no).getD i [])):Int),V0 (Xz (inB l no)),V0 (Ko ((Vy l no).getD i []))]) (.agg #[V0 0,V0 0,V0 0,V0 0]) 4 32 ((Vp l no (i+1)).length) (((Vp l no (i+1)).flatMap wkC)) zo Tryz.underlying84 (by kernel_rfl) rfl (by decide) zx c4 zy (d4.blk.sl 1 1 (by decide) (by decide)) rfl (by simp[Value.oneCell']) (by unfold maxLen;omega) (by omega) d7.size (by rw[Ku (by omega) (show ¬ Pz (Xz (inB l no)) (Yi (inB l no)) from fun q=>by obtain⟨q1,q2,q3⟩:=q;first|omega|exact absurd (q1.symm.trans (show(Yi (inB l no))=false by assumption)) (by decide)),List.length_append];rfl) (by rw[Ku (by omega) (show ¬ Pz (Xz (inB l no)) (Yi (inB l no)) from fun q=>by obtain⟨q1,q2,q3⟩:=q;first|omega|exact absurd (q1.symm.trans (show(Yi (inB l no))=false by assumption)) (by decide)),List.flatMap_append,List.flatMap_cons,List.flatMap_nil,List.append_nil];first|rw[Zf7 (by assumption) (by omega)]|rw[Zbc (by assumption) (by omega)]|rw[Zb1 (by assumption)]) fun j7 j8 o6 l8 d1 i1=>?_
  refine zK _ _ ?_
  refine xwm 6 ((i:Int)+1) (↑(i+1):Int) ?_
  have f5:=d7.trans i1
  have c8:=((a1.below a8).below d4.below).grown d1 c4 (by decide)
  have c2:=(a4.below d4.below).grown d1 c4 (by decide)
  have b7:=((a3.below a8).below d4.below).grown d1 c4 (by decide)
  have f1:=Xk (Zb (Zb b2 a8) d4.below) d1 c4 (by decide)
  exact ze 2 (d0 _ _ _ ⟨i+1,_,_,rfl,rfl,f5,c8,c2,b7,f1,l8,by omega⟩ (by omega))
 refine xd 6 (.t w.heap.size [36]) ?_
 have c0:=a3.below (Za h5)
 refine xlv (.o [0,2] 1) c0.rp ?_
 have a2:=a1.below (Za h5)
 have g1:=n1.ge (B4 w)
 refine ysv (.o [] 3) a2 [S0,V0 0] (.t w.heap.size [36]) fun o2 j0 l1=>⟨(Zl j0 a2 g1 (by decide)),?_⟩
 have j5:=j0.own2 (Zb ho (Za h5)) a2 (by decide)
 have g2:=j0.below (bln a5 (Za h5)) g1
 refine xec 3 l1 (.tuple #[.slice pz ((Vp l no i).length) cz,.agg #[S0,V0 0]]) ?_
 have e9:=takeJ_full (l:=l) (no:=no) (i:=i) (by omega)
 exact Zbg ((hasE_nK h6 h7).trans h8) ((hasJ_nK h6 h7).trans e9.symm) rfl g2 j5
theorem ref47_has(B bm:Nat)(p:O0)(k c:Nat)(l:Bl)(no ak:Int)(w:World)(hI:RefI B bm p k c l w) :
 C0 40 #[P0 bm,V0 no,V0 ak] w (RHasK l no ak w):=by
 by_cases h6:ak=6
 ·subst h6;exact ref47_has6 B bm p k c l no w hI
 ·by_cases h7:ak=7
  ·subst h7;exact ref47_has7 B bm p k c l no w hI
  ·exact ref47_hasN B bm p k c l no ak w hI h6 h7
theorem Zcr(s:Sup)(w:World) :
 C0 37 #[.agg #[V0 s.tx,V0 s.time,V0 s.unit,V0 s.data,V0 s.blocks,V0 s.top,V0 s.details,V0 s.dslots,V0 s.dover,V0 s.mindex,V0 s.mover]] w (Ret (.bool (Zp s)) w):=by
 refine zin 69 Tryz.func37 ?_
 refine xa 2 [V0 s.tx,V0 s.time,V0 s.unit,V0 s.data,V0 s.blocks,V0 s.top,V0 s.details,V0 s.dslots,V0 s.dover,V0 s.mindex,V0 s.mover] 24 fun b1 W1 n1=>?_
 refine xb 7 0 n1.blk ?_
 refine xr 0 (args:=#[V0 s.tx,V0 0,V0 2147483647]) (Yc s.tx 0 2147483647 _) fun W2 b4=>?_
 refine xg 2 [7,8] (!(decide ((0:Int)≤s.tx∧s.tx≤2147483647))) (fun e8=>?_) (fun e8=>?_)
 ·have f1:(decide ((0:Int)≤s.tx∧s.tx≤2147483647))=false:=Kc e8
  have hB:=bln n1.below b4
  refine xe 33 (.bool false) ?_
  have hR:Zp s=false:=by
   unfold Zp
   first|(rw[f1];done)|(rw[f1];rfl)
  rw[hR];exact⟨rfl,hB⟩
 have a5:(decide ((0:Int)≤s.tx∧s.tx≤2147483647))=true:=Ka e8
 have e1:=n1.blk.below b4
 refine xb 1 1 e1 ?_
 refine xr 0 (args:=#[V0 s.time,V0 0,V0 16777215]) (Yc s.time 0 16777215 _) fun W6 b6=>?_
 refine xg 3 [12,13,14] (!(decide ((0:Int)≤s.time∧s.time≤16777215))) (fun e9=>?_) (fun e9=>?_)
 ·have f0:(decide ((0:Int)≤s.time∧s.time≤16777215))=false:=Kc e9
  have hB:=bln (bln n1.below b4) b6
  refine xe 27 (.bool false) ?_
  have hR:Zp s=false:=by
   unfold Zp
   first|(rw[a5,f0];done)|(rw[a5,f0];rfl)
  rw[hR];exact⟨rfl,hB⟩
 have a7:(decide ((0:Int)≤s.time∧s.time≤16777215))=true:=Ka e9
 have d4:=e1.below b6
 refine xb 1 2 d4 ?_
 refine xr 0 (args:=#[V0 s.unit,V0 1,V0 65536]) (Yc s.unit 1 65536 _) fun f3 a3=>?_
 refine xg 3 [18,19,20] (!(decide ((1:Int)≤s.unit∧s.unit≤65536))) (fun c0=>?_) (fun c0=>?_)
 ·have d3:(decide ((1:Int)≤s.unit∧s.unit≤65536))=false:=Kc c0
  have hB:=bln (bln (bln n1.below b4) b6) a3
  refine xe 21 (.bool false) ?_
  have hR:Zp s=false:=by
   unfold Zp
   first|(rw[a5,a7,d3];done)|(rw[a5,a7,d3];rfl)
  rw[hR];exact⟨rfl,hB⟩
 have a0:(decide ((1:Int)≤s.unit∧s.unit≤65536))=true:=Ka c0
 have e2:=d4.below a3
 refine xb 1 3 e2 ?_
 refine xr 0 (args:=#[V0 s.data,V0 0,V0 65536]) (Yc s.data 0 65536 _) fun f2 a6=>?_
 refine xg 3 [24,25,26] (!(decide ((0:Int)≤s.data∧s.data≤65536))) (fun c7=>?_) (fun c7=>?_)
 ·have d6:(decide ((0:Int)≤s.data∧s.data≤65536))=false:=Kc c7
  have hB:=bln (bln (bln (bln n1.below b4) b6) a3) a6
  refine xe 15 (.bool false) ?_
  have hR:Zp s=false:=by
   unfold Zp
   first|(rw[a5,a7,a0,d6];done)|(rw[a5,a7,a0,d6];rfl)
  rw[hR];exact⟨rfl,hB⟩
 have a1:(decide ((0:Int)≤s.data∧s.data≤65536))=true:=Ka c7
 have d8:=e2.below a6
 refine xb 1 4 d8 ?_
 refine xr 0 (args:=#[V0 s.blocks,V0 2,V0 14400]) (Yc s.blocks 2 14400 _) fun f5 a9=>?_
 refine xi 4 (!(decide ((2:Int)≤s.blocks∧s.blocks≤14400))) (fun c6=>?_) (fun c6=>?_)
 ·have e4:(decide ((2:Int)≤s.blocks∧s.blocks≤14400))=false:=Kc c6
  have hB:=bln (bln (bln (bln (bln n1.below b4) b6) a3) a6) a9
  refine xe 7 (.bool false) ?_
  have hR:Zp s=false:=by
   unfold Zp
   first|(rw[a5,a7,a0,a1,e4];done)|(rw[a5,a7,a0,a1,e4];rfl)
  rw[hR];exact⟨rfl,hB⟩
 have a2:(decide ((2:Int)≤s.blocks∧s.blocks≤14400))=true:=Ka c6
 have f6:=of_decide_eq_true a2
 have c4:=d8.below a9
 refine xb 5 4 c4 ?_
 refine xw 0 (s.blocks-1) ?_
 refine xb 6 5 c4 ?_
 refine xr 1 (args:=#[V0 s.top,V0 1,V0 (s.blocks-1)]) (Yc s.top 1 (s.blocks-1) _) fun f7 b0=>?_
 refine xg 1 [38,39] (decide ((1:Int)≤s.top∧s.top≤s.blocks-1)) (fun c5=>?_) (fun c5=>?_)
 ·have a4:(decide ((1:Int)≤s.top∧s.top≤s.blocks-1))=true:=c5
  have e6:=c4.below b0
  refine xb 1 6 e6 ?_
  refine xr 1 (args:=#[V0 s.details,V0 1,V0 (s.blocks-1)]) (Yc s.details 1 (s.blocks-1) _) fun g0 b3=>?_
  refine xg 2 [43,44,45] (decide ((1:Int)≤s.details∧s.details≤s.blocks-1)) (fun c3=>?_) (fun c3=>?_)
  ·have a8:(decide ((1:Int)≤s.details∧s.details≤s.blocks-1))=true:=c3
   have c9:=e6.below b3
   refine xb 1 7 c9 ?_
   refine xr 1 (args:=#[V0 s.dslots,V0 1,V0 (s.blocks-1)]) (Yc s.dslots 1 (s.blocks-1) _) fun f8 b5=>?_
   refine xg 2 [49,50,51] (decide ((1:Int)≤s.dslots∧s.dslots≤s.blocks-1)) (fun c1=>?_) (fun c1=>?_)
   ·have b2:(decide ((1:Int)≤s.dslots∧s.dslots≤s.blocks-1))=true:=c1
    have d9:=c9.below b5
    refine xb 1 8 d9 ?_
    refine xr 1 (args:=#[V0 s.dover,V0 1,V0 (s.blocks-1)]) (Yc s.dover 1 (s.blocks-1) _) fun g1 b7=>?_
    refine xg 2 [55,56,57] (decide ((1:Int)≤s.dover∧s.dover≤s.blocks-1)) (fun b9=>?_) (fun b9=>?_)
    ·have b8:(decide ((1:Int)≤s.dover∧s.dover≤s.blocks-1))=true:=b9
     have e5:=d9.below b7
     refine xb 1 9 e5 ?_
     refine xr 1 (args:=#[V0 s.mindex,V0 1,V0 (s.blocks-1)]) (Yc s.mindex 1 (s.blocks-1) _) fun f4 c2=>?_
     refine xg 2 [61,62,63] (decide ((1:Int)≤s.mindex∧s.mindex≤s.blocks-1)) (fun c8=>?_) (fun c8=>?_)
     ·have d5:(decide ((1:Int)≤s.mindex∧s.mindex≤s.blocks-1))=true:=c8
      have d0:=e5.below c2
      refine xb 1 10 d0 ?_
      refine xr 1 (args:=#[V0 s.mover,V0 1,V0 (s.blocks-1)]) (Yc s.mover 1 (s.blocks-1) _) fun f9 e7=>?_
      have hB:=bln (bln (bln (bln (bln (bln (bln (bln (bln (bln (bln n1.below b4) b6) a3) a6) a9) b0) b3) b5) b7) c2) e7
      refine xe 5 (.bool (decide ((1:Int)≤s.mover∧s.mover≤s.blocks-1))) ?_
      have hR:Zp s=(decide ((1:Int)≤s.mover∧s.mover≤s.blocks-1)):=by
       unfold Zp
       first|(rw[a5,a7,a0,a1,a2,a4,a8,b2,b8,d5];done)|(rw[a5,a7,a0,a1,a2,a4,a8,b2,b8,d5];rfl)
      rw[hR];exact⟨rfl,hB⟩
     have e3:(decide ((1:Int)≤s.mindex∧s.mindex≤s.blocks-1))=false:=c8
     have hB:=bln (bln (bln (bln (bln (bln (bln (bln (bln (bln n1.below b4) b6) a3) a6) a9) b0) b3) b5) b7) c2
     refine xe 9 (.bool false) ?_
     have hR:Zp s=false:=by
      unfold Zp
      first|(rw[a5,a7,a0,a1,a2,a4,a8,b2,b8,e3];done)|(rw[a5,a7,a0,a1,a2,a4,a8,b2,b8,e3];rfl)
     rw[hR];exact⟨rfl,hB⟩
    have d1:(decide ((1:Int)≤s.dover∧s.dover≤s.blocks-1))=false:=b9
    have hB:=bln (bln (bln (bln (bln (bln (bln (bln (bln n1.below b4) b6) a3) a6) a9) b0) b3) b5) b7
    refine xe 15 (.bool false) ?_
    have hR:Zp s=false:=by
     unfold Zp
     first|(rw[a5,a7,a0,a1,a2,a4,a8,b2,d1];done)|(rw[a5,a7,a0,a1,a2,a4,a8,b2,d1];rfl)
    rw[hR];exact⟨rfl,hB⟩
   have d7:(decide ((1:Int)≤s.dslots∧s.dslots≤s.blocks-1))=false:=c1
   have hB:=bln (bln (bln (bln (bln (bln (bln (bln n1.below b4) b6) a3) a6) a9) b0) b3) b5
   refine xe 21 (.bool false) ?_
   have hR:Zp s=false:=by
    unfold Zp
    first|(rw[a5,a7,a0,a1,a2,a4,a8,d7];done)|(rw[a5,a7,a0,a1,a2,a4,a8,d7];rfl)
   rw[hR];exact⟨rfl,hB⟩
  have d2:(decide ((1:Int)≤s.details∧s.details≤s.blocks-1))=false:=c3
  have hB:=bln (bln (bln (bln (bln (bln (bln n1.below b4) b6) a3) a6) a9) b0) b3
  refine xe 27 (.bool false) ?_
  have hR:Zp s=false:=by
   unfold Zp
   first|(rw[a5,a7,a0,a1,a2,a4,d2];done)|(rw[a5,a7,a0,a1,a2,a4,d2];rfl)
  rw[hR];exact⟨rfl,hB⟩
 have e0:(decide ((1:Int)≤s.top∧s.top≤s.blocks-1))=false:=c5
 have hB:=bln (bln (bln (bln (bln (bln n1.below b4) b6) a3) a6) a9) b0
 refine xe 33 (.bool false) ?_
 have hR:Zp s=false:=by
  unfold Zp
  first|(rw[a5,a7,a0,a1,a2,e0];done)|(rw[a5,a7,a0,a1,a2,e0];rfl)
 rw[hR];exact⟨rfl,hB⟩
end Go.Proofs.YtceeiinepijokaaGreatDoor
