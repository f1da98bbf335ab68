/- tally.Split of counts. -/
import Derived.Test.YtceeiinepijokaaGreatDoorMg4
namespace Go.Proofs.YtceeiinepijokaaGreatDoor
set_option maxHeartbeats 8000000
set_option maxRecDepth 100000
open Go.RowKit Go.Extern.Stop Go.Stop Go.Extern
set_option linter.unusedVariables false
attribute [local irreducible] wpList wpAnyH Code.wp Oper.wp Go
def SplitP(l:List Int)(w:World)(e:Ending)(w':World):Prop :=
 (Jk l≠0∧e=.returned (.tuple #[S0,S0,V0 2])∧B3 w w') ∨
 (Jk l=0∧∃ pb cb gs po co,e=.returned (.tuple #[.slice pb (bmN l.length) cb,.slice po (Zy l l.length).length co,V0 0])∧B3 w w'∧Lists w' w.heap.size (.slice pb (bmN l.length) cb) gs (Xp (Zu l) (bmN l.length))∧w'.ownsRow w.heap.size 132 3 (.slice po (Zy l l.length).length co) (Zy l l.length).length ((Zy l l.length).flatMap Jv))
theorem Oh{l:List Int}{i:Nat}(hl:l.length≤65536)(hi:i<l.length)(h:¬ Nd (l.getD i 0)):Jk l≠0:=fun q=>h ((Tz q).2 i hi)
theorem Zfr{l:List Int}(hl:l.length≤65536)(h:∀ k,k<l.length→Nd (l.getD k 0)):Jk l=0:=by
 unfold Jk;rw[if_neg (by omega),if_pos h]
attribute [local go_sem] Oper.semAt_some
theorem g_retM{P:Program}{fn:Func}{R:Ending→World→Prop}{a:Act}{w:World}(v:Value)(hd:a.defers=[])(hr:(results fn a.tmps).run P w=.ok v w)(h:R (.returned v) w):bodyPostM Fence.wide 4 P fn R .ret a w:=by
 show LeavesInM _ _ _ _ a.tmps R a.defers .returning w
 rw[hd]
 exact⟨v,hr,h⟩
theorem Lists.put{W U:World}{D base:Nat}{v:Value}{gs:List (Nat×Nat)}{L:List (List Int)}(h:Lists W base v gs L)(u:Upd W D U)(hK:Dfr D W):Lists U base v gs L:=⟨u.own3 h.row (hK.row h.row),fun i hi=>u.own3 (h.each i hi) (hK.row (h.each i hi))⟩
theorem mn3_if(n:Int):(if 3<n then 3 else n)=mn3 n:=by unfold mn3;split<;>split<;>omega
def Uu(s:List Int){n:Nat}(pre:List (Fin n)):List (List Int):=pre.map fun j=>Wz s j.val
theorem Gz(s:List Int){n:Nat}(pre:List (Fin n))(x:Fin n):Uu s (pre++[x])=Uu s pre++[Wz s x.val]:=by simp[Uu]
theorem preC_all(s:List Int)(n:Nat):Uu s (List.finRange n)=Xp s n:=by
 unfold Uu Xp
 apply List.ext_getElem
 ·simp
 ·intro i h1 h2;simp
theorem Zf3(a:O0)(c:Nat)(l:List Int)(w:World)(h:Sl w (.slice a l.length c) l.length (l.map V0))(hl:l.length≤65536) :
 C0 156 #[.slice a l.length c] w (SplitP l w):=by
 refine Mo Tryz.func156 rfl ?_
 refine g_fr ⟨#[.slice a l.length c,undef,undef,undef,undef,undef,undef,undef,undef,undef,undef,undef,undef,undef,undef,undef,undef,undef,undef,undef,undef,undef,undef,undef,undef,undef,undef,undef,undef,undef,undef,undef,undef,undef,undef,undef,undef,undef,undef,undef,undef,undef,undef,undef,undef,undef,undef,undef,undef,undef,undef,undef],[]⟩ (by kernel_rfl) ?_
 refine wp_seq ?_
 refine wp_region_lit ?_
 refine Uh 3 [(2,S0),(3,S0),(4,V0 0)] (by kernel_rfl) ?_
 refine wpList_nil ?_
 refine wp_seq ?_
 refine wp_seq ?_
 refine wp_region_lit ?_
 refine Uh 3 [(11,.slice a l.length c),(12,V0 (l.length:Int)),(13,.bool (decide ((l.length:Int)>(65536:Int))))] (by kernel_rfl) ?_
 refine wpList_nil ?_
 refine wp_cond_split (t:=decide ((l.length:Int)>(65536:Int))) (by kernel_rfl) (fun hh=>absurd (hh.symm.trans (show(decide ((l.length:Int)>(65536:Int)):Bool)=false from decide_eq_false (by omega))) (by decide)) (fun _=>?_)
 refine wp_skip ?_
 refine wp_seq ?_
 refine wp_region_lit ?_
 refine Uh 1 [(5,S0)] (by kernel_rfl) ?_
 refine wpList_nil ?_
 refine wp_seq ?_
 refine wp_region_lit ?_
 refine Uh 1 [(6,S0)] (by kernel_rfl) ?_
 refine wpList_nil ?_
 refine wp_seq ?_
 refine wp_seq ?_
 refine wp_region_lit ?_
 refine Uh 3 [(14,.slice a l.length c),(15,V0 (l.length:Int)),(16,V0 0)] (by kernel_rfl) ?_
 refine wpList_nil ?_
 refine wp_block ?_
 refine g_fr ⟨#[.slice a l.length c,undef,S0,S0,V0 0,S0,S0,undef,undef,undef,undef,.slice a l.length c,V0 (l.length:Int),.bool (decide ((l.length:Int)>(65536:Int))),.slice a l.length c,V0 (l.length:Int),V0 0,undef,undef,undef,undef,undef,undef,undef,undef,undef,undef,undef,undef,undef,undef,undef,undef,undef,undef,undef,undef,undef,undef,undef,undef,undef,undef,undef,undef,undef,undef,undef,undef,undef,undef,undef],[]⟩ (by kernel_rfl) ?_
 have hB:=Below.refl w.heap.size w
 refine wp_loop (fun h9 V=>∃ (i:Nat) (ps:O0) (cs:Nat) (po:O0) (co:Nat) (x2:Nat→Value),h9=⟨#[.slice a l.length c,undef,(x2 0),(x2 1),(x2 2),.slice ps i cs,.slice po ((Zy l i).length) co,(x2 3),(x2 4),undef,undef,.slice a l.length c,V0 (l.length:Int),.bool (decide ((l.length:Int)>(65536:Int))),.slice a l.length c,V0 (l.length:Int),V0 (i:Int),(x2 5),(x2 6),(x2 7),(x2 8),(x2 9),(x2 10),(x2 11),(x2 12),(x2 13),(x2 14),(x2 15),(x2 16),(x2 17),(x2 18),(x2 19),(x2 20),(x2 21),(x2 22),(x2 23),(x2 24),(x2 25),(x2 26),(x2 27),(x2 28),(x2 29),undef,undef,undef,undef,undef,undef,undef,undef,undef,undef],[]⟩∧B3 w V∧V.ownsRow w.heap.size 3 1 (.slice ps i cs) i ((Zu (l.take i)).map V0)∧V.ownsRow w.heap.size 132 3 (.slice po (Zy l i).length co) (Zy l i).length ((Zy l i).flatMap Jv)∧i≤l.length∧((∀ j,j<i→Nd (l.getD j 0)))) (fun h9 V=>l.length-((intOf (h9.tmps.getD 16 undef))).toNat) ⟨0,none,0,none,0,(pk [S0,S0,V0 0,undef,undef,undef,undef,undef,undef,undef,undef,undef,undef,undef,undef,undef,undef,undef,undef,undef,undef,undef,undef,undef,undef,undef,undef,undef,undef,undef]),rfl,hB,World.ownsRow_nil _ _ _ _,World.ownsRow_nil _ _ _ _,Nat.zero_le _,?_⟩ ?_
 ·exact fun j hj=>absurd hj (by omega)
 rintro _ W2 ⟨i,ps,cs,po,co,x2,rfl,hB,hs,ho,hi,hz⟩
 refine wp_seq ?_
 refine wp_region_lit ?_
 refine Uh 1 [(17,.bool (decide ((i:Int)<(l.length:Int))))] (by kernel_rfl) ?_
 refine wpList_nil ?_
 refine wp_seq ?_
 refine wp_cond_split (t:=decide ((i:Int)<(l.length:Int))) (by kernel_rfl) (fun f1=>?_) (fun f1=>?_)
 ·have f1:=of_decide_eq_true f1
  refine wp_skip ?_
  refine wp_seq ?_
  refine wp_block ?_
  refine wp_seq ?_
  refine wp_region_lit ?_
  refine Uh 1 [(18,V0 (i:Int))] (by kernel_rfl) ?_
  refine Hg (by kernel_rfl) (Gk (Ot (size:=1) (k:=i) (b:=a) (n:=l.length) (c:=c) (i:=(i:Int)) (ki:=.i64) rfl (by kernel_rfl) (by kernel_rfl) rfl (by omega) (Ints.elem h (k:=i) (by omega)).1 Tryz.underlying34 (by kernel_rfl) W2) ?_)
  refine Hg (by kernel_rfl) (Jz (Xd a (i*1)) (V0 (l.getD i 0)) rfl (by kernel_rfl) (by kernel_rfl) (Ints.elem (h.below hB) (k:=i) (by omega)).2 ?_)
  refine Uh 2 [(7,V0 (i:Int)),(8,V0 (l.getD i 0))] (by kernel_rfl) ?_
  refine wpList_nil ?_
  refine wp_seq ?_
  refine wp_seq ?_
  refine wp_region_lit ?_
  refine Uh 3 [(21,V0 (l.getD i 0)),(22,.bool (decide ((l.getD i 0)<(0:Int)))),(23,.bool (decide ((l.getD i 0)<(0:Int))))] (by kernel_rfl) ?_
  rcases Bool.eq_false_or_eq_true (decide ((l.getD i 0)<(0:Int))) with d7|d7
  ·refine g_b [22,23] _ _ d7 (by kernel_rfl) ?_
   have d7:=of_decide_eq_true d7
   refine Uh 3 [(24,undef),(25,undef),(26,.bool true)] (by kernel_rfl) ?_
   refine wpList_nil ?_
   refine wp_cond_true (by kernel_rfl) ?_
   refine wp_seq ?_
   refine wp_region_lit ?_
   refine Uh 3 [(2,S0),(3,S0),(4,V0 2)] (by kernel_rfl) ?_
   refine wpList_nil ?_
   refine wp_ret (Gj (Wm (Gj (Gj (Wm (Gj ?_))))))
   exact g_retM (.tuple #[S0,S0,V0 2]) (by kernel_rfl) (by kernel_rfl) (.inl ⟨Oh (i:=i) hl (by omega) (fun q=>by unfold Nd at q;omega),rfl,hB⟩)
  ·refine g_b [22,23] _ _ d7 (by kernel_rfl) ?_
   have d7:=of_decide_eq_false d7
   refine Uh 3 [(24,V0 (l.getD i 0)),(25,.bool (decide ((l.getD i 0)>(2147483647:Int)))),(26,.bool (decide ((l.getD i 0)>(2147483647:Int))))] (by kernel_rfl) ?_
   refine wpList_nil ?_
   refine wp_cond_split (t:=decide ((l.getD i 0)>(2147483647:Int))) (by kernel_rfl) (fun f3=>?_) (fun f3=>?_)
   ·have f3:=of_decide_eq_true f3
    refine wp_seq ?_
    refine wp_region_lit ?_
    refine Uh 3 [(2,S0),(3,S0),(4,V0 2)] (by kernel_rfl) ?_
    refine wpList_nil ?_
    refine wp_ret (Gj (Wm (Gj (Gj (Wm (Gj ?_))))))
    exact g_retM (.tuple #[S0,S0,V0 2]) (by kernel_rfl) (by kernel_rfl) (.inl ⟨Oh (i:=i) hl (by omega) (fun q=>by unfold Nd at q;omega),rfl,hB⟩)
   ·have f3:=of_decide_eq_false f3
    refine wp_skip ?_
    refine wp_seq ?_
    refine wp_region_lit ?_
    refine Uh 3 [(27,.slice ps i cs),(28,V0 (l.getD i 0)),(29,V0 (if(3:Int)<(l.getD i 0) then(3:Int) else(l.getD i 0)))] (by kernel_rfl) ?_
    refine Hg (by kernel_rfl) (Vl 3 [V0 (if(3:Int)<(l.getD i 0) then(3:Int) else(l.getD i 0))] rfl (by kernel_rfl) ?_)
    intro b6 W6 n6
    have g6:=n6.ge hB
    have j8:=Zn hs n6
    replace hB:=bln hB n6.below
    replace hs:=Zb hs n6.below
    replace ho:=Zb ho n6.below
    have k6:=n6.blk
    refine Hg (by kernel_rfl) (Zr (e:=3) (n:=i) (xs:=(Zu (l.take i)).map V0) (m:=1) (news:=[V0 (if(3:Int)<(l.getD i 0) then(3:Int) else(l.getD i 0))]) (V0 0) 1 8 (i+1) ((Zu (l.take (i+1))).map V0) rfl Tryz.underlying34 (by kernel_rfl) rfl (by decide) (by kernel_rfl) hs (by kernel_rfl) (k6.sl 1 1 (by decide) (by decide)) rfl (by simp[Value.oneCell']) (by unfold maxLen;omega) (by omega) hB.size (by rfl) (by rw[mn3_if,small_snoc (by omega),List.map_append];rfl) ?_)
    intro p7 c7 W7 o7 m0 m7
    replace ho:=Xj ho m0 hs (by decide)
    replace hB:=hB.trans m7
    refine Uh 1 [(5,.slice p7 (i+1) c7)] (by kernel_rfl) ?_
    refine wpList_nil ?_
    refine wp_seq ?_
    refine wp_region_lit ?_
    refine Uh 2 [(32,V0 (l.getD i 0)),(33,.bool (decide ((l.getD i 0)≥(3:Int))))] (by kernel_rfl) ?_
    refine wpList_nil ?_
    refine wp_cond_split (t:=decide ((l.getD i 0)≥(3:Int))) (by kernel_rfl) (fun e8=>?_) (fun e8=>?_)
    ·have e8:=of_decide_eq_true e8
     refine wp_region_lit ?_
     refine Uh 3 [(34,.slice po ((Zy l i).length) co),(35,V0 (i:Int)),(36,V0 (l.getD i 0))] (by kernel_rfl) ?_
     refine Hg (by kernel_rfl) (Vp (lb:=#[]) 216 #[V0 (l.getD i 0)] rfl (by kernel_rfl) (fun _ _=>by kernel_rfl) (by kernel_rfl) ((Zfs (l.getD i 0) (by omega) (by omega) _).mono ?_))
     rintro e W9 ⟨rfl,c0⟩
     refine⟨_,rfl,?_⟩
     replace hB:=bln hB c0
     replace ho:=Zb ho c0
     replace o7:=Zb o7 c0
     refine Uh 1 [(38,.agg #[V0 (i:Int),.string ⟨(leB (l.getD i 0) 4).toArray⟩,V0 0])] (by kernel_rfl) ?_
     refine Hg (by kernel_rfl) (Vl 132 [V0 (i:Int),.string ⟨(leB (l.getD i 0) 4).toArray⟩,V0 0] rfl (by kernel_rfl) ?_)
     intro j7 n4 e5
     have o5:=e5.ge hB
     have h5:=Zn ho e5
     replace hB:=bln hB e5.below
     replace ho:=Zb ho e5.below
     replace o7:=Zb o7 e5.below
     have m4:=e5.blk
     refine Hg (by kernel_rfl) (Zr (e:=132) (n:=(Zy l i).length) (xs:=(Zy l i).flatMap Jv) (m:=1) (news:=[V0 (i:Int),.string ⟨(leB (l.getD i 0) 4).toArray⟩,V0 0]) (.agg #[V0 0,.string ⟨#[]⟩,V0 0]) 3 32 ((Zy l (i+1)).length) ((Zy l (i+1)).flatMap Jv) rfl Tryz.underlying123 (by kernel_rfl) rfl (by decide) (by kernel_rfl) ho (by kernel_rfl) (m4.sl 1 1 (by decide) (by decide)) rfl (by simp[Value.oneCell']) (by have:=Bc l i;unfold maxLen;omega) (by have:=Bc l i;omega) hB.size (by rw[Py (by omega)];simp) (by rw[Py (by omega)];simp[Jv]) ?_)
     intro g7 g9 n5 l9 h4 i6
     replace o7:=Xj o7 h4 ho (by decide)
     replace hB:=hB.trans i6
     refine Uh 1 [(6,.slice g7 ((Zy l (i+1)).length) g9)] (by kernel_rfl) ?_
     refine wpList_nil ?_
     refine wp_region_lit ?_
     refine Hg (by kernel_rfl) (op_wrap .i64 ((i:Int)+1) (↑(i+1):Int) (by kernel_rfl) ((show IntKind.i64.wrap ((i:Int)+1)=((i:Int)+1) from by first|exact IntWalk.i64_in _ (by omega)|(simp only[IntKind.wrap];omega)).trans (by omega)) ?_)
     refine Uh 1 [(16,V0 (↑(i+1):Int))] (by kernel_rfl) ?_
     refine wpList_nil ?_
     refine g_nfr ⟨#[.slice a l.length c,undef,(x2 0),(x2 1),(x2 2),.slice p7 (i+1) c7,.slice g7 ((Zy l (i+1)).length) g9,V0 (i:Int),V0 (l.getD i 0),undef,undef,.slice a l.length c,V0 (l.length:Int),.bool (decide ((l.length:Int)>(65536:Int))),.slice a l.length c,V0 (l.length:Int),V0 (↑(i+1):Int),.bool (decide ((i:Int)<(l.length:Int))),V0 (i:Int),.pointer (some (Xd a (i*1))),V0 (l.getD i 0),V0 (l.getD i 0),.bool false,.bool false,V0 (l.getD i 0),.bool (decide ((l.getD i 0)>(2147483647:Int))),.bool (decide ((l.getD i 0)>(2147483647:Int))),.slice ps i cs,V0 (l.getD i 0),V0 (if(3:Int)<(l.getD i 0) then(3:Int) else(l.getD i 0)),.slice (S1 b6) 1 1,.slice p7 (i+1) c7,V0 (l.getD i 0),.bool (decide ((l.getD i 0)≥(3:Int))),.slice po ((Zy l i).length) co,V0 (i:Int),V0 (l.getD i 0),.string ⟨(leB (l.getD i 0) 4).toArray⟩,.agg #[V0 (i:Int),.string ⟨(leB (l.getD i 0) 4).toArray⟩,V0 0],.slice (S1 j7) 1 1,.slice g7 ((Zy l (i+1)).length) g9,V0 (↑(i+1):Int),undef,undef,undef,undef,undef,undef,undef,undef,undef,undef],[]⟩ (by kernel_rfl) ?_
     refine⟨⟨i+1,_,_,_,_,(pk [(x2 0),(x2 1),(x2 2),V0 (i:Int),V0 (l.getD i 0),.bool (decide ((i:Int)<(l.length:Int))),V0 (i:Int),.pointer (some (Xd a (i*1))),V0 (l.getD i 0),V0 (l.getD i 0),.bool false,.bool false,V0 (l.getD i 0),.bool (decide ((l.getD i 0)>(2147483647:Int))),.bool (decide ((l.getD i 0)>(2147483647:Int))),.slice ps i cs,V0 (l.getD i 0),V0 (if(3:Int)<(l.getD i 0) then(3:Int) else(l.getD i 0)),.slice (S1 b6) 1 1,.slice p7 (i+1) c7,V0 (l.getD i 0),.bool (decide ((l.getD i 0)≥(3:Int))),.slice po ((Zy l i).length) co,V0 (i:Int),V0 (l.getD i 0),.string ⟨(leB (l.getD i 0) 4).toArray⟩,.agg #[V0 (i:Int),.string ⟨(leB (l.getD i 0) 4).toArray⟩,V0 0],.slice (S1 j7) 1 1,.slice g7 ((Zy l (i+1)).length) g9,V0 (↑(i+1):Int)]),rfl,hB,o7,l9,by omega,fun j hj=>(Nat.lt_or_ge j i).elim (hz j) (fun q=>by obtain rfl:j=i:=(by omega);exact⟨by omega,by omega⟩)⟩,?_⟩
     show l.length-((↑(i+1):Int)).toNat<l.length-((i:Int)).toNat
     omega
    ·have e8:=of_decide_eq_false e8
     refine wp_skip ?_
     refine wp_region_lit ?_
     refine Hg (by kernel_rfl) (op_wrap .i64 ((i:Int)+1) (↑(i+1):Int) (by kernel_rfl) ((show IntKind.i64.wrap ((i:Int)+1)=((i:Int)+1) from by first|exact IntWalk.i64_in _ (by omega)|(simp only[IntKind.wrap];omega)).trans (by omega)) ?_)
     refine Uh 1 [(16,V0 (↑(i+1):Int))] (by kernel_rfl) ?_
     refine wpList_nil ?_
     refine g_nfr ⟨#[.slice a l.length c,undef,(x2 0),(x2 1),(x2 2),.slice p7 (i+1) c7,.slice po ((Zy l i).length) co,V0 (i:Int),V0 (l.getD i 0),undef,undef,.slice a l.length c,V0 (l.length:Int),.bool (decide ((l.length:Int)>(65536:Int))),.slice a l.length c,V0 (l.length:Int),V0 (↑(i+1):Int),.bool (decide ((i:Int)<(l.length:Int))),V0 (i:Int),.pointer (some (Xd a (i*1))),V0 (l.getD i 0),V0 (l.getD i 0),.bool false,.bool false,V0 (l.getD i 0),.bool (decide ((l.getD i 0)>(2147483647:Int))),.bool (decide ((l.getD i 0)>(2147483647:Int))),.slice ps i cs,V0 (l.getD i 0),V0 (if(3:Int)<(l.getD i 0) then(3:Int) else(l.getD i 0)),.slice (S1 b6) 1 1,.slice p7 (i+1) c7,V0 (l.getD i 0),.bool (decide ((l.getD i 0)≥(3:Int))),(x2 22),(x2 23),(x2 24),(x2 25),(x2 26),(x2 27),(x2 28),V0 (↑(i+1):Int),undef,undef,undef,undef,undef,undef,undef,undef,undef,undef],[]⟩ (by kernel_rfl) ?_
     refine g_nfr ⟨#[.slice a l.length c,undef,(x2 0),(x2 1),(x2 2),.slice p7 (i+1) c7,.slice po ((Zy l (i+1)).length) co,V0 (i:Int),V0 (l.getD i 0),undef,undef,.slice a l.length c,V0 (l.length:Int),.bool (decide ((l.length:Int)>(65536:Int))),.slice a l.length c,V0 (l.length:Int),V0 (↑(i+1):Int),.bool (decide ((i:Int)<(l.length:Int))),V0 (i:Int),.pointer (some (Xd a (i*1))),V0 (l.getD i 0),V0 (l.getD i 0),.bool false,.bool false,V0 (l.getD i 0),.bool (decide ((l.getD i 0)>(2147483647:Int))),.bool (decide ((l.getD i 0)>(2147483647:Int))),.slice ps i cs,V0 (l.getD i 0),V0 (if(3:Int)<(l.getD i 0) then(3:Int) else(l.getD i 0)),.slice (S1 b6) 1 1,.slice p7 (i+1) c7,V0 (l.getD i 0),.bool (decide ((l.getD i 0)≥(3:Int))),(x2 22),(x2 23),(x2 24),(x2 25),(x2 26),(x2 27),(x2 28),V0 (↑(i+1):Int),undef,undef,undef,undef,undef,undef,undef,undef,undef,undef],[]⟩ (by rw[Np (by omega)]) ?_
     refine⟨⟨i+1,_,_,_,_,(pk [(x2 0),(x2 1),(x2 2),V0 (i:Int),V0 (l.getD i 0),.bool (decide ((i:Int)<(l.length:Int))),V0 (i:Int),.pointer (some (Xd a (i*1))),V0 (l.getD i 0),V0 (l.getD i 0),.bool false,.bool false,V0 (l.getD i 0),.bool (decide ((l.getD i 0)>(2147483647:Int))),.bool (decide ((l.getD i 0)>(2147483647:Int))),.slice ps i cs,V0 (l.getD i 0),V0 (if(3:Int)<(l.getD i 0) then(3:Int) else(l.getD i 0)),.slice (S1 b6) 1 1,.slice p7 (i+1) c7,V0 (l.getD i 0),.bool (decide ((l.getD i 0)≥(3:Int))),(x2 22),(x2 23),(x2 24),(x2 25),(x2 26),(x2 27),(x2 28),V0 (↑(i+1):Int)]),rfl,hB,o7,(by rw[Np (by omega)];exact ho),by omega,fun j hj=>(Nat.lt_or_ge j i).elim (hz j) (fun q=>by obtain rfl:j=i:=(by omega);exact⟨by omega,by omega⟩)⟩,?_⟩
     show l.length-((↑(i+1):Int)).toNat<l.length-((i:Int)).toNat
     omega
 ·have f1:=of_decide_eq_false f1
  refine wp_exit ?_
  refine Zeg ?_
  refine Zeg ?_
  refine Ze1 ?_
  refine wp_seq ?_
  refine wp_region_lit ?_
  refine Hg (by kernel_rfl) (Nn [S0] rfl (by kernel_rfl) ?_)
  intro b7 o0 e9
  have j2:=e9.ge hB
  replace hB:=bln hB e9.below
  replace hs:=Zb hs e9.below
  replace ho:=Zb ho e9.below
  have c4:=e9.blk
  refine wpList_nil ?_
  refine wp_seq ?_
  refine wp_seq ?_
  refine wp_region_lit ?_
  refine Uh 1 [(42,.slice ps i cs)] (by kernel_rfl) ?_
  refine Hg (by kernel_rfl) (Vp (lb:=#[]) 217 #[.slice ps i cs,V0 960] rfl (by kernel_rfl) (fun _ _=>by kernel_rfl) (by kernel_rfl) ((Zd2 ps i cs _).mono ?_))
  rintro e c9 ⟨b1,b2,rfl,c3,o1,o6,l8,d3,d5⟩
  refine⟨_,rfl,?_⟩
  replace hB:=bln hB c3
  replace c4:=c4.below c3
  replace hs:=Zb hs c3
  replace ho:=Zb ho c3
  refine wpList_nil ?_
  refine wp_block ?_
  have k8:i=l.length:=by omega
  obtain⟨g,hv⟩:=row_or hs
  have m6:=Ze9 b1 b2 (fun b=>b<c9.heap.size∧b≠b7) g 0 i cs (.slice ps i cs) c9 (fun b h=>h.1) ⟨d3.lt,(by rintro rfl;exact absurd (d3.ty c4) (by decide))⟩ ⟨d5.lt,(by rintro rfl;exact absurd (d5.ty c4) (by decide))⟩ (by omega) hv (d3.cell (i:=0) rfl) (d5.cell (i:=0) rfl)
  refine g_fr ⟨#[.slice a l.length c,undef,(x2 0),(x2 1),(x2 2),.slice ps i cs,.slice po ((Zy l i).length) co,(x2 3),(x2 4),P0 b7,undef,.slice a l.length c,V0 (l.length:Int),.bool (decide ((l.length:Int)>(65536:Int))),.slice a l.length c,V0 (l.length:Int),V0 (i:Int),.bool (decide ((i:Int)<(l.length:Int))),(x2 6),(x2 7),(x2 8),(x2 9),(x2 10),(x2 11),(x2 12),(x2 13),(x2 14),(x2 15),(x2 16),(x2 17),(x2 18),(x2 19),(x2 20),(x2 21),(x2 22),(x2 23),(x2 24),(x2 25),(x2 26),(x2 27),(x2 28),(x2 29),.slice ps i cs,.func (.func 257) #[] #[P0 b1,P0 b2],undef,undef,undef,undef,undef,undef,undef,undef],[]⟩ (by kernel_rfl) ?_
  refine wp_range (g:=.tmp 43) (gf:=257) (lb:=#[P0 b1,P0 b2]) rfl (enters_of Tryz.func257 (by kernel_rfl) rfl) _ (fun b h=>h.1) m6 (fun _=>rfl)
   (fun a0 W=>(∃ pb cb gs,gs.length=a0.length∧Blk W b7 [.slice pb (Uu (Zu (l.take i)) a0).length cb] 227∧Lists W c9.heap.size (.slice pb (Uu (Zu (l.take i)) a0).length cb) gs (Uu (Zu (l.take i)) a0))∧BelowBut c9 b7 W)
   (fun _ _ _=>False) ?own (fun _ _ _ _ _ h _ _=>h) ⟨⟨none,0,[],rfl,c4,⟨World.ownsRow_nil _ _ _ _,fun i hi=>absurd hi (Nat.not_lt_zero _)⟩⟩,(Below.refl _ _).but _⟩
   (fun x a' _=>a'={ tmps:=#[.slice a l.length c,undef,(x2 0),(x2 1),(x2 2),.slice ps i cs,.slice po ((Zy l i).length) co,(x2 3),(x2 4),P0 b7,.slice (some ⟨g,0+x.val*960,none⟩) (min 960 (i-x.val*960)) (min 960 (i-x.val*960)),.slice a l.length c,V0 (l.length:Int),.bool (decide ((l.length:Int)>(65536:Int))),.slice a l.length c,V0 (l.length:Int),V0 (i:Int),.bool (decide ((i:Int)<(l.length:Int))),(x2 6),(x2 7),(x2 8),(x2 9),(x2 10),(x2 11),(x2 12),(x2 13),(x2 14),(x2 15),(x2 16),(x2 17),(x2 18),(x2 19),(x2 20),(x2 21),(x2 22),(x2 23),(x2 24),(x2 25),(x2 26),(x2 27),(x2 28),(x2 29),.slice ps i cs,.func (.func 257) #[] #[P0 b1,P0 b2],.slice (some ⟨g,0+x.val*960,none⟩) (min 960 (i-x.val*960)) (min 960 (i-x.val*960)),undef,undef,undef,undef,undef,undef,undef],defers:=[] }) (fun _ _ _ _ _ _ h _ _=>h) ?assign ?body ?done (fun _ _ _ _ _ _ h _=>h.elim)
  case own=>exact OwnFrom.and (Own.from (fun s A B n3 hs hg hr=>by obtain⟨pb,cb,gs,h0,h1,h2⟩:=hs;exact⟨pb,cb,gs,h0,h1.turn hg hr,h2.turn hg hr⟩) _) (Zgc (Nat.le_refl _))
  case assign =>
   rintro lr a0 x W K hI hK
   unfold encK
   gi_wp2
   refine hK _ _ (KeepsFrom.refl _ _) (Keeps.refl _ _) hI ?_
   simp only[k8,Nat.zero_add,decide_eq_false (show ¬ ((l.length:Int)>65536) by omega),Int.lt_irrefl,decide_false]
  case body =>
   rintro lr a0 x a' W n9 ⟨⟨pb,cb,gs,e3,m9,hL⟩,e4⟩ rfl n7
   have hx:=bmN_lt x.isLt
   have m1:=hv.resolve_left (fun q=>by omega)
   have a2:=e4.own2 hs c4 (by decide)
   rw[m1.1] at a2
   obtain⟨m,hm⟩:∃ m,min 960 (i-x.val*960)=m:=⟨_,rfl⟩
   rw[hm]
   have f4:0<m:=by omega
   have l3:x.val*960+m≤i:=by omega
   have g1:(Zu (l.take i)).length=i:=by simp[Zu];omega
   have c8:(Wz (Zu (l.take i)) x.val).length=m:=by rw[Ik,g1];exact hm
   have k0:(((Zu (l.take i)).map V0).drop (x.val*960)).take m=(Wz (Zu (l.take i)) x.val).map V0:=by rw[←List.map_drop,←List.map_take];unfold Wz;rw[show((Zu (l.take i)).drop (x.val*960)).take m=((Zu (l.take i)).drop (x.val*960)).take 960 from by rw[List.take_eq_take_iff,List.length_drop,g1];omega]
   have i1:(Uu (Zu (l.take i)) a0).length=a0.length:=by simp[Uu]
   have o4:a0.length≤69:=by have:bmN i≤69:=(by unfold bmN;omega);omega
   have a1:=hL.row
   have hE:Each W c9.heap.size gs (Uu (Zu (l.take i)) a0):=hL.each
   have hZ:RdZ c9 b7 W W:=RdZ.refl e4
   have a5:c9.heap.size≤W.heap.size:=e4.size
   have a3:w.heap.size≤c9.heap.size:=hB.size
   have c0:=j2
   refine wpIn_block ?_
   have hB:=blB (Below.refl w.heap.size W) (Nat.le_trans a3 a5) (Za W)
   replace m9:=m9.below (Za W)
   replace a2:=Zb a2 (Za W)
   replace a1:=Zb a1 (Za W)
   replace hE:=hE.below (Za W)
   replace hZ:=hZ.below (Za W)
   refine h_regIn (fun V=>Below w.heap.size (W.drew) V∧Zf [227,34] (W.drew) V) 6 rfl #[false,false,false,false,false,false] rfl (by kernel_rfl) (fun⟨_,_,q⟩=>q) (by simp) ⟨Below.refl _ _,Zf.refl _ _⟩ ?_
   intro c5
   have a6:=hB
   have f5:=m9
   have h3:=a1
   refine h_pv [1] 5 rfl #[false,true,false,false,false,false] [(46,.slice (some ⟨g,0+x.val*960,none⟩) m m)] (by kernel_rfl) (fun _ _ _ _ _ h=>h) (by kernel_rfl) c5 ?_
   refine h_two 0 2 4 rfl (by kernel_rfl) rfl rfl (by kernel_rfl) (by kernel_rfl) ?_ ?_
   ·refine Jz ⟨b7,0,none⟩ (.slice pb ((Uu (Zu (l.take i)) a0).length) cb) rfl (by kernel_rfl) (by kernel_rfl) (m9.cell (i:=0) rfl) ?_
    have d6:Below w.heap.size (W.drew) (W.drew)∧Zf [227,34] (W.drew) (W.drew):=c5
    refine⟨d6,?_⟩
    have h6:W.heap.size≤(W.drew).heap.size:=hB.size
    refine Ao 2 3 rfl (by kernel_rfl) rfl (by kernel_rfl) (Vp (lb:=#[]) 118 #[.slice (some ⟨g,0+x.val*960,none⟩) m m] rfl (by kernel_rfl) (fun _ _=>by kernel_rfl) (by kernel_rfl) ((Cn ⟨g,0+x.val*960,none⟩ m m ((Wz (Zu (l.take i)) x.val).map V0) _ (k0▸Sl.midI (Ze a2) (by rw[List.length_map];exact g1) (x.val*960) m f4 l3) (by rw[List.length_map];exact c8) (fun u hu=>by obtain⟨y,_,rfl⟩:=List.mem_map.1 hu;rfl) (by omega)).mono ?_))
    rintro e l1 ⟨_,rfl,a4,q,c2,rfl,hq⟩
    refine⟨_,rfl,?_⟩
    replace hB:=blB hB (Nat.le_trans a3 a5) a4
    replace m9:=m9.below a4
    replace a2:=Zb a2 a4
    replace a1:=Zb a1 a4
    replace hE:=hE.below a4
    replace hZ:=hZ.below a4
    replace hq:=Zd hq h6
    have c1:Below w.heap.size (W.drew) (l1)∧Zf [227,34] (W.drew) (l1):=⟨blB d6.1 (Nat.le_trans (Nat.le_trans a3 a5) a6.size) a4,d6.2.trans (Zf.of_below a4)⟩
    refine⟨c1,?_⟩
    refine Ao 3 2 rfl (by kernel_rfl) rfl (by kernel_rfl) (Vl 34 [.slice q m c2] rfl (by kernel_rfl) ?_)
    intro n0 l4 b0
    have f8:=b0.ne m9
    have o2:=b0.ge0 hB
    have g0:=Zn a1 b0
    have h7:(W.drew).heap.size≤n0:=by have:=c1.1.size;have:=b0.at_;omega
    replace hB:=blB hB (Nat.le_trans a3 a5) b0.below
    replace m9:=m9.below b0.below
    replace a2:=Zb a2 b0.below
    replace a1:=Zb a1 b0.below
    replace hE:=hE.below b0.below
    replace hZ:=hZ.below b0.below
    replace hq:=Zb hq b0.below
    have m8:=b0.blk
    have d9:Below w.heap.size (W.drew) (l4)∧Zf [227,34] (W.drew) (l4):=⟨blB c1.1 (Nat.le_trans (Nat.le_trans a3 a5) a6.size) b0.below,c1.2.trans (Zf.of_below b0.below)⟩
    refine⟨d9,?_⟩
    refine Ao 4 1 rfl (by kernel_rfl) rfl (by kernel_rfl) (Zr (e:=34) (n:=(Uu (Zu (l.take i)) a0).length) (xs:=(List.range (Uu (Zu (l.take i)) a0).length).map (Zb7 gs (Uu (Zu (l.take i)) a0))) (m:=1) (news:=[.slice q m c2]) (S0) 1 24 ((Uu (Zu (l.take i)) a0).length+1) ((List.range (Uu (Zu (l.take i)) a0).length).map (Zb7 gs (Uu (Zu (l.take i)) a0))++[.slice q m c2]) rfl Tryz.underlying227 (by kernel_rfl) rfl (by decide) (by kernel_rfl) a1 (by kernel_rfl) (m8.sl 1 1 (by decide) (by decide)) rfl (by simp[Value.oneCell']) (by unfold maxLen;omega) (by omega) (Nat.le_trans a5 hZ.le) (by simp) (by simp) ?_)
    intro l5 j3 k3 i0 b5 e6
    replace m9:=m9.grown b5 a1 (by decide)
    replace a2:=Xj a2 b5 a1 (by decide)
    replace hE:=hE.only (Zf.of_grown (T:=[34]) b5 a1 (by decide)) (by decide)
    replace hZ:=hZ.grown b5 a1
    replace hq:=Xj hq b5 a1 (by decide)
    replace hB:=hB.trans (e6.mono a3)
    have e0:Below w.heap.size (W.drew) (k3)∧Zf [227,34] (W.drew) (k3):=⟨d9.1.trans (e6.mono a3),d9.2.trans (Zf.of_grown b5 a1 (by decide))⟩
    refine⟨e0,?_⟩
    refine Ao 5 0 rfl (by kernel_rfl) rfl (by kernel_rfl) (Jc (v:=.slice l5 ((Uu (Zu (l.take i)) a0).length+1) j3) (b:=b7) (off:=0) rfl (by kernel_rfl) (by kernel_rfl) (by kernel_rfl) rfl m9 (by first|decide|simp) ?_)
    intro k5 d0 j4
    change Blk _ _ [.slice l5 ((Uu (Zu (l.take i)) a0).length+1) j3] _ at j4
    replace hB:=d0.below hB c0
    replace a2:=d0.own2 a2 m9 (by decide)
    replace hE:=hE.only (Zf.of_upd (T:=[227]) d0 m9 (by decide)) (by decide)
    replace hZ:=hZ.upd d0 m9
    replace hq:=d0.own2 hq m9 (by decide)
    replace i0:=d0.own2 i0 m9 (by decide)
    have i5:Below w.heap.size (W.drew) (k5)∧Zf [227,34] (W.drew) (k5):=⟨d0.below e0.1 c0,e0.2.trans (Zf.of_upd d0 m9 (by decide))⟩
    refine⟨i5,?_⟩
    refine h_done _ (by kernel_rfl) ?_
    obtain⟨g2,rfl,l6⟩:=Bv hq f4
    rw[←c8] at hq
    have a8:=i0
    rw[←c8] at a8
    have hS:=Lists.snoc (n:=(Uu (Zu (l.take i)) a0).length+1) rfl a8 hE (Zd hq a5) (by rw[e3,i1])
    exact⟨hZ.ko.from _,⟨hZ.le,fun b hb=>hZ.fr b hb.1 hb.2⟩,⟨_,_,gs++[(g2,_)],by simp[e3],by rw[Gz,List.length_append];exact j4,by rw[Gz,List.length_append];exact hS⟩,hZ.bb⟩
   ·have i4:W.heap.size≤(W.drew).heap.size:=hB.size
    refine Vp (lb:=#[]) 118 #[.slice (some ⟨g,0+x.val*960,none⟩) m m] rfl (by kernel_rfl) (fun _ _=>by kernel_rfl) (by kernel_rfl) ((Cn ⟨g,0+x.val*960,none⟩ m m ((Wz (Zu (l.take i)) x.val).map V0) _ (k0▸Sl.midI (Ze a2) (by rw[List.length_map];exact g1) (x.val*960) m f4 l3) (by rw[List.length_map];exact c8) (fun u hu=>by obtain⟨y,_,rfl⟩:=List.mem_map.1 hu;rfl) (by omega)).mono ?_)
    rintro e f9 ⟨_,rfl,a7,q,c2,rfl,hq⟩
    refine⟨_,rfl,?_⟩
    replace hB:=blB hB (Nat.le_trans a3 a5) a7
    replace m9:=m9.below a7
    replace a2:=Zb a2 a7
    replace a1:=Zb a1 a7
    replace hE:=hE.below a7
    replace hZ:=hZ.below a7
    replace hq:=Zd hq i4
    have b9:Below w.heap.size (W.drew) (f9)∧Zf [227,34] (W.drew) (f9):=⟨blB c5.1 (Nat.le_trans (Nat.le_trans a3 a5) a6.size) a7,c5.2.trans (Zf.of_below a7)⟩
    refine⟨b9,?_⟩
    refine h_two 0 3 3 rfl (by kernel_rfl) rfl rfl (by kernel_rfl) (by kernel_rfl) ?_ ?_
    ·refine Jz ⟨b7,0,none⟩ (.slice pb ((Uu (Zu (l.take i)) a0).length) cb) rfl (by kernel_rfl) (by kernel_rfl) (m9.cell (i:=0) rfl) ?_
     have c6:Below w.heap.size (W.drew) (f9)∧Zf [227,34] (W.drew) (f9):=b9
     refine⟨c6,?_⟩
     refine Ao 3 2 rfl (by kernel_rfl) rfl (by kernel_rfl) (Vl 34 [.slice q m c2] rfl (by kernel_rfl) ?_)
     intro m5 k2 b3
     have f7:=b3.ne m9
     have o3:=b3.ge0 hB
     have g8:=Zn a1 b3
     have h8:(W.drew).heap.size≤m5:=by have:=c6.1.size;have:=b3.at_;omega
     replace hB:=blB hB (Nat.le_trans a3 a5) b3.below
     replace m9:=m9.below b3.below
     replace a2:=Zb a2 b3.below
     replace a1:=Zb a1 b3.below
     replace hE:=hE.below b3.below
     replace hZ:=hZ.below b3.below
     replace hq:=Zb hq b3.below
     have m3:=b3.blk
     have e2:Below w.heap.size (W.drew) (k2)∧Zf [227,34] (W.drew) (k2):=⟨blB c6.1 (Nat.le_trans (Nat.le_trans a3 a5) a6.size) b3.below,c6.2.trans (Zf.of_below b3.below)⟩
     refine⟨e2,?_⟩
     refine Ao 4 1 rfl (by kernel_rfl) rfl (by kernel_rfl) (Zr (e:=34) (n:=(Uu (Zu (l.take i)) a0).length) (xs:=(List.range (Uu (Zu (l.take i)) a0).length).map (Zb7 gs (Uu (Zu (l.take i)) a0))) (m:=1) (news:=[.slice q m c2]) (S0) 1 24 ((Uu (Zu (l.take i)) a0).length+1) ((List.range (Uu (Zu (l.take i)) a0).length).map (Zb7 gs (Uu (Zu (l.take i)) a0))++[.slice q m c2]) rfl Tryz.underlying227 (by kernel_rfl) rfl (by decide) (by kernel_rfl) a1 (by kernel_rfl) (m3.sl 1 1 (by decide) (by decide)) rfl (by simp[Value.oneCell']) (by unfold maxLen;omega) (by omega) (Nat.le_trans a5 hZ.le) (by simp) (by simp) ?_)
     intro k1 k4 j6 i9 b8 f0
     replace m9:=m9.grown b8 a1 (by decide)
     replace a2:=Xj a2 b8 a1 (by decide)
     replace hE:=hE.only (Zf.of_grown (T:=[34]) b8 a1 (by decide)) (by decide)
     replace hZ:=hZ.grown b8 a1
     replace hq:=Xj hq b8 a1 (by decide)
     replace hB:=hB.trans (f0.mono a3)
     have d8:Below w.heap.size (W.drew) (j6)∧Zf [227,34] (W.drew) (j6):=⟨e2.1.trans (f0.mono a3),e2.2.trans (Zf.of_grown b8 a1 (by decide))⟩
     refine⟨d8,?_⟩
     refine Ao 5 0 rfl (by kernel_rfl) rfl (by kernel_rfl) (Jc (v:=.slice k1 ((Uu (Zu (l.take i)) a0).length+1) k4) (b:=b7) (off:=0) rfl (by kernel_rfl) (by kernel_rfl) (by kernel_rfl) rfl m9 (by first|decide|simp) ?_)
     intro j5 d1 l7
     change Blk _ _ [.slice k1 ((Uu (Zu (l.take i)) a0).length+1) k4] _ at l7
     replace hB:=d1.below hB c0
     replace a2:=d1.own2 a2 m9 (by decide)
     replace hE:=hE.only (Zf.of_upd (T:=[227]) d1 m9 (by decide)) (by decide)
     replace hZ:=hZ.upd d1 m9
     replace hq:=d1.own2 hq m9 (by decide)
     replace i9:=d1.own2 i9 m9 (by decide)
     have i7:Below w.heap.size (W.drew) (j5)∧Zf [227,34] (W.drew) (j5):=⟨d1.below d8.1 c0,d8.2.trans (Zf.of_upd d1 m9 (by decide))⟩
     refine⟨i7,?_⟩
     refine h_done _ (by kernel_rfl) ?_
     obtain⟨g2,rfl,l6⟩:=Bv hq f4
     rw[←c8] at hq
     have a8:=i9
     rw[←c8] at a8
     have hS:=Lists.snoc (n:=(Uu (Zu (l.take i)) a0).length+1) rfl a8 hE (Zd hq a5) (by rw[e3,i1])
     exact⟨hZ.ko.from _,⟨hZ.le,fun b hb=>hZ.fr b hb.1 hb.2⟩,⟨_,_,gs++[(g2,_)],by simp[e3],by rw[Gz,List.length_append];exact l7,by rw[Gz,List.length_append];exact hS⟩,hZ.bb⟩
    ·refine Vl 34 [.slice q m c2] rfl (by kernel_rfl) ?_
     intro n1 g3 a9
     have f6:=a9.ne m9
     have n8:=a9.ge0 hB
     have g5:=Zn a1 a9
     have i2:(W.drew).heap.size≤n1:=by have:=b9.1.size;have:=a9.at_;omega
     replace hB:=blB hB (Nat.le_trans a3 a5) a9.below
     replace m9:=m9.below a9.below
     replace a2:=Zb a2 a9.below
     replace a1:=Zb a1 a9.below
     replace hE:=hE.below a9.below
     replace hZ:=hZ.below a9.below
     replace hq:=Zb hq a9.below
     have n2:=a9.blk
     have f2:Below w.heap.size (W.drew) (g3)∧Zf [227,34] (W.drew) (g3):=⟨blB b9.1 (Nat.le_trans (Nat.le_trans a3 a5) a6.size) a9.below,b9.2.trans (Zf.of_below a9.below)⟩
     refine⟨f2,?_⟩
     refine Ao 0 2 rfl (by kernel_rfl) rfl (by kernel_rfl) (Jz ⟨b7,0,none⟩ (.slice pb ((Uu (Zu (l.take i)) a0).length) cb) rfl (by kernel_rfl) (by kernel_rfl) (m9.cell (i:=0) rfl) ?_)
     have d4:Below w.heap.size (W.drew) (g3)∧Zf [227,34] (W.drew) (g3):=f2
     refine⟨d4,?_⟩
     refine Ao 4 1 rfl (by kernel_rfl) rfl (by kernel_rfl) (Zr (e:=34) (n:=(Uu (Zu (l.take i)) a0).length) (xs:=(List.range (Uu (Zu (l.take i)) a0).length).map (Zb7 gs (Uu (Zu (l.take i)) a0))) (m:=1) (news:=[.slice q m c2]) (S0) 1 24 ((Uu (Zu (l.take i)) a0).length+1) ((List.range (Uu (Zu (l.take i)) a0).length).map (Zb7 gs (Uu (Zu (l.take i)) a0))++[.slice q m c2]) rfl Tryz.underlying227 (by kernel_rfl) rfl (by decide) (by kernel_rfl) a1 (by kernel_rfl) (n2.sl 1 1 (by decide) (by decide)) rfl (by simp[Value.oneCell']) (by unfold maxLen;omega) (by omega) (Nat.le_trans a5 hZ.le) (by simp) (by simp) ?_)
     intro j0 j9 k7 i3 b4 e7
     replace m9:=m9.grown b4 a1 (by decide)
     replace a2:=Xj a2 b4 a1 (by decide)
     replace hE:=hE.only (Zf.of_grown (T:=[34]) b4 a1 (by decide)) (by decide)
     replace hZ:=hZ.grown b4 a1
     replace hq:=Xj hq b4 a1 (by decide)
     replace hB:=hB.trans (e7.mono a3)
     have e1:Below w.heap.size (W.drew) (k7)∧Zf [227,34] (W.drew) (k7):=⟨d4.1.trans (e7.mono a3),d4.2.trans (Zf.of_grown b4 a1 (by decide))⟩
     refine⟨e1,?_⟩
     refine Ao 5 0 rfl (by kernel_rfl) rfl (by kernel_rfl) (Jc (v:=.slice j0 ((Uu (Zu (l.take i)) a0).length+1) j9) (b:=b7) (off:=0) rfl (by kernel_rfl) (by kernel_rfl) (by kernel_rfl) rfl m9 (by first|decide|simp) ?_)
     intro l0 d2 j1
     change Blk _ _ [.slice j0 ((Uu (Zu (l.take i)) a0).length+1) j9] _ at j1
     replace hB:=d2.below hB c0
     replace a2:=d2.own2 a2 m9 (by decide)
     replace hE:=hE.only (Zf.of_upd (T:=[227]) d2 m9 (by decide)) (by decide)
     replace hZ:=hZ.upd d2 m9
     replace hq:=d2.own2 hq m9 (by decide)
     replace i3:=d2.own2 i3 m9 (by decide)
     have i8:Below w.heap.size (W.drew) (l0)∧Zf [227,34] (W.drew) (l0):=⟨d2.below e1.1 c0,e1.2.trans (Zf.of_upd d2 m9 (by decide))⟩
     refine⟨i8,?_⟩
     refine h_done _ (by kernel_rfl) ?_
     obtain⟨g2,rfl,l6⟩:=Bv hq f4
     rw[←c8] at hq
     have a8:=i3
     rw[←c8] at a8
     have hS:=Lists.snoc (n:=(Uu (Zu (l.take i)) a0).length+1) rfl a8 hE (Zd hq a5) (by rw[e3,i1])
     exact⟨hZ.ko.from _,⟨hZ.le,fun b hb=>hZ.fr b hb.1 hb.2⟩,⟨_,_,gs++[(g2,_)],by simp[e3],by rw[Gz,List.length_append];exact j1,by rw[Gz,List.length_append];exact hS⟩,hZ.bb⟩
  case done =>
   rintro D xs W hD rfl ⟨⟨pb,cb,gs,e3,m9,hL⟩,e4⟩ k9
   rw[preC_all] at m9 hL
   have hK:Dfr D W:=k9;clear k9
   subst k8
   rw[List.take_length] at m9 hL
   rw[Gc] at m9 hL
   refine g_nopan ?_
   have m2:=hB
   replace hB:=e4.below hB j2 hB.size
   have l2:=e4.own2 ho c4 (by decide)
   have a3:=m2.size
   replace c4:=m9
   refine wp_seq ?_
   refine wp_region_lit ?_
   refine Hg (by kernel_rfl) (Jz ⟨b7,0,none⟩ (.slice pb (bmN l.length) cb) rfl (by kernel_rfl) (by kernel_rfl) (c4.cell (i:=0) rfl) ?_)
   refine Uh 4 [(51,.slice po ((Zy l l.length).length) co),(2,.slice pb (bmN l.length) cb),(3,.slice po ((Zy l l.length).length) co),(4,V0 0)] (by kernel_rfl) ?_
   refine wpList_nil ?_
   refine wp_ret ?_
   exact g_endM hK (.tuple #[.slice pb (bmN l.length) cb,.slice po ((Zy l l.length).length) co,V0 0]) (by kernel_rfl) (by kernel_rfl) (.inr ⟨Zfr hl (fun k hk=>hz k (by omega)),_,_,gs,_,_,rfl,(Upd.of_put _ _ _).below hB (Nat.le_trans a3 hD),(hL.mono a3).put (Upd.of_put _ _ _) hK,(Upd.of_put _ _ _).own3 l2 (hK.row l2)⟩)
end Go.Proofs.YtceeiinepijokaaGreatDoor
namespace Go.Proofs.YtceeiinepijokaaGreatDoor
set_option maxHeartbeats 8000000
set_option maxRecDepth 100000
open Go.RowKit Go.Extern.Stop Go.Stop Go.Extern
set_option linter.unusedVariables false
attribute [local irreducible] wpList wpAnyH Code.wp Oper.wp Go
theorem Zd5(B b:Nat)(p:O0)(n c:Nat)(l:Bl)(no:Int)(w:World)(hI:ImgR B b p n c l w) :
 C0 64 #[P0 b,V0 no] w (fun e w' =>
 (Xy l no≠0∧∃ ty x,e=.returned (.tuple #[S0,.iface ty x])∧B3 w w'∧Hb w' (([no]:List Int).map some) (some (Xy l no)) (.iface ty x)) ∨
 (Xy l no=0∧∃ p c,e=.returned (.tuple #[.slice p (Vz l no).length c,.nilIface])∧B3 w w'∧w'.ownsRow w.heap.size 134 3 (.slice p (Vz l no).length c) (Vz l no).length ((Vz l no).flatMap Zfq))):=by
 refine(Zgf B b p n c l no w hI).mono ?_
 rintro e W q
 rcases q with ⟨h,b,rfl,hb,hv⟩|⟨h,p,c,rfl,hb,ho⟩
 ·exact .inl ⟨h,_,_,rfl,hb,hv⟩
 ·refine .inr ⟨h,p,c,by rw[(Ee h).2],hb,?_⟩
  rw[(Ee h).2,(Ee h).1];exact ho
theorem hasE_6(l:Bl)(no:Int):Wx l no 6=Xy l no:=if_pos rfl
theorem Pc(l:Bl)(no:Int):Wx l no 7=Xn l no:=by unfold Wx;rw[if_neg (by decide),if_pos rfl]
theorem Zdv{l:Bl}{no t:Int}(h5:t≤5):Wx l no t=Xl l no t:=by unfold Wx;rw[if_neg (by omega),if_neg (by omega)]
theorem Zbn(l:Bl)(no:Int):(Vy l no).length=Xh (inB l no):=by unfold Vy;exact Uw _ _
theorem nodT_is{l:Bl}{no t:Int}(h:Xl l no t=0)(h1:1≤t):Xz (inB l no)=t:=by
 have h2:=(Ow h).2
 have h3:=Ss h2
 unfold Qn at h2
 rw[if_pos h3] at h2
 split at h2
 ·rename_i h4;omega
 ·omega
theorem nodV_short(l:Bl)(no:Int)(i:Nat):((Vy l no).getD i []).length≤1000:=Wd _ _ _
end Go.Proofs.YtceeiinepijokaaGreatDoor
namespace Go.Proofs.YtceeiinepijokaaGreatDoor
set_option maxHeartbeats 8000000
set_option maxRecDepth 100000
open Go.RowKit Go.Extern.Stop Go.Stop Go.Extern
set_option linter.unusedVariables false
attribute [local irreducible] wpList wpAnyH Code.wp Oper.wp Go
def lkC (x:Lk):List Value:=[V0 x.1,V0 x.2.1,V0 x.2.2.1]
def Uf(rm:Nat)(out:List Lk)(w:World):Prop:=∃ kv,Wa V0 w rm kv∧∀ k,Pf kv k=if Vg out k=true then some (.bool true) else none
theorem Uf.below{rm:Nat}{out:List Lk}{w W:World}(h:Uf rm out w)(hb:B3 w W):Uf rm out W:=let ⟨kv,h1,h2⟩:=h;⟨kv,h1.below hb,h2⟩
theorem Uf.updBlk{rm b:Nat}{out:List Lk}{w W:World}{cs:List Value}{t:TypeId}(h:Uf rm out w)(u:Upd w b W)(k:Blk w b cs t):Uf rm out W:=let ⟨kv,h1,h2⟩:=h;⟨kv,h1.updBlk u k,h2⟩
theorem Uf.grown{rm:Nat}{out:List Lk}{w W:World}{base size n:Nat}{e:TypeId}{v:Value}{xs:List Value}(h:Uf rm out w)(hg:w.grownBy W v.ownBlock)(k:w.ownsRow base e size v n xs):Uf rm out W:=let ⟨kv,h1,h2⟩:=h;⟨kv,h1.grown hg k,h2⟩
theorem Uf.told{rm:Nat}{out:List Lk}{x:Lk}{w:World}(h:Uf rm out w)(ht:Vg out x.2.1=true):Uf rm (out++[x]) w:=by
 obtain⟨kv,h1,h2⟩:=h
 refine⟨kv,h1,fun k=>?_⟩
 rw[h2,Dl]
 by_cases e:x.2.1=k
 ·subst e;rw[ht];simp
 ·rw[decide_eq_false e,Bool.or_false]
theorem lookV_snoc{kv:List (Int×Value)}{k to:Int}{v:Value}:Pf (kv++[(to,v)]) k=(Pf kv k).or (if k=to then some v else none):=by
 induction kv with
 | nil=>simp[Pf]
 | cons p r ih =>
  rw[List.cons_append,Pf,Pf]
  by_cases e:k=p.1
  ·rw[if_pos e,if_pos e];rfl
  ·rw[if_neg e,if_neg e,ih]
theorem Yr{rm:Nat}{out:List Lk}{x:Lk}{W:World}{kv:List (Int×Value)}(h2:∀ k,Pf kv k=if Vg out k=true then some (.bool true) else none)(m:Wa V0 W rm (kv++[(x.2.1,.bool true)])):Uf rm (out++[x]) W:=by
 refine⟨_,m,fun k=>?_⟩
 rw[lookV_snoc,h2,Dl]
 by_cases e:x.2.1=k
 ·subst e;cases Vg out x.2.1<;>simp
 ·have e2:¬ k=x.2.1:=fun q=>e q.symm
  rw[decide_eq_false e,Bool.or_false,if_neg e2,Option.or_none]
structure LkM(B Bi b bx rm kb:Nat)(K:List Value)(pi:Option Addr)(ni ci:Nat)(l:List UInt8)(n:Nat)(po:Option Addr)(co:Nat)(out:List Lk)(w:World):Prop where
 hI:ImgR Bi b pi ni ci l w
 kx:Blk w bx [.pointer (some ⟨b,0,none⟩),.int .i64 (↑n:Int),.map (some rm),.slice po out.length co] 74
 ho:w.ownsRow B 76 3 (.slice po out.length co) out.length (out.flatMap lkC)
 hM:Uf rm out w
 hB:B≤w.heap.size
 hbx:B≤bx
 hrm:B≤rm
 hk:Blk w kb K 76
 hsp:∀ j,(Value.slice po out.length co).ownBlock=some j→j≠kb
theorem Qc{v v':Value}{kb:Nat}{w:World}(h:∀ j,v.ownBlock=some j→j≠kb)(ha:v'.ownBlock=v.ownBlock∨v'.ownBlock=some w.heap.size)(hk:kb<w.heap.size):∀ j,v'.ownBlock=some j→j≠kb:=fun j hj=>by
 rcases ha with ha|ha
 ·exact h j (ha.symm.trans hj)
 ·rw[ha,Option.some.injEq] at hj;omega
def To(B Bi b bx rm kb:Nat)(K:List Value)(pi:O0)(ni ci:Nat)(l:Bl)(n:Nat)(o:Kx)(w:World)(e:Ending)(w':World):Prop :=
 (o.2.2≠0∧∃ ty v,e=.returned (.iface ty v)∧Below B w w'∧Zf [74,76] w w'∧Hb w' (o.2.1.map some) (some o.2.2) (.iface ty v)) ∨
 (o.2.2=0∧∃ po co,e=.returned .nilIface∧Below B w w'∧Zf [74,76] w w'∧LkM B Bi b bx rm kb K pi ni ci l n po co o.1 w')
theorem Hq{B Bi b bx rm kb:Nat}{K:List Value}{pi:O0}{ni ci:Nat}{l:Bl}{n:Nat}{o:Kx}{c:List Lk}{bl:List Int}{er:Int}{w W:World}{ty:TypeId}{v:Value}(h:o=(c,bl,er))(her:er≠0)(hb:Below B w W)(hO:Zf [74,76] w W)(hv:Hb W (bl.map some) (some er) (.iface ty v)):To B Bi b bx rm kb K pi ni ci l n o w (.returned (.iface ty v)) W:=by
 subst h;exact .inl ⟨her,ty,v,rfl,hb,hO,hv⟩
theorem Pb{B Bi b bx rm kb:Nat}{K:List Value}{pi:O0}{ni ci:Nat}{l:Bl}{n:Nat}{o:Kx}{c:List Lk}{m:Nat}{po:O0}{co:Nat}{w W:World}(h:o=(c,[],0))(hm:c.length=m)(hb:Below B w W)(hO:Zf [74,76] w W)(hI:ImgR Bi b pi ni ci l W)(kx:Blk W bx [P0 b,V0 (n:Int),.map (some rm),.slice po m co] 74)(ho:W.ownsRow B 76 3 (.slice po m co) m (c.flatMap lkC))(hM:Uf rm c W)(hB:B≤W.heap.size)(hbx:B≤bx)(hrm:B≤rm)(hk:Blk W kb K 76)(hsp:∀ j,(Value.slice po m co).ownBlock=some j→j≠kb):To B Bi b bx rm kb K pi ni ci l n o w (.returned .nilIface) W:=by
 subst h hm;exact .inr ⟨rfl,po,co,rfl,hb,hO,hI,kx,ho,hM,hB,hbx,hrm,hk,hsp⟩
def Zds(d:Nat)(B Bi b bx rm kb:Nat)(K:List Value)(pi:O0)(ni ci:Nat)(l:Bl)(n:Nat):Prop:=∀ (po:O0) (co:Nat) (out:List Lk) (fr to ak:Int) (w:World),LkM B Bi b bx rm kb K pi ni ci l n po co out w→0≤to→unt out n<d→Ql n out≤1000000000000→1≤ak→ak≤7 →
 C0 35 #[P0 bx,.agg #[V0 fr,V0 to,V0 ak]] w (To B Bi b bx rm kb K pi ni ci l n (Xu l n d out (fr,to,ak,0)) w)
variable {B Bi b bx rm kb:Nat} {K:List Value} {pi:Option Addr} {ni ci:Nat} {l:List UInt8} {n:Nat}
theorem linkX_err{d:Nat}{out:List Lk}{x:Lk}(hd:0<d)(h:x.2.2.2≠0):Xu l n d out x=(out,[x.1],x.2.2.2):=by
 obtain⟨d,rfl⟩:∃ e,d=e+1:=⟨d-1,by omega⟩
 exact if_pos h
theorem Zcd{d:Nat}{out:List Lk}{fr to ak:Int}(h:¬ (0≤to∧to<n)):Xu l n (d+1) out (fr,to,ak,0)=(out,[to],3):=by
 unfold Xu;rw[if_neg (fun q=>q rfl),if_pos h]
theorem Dx{d:Nat}{out:List Lk}{fr to ak:Int}(h:0≤to∧to<n)(ht:Vg out to=true):Xu l n (d+1) out (fr,to,ak,0)=(out++[(fr,to,ak,0)],[],0):=by
 unfold Xu;rw[if_neg (fun q=>q rfl),if_neg (fun q=>q h),if_pos ht]
def Lr(l:Bl)(n d:Nat)(out:List Lk)(no ak:Int):Kx:=if Wx l no ak≠0 then(out,[no],Wx l no ak) else Qr (Xu l n d) out (Mc l no ak)
theorem Jq{d:Nat}{out:List Lk}{no ak e:Int}(he:Wx l no ak=e)(h:e≠0):Lr l n d out no ak=(out,[no],e):=by subst he;exact if_pos h
theorem Vj{d:Nat}{out:List Lk}{no ak:Int}(h:Wx l no ak=0):Lr l n d out no ak=Qr (Xu l n d) out (Mc l no ak):=if_neg (fun q=>q h)
theorem Xa{d:Nat}{out:List Lk}{fr to ak:Int}(h:0≤to∧to<n)(ht:Vg out to=false):Xu l n (d+1) out (fr,to,ak,0)=Lr l n d (out++[(fr,to,ak,0)]) to ak:=by
 conv=>lhs;unfold Xu
 rw[if_neg (fun q=>q rfl),if_neg (fun q=>q h),if_neg (by rw[ht];decide)]
 rfl
theorem hasJ_6(l:Bl)(no:Int):Mc l no 6=(Vz l no).map (Fh no):=if_pos rfl
theorem Io(l:Bl)(no:Int):Mc l no 7=[]:=by unfold Mc;rw[if_neg (by decide),if_pos rfl]
theorem Zho{no t:Int}(h5:t≤5):Mc l no t=Zea l no:=by unfold Mc;rw[if_neg (by omega),if_neg (by omega)]
theorem valK_slot{no t:Int}{leaf:Bool}{v:Bl}(h:leaf=true)(h4:t=4):Uz no t leaf v=(no,(((Yo Xk v).getD 0 0:Nat):Int),(7:Int),Ye Xk v):=if_pos ⟨h,h4⟩
theorem Zdm{no t:Int}{leaf:Bool}{v:Bl}(h:¬ (leaf=true∧t=4)):Uz no t leaf v=(no,(Ji v:Int),(if leaf then 2 else t),Kv v):=if_neg h
theorem valK_is(no t:Int)(leaf:Bool)(v:Bl):(Uz no t leaf v).1=no∧0≤(Uz no t leaf v).2.1∧(1≤t→t≤5→1≤(Uz no t leaf v).2.2.1∧(Uz no t leaf v).2.2.1≤7):=by
 unfold Uz
 split
 ·exact⟨rfl,by show(0:Int)≤((_:Nat):Int);omega,fun _ _=>⟨by show(1:Int)≤7;decide,by show(7:Int)≤7;decide⟩⟩
 ·refine⟨rfl,by show(0:Int)≤((_:Nat):Int);omega,fun h1 h5=>?_⟩
  show 1≤(if leaf then(2:Int) else t)∧(if leaf then(2:Int) else t)≤7
  split<;>omega
theorem valK_eta{no t:Int}{leaf:Bool}{v:Bl}(h:(Uz no t leaf v).2.2.2=0):(no,(Uz no t leaf v).2.1,(Uz no t leaf v).2.2.1,(0:Int))=Uz no t leaf v:=by
 have h1:=(valK_is no t leaf v).1
 generalize Uz no t leaf v=x at h h1 ⊢
 obtain⟨a,b,c,e⟩:=x
 have h:e=0:=h
 have h1:a=no:=h1
 subst h h1;rfl
theorem link_val(no t:Int)(leaf:Bool)(kp vp:O0)(kn kc vn vc:Nat)(v:Bl)(w:World)(hv:v.length≤1000) :
 C0 135 #[V0 no,.agg #[V0 t,.bool leaf,.slice kp kn kc,.slice vp vn vc],.string ⟨v.toArray⟩] w ((fun e w'=>(Nc t leaf∧e=.returned (.tuple #[.agg #[V0 0,V0 0,V0 0],V0 0,.bool false])∧B3 w w')∨(¬ Nc t leaf∧e=.returned (.tuple #[.agg #[V0 no,V0 ((Uz no t leaf v).2.1),V0 ((Uz no t leaf v).2.2.1)],V0 ((Uz no t leaf v).2.2.2),.bool true])∧B3 w w'))):=by
 refine zin 53 Tryz.func135 ?_
 refine xa 2 [V0 t,.bool leaf,.slice kp kn kc,.slice vp vn vc] 181 fun b1 W1 n1=>?_
 refine xa 0 [V0 0,V0 0,V0 0] 76 fun b2 W2 n2=>?_
 have k1:=n1.blk.below n2.below
 refine xb 8 1 k1 ?_
 refine xg 1 [15,16] leaf (fun a2=>?_) (fun a2=>?_)
 ·refine xb 1 0 k1 ?_
  refine xie 4 t (4:Int) (fun b4=>?_) (fun b4=>?_)
  ·refine xr 3 (args:=#[.string ⟨v.toArray⟩]) (Ms v _ hv) fun W5 a6=>?_
   refine xa 3 [V0 0,V0 0,V0 0] 134 fun b6 W6 n6=>?_
   refine xsv 0 n6.blk [V0 (↑((Yo Xk v).getD 0 0):Int),V0 (↑((Yo Xk v).getD 1 0):Int),V0 (↑((Yo Xk v).getD 2 0):Int)] fun W7 u7 k7=>?_
   have g6:=n6.ge (bln (bln n1.below n2.below) a6)
   refine xb 7 0 k7 ?_
   have k2:=u7.blkT ((n2.blk.below a6).below n6.below) n6.blk (by decide)
   refine xsv 2 k2 [V0 no,V0 (↑((Yo Xk v).getD 0 0):Int),V0 7] fun W8 u8 k8=>?_
   have g2:=n2.ge n1.below
   have hB:=u8.below (u7.below (bln (bln (bln n1.below n2.below) a6) n6.below) g6) g2
   exact xec 6 k8 (.tuple #[.agg #[V0 no,V0 (↑((Yo Xk v).getD 0 0):Int),V0 7],V0 (Ye Xk v),.bool true]) (.inr ⟨fun q=>q.2.2 (by omega),by rw[valK_slot (by assumption) (by omega)],hB⟩)
  refine xb 6 1 k1 ?_
  refine xgk 1 [32,33] (show(leaf:Bool)=true from a2) ?_
  refine xb 1 0 k1 ?_
  refine xin 4 t (1:Int) (fun a5=>?_) (fun a5=>?_)
  ·refine xsv 3 n2.blk [V0 0,V0 0,V0 0] fun c0 a9 a8=>?_
   have g2:=n2.ge n1.below
   have hB:=a9.below (bln n1.below n2.below) g2
   exact xec 6 a8 (.tuple #[.agg #[V0 0,V0 0,V0 0],V0 0,.bool false]) (.inl ⟨⟨by assumption,by omega,by omega⟩,rfl,hB⟩)
  refine xr 5 (args:=#[.string ⟨v.toArray⟩]) (Mv v _ hv) fun c1 a0=>?_
  have a3:=k1.below a0
  refine xb 10 0 a3 ?_
  refine xb 7 1 a3 ?_
  refine xk 2 (show(leaf:Bool)=true from a2) ?_
  have k2:=n2.blk.below a0
  refine xsv 11 k2 [V0 no,V0 (↑(Ji v):Int),V0 2] fun b9 b3 a7=>?_
  have g2:=n2.ge n1.below
  have hB:=b3.below (bln (bln n1.below n2.below) a0) g2
  exact xec 5 a7 (.tuple #[.agg #[V0 no,V0 (↑(Ji v):Int),V0 2],V0 (Kv v),.bool true]) (.inr ⟨fun q=>by obtain⟨q1,q2,q3⟩:=q;first|omega|exact absurd (q1.symm.trans (show leaf=false by assumption)) (by decide),by rw[Zdm (fun q=>by obtain⟨q1,q2⟩:=q;first|omega|exact absurd (q1.symm.trans (show leaf=false by assumption)) (by decide))];first|(rw[if_pos (by assumption)];done)|(rw[if_pos (by assumption)];rfl)|(rw[if_neg (fun q1=>absurd (q1.symm.trans (show leaf=false by assumption)) (by decide))];done)|(rw[if_neg (fun q1=>absurd (q1.symm.trans (show leaf=false by assumption)) (by decide))];rfl),hB⟩)
 refine xb 13 1 k1 ?_
 refine xgk 1 [32,33] (show(leaf:Bool)=false from a2) ?_
 refine xr 12 (args:=#[.string ⟨v.toArray⟩]) (Mv v _ hv) fun b8 a1=>?_
 have a4:=k1.below a1
 refine xb 10 0 a4 ?_
 refine xb 7 1 a4 ?_
 refine xk 2 (show(leaf:Bool)=false from a2) ?_
 have k2:=n2.blk.below a1
 refine xsv 9 k2 [V0 no,V0 (↑(Ji v):Int),V0 t] fun b7 b5 b0=>?_
 have g2:=n2.ge n1.below
 have hB:=b5.below (bln (bln n1.below n2.below) a1) g2
 exact xec 5 b0 (.tuple #[.agg #[V0 no,V0 (↑(Ji v):Int),V0 t],V0 (Kv v),.bool true]) (.inr ⟨fun q=>by obtain⟨q1,q2,q3⟩:=q;first|omega|exact absurd (q1.symm.trans (show leaf=false by assumption)) (by decide),by rw[Zdm (fun q=>by obtain⟨q1,q2⟩:=q;first|omega|exact absurd (q1.symm.trans (show leaf=false by assumption)) (by decide))];first|(rw[if_pos (by assumption)];done)|(rw[if_pos (by assumption)];rfl)|(rw[if_neg (fun q1=>absurd (q1.symm.trans (show leaf=false by assumption)) (by decide))];done)|(rw[if_neg (fun q1=>absurd (q1.symm.trans (show leaf=false by assumption)) (by decide))];rfl),hB⟩)
def ifQ:Option (TypeId×Value)→Value
 | none=>.nilIface
 | some q=>.iface q.1 q.2
def IdxQ(B Bi b bx rm kb:Nat)(K:List Value)(pi:O0)(ni ci:Nat)(l:Bl)(n:Nat)(d:Nat)(out:List Lk)(no:Int)(i:Nat)(q:Option (TypeId×Value))(w:World):Prop :=
 match q with
 | none=>i≤(Vz l no).length∧∃ c po co,Jn (Xu l n d) out (((Vz l no).take i).map (Fh no)) c∧LkM B Bi b bx rm kb K pi ni ci l n po co c w
 | some q=>(Qr (Xu l n d) out ((Vz l no).map (Fh no))).2.2≠0∧Hb w ((Qr (Xu l n d) out ((Vz l no).map (Fh no))).2.1.map some) (some (Qr (Xu l n d) out ((Vz l no).map (Fh no))).2.2) (.iface q.1 q.2)
theorem Ul{l:Bl}{n d:Nat}:∀ {L o:List Lk},(Qr (Xu l n d) o L).2.2=0→(Qr (Xu l n d) o L).2.1=[]
 | [],_,_=>rfl
 | y::L,o,h=>by
  rw[Yd] at h ⊢
  split
  ·rename_i q;rw[if_pos q] at h;exact absurd h q
  ·rename_i q;rw[if_neg q] at h;exact Ul h
theorem Hl(B Bi b bx rm kb:Nat)(K:List Value)(pi:O0)(ni ci:Nat)(l:Bl)(n:Nat)(d:Nat)(hA:Zds d B Bi b bx rm kb K pi ni ci l n)(po:O0)(co:Nat)(out:List Lk)(no:Int)(w:World)(hL:LkM B Bi b bx rm kb K pi ni ci l n po co out w)(hz:unt out n<d)(hph:Ql n out≤999999999000) :
 C0 79 #[P0 bx,V0 no] w (To B Bi b bx rm kb K pi ni ci l n (Lr l n d out no 6) w):=by
 obtain⟨hI,kx,ho,hM,hBw,hbx,hrm,kk,hsp⟩:=hL
 refine zin 37 Tryz.func79 ?_
 refine xb 10 0 kx ?_
 refine xc 1 (args:=#[P0 b,V0 no]) (Zd5 Bi b pi ni ci l no _ hI) ?_
 rintro e W1 hq1
 rcases hq1 with ⟨hie,tyx,vx,rfl,hb1,hvx⟩|⟨hie,pl,cl,rfl,hb1,hs⟩
 ·refine xu 14 1 ?_
  have hB:=blB (Below.refl B w) hBw hb1
  have hO:=(show Zf [74,76] w _ from(Zf.of_below hb1))
  exact xe 26 (.iface tyx (vx)) (Hq (Jq (hasE_6 l no) hie) hie hB hO hvx)
 have hs1:=Nat.le_refl w.heap.size
 have hfew:=Zby l no
 have hI'1:=hI.below hb1
 have kx'1:=kx.below hb1
 have ho'1:=Zb ho hb1
 have hM'1:=hM.below hb1
 have hB:=blB (Below.refl B w) hBw hb1
 have kk'1:=kk.below hb1
 have hs'1:=Zd hs hs1
 have hO:=(show Zf [74,76] w _ from(Zf.of_below hb1))
 refine zl 14 37 (fun zm zkv V=>∃ (i:Nat) (q:Option (TypeId×Value)),zkv=[(0,P0 bx),(1,V0 no),(4,.nilIface),(5,.slice pl ((Vz l no).length) cl),(6,(ifQ q)),(7,V0 (i:Int))]∧zm=(Vz l no).length-((i:Int)).toNat∧Below B w V∧Zf [74,76] w V∧V.ownsRow w.heap.size 134 3 (.slice pl (Vz l no).length cl) (Vz l no).length ((Vz l no).flatMap Zfq)∧IdxQ B Bi b bx rm kb K pi ni ci l n d out no i q V∧ImgR Bi b pi ni ci l V) ⟨0,none,rfl,rfl,hB,hO,hs'1,⟨Nat.zero_le _,out,_,_,Jn.nil _ _,⟨hI'1,kx'1,ho'1,hM'1,(Nat.le_trans hBw hB.size),hbx,hrm,kk'1,hsp⟩⟩,hI'1⟩ ?_
 rintro _ _ W2 ⟨i,q,rfl,rfl,hB_2,hO_2,hs,hQ,hI⟩ J2 hJ2 r2
 rcases q with _|q
 ·obtain⟨hi,c,po,co,hf,_,kx,ho,hM,_,_,_,kk,hsp⟩:=hQ
  obtain⟨hw1,hw2⟩:=hf.well
  rw[List.length_map,List.length_take] at hw2
  have hw4:=Nat.min_le_left i (Vz l no).length
  refine xg 8 [20,21] (decide ((i:Int)<(↑((Vz l no).length):Int))) (fun hc3=>?_) (fun hc3=>?_)
  ·have hc3:=of_decide_eq_true hc3
   refine xx 15 _ ((Vz l no).length) i 3 (Sts.cell (f:=Zfq) (Ze hs) Rg (0,0,0) (k:=i) (i:=0) (by omega) rfl).1 ?_
   refine xl 1 ((Sts.cell (Ze hs) Rg (0,0,0) (k:=i) (i:=0) (by omega) rfl).2) ?_
   refine xc 1 (args:=#[P0 bx,.agg #[V0 no,V0 (↑((Vz l no).getD i (0,0,0)).1:Int),V0 7]]) (hA _ _ c no (↑((Vz l no).getD i (0,0,0)).1:Int) 7 _ ⟨hI,kx,ho,hM,(Nat.le_trans hBw hB_2.size),hbx,hrm,kk,hsp⟩ (by omega) (by omega) (by omega) (by decide) (by decide)) ?_
   rintro e W4 hq4
   rcases hq4 with ⟨hre,tyr,vr,rfl,hb4,hO4,hv9⟩|⟨hre,po2,co2,rfl,hb4,hO4,⟨_,kx2,ho,hM,_,_,_,kk2,hsp⟩⟩
   ·refine xwm 6 ((i:Int)+1) (↑(i+1):Int) ?_
    have hB'1:=hB_2.trans hb4
    have hO'1:=hO_2.trans hO4
    have hs'2:=Zj hs hO4 (by decide)
    have hI'2:=hI.only hO4 (by decide)
    exact ze 2 (hJ2 _ _ _ ⟨i+1,(some (tyr,vr)),rfl,rfl,hB'1,hO'1,hs'2,(by have e9:=hf.bad (x:=Fh no ((Vz l no).getD i (0,0,0))) hre (((Vz l no).drop (i+1)).map (Fh no));rw[←sltK_split (by omega)] at e9;exact⟨by rw[e9];exact hre,by rw[e9];exact hv9⟩),hI'2⟩ (by omega))
   refine xwm 6 ((i:Int)+1) (↑(i+1):Int) ?_
   have hI'3:=hI.only hO4 (by decide)
   have hB'2:=hB_2.trans hb4
   have hO'2:=hO_2.trans hO4
   have hs'3:=Zj hs hO4 (by decide)
   exact ze 2 (hJ2 _ _ _ ⟨i+1,none,rfl,rfl,hB'2,hO'2,hs'3,⟨by omega,_,_,_,(by have q9:=hf.next (x:=Fh no ((Vz l no).getD i (0,0,0))) hre;rwa [←Zdq (by omega)] at q9),⟨hI'3,kx2,ho,hM,(Nat.le_trans hBw hB'2.size),hbx,hrm,kk2,hsp⟩⟩,hI'3⟩ (by omega))
  have hc3:=of_decide_eq_false hc3
  refine xe 18 .nilIface ?_
  have e9:Lr l n d out no 6=Qr (Xu l n d) out ((Vz l no).map (Fh no)):=by rw[Vj ((hasE_6 l no).trans hie),hasJ_6]
  obtain rfl:i=(Vz l no).length:=by omega
  rw[List.take_length] at hf
  have e8:Lr l n d out no 6=(c,[],0):=by rw[e9];exact Prod.ext hf.2 (Prod.ext (Ul hf.1) hf.1)
  exact Pb e8 rfl hB_2 hO_2 hI kx ho hM (Nat.le_trans hBw hB_2.size) hbx hrm kk hsp
 refine xg 8 [20,21] (decide ((i:Int)<(↑((Vz l no).length):Int))) (fun hc5=>?_) (fun hc5=>?_)
 ·have hc5:=of_decide_eq_true hc5
  refine xe 18 (.iface q.1 (q.2)) ?_
  have e9:Lr l n d out no 6=Qr (Xu l n d) out ((Vz l no).map (Fh no)):=by rw[Vj ((hasE_6 l no).trans hie),hasJ_6]
  obtain⟨hQ1,hQ2⟩:=hQ
  exact .inl ⟨by rw[e9];exact hQ1,_,_,rfl,hB_2,hO_2,by rw[e9];exact hQ2⟩
 have hc5:=of_decide_eq_false hc5
 refine xe 18 (.iface q.1 (q.2)) ?_
 have e9:Lr l n d out no 6=Qr (Xu l n d) out ((Vz l no).map (Fh no)):=by rw[Vj ((hasE_6 l no).trans hie),hasJ_6]
 obtain⟨hQ1,hQ2⟩:=hQ
 exact .inl ⟨by rw[e9];exact hQ1,_,_,rfl,hB_2,hO_2,by rw[e9];exact hQ2⟩
theorem Um(B Bi b bx rm kb:Nat)(K:List Value)(pi:O0)(ni ci:Nat)(l:Bl)(n:Nat)(d:Nat)(hA:Zds d B Bi b bx rm kb K pi ni ci l n)(po:O0)(co:Nat)(out:List Lk)(no t:Int)(w:World)(hL:LkM B Bi b bx rm kb K pi ni ci l n po co out w)(hz:unt out n<d)(hph:Ql n out≤999999999000)(ht1:1≤t)(ht5:t≤5) :
 C0 81 #[P0 bx,V0 no,V0 t] w (To B Bi b bx rm kb K pi ni ci l n (Lr l n d out no t) w):=by
 obtain⟨hI,kx,ho,hM,hBw,hbx,hrm,kk,hsp⟩:=hL
 refine zin 58 Tryz.func81 ?_
 refine xb 10 0 kx ?_
 refine xc 2 (args:=#[P0 b,V0 no,V0 t]) (block_Node Bi b pi ni ci l no t _ hI) ?_
 rintro e W1 hq1
 rcases hq1 with ⟨hie,bf,rfl,hb1,hvx⟩|⟨hie,kp,kc,vp,vc,rfl,hb1,hks,hvs⟩
 ·refine xa 3 [V0 0,.bool false,S0,S0] 181 fun b2 W2 n2=>?_
  refine xsv 0 n2.blk [V0 0,.bool false,S0,S0] fun W3 u3 k3=>?_
  have g2:=n2.ge0 (blB (Below.refl B w) hBw hb1)
  have hvx'1:=(hvx.below n2.below).only (Zf.of_upd (T:=[181]) u3 n2.blk (by decide)) (by decide)
  have hB:=u3.below (blB (blB (Below.refl B w) hBw hb1) hBw n2.below) (Nat.le_trans hBw g2)
  have hO:=(Zf.upd_new ((show Zf [74,76] w _ from(Zf.of_below hb1)).trans (Zf.of_below n2.below)) u3 g2)
  exact xe 19 (.iface 188 (P0 bf)) (Hq (Jq (Zdv ht5) hie) hie hB hO hvx'1)
 have hs1:=Nat.le_refl w.heap.size
 have hTt:=nodT_is hie ht1
 have hC18:=maxC l no t hie
 have hVl:=Zbn l no
 refine xa 3 [V0 0,.bool false,S0,S0] 181 fun b4 W4 n4=>?_
 refine xsv 0 n4.blk [V0 (Xz (inB l no)),.bool (Yi (inB l no)),.slice kp (Xh (inB l no)) kc,.slice vp (Xh (inB l no)) vc] fun W5 u5 k5=>?_
 have g4:=n4.ge0 (blB (Below.refl B w) hBw hb1)
 refine xb 17 3 k5 ?_
 have hvs'1:=u5.own2 (Zb (Zd hvs hs1) n4.below) n4.blk (by decide)
 have ho'1:=u5.own2 (Zb (Zb ho hb1) n4.below) n4.blk (by decide)
 have hM'1:=((hM.below hb1).below n4.below).updBlk u5 n4.blk
 have hI'1:=((hI.below hb1).below n4.below).only (Zf.of_upd (T:=[181]) u5 n4.blk (by decide)) (by decide)
 have hB:=u5.below (blB (blB (Below.refl B w) hBw hb1) hBw n4.below) (Nat.le_trans hBw g4)
 have hO:=(Zf.upd_new ((show Zf [74,76] w _ from(Zf.of_below hb1)).trans (Zf.of_below n4.below)) u5 g4)
 have kx'1:=u5.blkT ((kx.below hb1).below n4.below) n4.blk (by decide)
 have kk'1:=u5.blkT ((kk.below hb1).below n4.below) n4.blk (by decide)
 refine zl 5 58 (fun zm zkv V=>∃ (i:Nat) (c:List Lk) (po:O0) (co:Nat),zkv=[(0,P0 bx),(1,V0 no),(7,P0 b4),(29,.slice vp (Xh (inB l no)) vc),(30,V0 (↑(Xh (inB l no)):Int)),(31,V0 (i:Int))]∧zm=(Xh (inB l no))-((i:Int)).toNat∧Below B w V∧Zf [74,76] w V∧Blk V bx ([P0 b,V0 (n:Int),.map (some rm),.slice po c.length co]) 74∧Blk V kb K 76∧Blk V b4 ([V0 (Xz (inB l no)),.bool (Yi (inB l no)),.slice kp (Xh (inB l no)) kc,.slice vp (Xh (inB l no)) vc]) 181∧V.ownsRow w.heap.size 9 1 (.slice vp (Xh (inB l no)) vc) (Xh (inB l no)) ((Vy l no).map sv)∧V.ownsRow B 76 3 (.slice po c.length co) c.length (c.flatMap lkC)∧Uf rm c V∧ImgR Bi b pi ni ci l V∧i≤(Xh (inB l no))∧Jn (Xu l n d) out (Vo l no i) c∧((∀ j,(Value.slice po c.length co).ownBlock=some j→j≠kb))) ⟨0,out,po,co,rfl,rfl,hB,hO,kx'1,kk'1,k5,hvs'1,ho'1,hM'1,hI'1,Nat.zero_le _,(by rw[Dk];exact Jn.nil _ _),?_⟩ ?_
 ·exact hsp
 rintro _ _ W6 ⟨i,c,po,co,rfl,rfl,hB_6,hO_6,k6_bx,k6_kb,k6_b4,hvs,ho,hM,hI,hi,hf,hsp⟩ J6 hJ6 r6
 obtain⟨hw1,hw2⟩:=hf.well
 have hw4:=Zd1 l no i
 refine xid 6 ((i:Int)<(↑(Xh (inB l no)):Int)) (fun hc7=>?_) (fun hc7=>?_)
 ·refine xx 6 _ (Xh (inB l no)) i 1 (Strs.elem (Ze hvs) (Zbn l no) (k:=i) (by omega)).1 ?_
  refine xl 0 ((Strs.elem (Ze hvs) (Zbn l no) (k:=i) (by omega)).2) ?_
  refine xlv 6 k6_b4.rp ?_
  refine xc 1 (args:=#[V0 no,.agg #[V0 (Xz (inB l no)),.bool (Yi (inB l no)),.slice kp (Xh (inB l no)) kc,.slice vp (Xh (inB l no)) vc],.string ⟨((Vy l no).getD i []).toArray⟩]) (link_val no (Xz (inB l no)) (Yi (inB l no)) kp vp (Xh (inB l no)) kc (Xh (inB l no)) vc ((Vy l no).getD i []) _ (nodV_short l no i)) ?_
  rintro e W8 hq8
  rcases hq8 with ⟨hdd,rfl,hb8⟩|⟨hdd,rfl,hb8⟩
  ·refine xa 4 [V0 0,V0 0,V0 0] 76 fun b9 W9 n9=>?_
   have k6_kb'1:=k6_kb.below hb8
   have d9_kb:=n9.ne k6_kb'1
   have hB'1:=blB hB_6 hBw hb8
   have g9:=n9.ge0 hB'1
   have ho'2:=Zb ho hb8
   have r9_ho:=Zn ho'2 n9
   refine xsv 0 n9.blk [V0 0,V0 0,V0 0] fun W10 u10 k10=>?_
   have hI'2:=((hI.below hb8).below n9.below).only (Zf.of_upd (T:=[76]) u10 n9.blk (by decide)) (by decide)
   have k6_bx'1:=u10.blkT ((k6_bx.below hb8).below n9.below) n9.blk (by decide)
   have ho'3:=u10.own3 (Zb ho'2 n9.below) r9_ho
   have hM'2:=((hM.below hb8).below n9.below).updBlk u10 n9.blk
   have hB'2:=u10.below (blB hB'1 hBw n9.below) (Nat.le_trans hBw g9)
   have k6_kb'2:=u10.blk (k6_kb'1.below n9.below) (Ne.symm (Ne.symm d9_kb))
   have hO'1:=(Zf.upd_new ((hO_6.trans (Zf.of_below hb8)).trans (Zf.of_below n9.below)) u10 g9)
   refine xe 35 .nilIface ?_
   have e9:Lr l n d out no t=Qr (Xu l n d) out (Zea l no):=by rw[Vj ((Zdv ht5).trans hie),Zho ht5]
   have e6:Zea l no=Vo l no i:=by unfold Zea Vo;rw[if_pos hdd,if_pos hdd]
   have e8:Lr l n d out no t=(c,[],0):=by rw[e9,e6];exact Prod.ext hf.2 (Prod.ext (Ul hf.1) hf.1)
   exact Pb e8 rfl hB'2 hO'1 hI'2 k6_bx'1 ho'3 hM'2 (Nat.le_trans hBw hB'2.size) hbx hrm k6_kb'2 hsp
  obtain⟨hk1,hk2,hk3⟩:=valK_is no (Xz (inB l no)) (Yi (inB l no)) ((Vy l no).getD i [])
  have hk4:=hk3 (by omega) (by omega)
  refine xa 4 [V0 0,V0 0,V0 0] 76 fun b11 W11 n11=>?_
  have k6_kb'3:=k6_kb.below hb8
  have d11_kb:=n11.ne k6_kb'3
  have hB'3:=blB hB_6 hBw hb8
  have g11:=n11.ge0 hB'3
  have ho'4:=Zb ho hb8
  have r11_ho:=Zn ho'4 n11
  refine xsv 0 n11.blk [V0 no,V0 ((Uz no (Xz (inB l no)) (Yi (inB l no)) ((Vy l no).getD i [])).2.1),V0 ((Uz no (Xz (inB l no)) (Yi (inB l no)) ((Vy l no).getD i [])).2.2.1)] fun W12 u12 k12=>?_
  refine xin 11 ((Uz no (Xz (inB l no)) (Yi (inB l no)) ((Vy l no).getD i [])).2.2.2) (0:Int) (fun hc13=>?_) (fun hc13=>?_)
  ·refine xc 5 (args:=#[V0 no,.iface 50 (V0 ((Uz no (Xz (inB l no)) (Yi (inB l no)) ((Vy l no).getD i [])).2.2.2))]) (Sh no (Uz no (Xz (inB l no)) (Yi (inB l no)) ((Vy l no).getD i [])).2.2.2 [] _ _ rfl) ?_
   rintro _ W14 ⟨ty14,v14,rfl,hb14,hva⟩
   have hB'4:=blB (u12.below (blB hB'3 hBw n11.below) (Nat.le_trans hBw g11)) hBw hb14
   have hO'2:=(Zf.upd_new ((hO_6.trans (Zf.of_below hb8)).trans (Zf.of_below n11.below)) u12 g11).trans (Zf.of_below hb14)
   refine xe 10 (.iface ty14 (v14)) ?_
   have e9:Lr l n d out no t=Qr (Xu l n d) out (Zea l no):=by rw[Vj ((Zdv ht5).trans hie),Zho ht5]
   have hx1:(Uz no (Xz (inB l no)) (Yi (inB l no)) ((Vy l no).getD i [])).2.2.2≠0:=by assumption
   have e7:=linkX_err (l:=l) (n:=n) (out:=c) (by omega:0<d) hx1
   have e8:=hf.bad (by rw[e7];exact hx1) (((Vy l no).drop (i+1)).map (Uz no (Xz (inB l no)) (Yi (inB l no))))
   rw[←Tt (by omega) hdd,e7,hk1] at e8
   exact Hq (e9.trans e8) hx1 hB'4 hO'2 hva
  have hx0:(Uz no (Xz (inB l no)) (Yi (inB l no)) ((Vy l no).getD i [])).2.2.2=0:=by omega
  have hxe:=valK_eta hx0
  refine xlv 15 k12.rp ?_
  have hI'3:=((hI.below hb8).below n11.below).only (Zf.of_upd (T:=[76]) u12 n11.blk (by decide)) (by decide)
  have k6_bx'2:=u12.blkT ((k6_bx.below hb8).below n11.below) n11.blk (by decide)
  have ho'5:=u12.own3 (Zb ho'4 n11.below) r11_ho
  have hM'3:=((hM.below hb8).below n11.below).updBlk u12 n11.blk
  have hB'5:=u12.below (blB hB'3 hBw n11.below) (Nat.le_trans hBw g11)
  have k6_kb'4:=u12.blk (k6_kb'3.below n11.below) (Ne.symm (Ne.symm d11_kb))
  refine xc 0 (args:=#[P0 bx,.agg #[V0 no,V0 ((Uz no (Xz (inB l no)) (Yi (inB l no)) ((Vy l no).getD i [])).2.1),V0 ((Uz no (Xz (inB l no)) (Yi (inB l no)) ((Vy l no).getD i [])).2.2.1)]]) (hA _ _ c no (Uz no (Xz (inB l no)) (Yi (inB l no)) ((Vy l no).getD i [])).2.1 (Uz no (Xz (inB l no)) (Yi (inB l no)) ((Vy l no).getD i [])).2.2.1 _ ⟨hI'3,k6_bx'2,ho'5,hM'3,(Nat.le_trans hBw hB'5.size),hbx,hrm,k6_kb'4,hsp⟩ hk2 (by omega) (by omega) hk4.1 hk4.2) ?_
  rintro e W15 hq15
  rcases hq15 with ⟨hre,tyr,vr,rfl,hb15,hO15,hv9⟩|⟨hre,po2,co2,rfl,hb15,hO15,⟨_,kx2,ho,hM,_,_,_,kk2,hsp⟩⟩
  ·have hB'6:=hB'5.trans hb15
   have hO'3:=(Zf.upd_new ((hO_6.trans (Zf.of_below hb8)).trans (Zf.of_below n11.below)) u12 g11).trans hO15
   refine xe 22 (.iface tyr (vr)) ?_
   have e9:Lr l n d out no t=Qr (Xu l n d) out (Zea l no):=by rw[Vj ((Zdv ht5).trans hie),Zho ht5]
   have e8:=hf.bad hre (((Vy l no).drop (i+1)).map (Uz no (Xz (inB l no)) (Yi (inB l no))))
   rw[hxe,←Tt (by omega) hdd] at e8
   rw[hxe] at hre
   have hv8:=hv9
   rw[hxe] at hv8
   exact .inl ⟨by rw[e9,e8];exact hre,_,_,rfl,hB'6,hO'3,by rw[e9,e8];exact hv8⟩
  refine xwm 14 ((i:Int)+1) (↑(i+1):Int) ?_
  have hB'7:=hB'5.trans hb15
  have hO'4:=(Zf.upd_new ((hO_6.trans (Zf.of_below hb8)).trans (Zf.of_below n11.below)) u12 g11).trans hO15
  have k6_b4'1:=(u12.blkT ((k6_b4.below hb8).below n11.below) n11.blk (by decide)).only hO15 (by decide)
  have hvs'2:=Zj (u12.own2 (Zb (Zb hvs hb8) n11.below) n11.blk (by decide)) hO15 (by decide)
  have hI'4:=hI'3.only hO15 (by decide)
  exact ze 2 (hJ6 _ _ _ ⟨i+1,_,_,_,rfl,rfl,hB'7,hO'4,kx2,kk2,k6_b4'1,hvs'2,ho,hM,hI'4,by omega,(by have q9:=hf.next hre;rw[Ky (by omega) hdd];have e9:=congrArg (fun x=>Vo l no i++[x]) hxe;exact Eq.mp (congrArg (fun L=>Jn (Xu l n d) out L _) e9) q9),hsp⟩ (by omega))
 refine xe 11 .nilIface ?_
 have e9:Lr l n d out no t=Qr (Xu l n d) out (Zea l no):=by rw[Vj ((Zdv ht5).trans hie),Zho ht5]
 obtain rfl:i=(Vy l no).length:=by omega
 rw[Zee] at hf
 have e8:Lr l n d out no t=(c,[],0):=by rw[e9];exact Prod.ext hf.2 (Prod.ext (Ul hf.1) hf.1)
 exact Pb e8 rfl hB_6 hO_6 hI k6_bx ho hM (Nat.le_trans hBw hB_6.size) hbx hrm k6_kb hsp
theorem link_add1(B Bi b bx rm kb:Nat)(K:List Value)(pi:O0)(ni ci:Nat)(l:Bl)(n:Nat)(d:Nat)(hA:Zds d B Bi b bx rm kb K pi ni ci l n)(po:O0)(co:Nat)(out:List Lk)(fr to ak:Int)(w:World)(hL:LkM B Bi b bx rm kb K pi ni ci l n po co out w)(hz:unt out n<d+1)(hph:Ql n out≤1000000000000)(hto:0≤to)(h1:1≤ak)(h7:ak≤7)(ht:Vg out to=true) :
 C0 35 #[P0 bx,.agg #[V0 fr,V0 to,V0 ak]] w (To B Bi b bx rm kb K pi ni ci l n (Xu l n (d+1) out (fr,to,ak,0)) w):=by
 obtain⟨hI,kx,ho,hM,a0,b2,f3,kk,c2⟩:=hL
 refine zin 68 Tryz.func35 ?_
 refine xa 2 [V0 fr,V0 to,V0 ak] 76 fun b1 W1 n1=>?_
 have g6:=n1.ne kk
 have b0:=Zn ho n1
 refine xd 5 .z ?_
 have k1:=n1.blk.below (Za W1)
 refine xb (.e [0] 1) 1 k1 ?_
 have b3:=(kx.below n1.below).below (Za W1)
 refine xb (.e [2,3,4] 5) 1 b3 ?_
 refine xid (.r [6] 2) (to≥(n:Int)) (fun i8=>?_) (fun i8=>?_)
 ·refine xb 3 1 k1 ?_
  refine xc 1 (args:=#[V0 to,.iface 50 (V0 3)]) (Sh to 3 [] _ _ rfl) ?_
  rintro _ W3 ⟨h9,v3,rfl,h3,i7⟩
  have hB:=blB (blB (blB (Below.refl B w) a0 n1.below) a0 (Za W1)) a0 h3
  have hO:=((show Zf [74,76] w _ from(Zf.of_below n1.below)).trans (Zf.of_below (Za W1))).trans (Zf.of_below h3)
  exact xe 5 (.iface h9 (v3)) (Hq (Zcd (fun q=>by omega)) (by decide) hB hO i7)
 refine xd 3 (.t B [76,74]) ?_
 refine xm2 (.b [0,1,2,3]) 4 5 ?_ ?_
 ·have e4:=b3.below (Za W1.drew)
  refine xb 0 3 e4 ?_
  have c1:=k1.below (Za W1.drew)
  refine xlv (.o [] 5) c1.rp ?_
  refine xbs (.o [] 6) 1 [V0 fr,V0 to,V0 ak] 76 fun b4 W4 n4=>?_
  have d3:=((kk.below n1.below).below (Za W1)).below (Za W1.drew)
  have g9:=n4.ne d3
  have h6:=n4.ne c1
  have d6:=Zb (Zb (Zb ho n1.below) (Za W1)) (Za W1.drew)
  have g8:=Zn d6 n4
  have e3:=d3.below n4.below
  have d4:=(e3).lt
  have a5:=Zb d6 n4.below
  have hB:=blB (blB (blB (blB (Below.refl B w) a0 n1.below) a0 (Za W1)) a0 (Za W1.drew)) a0 n4.below
  refine ybi (.o [] 7) (.t B [76,74]) fun _ _ _ _ zJ zQ zo zx zy zK=>Kg (b:=b4) (c:=1) (m:=1) (news:=[V0 fr,V0 to,V0 ak]) (.agg #[V0 0,V0 0,V0 0]) 3 24 ((out++[(fr,to,ak,0)]).length) (((out++[(fr,to,ak,0)]).flatMap lkC)) zo Tryz.underlying26 (by kernel_rfl) rfl (by decide) zx a5 zy n4.blk rfl (by simp[Value.oneCell']) (by unfold maxLen;unfold Ql at hph;omega) (by unfold Ql at hph;omega) (Nat.le_trans a0 hB.size) (by simp) (by rw[List.flatMap_append];rfl) fun i1 i4 W5 o5 b9 h2 i2=>?_
  refine zK _ _ (Zx h2 b9 a5 (by decide)) ?_
  have a2:=(e4.below n4.below).grown b9 a5 (by decide)
  refine ys (.o [8,9] 10) a2 [P0 b,V0 (n:Int),.map (some rm),.slice i1 ((out++[(fr,to,ak,0)]).length) i4] (.t B [76,74]) fun W6 u6 k6=>⟨(Zl u6 a2 b2 (by decide)),?_⟩
  refine xd 4 .z ?_
  have d5:=k6.below (Za W6)
  refine xb (.e [0,1,2] 3) 2 d5 ?_
  have g3:=(u6.blkT ((c1.below n4.below).grown3 b9 b0) a2 (by decide)).below (Za W6)
  refine xb (.e [4] 5) 1 g3 ?_
  have e5:=((((((hM.below n1.below).below (Za W1)).below (Za W1.drew)).below n4.below).grown b9 a5).updBlk u6 a2).below (Za W6)
  obtain⟨kv,hm,e6⟩:=id (e5)
  refine xlkS (.o [] 6) to false Tryz.underlying72 (keyI Tryz.underlying3) hm (by rw[e6,ht];rfl) ?_
  have g5:=((((((hI.below n1.below).below (Za W1)).below (Za W1.drew)).below n4.below).only (Zf.of_grown (T:=[76]) b9 a5 (by decide)) (by decide)).only (Zf.of_upd (T:=[74]) u6 a2 (by decide)) (by decide)).below (Za W6)
  have g2:=Zb (u6.own2 o5 a2 (by decide)) (Za W6)
  have c4:=blB (u6.below (hB.trans h2) b2) a0 (Za W6)
  have g0:=(u6.blkT (e3.grown3 b9 c2) a2 (by decide)).below (Za W6)
  have hO:=((((((show Zf [74,76] w _ from(Zf.of_below n1.below)).trans (Zf.of_below (Za W1))).trans (Zf.of_below (Za W1.drew))).trans (Zf.of_below n4.below)).trans (Zf.of_grown b9 a5 (by decide))).trans (Zf.of_upd u6 a2 (by decide))).trans (Zf.of_below (Za W6))
  exact xe 10 .nilIface (Pb (Dx (by omega) ht) rfl c4 hO g5 d5 g2 (Uf.told (x:=(fr,to,ak,0)) e5 ht) (Nat.le_trans a0 c4.size) b2 f3 g0 (Qc c2 i2 d4))
 have a9:=k1.below (Za W1.drew)
 refine xlv 0 a9.rp ?_
 refine xm2 0 4 6 ?_ ?_
 ·have c5:=b3.below (Za W1.drew)
  refine xb 0 3 c5 ?_
  refine xbs (.o [] 6) 1 [V0 fr,V0 to,V0 ak] 76 fun b7 W7 n7=>?_
  have d2:=((kk.below n1.below).below (Za W1)).below (Za W1.drew)
  have h4:=n7.ne d2
  have g7:=n7.ne a9
  have c6:=Zb (Zb (Zb ho n1.below) (Za W1)) (Za W1.drew)
  have h0:=Zn c6 n7
  have c9:=d2.below n7.below
  have d4:=(c9).lt
  have a7:=Zb c6 n7.below
  have hB:=blB (blB (blB (blB (Below.refl B w) a0 n1.below) a0 (Za W1)) a0 (Za W1.drew)) a0 n7.below
  refine ybi (.o [] 7) (.t B [76,74]) fun _ _ _ _ zJ zQ zo zx zy zK=>Kg (b:=b7) (c:=1) (m:=1) (news:=[V0 fr,V0 to,V0 ak]) (.agg #[V0 0,V0 0,V0 0]) 3 24 ((out++[(fr,to,ak,0)]).length) (((out++[(fr,to,ak,0)]).flatMap lkC)) zo Tryz.underlying26 (by kernel_rfl) rfl (by decide) zx a7 zy n7.blk rfl (by simp[Value.oneCell']) (by unfold maxLen;unfold Ql at hph;omega) (by unfold Ql at hph;omega) (Nat.le_trans a0 hB.size) (by simp) (by rw[List.flatMap_append];rfl) fun i0 i9 W8 o8 c0 h5 i6=>?_
  refine zK _ _ (Zx h5 c0 a7 (by decide)) ?_
  have a1:=(c5.below n7.below).grown c0 a7 (by decide)
  refine ys (.o [8,9] 10) a1 [P0 b,V0 (n:Int),.map (some rm),.slice i0 ((out++[(fr,to,ak,0)]).length) i9] (.t B [76,74]) fun W9 u9 k9=>⟨(Zl u9 a1 b2 (by decide)),?_⟩
  refine xd 4 .z ?_
  have c3:=k9.below (Za W9)
  refine xb (.e [0,1,2] 3) 2 c3 ?_
  have e7:=(u9.blkT ((a9.below n7.below).grown3 c0 b0) a1 (by decide)).below (Za W9)
  refine xb (.e [4] 5) 1 e7 ?_
  have d1:=((((((hM.below n1.below).below (Za W1)).below (Za W1.drew)).below n7.below).grown c0 a7).updBlk u9 a1).below (Za W9)
  obtain⟨kv,hm,e6⟩:=id (d1)
  refine xlkS (.o [] 6) to false Tryz.underlying72 (keyI Tryz.underlying3) hm (by rw[e6,ht];rfl) ?_
  have f7:=((((((hI.below n1.below).below (Za W1)).below (Za W1.drew)).below n7.below).only (Zf.of_grown (T:=[76]) c0 a7 (by decide)) (by decide)).only (Zf.of_upd (T:=[74]) u9 a1 (by decide)) (by decide)).below (Za W9)
  have f9:=Zb (u9.own2 o8 a1 (by decide)) (Za W9)
  have d0:=blB (u9.below (hB.trans h5) b2) a0 (Za W9)
  have f6:=(u9.blkT (c9.grown3 c0 c2) a1 (by decide)).below (Za W9)
  have hO:=((((((show Zf [74,76] w _ from(Zf.of_below n1.below)).trans (Zf.of_below (Za W1))).trans (Zf.of_below (Za W1.drew))).trans (Zf.of_below n7.below)).trans (Zf.of_grown c0 a7 (by decide))).trans (Zf.of_upd u9 a1 (by decide))).trans (Zf.of_below (Za W9))
  exact xe 10 .nilIface (Pb (Dx (by omega) ht) rfl d0 hO f7 c3 f9 (Uf.told (x:=(fr,to,ak,0)) d1 ht) (Nat.le_trans a0 d0.size) b2 f3 f6 (Qc c2 i6 d4))
 refine xbs 0 1 [V0 fr,V0 to,V0 ak] 76 fun i5 j0 a8=>?_
 have d7:=((kk.below n1.below).below (Za W1)).below (Za W1.drew)
 have f0:=a8.ne d7
 have g1:=a8.ne a9
 have e2:=Zb (Zb (Zb ho n1.below) (Za W1)) (Za W1.drew)
 have e8:=Zn e2 a8
 have d9:=(b3.below (Za W1.drew)).below a8.below
 refine xb (.o [] 4) 3 d9 ?_
 have e0:=d7.below a8.below
 have d4:=(e0).lt
 have a6:=Zb e2 a8.below
 have hB:=blB (blB (blB (blB (Below.refl B w) a0 n1.below) a0 (Za W1)) a0 (Za W1.drew)) a0 a8.below
 refine ybi (.o [] 7) (.t B [76,74]) fun _ _ _ _ zJ zQ zo zx zy zK=>Kg (b:=i5) (c:=1) (m:=1) (news:=[V0 fr,V0 to,V0 ak]) (.agg #[V0 0,V0 0,V0 0]) 3 24 ((out++[(fr,to,ak,0)]).length) (((out++[(fr,to,ak,0)]).flatMap lkC)) zo Tryz.underlying26 (by kernel_rfl) rfl (by decide) zx a6 zy a8.blk rfl (by simp[Value.oneCell']) (by unfold maxLen;unfold Ql at hph;omega) (by unfold Ql at hph;omega) (Nat.le_trans a0 hB.size) (by simp) (by rw[List.flatMap_append];rfl) fun f5 f8 j1 h8 a4 e1 f2=>?_
 refine zK _ _ (Zx e1 a4 a6 (by decide)) ?_
 have a3:=d9.grown a4 a6 (by decide)
 refine ys (.o [8,9] 10) a3 [P0 b,V0 (n:Int),.map (some rm),.slice f5 ((out++[(fr,to,ak,0)]).length) f8] (.t B [76,74]) fun b8 b5 i3=>⟨(Zl b5 a3 b2 (by decide)),?_⟩
 refine xd 4 .z ?_
 have b6:=i3.below (Za b8)
 refine xb (.e [0,1,2] 3) 2 b6 ?_
 have e9:=(b5.blkT ((a9.below a8.below).grown3 a4 b0) a3 (by decide)).below (Za b8)
 refine xb (.e [4] 5) 1 e9 ?_
 have c8:=((((((hM.below n1.below).below (Za W1)).below (Za W1.drew)).below a8.below).grown a4 a6).updBlk b5 a3).below (Za b8)
 obtain⟨kv,hm,e6⟩:=id (c8)
 refine xlkS (.o [] 6) to false Tryz.underlying72 (keyI Tryz.underlying3) hm (by rw[e6,ht];rfl) ?_
 have f4:=((((((hI.below n1.below).below (Za W1)).below (Za W1.drew)).below a8.below).only (Zf.of_grown (T:=[76]) a4 a6 (by decide)) (by decide)).only (Zf.of_upd (T:=[74]) b5 a3 (by decide)) (by decide)).below (Za b8)
 have d8:=Zb (b5.own2 h8 a3 (by decide)) (Za b8)
 have c7:=blB (b5.below (hB.trans e1) b2) a0 (Za b8)
 have f1:=(b5.blkT (e0.grown3 a4 c2) a3 (by decide)).below (Za b8)
 have hO:=((((((show Zf [74,76] w _ from(Zf.of_below n1.below)).trans (Zf.of_below (Za W1))).trans (Zf.of_below (Za W1.drew))).trans (Zf.of_below a8.below)).trans (Zf.of_grown a4 a6 (by decide))).trans (Zf.of_upd b5 a3 (by decide))).trans (Zf.of_below (Za b8))
 exact xe 10 .nilIface (Pb (Dx (by omega) ht) rfl c7 hO f4 b6 d8 (Uf.told (x:=(fr,to,ak,0)) c8 ht) (Nat.le_trans a0 c7.size) b2 f3 f1 (Qc c2 f2 d4))
theorem link_add2(B Bi b bx rm kb:Nat)(K:List Value)(pi:O0)(ni ci:Nat)(l:Bl)(n:Nat)(d:Nat)(hA:Zds d B Bi b bx rm kb K pi ni ci l n)(po:O0)(co:Nat)(out:List Lk)(fr to ak:Int)(w:World)(hL:LkM B Bi b bx rm kb K pi ni ci l n po co out w)(hz:unt out n<d+1)(hph:Ql n out≤1000000000000)(hto:0≤to)(h1:1≤ak)(h7:ak≤7)(ht:Vg out to=false) :
 C0 35 #[P0 bx,.agg #[V0 fr,V0 to,V0 ak]] w (To B Bi b bx rm kb K pi ni ci l n (Xu l n (d+1) out (fr,to,ak,0)) w):=by
 obtain⟨hI,kx,ho,hM,a0,a9,a4,kk,a3⟩:=hL
 refine zin 68 Tryz.func35 ?_
 refine xa 2 [V0 fr,V0 to,V0 ak] 76 fun b1 W1 n1=>?_
 have ea:=n1.ne kk
 have i9:=Zn ho n1
 refine xd 5 .z ?_
 have k1:=n1.blk.below (Za W1)
 refine xb (.e [0] 1) 1 k1 ?_
 have m4:=(kx.below n1.below).below (Za W1)
 refine xb (.e [2,3,4] 5) 1 m4 ?_
 refine xid (.r [6] 2) (to≥(n:Int)) (fun eh=>?_) (fun eh=>?_)
 ·refine xb 3 1 k1 ?_
  refine xc 1 (args:=#[V0 to,.iface 50 (V0 3)]) (Sh to 3 [] _ _ rfl) ?_
  rintro _ W3 ⟨ef,v3,rfl,ed,eg⟩
  have hB:=blB (blB (blB (Below.refl B w) a0 n1.below) a0 (Za W1)) a0 ed
  have hO:=((show Zf [74,76] w _ from(Zf.of_below n1.below)).trans (Zf.of_below (Za W1))).trans (Zf.of_below ed)
  exact xe 5 (.iface ef (v3)) (Hq (Zcd (fun q=>by omega)) (by decide) hB hO eg)
 refine xd 3 (.t B [76,74]) ?_
 refine xm2 (.b [0,1,2,3]) 4 5 ?_ ?_
 ·have au:=m4.below (Za W1.drew)
  refine xb 0 3 au ?_
  have s1:=k1.below (Za W1.drew)
  refine xlv (.o [] 5) s1.rp ?_
  refine xbs (.o [] 6) 1 [V0 fr,V0 to,V0 ak] 76 fun b4 W4 n4=>?_
  have ac:=((kk.below n1.below).below (Za W1)).below (Za W1.drew)
  have ee:=n4.ne ac
  have ec:=n4.ne s1
  have v4:=Zb (Zb (Zb ho n1.below) (Za W1)) (Za W1.drew)
  have eb:=Zn v4 n4
  have f8:=ac.below n4.below
  have e8:=(f8).lt
  have b6:=Zb v4 n4.below
  have hB:=blB (blB (blB (blB (Below.refl B w) a0 n1.below) a0 (Za W1)) a0 (Za W1.drew)) a0 n4.below
  refine ybi (.o [] 7) (.t B [76,74]) fun _ _ _ _ zJ zQ zo zx zy zK=>Kg (b:=b4) (c:=1) (m:=1) (news:=[V0 fr,V0 to,V0 ak]) (.agg #[V0 0,V0 0,V0 0]) 3 24 ((out++[(fr,to,ak,0)]).length) (((out++[(fr,to,ak,0)]).flatMap lkC)) zo Tryz.underlying26 (by kernel_rfl) rfl (by decide) zx b6 zy n4.blk rfl (by simp[Value.oneCell']) (by unfold maxLen;unfold Ql at hph;omega) (by unfold Ql at hph;omega) (Nat.le_trans a0 hB.size) (by simp) (by rw[List.flatMap_append];rfl) fun ep el W5 o5 d2 l8 u1=>?_
  refine zK _ _ (Zx l8 d2 b6 (by decide)) ?_
  have a8:=(au.below n4.below).grown d2 b6 (by decide)
  refine ys (.o [8,9] 10) a8 [P0 b,V0 (n:Int),.map (some rm),.slice ep ((out++[(fr,to,ak,0)]).length) el] (.t B [76,74]) fun W6 u6 k6=>⟨(Zl u6 a8 a9 (by decide)),?_⟩
  refine xd 4 .z ?_
  have s7:=k6.below (Za W6)
  refine xb (.e [0,1,2] 3) 2 s7 ?_
  have r6:=(u6.blkT ((s1.below n4.below).grown3 d2 i9) a8 (by decide)).below (Za W6)
  refine xb (.e [4] 5) 1 r6 ?_
  have t2:=((((((hM.below n1.below).below (Za W1)).below (Za W1.drew)).below n4.below).grown d2 b6).updBlk u6 a8).below (Za W6)
  obtain⟨kv,hm,w3⟩:=id (t2)
  refine xlkN (.o [] 6) (z:=.bool false) to false Tryz.underlying72 (keyI Tryz.underlying3) (fun V=>by kernel_rfl) hm (by rw[w3,ht];rfl) ?_
  refine xd 6 (.t B [74,76]) ?_
  refine xm2 (.b [0,1,2,4]) 3 5 ?_ ?_
  ·have l1:=s7.below (Za W6.drew)
   refine xb 0 2 l1 ?_
   have ao:=r6.below (Za W6.drew)
   refine xb (.o [] 5) 1 ao ?_
   have cq:=t2.below (Za W6.drew)
   obtain⟨z1,f6,b2⟩:=id (cq)
   have f0:=Wa.obj f6
   refine ymuV (.o [] 6) to (.bool true) (.t B [74,76]) Tryz.underlying72 (keyI Tryz.underlying3) f6 (by rw[b2,ht];rfl) fun W7 u7 m7=>⟨Dw f0 u7 a4,?_⟩
   have h8:=Xf ao f0 u7
   refine xb 6 2 h8 ?_
   refine xie 9 ak (6:Int) (fun ej=>?_) (fun ej=>?_)
   ·refine xb 4 1 h8 ?_
    have z9:=((((((((hI.below n1.below).below (Za W1)).below (Za W1.drew)).below n4.below).only (Zf.of_grown (T:=[76]) d2 b6 (by decide)) (by decide)).only (Zf.of_upd (T:=[74]) u6 a8 (by decide)) (by decide)).below (Za W6)).below (Za W6.drew)).only (Zo (T:=[]) f0 u7) (by decide)
    have bo:=Xf l1 f0 u7
    have dz:=Qz (Zb (Zb (u6.own2 o5 a8 (by decide)) (Za W6)) (Za W6.drew)) f0 u7
    have hM:=(Yr (x:=(fr,to,ak,0)) b2 m7)
    have s4:=u7.below (blB (blB (u6.below (hB.trans l8) a9) a0 (Za W6)) a0 (Za W6.drew)) a4
    have cf:=Xf (((u6.blkT (f8.grown3 d2 a3) a8 (by decide)).below (Za W6)).below (Za W6.drew)) f0 u7
    have j7:=Vb (x:=(fr,to,ak,0)) (n:=n) (out:=out) ⟨hto,(show to<(n:Int) from by omega)⟩ ht
    have j0:Ql n (out++[(fr,to,ak,0)])≤999999999000:=by unfold Ql at hph ⊢;rw[List.length_append,List.length_singleton];omega
    refine xc 0 (args:=#[P0 bx,V0 to]) (Hl B Bi b bx rm kb K pi ni ci l n d hA _ _ (out++[(fr,to,ak,0)]) to _ ⟨z9,bo,dz,hM,(Nat.le_trans a0 s4.size),a9,a4,cf,(Qc a3 u1 e8)⟩ (by omega) (by omega)) ?_
    rintro e W9 em
    rcases em with ⟨a6,e7,vr,rfl,bm,ax,c6⟩|⟨a6,j8,i2,rfl,bm,ax,⟨_,c9,c8,hM,_,_,_,c7,a3⟩⟩
    ·have u8:=s4.trans bm
     have hO:=(((((((((show Zf [74,76] w _ from(Zf.of_below n1.below)).trans (Zf.of_below (Za W1))).trans (Zf.of_below (Za W1.drew))).trans (Zf.of_below n4.below)).trans (Zf.of_grown d2 b6 (by decide))).trans (Zf.of_upd u6 a8 (by decide))).trans (Zf.of_below (Za W6))).trans (Zf.of_below (Za W6.drew))).trans (Zo f0 u7)).trans ax
     refine xe 6 (.iface e7 (vr)) ?_
     have e9:=Xa (l:=l) (n:=n) (d:=d) (fr:=fr) (ak:=ak) (to:=to) (out:=out) (by omega) ht
     first|(have a5:ak=6:=(by omega);subst a5;exact .inl ⟨by rw[e9];exact a6,_,_,rfl,u8,hO,by rw[e9];exact c6⟩)|exact .inl ⟨by rw[e9];exact a6,_,_,rfl,u8,hO,by rw[e9];exact c6⟩
    have y7:=z9.only ax (by decide)
    have k8:=s4.trans bm
    have hO:=(((((((((show Zf [74,76] w _ from(Zf.of_below n1.below)).trans (Zf.of_below (Za W1))).trans (Zf.of_below (Za W1.drew))).trans (Zf.of_below n4.below)).trans (Zf.of_grown d2 b6 (by decide))).trans (Zf.of_upd u6 a8 (by decide))).trans (Zf.of_below (Za W6))).trans (Zf.of_below (Za W6.drew))).trans (Zo f0 u7)).trans ax
    refine xe 6 .nilIface ?_
    have e9:=Xa (l:=l) (n:=n) (d:=d) (fr:=fr) (ak:=ak) (to:=to) (out:=out) (by omega) ht
    first|(have a5:ak=6:=(by omega);subst a5;exact .inr ⟨by rw[e9];exact a6,_,_,rfl,k8,hO,by rw[e9];exact⟨y7,c9,c8,hM,(Nat.le_trans a0 k8.size),a9,a4,c7,a3⟩⟩)|exact .inr ⟨by rw[e9];exact a6,_,_,rfl,k8,hO,by rw[e9];exact⟨y7,c9,c8,hM,(Nat.le_trans a0 k8.size),a9,a4,c7,a3⟩⟩
   refine xie 6 ak (7:Int) (fun cj=>?_) (fun cj=>?_)
   ·refine xd 1 .z ?_
    have x3:=(Xf l1 f0 u7).below (Za W7)
    refine xb (.e [0,1,2] 3) 0 x3 ?_
    have cm:=h8.below (Za W7)
    refine xb (.e [4] 5) 1 cm ?_
    have af:=(((((((((hI.below n1.below).below (Za W1)).below (Za W1.drew)).below n4.below).only (Zf.of_grown (T:=[76]) d2 b6 (by decide)) (by decide)).only (Zf.of_upd (T:=[74]) u6 a8 (by decide)) (by decide)).below (Za W6)).below (Za W6.drew)).only (Zo (T:=[]) f0 u7) (by decide)).below (Za W7)
    refine yc (.o [] 6) (args:=#[P0 b,V0 to]) .z (Ku Bi b pi ni ci l to _ af) ?_
    rintro e fg dv
    rcases dv with ⟨d0,j2,vx,rfl,d6,i3⟩|⟨d0,pl,cl,rfl,d6,hs⟩
    ·refine⟨d6,?_⟩
     have dm:=blB (blB (u7.below (blB (blB (u6.below (hB.trans l8) a9) a0 (Za W6)) a0 (Za W6.drew)) a4) a0 (Za W7)) a0 d6
     have hO:=((((((((((show Zf [74,76] w _ from(Zf.of_below n1.below)).trans (Zf.of_below (Za W1))).trans (Zf.of_below (Za W1.drew))).trans (Zf.of_below n4.below)).trans (Zf.of_grown d2 b6 (by decide))).trans (Zf.of_upd u6 a8 (by decide))).trans (Zf.of_below (Za W6))).trans (Zf.of_below (Za W6.drew))).trans (Zo f0 u7)).trans (Zf.of_below (Za W7))).trans (Zf.of_below d6)
     refine xe (.r [7,8,9,10,11] 11) (.iface j2 (vx)) ?_
     have e9:=Xa (l:=l) (n:=n) (d:=d) (fr:=fr) (ak:=ak) (to:=to) (out:=out) (by omega) ht
     have a5:ak=7:=by omega
     subst a5
     rw[Jq (Pc l to) d0] at e9
     exact Hq e9 d0 dm hO i3
    refine⟨d6,?_⟩
    have ck:=af.below d6
    have bt:=x3.below d6
    have ds:=Zb (Zb (Qz (Zb (Zb (u6.own2 o5 a8 (by decide)) (Za W6)) (Za W6.drew)) f0 u7) (Za W7)) d6
    have hM:=((Yr (x:=(fr,to,ak,0)) b2 m7).below (Za W7)).below d6
    have v7:=blB (blB (u7.below (blB (blB (u6.below (hB.trans l8) a9) a0 (Za W6)) a0 (Za W6.drew)) a4) a0 (Za W7)) a0 d6
    have de:=((Xf (((u6.blkT (f8.grown3 d2 a3) a8 (by decide)).below (Za W6)).below (Za W6.drew)) f0 u7).below (Za W7)).below d6
    have hO:=((((((((((show Zf [74,76] w _ from(Zf.of_below n1.below)).trans (Zf.of_below (Za W1))).trans (Zf.of_below (Za W1.drew))).trans (Zf.of_below n4.below)).trans (Zf.of_grown d2 b6 (by decide))).trans (Zf.of_upd u6 a8 (by decide))).trans (Zf.of_below (Za W6))).trans (Zf.of_below (Za W6.drew))).trans (Zo f0 u7)).trans (Zf.of_below (Za W7))).trans (Zf.of_below d6)
    refine xe (.r [7,8,9,10,11] 11) .nilIface ?_
    have e9:=Xa (l:=l) (n:=n) (d:=d) (fr:=fr) (ak:=ak) (to:=to) (out:=out) (by omega) ht
    have a5:ak=7:=by omega
    subst a5
    rw[Vj ((Pc l to).trans d0),Io,Ut] at e9
    exact Pb e9 rfl v7 hO ck bt ds hM (Nat.le_trans a0 v7.size) a9 a4 de (Qc a3 u1 e8)
   refine xb 7 1 h8 ?_
   refine xb 1 2 h8 ?_
   have ae:=((((((((hI.below n1.below).below (Za W1)).below (Za W1.drew)).below n4.below).only (Zf.of_grown (T:=[76]) d2 b6 (by decide)) (by decide)).only (Zf.of_upd (T:=[74]) u6 a8 (by decide)) (by decide)).below (Za W6)).below (Za W6.drew)).only (Zo (T:=[]) f0 u7) (by decide)
   have dq:=Xf l1 f0 u7
   have cd:=Qz (Zb (Zb (u6.own2 o5 a8 (by decide)) (Za W6)) (Za W6.drew)) f0 u7
   have hM:=(Yr (x:=(fr,to,ak,0)) b2 m7)
   have t8:=u7.below (blB (blB (u6.below (hB.trans l8) a9) a0 (Za W6)) a0 (Za W6.drew)) a4
   have bq:=Xf (((u6.blkT (f8.grown3 d2 a3) a8 (by decide)).below (Za W6)).below (Za W6.drew)) f0 u7
   have j7:=Vb (x:=(fr,to,ak,0)) (n:=n) (out:=out) ⟨hto,(show to<(n:Int) from by omega)⟩ ht
   have j0:Ql n (out++[(fr,to,ak,0)])≤999999999000:=by unfold Ql at hph ⊢;rw[List.length_append,List.length_singleton];omega
   refine xc 0 (args:=#[P0 bx,V0 to,V0 ak]) (Um B Bi b bx rm kb K pi ni ci l n d hA _ _ (out++[(fr,to,ak,0)]) to ak _ ⟨ae,dq,cd,hM,(Nat.le_trans a0 t8.size),a9,a4,bq,(Qc a3 u1 e8)⟩ (by omega) (by omega) h1 (by omega)) ?_
   rintro e fb bn
   rcases bn with ⟨a6,e7,vr,rfl,t5,l4,c6⟩|⟨a6,j8,i2,rfl,t5,l4,⟨_,c9,c8,hM,_,_,_,c7,a3⟩⟩
   ·have x1:=t8.trans t5
    have hO:=(((((((((show Zf [74,76] w _ from(Zf.of_below n1.below)).trans (Zf.of_below (Za W1))).trans (Zf.of_below (Za W1.drew))).trans (Zf.of_below n4.below)).trans (Zf.of_grown d2 b6 (by decide))).trans (Zf.of_upd u6 a8 (by decide))).trans (Zf.of_below (Za W6))).trans (Zf.of_below (Za W6.drew))).trans (Zo f0 u7)).trans l4
    refine xe 4 (.iface e7 (vr)) ?_
    have e9:=Xa (l:=l) (n:=n) (d:=d) (fr:=fr) (ak:=ak) (to:=to) (out:=out) (by omega) ht
    first|(have a5:ak=6:=(by omega);subst a5;exact .inl ⟨by rw[e9];exact a6,_,_,rfl,x1,hO,by rw[e9];exact c6⟩)|exact .inl ⟨by rw[e9];exact a6,_,_,rfl,x1,hO,by rw[e9];exact c6⟩
   have u5:=ae.only l4 (by decide)
   have l3:=t8.trans t5
   have hO:=(((((((((show Zf [74,76] w _ from(Zf.of_below n1.below)).trans (Zf.of_below (Za W1))).trans (Zf.of_below (Za W1.drew))).trans (Zf.of_below n4.below)).trans (Zf.of_grown d2 b6 (by decide))).trans (Zf.of_upd u6 a8 (by decide))).trans (Zf.of_below (Za W6))).trans (Zf.of_below (Za W6.drew))).trans (Zo f0 u7)).trans l4
   refine xe 4 .nilIface ?_
   have e9:=Xa (l:=l) (n:=n) (d:=d) (fr:=fr) (ak:=ak) (to:=to) (out:=out) (by omega) ht
   first|(have a5:ak=6:=(by omega);subst a5;exact .inr ⟨by rw[e9];exact a6,_,_,rfl,l3,hO,by rw[e9];exact⟨u5,c9,c8,hM,(Nat.le_trans a0 l3.size),a9,a4,c7,a3⟩⟩)|exact .inr ⟨by rw[e9];exact a6,_,_,rfl,l3,hO,by rw[e9];exact⟨u5,c9,c8,hM,(Nat.le_trans a0 l3.size),a9,a4,c7,a3⟩⟩
  have y3:=r6.below (Za W6.drew)
  refine xb 0 1 y3 ?_
  have m1:=s7.below (Za W6.drew)
  refine xb (.o [] 3) 2 m1 ?_
  have dc:=t2.below (Za W6.drew)
  obtain⟨z1,f6,b2⟩:=id (dc)
  have c2:=Wa.obj f6
  refine ymuV (.o [] 6) to (.bool true) (.t B [74,76]) Tryz.underlying72 (keyI Tryz.underlying3) f6 (by rw[b2,ht];rfl) fun k3 e0 az=>⟨Dw c2 e0 a4,?_⟩
  have j3:=Xf y3 c2 e0
  refine xb 6 2 j3 ?_
  refine xie 9 ak (6:Int) (fun bp=>?_) (fun bp=>?_)
  ·refine xb 4 1 j3 ?_
   have y6:=((((((((hI.below n1.below).below (Za W1)).below (Za W1.drew)).below n4.below).only (Zf.of_grown (T:=[76]) d2 b6 (by decide)) (by decide)).only (Zf.of_upd (T:=[74]) u6 a8 (by decide)) (by decide)).below (Za W6)).below (Za W6.drew)).only (Zo (T:=[]) c2 e0) (by decide)
   have cx:=Xf m1 c2 e0
   have dr:=Qz (Zb (Zb (u6.own2 o5 a8 (by decide)) (Za W6)) (Za W6.drew)) c2 e0
   have hM:=(Yr (x:=(fr,to,ak,0)) b2 az)
   have s0:=e0.below (blB (blB (u6.below (hB.trans l8) a9) a0 (Za W6)) a0 (Za W6.drew)) a4
   have bd:=Xf (((u6.blkT (f8.grown3 d2 a3) a8 (by decide)).below (Za W6)).below (Za W6.drew)) c2 e0
   have j7:=Vb (x:=(fr,to,ak,0)) (n:=n) (out:=out) ⟨hto,(show to<(n:Int) from by omega)⟩ ht
   have j0:Ql n (out++[(fr,to,ak,0)])≤999999999000:=by unfold Ql at hph ⊢;rw[List.length_append,List.length_singleton];omega
   refine xc 0 (args:=#[P0 bx,V0 to]) (Hl B Bi b bx rm kb K pi ni ci l n d hA _ _ (out++[(fr,to,ak,0)]) to _ ⟨y6,cx,dr,hM,(Nat.le_trans a0 s0.size),a9,a4,bd,(Qc a3 u1 e8)⟩ (by omega) (by omega)) ?_
   rintro e et bf
   rcases bf with ⟨a6,e7,vr,rfl,r8,l6,c6⟩|⟨a6,j8,i2,rfl,r8,l6,⟨_,c9,c8,hM,_,_,_,c7,a3⟩⟩
   ·have m8:=s0.trans r8
    have hO:=(((((((((show Zf [74,76] w _ from(Zf.of_below n1.below)).trans (Zf.of_below (Za W1))).trans (Zf.of_below (Za W1.drew))).trans (Zf.of_below n4.below)).trans (Zf.of_grown d2 b6 (by decide))).trans (Zf.of_upd u6 a8 (by decide))).trans (Zf.of_below (Za W6))).trans (Zf.of_below (Za W6.drew))).trans (Zo c2 e0)).trans l6
    refine xe 6 (.iface e7 (vr)) ?_
    have e9:=Xa (l:=l) (n:=n) (d:=d) (fr:=fr) (ak:=ak) (to:=to) (out:=out) (by omega) ht
    first|(have a5:ak=6:=(by omega);subst a5;exact .inl ⟨by rw[e9];exact a6,_,_,rfl,m8,hO,by rw[e9];exact c6⟩)|exact .inl ⟨by rw[e9];exact a6,_,_,rfl,m8,hO,by rw[e9];exact c6⟩
   have z6:=y6.only l6 (by decide)
   have g1:=s0.trans r8
   have hO:=(((((((((show Zf [74,76] w _ from(Zf.of_below n1.below)).trans (Zf.of_below (Za W1))).trans (Zf.of_below (Za W1.drew))).trans (Zf.of_below n4.below)).trans (Zf.of_grown d2 b6 (by decide))).trans (Zf.of_upd u6 a8 (by decide))).trans (Zf.of_below (Za W6))).trans (Zf.of_below (Za W6.drew))).trans (Zo c2 e0)).trans l6
   refine xe 6 .nilIface ?_
   have e9:=Xa (l:=l) (n:=n) (d:=d) (fr:=fr) (ak:=ak) (to:=to) (out:=out) (by omega) ht
   first|(have a5:ak=6:=(by omega);subst a5;exact .inr ⟨by rw[e9];exact a6,_,_,rfl,g1,hO,by rw[e9];exact⟨z6,c9,c8,hM,(Nat.le_trans a0 g1.size),a9,a4,c7,a3⟩⟩)|exact .inr ⟨by rw[e9];exact a6,_,_,rfl,g1,hO,by rw[e9];exact⟨z6,c9,c8,hM,(Nat.le_trans a0 g1.size),a9,a4,c7,a3⟩⟩
  refine xie 6 ak (7:Int) (fun ct=>?_) (fun ct=>?_)
  ·refine xd 1 .z ?_
   have w1:=(Xf m1 c2 e0).below (Za k3)
   refine xb (.e [0,1,2] 3) 0 w1 ?_
   have bu:=j3.below (Za k3)
   refine xb (.e [4] 5) 1 bu ?_
   have ag:=(((((((((hI.below n1.below).below (Za W1)).below (Za W1.drew)).below n4.below).only (Zf.of_grown (T:=[76]) d2 b6 (by decide)) (by decide)).only (Zf.of_upd (T:=[74]) u6 a8 (by decide)) (by decide)).below (Za W6)).below (Za W6.drew)).only (Zo (T:=[]) c2 e0) (by decide)).below (Za k3)
   refine yc (.o [] 6) (args:=#[P0 b,V0 to]) .z (Ku Bi b pi ni ci l to _ ag) ?_
   rintro e ez bi
   rcases bi with ⟨d0,j2,vx,rfl,d7,i3⟩|⟨d0,pl,cl,rfl,d7,hs⟩
   ·refine⟨d7,?_⟩
    have ap:=blB (blB (e0.below (blB (blB (u6.below (hB.trans l8) a9) a0 (Za W6)) a0 (Za W6.drew)) a4) a0 (Za k3)) a0 d7
    have hO:=((((((((((show Zf [74,76] w _ from(Zf.of_below n1.below)).trans (Zf.of_below (Za W1))).trans (Zf.of_below (Za W1.drew))).trans (Zf.of_below n4.below)).trans (Zf.of_grown d2 b6 (by decide))).trans (Zf.of_upd u6 a8 (by decide))).trans (Zf.of_below (Za W6))).trans (Zf.of_below (Za W6.drew))).trans (Zo c2 e0)).trans (Zf.of_below (Za k3))).trans (Zf.of_below d7)
    refine xe (.r [7,8,9,10,11] 11) (.iface j2 (vx)) ?_
    have e9:=Xa (l:=l) (n:=n) (d:=d) (fr:=fr) (ak:=ak) (to:=to) (out:=out) (by omega) ht
    have a5:ak=7:=by omega
    subst a5
    rw[Jq (Pc l to) d0] at e9
    exact Hq e9 d0 ap hO i3
   refine⟨d7,?_⟩
   have w0:=ag.below d7
   have aw:=w1.below d7
   have cr:=Zb (Zb (Qz (Zb (Zb (u6.own2 o5 a8 (by decide)) (Za W6)) (Za W6.drew)) c2 e0) (Za k3)) d7
   have hM:=((Yr (x:=(fr,to,ak,0)) b2 az).below (Za k3)).below d7
   have n9:=blB (blB (e0.below (blB (blB (u6.below (hB.trans l8) a9) a0 (Za W6)) a0 (Za W6.drew)) a4) a0 (Za k3)) a0 d7
   have ca:=((Xf (((u6.blkT (f8.grown3 d2 a3) a8 (by decide)).below (Za W6)).below (Za W6.drew)) c2 e0).below (Za k3)).below d7
   have hO:=((((((((((show Zf [74,76] w _ from(Zf.of_below n1.below)).trans (Zf.of_below (Za W1))).trans (Zf.of_below (Za W1.drew))).trans (Zf.of_below n4.below)).trans (Zf.of_grown d2 b6 (by decide))).trans (Zf.of_upd u6 a8 (by decide))).trans (Zf.of_below (Za W6))).trans (Zf.of_below (Za W6.drew))).trans (Zo c2 e0)).trans (Zf.of_below (Za k3))).trans (Zf.of_below d7)
   refine xe (.r [7,8,9,10,11] 11) .nilIface ?_
   have e9:=Xa (l:=l) (n:=n) (d:=d) (fr:=fr) (ak:=ak) (to:=to) (out:=out) (by omega) ht
   have a5:ak=7:=by omega
   subst a5
   rw[Vj ((Pc l to).trans d0),Io,Ut] at e9
   exact Pb e9 rfl n9 hO w0 aw cr hM (Nat.le_trans a0 n9.size) a9 a4 ca (Qc a3 u1 e8)
  refine xb 7 1 j3 ?_
  refine xb 1 2 j3 ?_
  have p0:=((((((((hI.below n1.below).below (Za W1)).below (Za W1.drew)).below n4.below).only (Zf.of_grown (T:=[76]) d2 b6 (by decide)) (by decide)).only (Zf.of_upd (T:=[74]) u6 a8 (by decide)) (by decide)).below (Za W6)).below (Za W6.drew)).only (Zo (T:=[]) c2 e0) (by decide)
  have ah:=Xf m1 c2 e0
  have du:=Qz (Zb (Zb (u6.own2 o5 a8 (by decide)) (Za W6)) (Za W6.drew)) c2 e0
  have hM:=(Yr (x:=(fr,to,ak,0)) b2 az)
  have i8:=e0.below (blB (blB (u6.below (hB.trans l8) a9) a0 (Za W6)) a0 (Za W6.drew)) a4
  have cb:=Xf (((u6.blkT (f8.grown3 d2 a3) a8 (by decide)).below (Za W6)).below (Za W6.drew)) c2 e0
  have j7:=Vb (x:=(fr,to,ak,0)) (n:=n) (out:=out) ⟨hto,(show to<(n:Int) from by omega)⟩ ht
  have j0:Ql n (out++[(fr,to,ak,0)])≤999999999000:=by unfold Ql at hph ⊢;rw[List.length_append,List.length_singleton];omega
  refine xc 0 (args:=#[P0 bx,V0 to,V0 ak]) (Um B Bi b bx rm kb K pi ni ci l n d hA _ _ (out++[(fr,to,ak,0)]) to ak _ ⟨p0,ah,du,hM,(Nat.le_trans a0 i8.size),a9,a4,cb,(Qc a3 u1 e8)⟩ (by omega) (by omega) h1 (by omega)) ?_
  rintro e es cv
  rcases cv with ⟨a6,e7,vr,rfl,r7,k9,c6⟩|⟨a6,j8,i2,rfl,r7,k9,⟨_,c9,c8,hM,_,_,_,c7,a3⟩⟩
  ·have o7:=i8.trans r7
   have hO:=(((((((((show Zf [74,76] w _ from(Zf.of_below n1.below)).trans (Zf.of_below (Za W1))).trans (Zf.of_below (Za W1.drew))).trans (Zf.of_below n4.below)).trans (Zf.of_grown d2 b6 (by decide))).trans (Zf.of_upd u6 a8 (by decide))).trans (Zf.of_below (Za W6))).trans (Zf.of_below (Za W6.drew))).trans (Zo c2 e0)).trans k9
   refine xe 4 (.iface e7 (vr)) ?_
   have e9:=Xa (l:=l) (n:=n) (d:=d) (fr:=fr) (ak:=ak) (to:=to) (out:=out) (by omega) ht
   first|(have a5:ak=6:=(by omega);subst a5;exact .inl ⟨by rw[e9];exact a6,_,_,rfl,o7,hO,by rw[e9];exact c6⟩)|exact .inl ⟨by rw[e9];exact a6,_,_,rfl,o7,hO,by rw[e9];exact c6⟩
  have o8:=p0.only k9 (by decide)
  have g9:=i8.trans r7
  have hO:=(((((((((show Zf [74,76] w _ from(Zf.of_below n1.below)).trans (Zf.of_below (Za W1))).trans (Zf.of_below (Za W1.drew))).trans (Zf.of_below n4.below)).trans (Zf.of_grown d2 b6 (by decide))).trans (Zf.of_upd u6 a8 (by decide))).trans (Zf.of_below (Za W6))).trans (Zf.of_below (Za W6.drew))).trans (Zo c2 e0)).trans k9
  refine xe 4 .nilIface ?_
  have e9:=Xa (l:=l) (n:=n) (d:=d) (fr:=fr) (ak:=ak) (to:=to) (out:=out) (by omega) ht
  first|(have a5:ak=6:=(by omega);subst a5;exact .inr ⟨by rw[e9];exact a6,_,_,rfl,g9,hO,by rw[e9];exact⟨o8,c9,c8,hM,(Nat.le_trans a0 g9.size),a9,a4,c7,a3⟩⟩)|exact .inr ⟨by rw[e9];exact a6,_,_,rfl,g9,hO,by rw[e9];exact⟨o8,c9,c8,hM,(Nat.le_trans a0 g9.size),a9,a4,c7,a3⟩⟩
 have k0:=k1.below (Za W1.drew)
 refine xlv 0 k0.rp ?_
 refine xm2 0 4 6 ?_ ?_
 ·have y0:=m4.below (Za W1.drew)
  refine xb 0 3 y0 ?_
  refine xbs (.o [] 6) 1 [V0 fr,V0 to,V0 ak] 76 fun eo fe d3=>?_
  have u9:=((kk.below n1.below).below (Za W1)).below (Za W1.drew)
  have dj:=d3.ne u9
  have dn:=d3.ne k0
  have y1:=Zb (Zb (Zb ho n1.below) (Za W1)) (Za W1.drew)
  have dp:=Zn y1 d3
  have e5:=u9.below d3.below
  have e8:=(e5).lt
  have b7:=Zb y1 d3.below
  have hB:=blB (blB (blB (blB (Below.refl B w) a0 n1.below) a0 (Za W1)) a0 (Za W1.drew)) a0 d3.below
  refine ybi (.o [] 7) (.t B [76,74]) fun _ _ _ _ zJ zQ zo zx zy zK=>Kg (b:=eo) (c:=1) (m:=1) (news:=[V0 fr,V0 to,V0 ak]) (.agg #[V0 0,V0 0,V0 0]) 3 24 ((out++[(fr,to,ak,0)]).length) (((out++[(fr,to,ak,0)]).flatMap lkC)) zo Tryz.underlying26 (by kernel_rfl) rfl (by decide) zx b7 zy d3.blk rfl (by simp[Value.oneCell']) (by unfold maxLen;unfold Ql at hph;omega) (by unfold Ql at hph;omega) (Nat.le_trans a0 hB.size) (by simp) (by rw[List.flatMap_append];rfl) fun cg dy fd u0 b5 f1 h6=>?_
  refine zK _ _ (Zx f1 b5 b7 (by decide)) ?_
  have a7:=(y0.below d3.below).grown b5 b7 (by decide)
  refine ys (.o [8,9] 10) a7 [P0 b,V0 (n:Int),.map (some rm),.slice cg ((out++[(fr,to,ak,0)]).length) dy] (.t B [76,74]) fun a1 c5 ei=>⟨(Zl c5 a7 a9 (by decide)),?_⟩
  refine xd 4 .z ?_
  have i0:=ei.below (Za a1)
  refine xb (.e [0,1,2] 3) 2 i0 ?_
  have j6:=(c5.blkT ((k0.below d3.below).grown3 b5 i9) a7 (by decide)).below (Za a1)
  refine xb (.e [4] 5) 1 j6 ?_
  have t4:=((((((hM.below n1.below).below (Za W1)).below (Za W1.drew)).below d3.below).grown b5 b7).updBlk c5 a7).below (Za a1)
  obtain⟨kv,hm,w3⟩:=id (t4)
  refine xlkN (.o [] 6) (z:=.bool false) to false Tryz.underlying72 (keyI Tryz.underlying3) (fun V=>by kernel_rfl) hm (by rw[w3,ht];rfl) ?_
  refine xd 6 (.t B [74,76]) ?_
  refine xm2 (.b [0,1,2,4]) 3 5 ?_ ?_
  ·have h2:=i0.below (Za a1.drew)
   refine xb 0 2 h2 ?_
   have q3:=j6.below (Za a1.drew)
   refine xb (.o [] 5) 1 q3 ?_
   have cc:=t4.below (Za a1.drew)
   obtain⟨z1,f6,b2⟩:=id (cc)
   have b9:=Wa.obj f6
   refine ymuV (.o [] 6) to (.bool true) (.t B [74,76]) Tryz.underlying72 (keyI Tryz.underlying3) f6 (by rw[b2,ht];rfl) fun k5 e4 dh=>⟨Dw b9 e4 a4,?_⟩
   have f3:=Xf q3 b9 e4
   refine xb 6 2 f3 ?_
   refine xie 9 ak (6:Int) (fun dd=>?_) (fun dd=>?_)
   ·refine xb 4 1 f3 ?_
    have n3:=((((((((hI.below n1.below).below (Za W1)).below (Za W1.drew)).below d3.below).only (Zf.of_grown (T:=[76]) b5 b7 (by decide)) (by decide)).only (Zf.of_upd (T:=[74]) c5 a7 (by decide)) (by decide)).below (Za a1)).below (Za a1.drew)).only (Zo (T:=[]) b9 e4) (by decide)
    have z5:=Xf h2 b9 e4
    have v1:=Qz (Zb (Zb (c5.own2 u0 a7 (by decide)) (Za a1)) (Za a1.drew)) b9 e4
    have hM:=(Yr (x:=(fr,to,ak,0)) b2 dh)
    have j5:=e4.below (blB (blB (c5.below (hB.trans f1) a9) a0 (Za a1)) a0 (Za a1.drew)) a4
    have ab:=Xf (((c5.blkT (e5.grown3 b5 a3) a7 (by decide)).below (Za a1)).below (Za a1.drew)) b9 e4
    have j7:=Vb (x:=(fr,to,ak,0)) (n:=n) (out:=out) ⟨hto,(show to<(n:Int) from by omega)⟩ ht
    have j0:Ql n (out++[(fr,to,ak,0)])≤999999999000:=by unfold Ql at hph ⊢;rw[List.length_append,List.length_singleton];omega
    refine xc 0 (args:=#[P0 bx,V0 to]) (Hl B Bi b bx rm kb K pi ni ci l n d hA _ _ (out++[(fr,to,ak,0)]) to _ ⟨n3,z5,v1,hM,(Nat.le_trans a0 j5.size),a9,a4,ab,(Qc a3 h6 e8)⟩ (by omega) (by omega)) ?_
    rintro e fc bk
    rcases bk with ⟨a6,e7,vr,rfl,t3,l9,c6⟩|⟨a6,j8,i2,rfl,t3,l9,⟨_,c9,c8,hM,_,_,_,c7,a3⟩⟩
    ·have p5:=j5.trans t3
     have hO:=(((((((((show Zf [74,76] w _ from(Zf.of_below n1.below)).trans (Zf.of_below (Za W1))).trans (Zf.of_below (Za W1.drew))).trans (Zf.of_below d3.below)).trans (Zf.of_grown b5 b7 (by decide))).trans (Zf.of_upd c5 a7 (by decide))).trans (Zf.of_below (Za a1))).trans (Zf.of_below (Za a1.drew))).trans (Zo b9 e4)).trans l9
     refine xe 6 (.iface e7 (vr)) ?_
     have e9:=Xa (l:=l) (n:=n) (d:=d) (fr:=fr) (ak:=ak) (to:=to) (out:=out) (by omega) ht
     first|(have a5:ak=6:=(by omega);subst a5;exact .inl ⟨by rw[e9];exact a6,_,_,rfl,p5,hO,by rw[e9];exact c6⟩)|exact .inl ⟨by rw[e9];exact a6,_,_,rfl,p5,hO,by rw[e9];exact c6⟩
    have o1:=n3.only l9 (by decide)
    have g6:=j5.trans t3
    have hO:=(((((((((show Zf [74,76] w _ from(Zf.of_below n1.below)).trans (Zf.of_below (Za W1))).trans (Zf.of_below (Za W1.drew))).trans (Zf.of_below d3.below)).trans (Zf.of_grown b5 b7 (by decide))).trans (Zf.of_upd c5 a7 (by decide))).trans (Zf.of_below (Za a1))).trans (Zf.of_below (Za a1.drew))).trans (Zo b9 e4)).trans l9
    refine xe 6 .nilIface ?_
    have e9:=Xa (l:=l) (n:=n) (d:=d) (fr:=fr) (ak:=ak) (to:=to) (out:=out) (by omega) ht
    first|(have a5:ak=6:=(by omega);subst a5;exact .inr ⟨by rw[e9];exact a6,_,_,rfl,g6,hO,by rw[e9];exact⟨o1,c9,c8,hM,(Nat.le_trans a0 g6.size),a9,a4,c7,a3⟩⟩)|exact .inr ⟨by rw[e9];exact a6,_,_,rfl,g6,hO,by rw[e9];exact⟨o1,c9,c8,hM,(Nat.le_trans a0 g6.size),a9,a4,c7,a3⟩⟩
   refine xie 6 ak (7:Int) (fun di=>?_) (fun di=>?_)
   ·refine xd 1 .z ?_
    have n6:=(Xf h2 b9 e4).below (Za k5)
    refine xb (.e [0,1,2] 3) 0 n6 ?_
    have v9:=f3.below (Za k5)
    refine xb (.e [4] 5) 1 v9 ?_
    have n8:=(((((((((hI.below n1.below).below (Za W1)).below (Za W1.drew)).below d3.below).only (Zf.of_grown (T:=[76]) b5 b7 (by decide)) (by decide)).only (Zf.of_upd (T:=[74]) c5 a7 (by decide)) (by decide)).below (Za a1)).below (Za a1.drew)).only (Zo (T:=[]) b9 e4) (by decide)).below (Za k5)
    refine yc (.o [] 6) (args:=#[P0 b,V0 to]) .z (Ku Bi b pi ni ci l to _ n8) ?_
    rintro e fa bg
    rcases bg with ⟨d0,j2,vx,rfl,d5,i3⟩|⟨d0,pl,cl,rfl,d5,hs⟩
    ·refine⟨d5,?_⟩
     have w7:=blB (blB (e4.below (blB (blB (c5.below (hB.trans f1) a9) a0 (Za a1)) a0 (Za a1.drew)) a4) a0 (Za k5)) a0 d5
     have hO:=((((((((((show Zf [74,76] w _ from(Zf.of_below n1.below)).trans (Zf.of_below (Za W1))).trans (Zf.of_below (Za W1.drew))).trans (Zf.of_below d3.below)).trans (Zf.of_grown b5 b7 (by decide))).trans (Zf.of_upd c5 a7 (by decide))).trans (Zf.of_below (Za a1))).trans (Zf.of_below (Za a1.drew))).trans (Zo b9 e4)).trans (Zf.of_below (Za k5))).trans (Zf.of_below d5)
     refine xe (.r [7,8,9,10,11] 11) (.iface j2 (vx)) ?_
     have e9:=Xa (l:=l) (n:=n) (d:=d) (fr:=fr) (ak:=ak) (to:=to) (out:=out) (by omega) ht
     have a5:ak=7:=by omega
     subst a5
     rw[Jq (Pc l to) d0] at e9
     exact Hq e9 d0 w7 hO i3
    refine⟨d5,?_⟩
    have y2:=n8.below d5
    have x8:=n6.below d5
    have z2:=Zb (Zb (Qz (Zb (Zb (c5.own2 u0 a7 (by decide)) (Za a1)) (Za a1.drew)) b9 e4) (Za k5)) d5
    have hM:=((Yr (x:=(fr,to,ak,0)) b2 dh).below (Za k5)).below d5
    have n5:=blB (blB (e4.below (blB (blB (c5.below (hB.trans f1) a9) a0 (Za a1)) a0 (Za a1.drew)) a4) a0 (Za k5)) a0 d5
    have z3:=((Xf (((c5.blkT (e5.grown3 b5 a3) a7 (by decide)).below (Za a1)).below (Za a1.drew)) b9 e4).below (Za k5)).below d5
    have hO:=((((((((((show Zf [74,76] w _ from(Zf.of_below n1.below)).trans (Zf.of_below (Za W1))).trans (Zf.of_below (Za W1.drew))).trans (Zf.of_below d3.below)).trans (Zf.of_grown b5 b7 (by decide))).trans (Zf.of_upd c5 a7 (by decide))).trans (Zf.of_below (Za a1))).trans (Zf.of_below (Za a1.drew))).trans (Zo b9 e4)).trans (Zf.of_below (Za k5))).trans (Zf.of_below d5)
    refine xe (.r [7,8,9,10,11] 11) .nilIface ?_
    have e9:=Xa (l:=l) (n:=n) (d:=d) (fr:=fr) (ak:=ak) (to:=to) (out:=out) (by omega) ht
    have a5:ak=7:=by omega
    subst a5
    rw[Vj ((Pc l to).trans d0),Io,Ut] at e9
    exact Pb e9 rfl n5 hO y2 x8 z2 hM (Nat.le_trans a0 n5.size) a9 a4 z3 (Qc a3 h6 e8)
   refine xb 7 1 f3 ?_
   refine xb 1 2 f3 ?_
   have p9:=((((((((hI.below n1.below).below (Za W1)).below (Za W1.drew)).below d3.below).only (Zf.of_grown (T:=[76]) b5 b7 (by decide)) (by decide)).only (Zf.of_upd (T:=[74]) c5 a7 (by decide)) (by decide)).below (Za a1)).below (Za a1.drew)).only (Zo (T:=[]) b9 e4) (by decide)
   have x5:=Xf h2 b9 e4
   have ar:=Qz (Zb (Zb (c5.own2 u0 a7 (by decide)) (Za a1)) (Za a1.drew)) b9 e4
   have hM:=(Yr (x:=(fr,to,ak,0)) b2 dh)
   have i4:=e4.below (blB (blB (c5.below (hB.trans f1) a9) a0 (Za a1)) a0 (Za a1.drew)) a4
   have w2:=Xf (((c5.blkT (e5.grown3 b5 a3) a7 (by decide)).below (Za a1)).below (Za a1.drew)) b9 e4
   have j7:=Vb (x:=(fr,to,ak,0)) (n:=n) (out:=out) ⟨hto,(show to<(n:Int) from by omega)⟩ ht
   have j0:Ql n (out++[(fr,to,ak,0)])≤999999999000:=by unfold Ql at hph ⊢;rw[List.length_append,List.length_singleton];omega
   refine xc 0 (args:=#[P0 bx,V0 to,V0 ak]) (Um B Bi b bx rm kb K pi ni ci l n d hA _ _ (out++[(fr,to,ak,0)]) to ak _ ⟨p9,x5,ar,hM,(Nat.le_trans a0 i4.size),a9,a4,w2,(Qc a3 h6 e8)⟩ (by omega) (by omega) h1 (by omega)) ?_
   rintro e ev bb
   rcases bb with ⟨a6,e7,vr,rfl,t1,m3,c6⟩|⟨a6,j8,i2,rfl,t1,m3,⟨_,c9,c8,hM,_,_,_,c7,a3⟩⟩
   ·have q2:=i4.trans t1
    have hO:=(((((((((show Zf [74,76] w _ from(Zf.of_below n1.below)).trans (Zf.of_below (Za W1))).trans (Zf.of_below (Za W1.drew))).trans (Zf.of_below d3.below)).trans (Zf.of_grown b5 b7 (by decide))).trans (Zf.of_upd c5 a7 (by decide))).trans (Zf.of_below (Za a1))).trans (Zf.of_below (Za a1.drew))).trans (Zo b9 e4)).trans m3
    refine xe 4 (.iface e7 (vr)) ?_
    have e9:=Xa (l:=l) (n:=n) (d:=d) (fr:=fr) (ak:=ak) (to:=to) (out:=out) (by omega) ht
    first|(have a5:ak=6:=(by omega);subst a5;exact .inl ⟨by rw[e9];exact a6,_,_,rfl,q2,hO,by rw[e9];exact c6⟩)|exact .inl ⟨by rw[e9];exact a6,_,_,rfl,q2,hO,by rw[e9];exact c6⟩
   have q9:=p9.only m3 (by decide)
   have f9:=i4.trans t1
   have hO:=(((((((((show Zf [74,76] w _ from(Zf.of_below n1.below)).trans (Zf.of_below (Za W1))).trans (Zf.of_below (Za W1.drew))).trans (Zf.of_below d3.below)).trans (Zf.of_grown b5 b7 (by decide))).trans (Zf.of_upd c5 a7 (by decide))).trans (Zf.of_below (Za a1))).trans (Zf.of_below (Za a1.drew))).trans (Zo b9 e4)).trans m3
   refine xe 4 .nilIface ?_
   have e9:=Xa (l:=l) (n:=n) (d:=d) (fr:=fr) (ak:=ak) (to:=to) (out:=out) (by omega) ht
   first|(have a5:ak=6:=(by omega);subst a5;exact .inr ⟨by rw[e9];exact a6,_,_,rfl,f9,hO,by rw[e9];exact⟨q9,c9,c8,hM,(Nat.le_trans a0 f9.size),a9,a4,c7,a3⟩⟩)|exact .inr ⟨by rw[e9];exact a6,_,_,rfl,f9,hO,by rw[e9];exact⟨q9,c9,c8,hM,(Nat.le_trans a0 f9.size),a9,a4,c7,a3⟩⟩
  have n0:=j6.below (Za a1.drew)
  refine xb 0 1 n0 ?_
  have h0:=i0.below (Za a1.drew)
  refine xb (.o [] 3) 2 h0 ?_
  have bs:=t4.below (Za a1.drew)
  obtain⟨z1,f6,b2⟩:=id (bs)
  have c0:=Wa.obj f6
  refine ymuV (.o [] 6) to (.bool true) (.t B [74,76]) Tryz.underlying72 (keyI Tryz.underlying3) f6 (by rw[b2,ht];rfl) fun k4 e3 dk=>⟨Dw c0 e3 a4,?_⟩
  have f5:=Xf n0 c0 e3
  refine xb 6 2 f5 ?_
  refine xie 9 ak (6:Int) (fun df=>?_) (fun df=>?_)
  ·refine xb 4 1 f5 ?_
   have q8:=((((((((hI.below n1.below).below (Za W1)).below (Za W1.drew)).below d3.below).only (Zf.of_grown (T:=[76]) b5 b7 (by decide)) (by decide)).only (Zf.of_upd (T:=[74]) c5 a7 (by decide)) (by decide)).below (Za a1)).below (Za a1.drew)).only (Zo (T:=[]) c0 e3) (by decide)
   have v8:=Xf h0 c0 e3
   have w9:=Qz (Zb (Zb (c5.own2 u0 a7 (by decide)) (Za a1)) (Za a1.drew)) c0 e3
   have hM:=(Yr (x:=(fr,to,ak,0)) b2 dk)
   have j1:=e3.below (blB (blB (c5.below (hB.trans f1) a9) a0 (Za a1)) a0 (Za a1.drew)) a4
   have aa:=Xf (((c5.blkT (e5.grown3 b5 a3) a7 (by decide)).below (Za a1)).below (Za a1.drew)) c0 e3
   have j7:=Vb (x:=(fr,to,ak,0)) (n:=n) (out:=out) ⟨hto,(show to<(n:Int) from by omega)⟩ ht
   have j0:Ql n (out++[(fr,to,ak,0)])≤999999999000:=by unfold Ql at hph ⊢;rw[List.length_append,List.length_singleton];omega
   refine xc 0 (args:=#[P0 bx,V0 to]) (Hl B Bi b bx rm kb K pi ni ci l n d hA _ _ (out++[(fr,to,ak,0)]) to _ ⟨q8,v8,w9,hM,(Nat.le_trans a0 j1.size),a9,a4,aa,(Qc a3 h6 e8)⟩ (by omega) (by omega)) ?_
   rintro e fj dg
   rcases dg with ⟨a6,e7,vr,rfl,s3,l2,c6⟩|⟨a6,j8,i2,rfl,s3,l2,⟨_,c9,c8,hM,_,_,_,c7,a3⟩⟩
   ·have r2:=j1.trans s3
    have hO:=(((((((((show Zf [74,76] w _ from(Zf.of_below n1.below)).trans (Zf.of_below (Za W1))).trans (Zf.of_below (Za W1.drew))).trans (Zf.of_below d3.below)).trans (Zf.of_grown b5 b7 (by decide))).trans (Zf.of_upd c5 a7 (by decide))).trans (Zf.of_below (Za a1))).trans (Zf.of_below (Za a1.drew))).trans (Zo c0 e3)).trans l2
    refine xe 6 (.iface e7 (vr)) ?_
    have e9:=Xa (l:=l) (n:=n) (d:=d) (fr:=fr) (ak:=ak) (to:=to) (out:=out) (by omega) ht
    first|(have a5:ak=6:=(by omega);subst a5;exact .inl ⟨by rw[e9];exact a6,_,_,rfl,r2,hO,by rw[e9];exact c6⟩)|exact .inl ⟨by rw[e9];exact a6,_,_,rfl,r2,hO,by rw[e9];exact c6⟩
   have o6:=q8.only l2 (by decide)
   have h4:=j1.trans s3
   have hO:=(((((((((show Zf [74,76] w _ from(Zf.of_below n1.below)).trans (Zf.of_below (Za W1))).trans (Zf.of_below (Za W1.drew))).trans (Zf.of_below d3.below)).trans (Zf.of_grown b5 b7 (by decide))).trans (Zf.of_upd c5 a7 (by decide))).trans (Zf.of_below (Za a1))).trans (Zf.of_below (Za a1.drew))).trans (Zo c0 e3)).trans l2
   refine xe 6 .nilIface ?_
   have e9:=Xa (l:=l) (n:=n) (d:=d) (fr:=fr) (ak:=ak) (to:=to) (out:=out) (by omega) ht
   first|(have a5:ak=6:=(by omega);subst a5;exact .inr ⟨by rw[e9];exact a6,_,_,rfl,h4,hO,by rw[e9];exact⟨o6,c9,c8,hM,(Nat.le_trans a0 h4.size),a9,a4,c7,a3⟩⟩)|exact .inr ⟨by rw[e9];exact a6,_,_,rfl,h4,hO,by rw[e9];exact⟨o6,c9,c8,hM,(Nat.le_trans a0 h4.size),a9,a4,c7,a3⟩⟩
  refine xie 6 ak (7:Int) (fun cp=>?_) (fun cp=>?_)
  ·refine xd 1 .z ?_
   have p4:=(Xf h0 c0 e3).below (Za k4)
   refine xb (.e [0,1,2] 3) 0 p4 ?_
   have z8:=f5.below (Za k4)
   refine xb (.e [4] 5) 1 z8 ?_
   have q7:=(((((((((hI.below n1.below).below (Za W1)).below (Za W1.drew)).below d3.below).only (Zf.of_grown (T:=[76]) b5 b7 (by decide)) (by decide)).only (Zf.of_upd (T:=[74]) c5 a7 (by decide)) (by decide)).below (Za a1)).below (Za a1.drew)).only (Zo (T:=[]) c0 e3) (by decide)).below (Za k4)
   refine yc (.o [] 6) (args:=#[P0 b,V0 to]) .z (Ku Bi b pi ni ci l to _ q7) ?_
   rintro e ex cy
   rcases cy with ⟨d0,j2,vx,rfl,d4,i3⟩|⟨d0,pl,cl,rfl,d4,hs⟩
   ·refine⟨d4,?_⟩
    have u2:=blB (blB (e3.below (blB (blB (c5.below (hB.trans f1) a9) a0 (Za a1)) a0 (Za a1.drew)) a4) a0 (Za k4)) a0 d4
    have hO:=((((((((((show Zf [74,76] w _ from(Zf.of_below n1.below)).trans (Zf.of_below (Za W1))).trans (Zf.of_below (Za W1.drew))).trans (Zf.of_below d3.below)).trans (Zf.of_grown b5 b7 (by decide))).trans (Zf.of_upd c5 a7 (by decide))).trans (Zf.of_below (Za a1))).trans (Zf.of_below (Za a1.drew))).trans (Zo c0 e3)).trans (Zf.of_below (Za k4))).trans (Zf.of_below d4)
    refine xe (.r [7,8,9,10,11] 11) (.iface j2 (vx)) ?_
    have e9:=Xa (l:=l) (n:=n) (d:=d) (fr:=fr) (ak:=ak) (to:=to) (out:=out) (by omega) ht
    have a5:ak=7:=by omega
    subst a5
    rw[Jq (Pc l to) d0] at e9
    exact Hq e9 d0 u2 hO i3
   refine⟨d4,?_⟩
   have y9:=q7.below d4
   have s2:=p4.below d4
   have ai:=Zb (Zb (Qz (Zb (Zb (c5.own2 u0 a7 (by decide)) (Za a1)) (Za a1.drew)) c0 e3) (Za k4)) d4
   have hM:=((Yr (x:=(fr,to,ak,0)) b2 dk).below (Za k4)).below d4
   have p3:=blB (blB (e3.below (blB (blB (c5.below (hB.trans f1) a9) a0 (Za a1)) a0 (Za a1.drew)) a4) a0 (Za k4)) a0 d4
   have y4:=((Xf (((c5.blkT (e5.grown3 b5 a3) a7 (by decide)).below (Za a1)).below (Za a1.drew)) c0 e3).below (Za k4)).below d4
   have hO:=((((((((((show Zf [74,76] w _ from(Zf.of_below n1.below)).trans (Zf.of_below (Za W1))).trans (Zf.of_below (Za W1.drew))).trans (Zf.of_below d3.below)).trans (Zf.of_grown b5 b7 (by decide))).trans (Zf.of_upd c5 a7 (by decide))).trans (Zf.of_below (Za a1))).trans (Zf.of_below (Za a1.drew))).trans (Zo c0 e3)).trans (Zf.of_below (Za k4))).trans (Zf.of_below d4)
   refine xe (.r [7,8,9,10,11] 11) .nilIface ?_
   have e9:=Xa (l:=l) (n:=n) (d:=d) (fr:=fr) (ak:=ak) (to:=to) (out:=out) (by omega) ht
   have a5:ak=7:=by omega
   subst a5
   rw[Vj ((Pc l to).trans d0),Io,Ut] at e9
   exact Pb e9 rfl p3 hO y9 s2 ai hM (Nat.le_trans a0 p3.size) a9 a4 y4 (Qc a3 h6 e8)
  refine xb 7 1 f5 ?_
  refine xb 1 2 f5 ?_
  have q0:=((((((((hI.below n1.below).below (Za W1)).below (Za W1.drew)).below d3.below).only (Zf.of_grown (T:=[76]) b5 b7 (by decide)) (by decide)).only (Zf.of_upd (T:=[74]) c5 a7 (by decide)) (by decide)).below (Za a1)).below (Za a1.drew)).only (Zo (T:=[]) c0 e3) (by decide)
  have s5:=Xf h0 c0 e3
  have w5:=Qz (Zb (Zb (c5.own2 u0 a7 (by decide)) (Za a1)) (Za a1.drew)) c0 e3
  have hM:=(Yr (x:=(fr,to,ak,0)) b2 dk)
  have i7:=e3.below (blB (blB (c5.below (hB.trans f1) a9) a0 (Za a1)) a0 (Za a1.drew)) a4
  have w8:=Xf (((c5.blkT (e5.grown3 b5 a3) a7 (by decide)).below (Za a1)).below (Za a1.drew)) c0 e3
  have j7:=Vb (x:=(fr,to,ak,0)) (n:=n) (out:=out) ⟨hto,(show to<(n:Int) from by omega)⟩ ht
  have j0:Ql n (out++[(fr,to,ak,0)])≤999999999000:=by unfold Ql at hph ⊢;rw[List.length_append,List.length_singleton];omega
  refine xc 0 (args:=#[P0 bx,V0 to,V0 ak]) (Um B Bi b bx rm kb K pi ni ci l n d hA _ _ (out++[(fr,to,ak,0)]) to ak _ ⟨q0,s5,w5,hM,(Nat.le_trans a0 i7.size),a9,a4,w8,(Qc a3 h6 e8)⟩ (by omega) (by omega) h1 (by omega)) ?_
  rintro e ey ba
  rcases ba with ⟨a6,e7,vr,rfl,s8,m0,c6⟩|⟨a6,j8,i2,rfl,s8,m0,⟨_,c9,c8,hM,_,_,_,c7,a3⟩⟩
  ·have n7:=i7.trans s8
   have hO:=(((((((((show Zf [74,76] w _ from(Zf.of_below n1.below)).trans (Zf.of_below (Za W1))).trans (Zf.of_below (Za W1.drew))).trans (Zf.of_below d3.below)).trans (Zf.of_grown b5 b7 (by decide))).trans (Zf.of_upd c5 a7 (by decide))).trans (Zf.of_below (Za a1))).trans (Zf.of_below (Za a1.drew))).trans (Zo c0 e3)).trans m0
   refine xe 4 (.iface e7 (vr)) ?_
   have e9:=Xa (l:=l) (n:=n) (d:=d) (fr:=fr) (ak:=ak) (to:=to) (out:=out) (by omega) ht
   first|(have a5:ak=6:=(by omega);subst a5;exact .inl ⟨by rw[e9];exact a6,_,_,rfl,n7,hO,by rw[e9];exact c6⟩)|exact .inl ⟨by rw[e9];exact a6,_,_,rfl,n7,hO,by rw[e9];exact c6⟩
  have m9:=q0.only m0 (by decide)
  have g7:=i7.trans s8
  have hO:=(((((((((show Zf [74,76] w _ from(Zf.of_below n1.below)).trans (Zf.of_below (Za W1))).trans (Zf.of_below (Za W1.drew))).trans (Zf.of_below d3.below)).trans (Zf.of_grown b5 b7 (by decide))).trans (Zf.of_upd c5 a7 (by decide))).trans (Zf.of_below (Za a1))).trans (Zf.of_below (Za a1.drew))).trans (Zo c0 e3)).trans m0
  refine xe 4 .nilIface ?_
  have e9:=Xa (l:=l) (n:=n) (d:=d) (fr:=fr) (ak:=ak) (to:=to) (out:=out) (by omega) ht
  first|(have a5:ak=6:=(by omega);subst a5;exact .inr ⟨by rw[e9];exact a6,_,_,rfl,g7,hO,by rw[e9];exact⟨m9,c9,c8,hM,(Nat.le_trans a0 g7.size),a9,a4,c7,a3⟩⟩)|exact .inr ⟨by rw[e9];exact a6,_,_,rfl,g7,hO,by rw[e9];exact⟨m9,c9,c8,hM,(Nat.le_trans a0 g7.size),a9,a4,c7,a3⟩⟩
 refine xbs 0 1 [V0 fr,V0 to,V0 ak] 76 fun en ew d1=>?_
 have q1:=((kk.below n1.below).below (Za W1)).below (Za W1.drew)
 have ce:=d1.ne q1
 have br:=d1.ne k0
 have z7:=Zb (Zb (Zb ho n1.below) (Za W1)) (Za W1.drew)
 have cu:=Zn z7 d1
 have aj:=(m4.below (Za W1.drew)).below d1.below
 refine xb (.o [] 4) 3 aj ?_
 have e6:=q1.below d1.below
 have e8:=(e6).lt
 have b8:=Zb z7 d1.below
 have hB:=blB (blB (blB (blB (Below.refl B w) a0 n1.below) a0 (Za W1)) a0 (Za W1.drew)) a0 d1.below
 refine ybi (.o [] 7) (.t B [76,74]) fun _ _ _ _ zJ zQ zo zx zy zK=>Kg (b:=en) (c:=1) (m:=1) (news:=[V0 fr,V0 to,V0 ak]) (.agg #[V0 0,V0 0,V0 0]) 3 24 ((out++[(fr,to,ak,0)]).length) (((out++[(fr,to,ak,0)]).flatMap lkC)) zo Tryz.underlying26 (by kernel_rfl) rfl (by decide) zx b8 zy d1.blk rfl (by simp[Value.oneCell']) (by unfold maxLen;unfold Ql at hph;omega) (by unfold Ql at hph;omega) (Nat.le_trans a0 hB.size) (by simp) (by rw[List.flatMap_append];rfl) fun dt bh eu t9 b3 f2 h5=>?_
 refine zK _ _ (Zx f2 b3 b8 (by decide)) ?_
 have b0:=aj.grown b3 b8 (by decide)
 refine ys (.o [8,9] 10) b0 [P0 b,V0 (n:Int),.map (some rm),.slice dt ((out++[(fr,to,ak,0)]).length) bh] (.t B [76,74]) fun a2 c4 ek=>⟨(Zl c4 b0 a9 (by decide)),?_⟩
 refine xd 4 .z ?_
 have j9:=ek.below (Za a2)
 refine xb (.e [0,1,2] 3) 2 j9 ?_
 have h9:=(c4.blkT ((k0.below d1.below).grown3 b3 i9) b0 (by decide)).below (Za a2)
 refine xb (.e [4] 5) 1 h9 ?_
 have s6:=((((((hM.below n1.below).below (Za W1)).below (Za W1.drew)).below d1.below).grown b3 b8).updBlk c4 b0).below (Za a2)
 obtain⟨kv,hm,w3⟩:=id (s6)
 refine xlkN (.o [] 6) (z:=.bool false) to false Tryz.underlying72 (keyI Tryz.underlying3) (fun V=>by kernel_rfl) hm (by rw[w3,ht];rfl) ?_
 refine xd 6 (.t B [74,76]) ?_
 refine xm2 (.b [0,1,2,4]) 3 5 ?_ ?_
 ·have g3:=j9.below (Za a2.drew)
  refine xb 0 2 g3 ?_
  have r0:=h9.below (Za a2.drew)
  refine xb (.o [] 5) 1 r0 ?_
  have da:=s6.below (Za a2.drew)
  obtain⟨z1,f6,b2⟩:=id (da)
  have c1:=Wa.obj f6
  refine ymuV (.o [] 6) to (.bool true) (.t B [74,76]) Tryz.underlying72 (keyI Tryz.underlying3) f6 (by rw[b2,ht];rfl) fun k2 e2 cw=>⟨Dw c1 e2 a4,?_⟩
  have f4:=Xf r0 c1 e2
  refine xb 6 2 f4 ?_
  refine xie 9 ak (6:Int) (fun bz=>?_) (fun bz=>?_)
  ·refine xb 4 1 f4 ?_
   have r1:=((((((((hI.below n1.below).below (Za W1)).below (Za W1.drew)).below d1.below).only (Zf.of_grown (T:=[76]) b3 b8 (by decide)) (by decide)).only (Zf.of_upd (T:=[74]) c4 b0 (by decide)) (by decide)).below (Za a2)).below (Za a2.drew)).only (Zo (T:=[]) c1 e2) (by decide)
   have v5:=Xf g3 c1 e2
   have al:=Qz (Zb (Zb (c4.own2 t9 b0 (by decide)) (Za a2)) (Za a2.drew)) c1 e2
   have hM:=(Yr (x:=(fr,to,ak,0)) b2 cw)
   have i6:=e2.below (blB (blB (c4.below (hB.trans f2) a9) a0 (Za a2)) a0 (Za a2.drew)) a4
   have y5:=Xf (((c4.blkT (e6.grown3 b3 a3) b0 (by decide)).below (Za a2)).below (Za a2.drew)) c1 e2
   have j7:=Vb (x:=(fr,to,ak,0)) (n:=n) (out:=out) ⟨hto,(show to<(n:Int) from by omega)⟩ ht
   have j0:Ql n (out++[(fr,to,ak,0)])≤999999999000:=by unfold Ql at hph ⊢;rw[List.length_append,List.length_singleton];omega
   refine xc 0 (args:=#[P0 bx,V0 to]) (Hl B Bi b bx rm kb K pi ni ci l n d hA _ _ (out++[(fr,to,ak,0)]) to _ ⟨r1,v5,al,hM,(Nat.le_trans a0 i6.size),a9,a4,y5,(Qc a3 h5 e8)⟩ (by omega) (by omega)) ?_
   rintro e fi ay
   rcases ay with ⟨a6,e7,vr,rfl,r9,l5,c6⟩|⟨a6,j8,i2,rfl,r9,l5,⟨_,c9,c8,hM,_,_,_,c7,a3⟩⟩
   ·have p8:=i6.trans r9
    have hO:=(((((((((show Zf [74,76] w _ from(Zf.of_below n1.below)).trans (Zf.of_below (Za W1))).trans (Zf.of_below (Za W1.drew))).trans (Zf.of_below d1.below)).trans (Zf.of_grown b3 b8 (by decide))).trans (Zf.of_upd c4 b0 (by decide))).trans (Zf.of_below (Za a2))).trans (Zf.of_below (Za a2.drew))).trans (Zo c1 e2)).trans l5
    refine xe 6 (.iface e7 (vr)) ?_
    have e9:=Xa (l:=l) (n:=n) (d:=d) (fr:=fr) (ak:=ak) (to:=to) (out:=out) (by omega) ht
    first|(have a5:ak=6:=(by omega);subst a5;exact .inl ⟨by rw[e9];exact a6,_,_,rfl,p8,hO,by rw[e9];exact c6⟩)|exact .inl ⟨by rw[e9];exact a6,_,_,rfl,p8,hO,by rw[e9];exact c6⟩
   have o2:=r1.only l5 (by decide)
   have g5:=i6.trans r9
   have hO:=(((((((((show Zf [74,76] w _ from(Zf.of_below n1.below)).trans (Zf.of_below (Za W1))).trans (Zf.of_below (Za W1.drew))).trans (Zf.of_below d1.below)).trans (Zf.of_grown b3 b8 (by decide))).trans (Zf.of_upd c4 b0 (by decide))).trans (Zf.of_below (Za a2))).trans (Zf.of_below (Za a2.drew))).trans (Zo c1 e2)).trans l5
   refine xe 6 .nilIface ?_
   have e9:=Xa (l:=l) (n:=n) (d:=d) (fr:=fr) (ak:=ak) (to:=to) (out:=out) (by omega) ht
   first|(have a5:ak=6:=(by omega);subst a5;exact .inr ⟨by rw[e9];exact a6,_,_,rfl,g5,hO,by rw[e9];exact⟨o2,c9,c8,hM,(Nat.le_trans a0 g5.size),a9,a4,c7,a3⟩⟩)|exact .inr ⟨by rw[e9];exact a6,_,_,rfl,g5,hO,by rw[e9];exact⟨o2,c9,c8,hM,(Nat.le_trans a0 g5.size),a9,a4,c7,a3⟩⟩
  refine xie 6 ak (7:Int) (fun bw=>?_) (fun bw=>?_)
  ·refine xd 1 .z ?_
   have p6:=(Xf g3 c1 e2).below (Za k2)
   refine xb (.e [0,1,2] 3) 0 p6 ?_
   have x4:=f4.below (Za k2)
   refine xb (.e [4] 5) 1 x4 ?_
   have r3:=(((((((((hI.below n1.below).below (Za W1)).below (Za W1.drew)).below d1.below).only (Zf.of_grown (T:=[76]) b3 b8 (by decide)) (by decide)).only (Zf.of_upd (T:=[74]) c4 b0 (by decide)) (by decide)).below (Za a2)).below (Za a2.drew)).only (Zo (T:=[]) c1 e2) (by decide)).below (Za k2)
   refine yc (.o [] 6) (args:=#[P0 b,V0 to]) .z (Ku Bi b pi ni ci l to _ r3) ?_
   rintro e er cn
   rcases cn with ⟨d0,j2,vx,rfl,d8,i3⟩|⟨d0,pl,cl,rfl,d8,hs⟩
   ·refine⟨d8,?_⟩
    have z4:=blB (blB (e2.below (blB (blB (c4.below (hB.trans f2) a9) a0 (Za a2)) a0 (Za a2.drew)) a4) a0 (Za k2)) a0 d8
    have hO:=((((((((((show Zf [74,76] w _ from(Zf.of_below n1.below)).trans (Zf.of_below (Za W1))).trans (Zf.of_below (Za W1.drew))).trans (Zf.of_below d1.below)).trans (Zf.of_grown b3 b8 (by decide))).trans (Zf.of_upd c4 b0 (by decide))).trans (Zf.of_below (Za a2))).trans (Zf.of_below (Za a2.drew))).trans (Zo c1 e2)).trans (Zf.of_below (Za k2))).trans (Zf.of_below d8)
    refine xe (.r [7,8,9,10,11] 11) (.iface j2 (vx)) ?_
    have e9:=Xa (l:=l) (n:=n) (d:=d) (fr:=fr) (ak:=ak) (to:=to) (out:=out) (by omega) ht
    have a5:ak=7:=by omega
    subst a5
    rw[Jq (Pc l to) d0] at e9
    exact Hq e9 d0 z4 hO i3
   refine⟨d8,?_⟩
   have av:=r3.below d8
   have w6:=p6.below d8
   have w4:=Zb (Zb (Qz (Zb (Zb (c4.own2 t9 b0 (by decide)) (Za a2)) (Za a2.drew)) c1 e2) (Za k2)) d8
   have hM:=((Yr (x:=(fr,to,ak,0)) b2 cw).below (Za k2)).below d8
   have o3:=blB (blB (e2.below (blB (blB (c4.below (hB.trans f2) a9) a0 (Za a2)) a0 (Za a2.drew)) a4) a0 (Za k2)) a0 d8
   have v0:=((Xf (((c4.blkT (e6.grown3 b3 a3) b0 (by decide)).below (Za a2)).below (Za a2.drew)) c1 e2).below (Za k2)).below d8
   have hO:=((((((((((show Zf [74,76] w _ from(Zf.of_below n1.below)).trans (Zf.of_below (Za W1))).trans (Zf.of_below (Za W1.drew))).trans (Zf.of_below d1.below)).trans (Zf.of_grown b3 b8 (by decide))).trans (Zf.of_upd c4 b0 (by decide))).trans (Zf.of_below (Za a2))).trans (Zf.of_below (Za a2.drew))).trans (Zo c1 e2)).trans (Zf.of_below (Za k2))).trans (Zf.of_below d8)
   refine xe (.r [7,8,9,10,11] 11) .nilIface ?_
   have e9:=Xa (l:=l) (n:=n) (d:=d) (fr:=fr) (ak:=ak) (to:=to) (out:=out) (by omega) ht
   have a5:ak=7:=by omega
   subst a5
   rw[Vj ((Pc l to).trans d0),Io,Ut] at e9
   exact Pb e9 rfl o3 hO av w6 w4 hM (Nat.le_trans a0 o3.size) a9 a4 v0 (Qc a3 h5 e8)
  refine xb 7 1 f4 ?_
  refine xb 1 2 f4 ?_
  have p2:=((((((((hI.below n1.below).below (Za W1)).below (Za W1.drew)).below d1.below).only (Zf.of_grown (T:=[76]) b3 b8 (by decide)) (by decide)).only (Zf.of_upd (T:=[74]) c4 b0 (by decide)) (by decide)).below (Za a2)).below (Za a2.drew)).only (Zo (T:=[]) c1 e2) (by decide)
  have x0:=Xf g3 c1 e2
  have u3:=Qz (Zb (Zb (c4.own2 t9 b0 (by decide)) (Za a2)) (Za a2.drew)) c1 e2
  have hM:=(Yr (x:=(fr,to,ak,0)) b2 cw)
  have j4:=e2.below (blB (blB (c4.below (hB.trans f2) a9) a0 (Za a2)) a0 (Za a2.drew)) a4
  have u4:=Xf (((c4.blkT (e6.grown3 b3 a3) b0 (by decide)).below (Za a2)).below (Za a2.drew)) c1 e2
  have j7:=Vb (x:=(fr,to,ak,0)) (n:=n) (out:=out) ⟨hto,(show to<(n:Int) from by omega)⟩ ht
  have j0:Ql n (out++[(fr,to,ak,0)])≤999999999000:=by unfold Ql at hph ⊢;rw[List.length_append,List.length_singleton];omega
  refine xc 0 (args:=#[P0 bx,V0 to,V0 ak]) (Um B Bi b bx rm kb K pi ni ci l n d hA _ _ (out++[(fr,to,ak,0)]) to ak _ ⟨p2,x0,u3,hM,(Nat.le_trans a0 j4.size),a9,a4,u4,(Qc a3 h5 e8)⟩ (by omega) (by omega) h1 (by omega)) ?_
  rintro e ff db
  rcases db with ⟨a6,e7,vr,rfl,r5,m2,c6⟩|⟨a6,j8,i2,rfl,r5,m2,⟨_,c9,c8,hM,_,_,_,c7,a3⟩⟩
  ·have m5:=j4.trans r5
   have hO:=(((((((((show Zf [74,76] w _ from(Zf.of_below n1.below)).trans (Zf.of_below (Za W1))).trans (Zf.of_below (Za W1.drew))).trans (Zf.of_below d1.below)).trans (Zf.of_grown b3 b8 (by decide))).trans (Zf.of_upd c4 b0 (by decide))).trans (Zf.of_below (Za a2))).trans (Zf.of_below (Za a2.drew))).trans (Zo c1 e2)).trans m2
   refine xe 4 (.iface e7 (vr)) ?_
   have e9:=Xa (l:=l) (n:=n) (d:=d) (fr:=fr) (ak:=ak) (to:=to) (out:=out) (by omega) ht
   first|(have a5:ak=6:=(by omega);subst a5;exact .inl ⟨by rw[e9];exact a6,_,_,rfl,m5,hO,by rw[e9];exact c6⟩)|exact .inl ⟨by rw[e9];exact a6,_,_,rfl,m5,hO,by rw[e9];exact c6⟩
  have r4:=p2.only m2 (by decide)
  have g0:=j4.trans r5
  have hO:=(((((((((show Zf [74,76] w _ from(Zf.of_below n1.below)).trans (Zf.of_below (Za W1))).trans (Zf.of_below (Za W1.drew))).trans (Zf.of_below d1.below)).trans (Zf.of_grown b3 b8 (by decide))).trans (Zf.of_upd c4 b0 (by decide))).trans (Zf.of_below (Za a2))).trans (Zf.of_below (Za a2.drew))).trans (Zo c1 e2)).trans m2
  refine xe 4 .nilIface ?_
  have e9:=Xa (l:=l) (n:=n) (d:=d) (fr:=fr) (ak:=ak) (to:=to) (out:=out) (by omega) ht
  first|(have a5:ak=6:=(by omega);subst a5;exact .inr ⟨by rw[e9];exact a6,_,_,rfl,g0,hO,by rw[e9];exact⟨r4,c9,c8,hM,(Nat.le_trans a0 g0.size),a9,a4,c7,a3⟩⟩)|exact .inr ⟨by rw[e9];exact a6,_,_,rfl,g0,hO,by rw[e9];exact⟨r4,c9,c8,hM,(Nat.le_trans a0 g0.size),a9,a4,c7,a3⟩⟩
 have o0:=h9.below (Za a2.drew)
 refine xb 0 1 o0 ?_
 have h3:=j9.below (Za a2.drew)
 refine xb (.o [] 3) 2 h3 ?_
 have cz:=s6.below (Za a2.drew)
 obtain⟨z1,f6,b2⟩:=id (cz)
 have c3:=Wa.obj f6
 refine ymuV (.o [] 6) to (.bool true) (.t B [74,76]) Tryz.underlying72 (keyI Tryz.underlying3) f6 (by rw[b2,ht];rfl) fun k7 e1 ch=>⟨Dw c3 e1 a4,?_⟩
 have f7:=Xf o0 c3 e1
 refine xb 6 2 f7 ?_
 refine xie 9 ak (6:Int) (fun dw=>?_) (fun dw=>?_)
 ·refine xb 4 1 f7 ?_
  have q5:=((((((((hI.below n1.below).below (Za W1)).below (Za W1.drew)).below d1.below).only (Zf.of_grown (T:=[76]) b3 b8 (by decide)) (by decide)).only (Zf.of_upd (T:=[74]) c4 b0 (by decide)) (by decide)).below (Za a2)).below (Za a2.drew)).only (Zo (T:=[]) c3 e1) (by decide)
  have y8:=Xf h3 c3 e1
  have x2:=Qz (Zb (Zb (c4.own2 t9 b0 (by decide)) (Za a2)) (Za a2.drew)) c3 e1
  have hM:=(Yr (x:=(fr,to,ak,0)) b2 ch)
  have i5:=e1.below (blB (blB (c4.below (hB.trans f2) a9) a0 (Za a2)) a0 (Za a2.drew)) a4
  have x6:=Xf (((c4.blkT (e6.grown3 b3 a3) b0 (by decide)).below (Za a2)).below (Za a2.drew)) c3 e1
  have j7:=Vb (x:=(fr,to,ak,0)) (n:=n) (out:=out) ⟨hto,(show to<(n:Int) from by omega)⟩ ht
  have j0:Ql n (out++[(fr,to,ak,0)])≤999999999000:=by unfold Ql at hph ⊢;rw[List.length_append,List.length_singleton];omega
  refine xc 0 (args:=#[P0 bx,V0 to]) (Hl B Bi b bx rm kb K pi ni ci l n d hA _ _ (out++[(fr,to,ak,0)]) to _ ⟨q5,y8,x2,hM,(Nat.le_trans a0 i5.size),a9,a4,x6,(Qc a3 h5 e8)⟩ (by omega) (by omega)) ?_
  rintro e fk bj
  rcases bj with ⟨a6,e7,vr,rfl,t7,l7,c6⟩|⟨a6,j8,i2,rfl,t7,l7,⟨_,c9,c8,hM,_,_,_,c7,a3⟩⟩
  ·have m6:=i5.trans t7
   have hO:=(((((((((show Zf [74,76] w _ from(Zf.of_below n1.below)).trans (Zf.of_below (Za W1))).trans (Zf.of_below (Za W1.drew))).trans (Zf.of_below d1.below)).trans (Zf.of_grown b3 b8 (by decide))).trans (Zf.of_upd c4 b0 (by decide))).trans (Zf.of_below (Za a2))).trans (Zf.of_below (Za a2.drew))).trans (Zo c3 e1)).trans l7
   refine xe 6 (.iface e7 (vr)) ?_
   have e9:=Xa (l:=l) (n:=n) (d:=d) (fr:=fr) (ak:=ak) (to:=to) (out:=out) (by omega) ht
   first|(have a5:ak=6:=(by omega);subst a5;exact .inl ⟨by rw[e9];exact a6,_,_,rfl,m6,hO,by rw[e9];exact c6⟩)|exact .inl ⟨by rw[e9];exact a6,_,_,rfl,m6,hO,by rw[e9];exact c6⟩
  have p1:=q5.only l7 (by decide)
  have g2:=i5.trans t7
  have hO:=(((((((((show Zf [74,76] w _ from(Zf.of_below n1.below)).trans (Zf.of_below (Za W1))).trans (Zf.of_below (Za W1.drew))).trans (Zf.of_below d1.below)).trans (Zf.of_grown b3 b8 (by decide))).trans (Zf.of_upd c4 b0 (by decide))).trans (Zf.of_below (Za a2))).trans (Zf.of_below (Za a2.drew))).trans (Zo c3 e1)).trans l7
  refine xe 6 .nilIface ?_
  have e9:=Xa (l:=l) (n:=n) (d:=d) (fr:=fr) (ak:=ak) (to:=to) (out:=out) (by omega) ht
  first|(have a5:ak=6:=(by omega);subst a5;exact .inr ⟨by rw[e9];exact a6,_,_,rfl,g2,hO,by rw[e9];exact⟨p1,c9,c8,hM,(Nat.le_trans a0 g2.size),a9,a4,c7,a3⟩⟩)|exact .inr ⟨by rw[e9];exact a6,_,_,rfl,g2,hO,by rw[e9];exact⟨p1,c9,c8,hM,(Nat.le_trans a0 g2.size),a9,a4,c7,a3⟩⟩
 refine xie 6 ak (7:Int) (fun cs=>?_) (fun cs=>?_)
 ·refine xd 1 .z ?_
  have o9:=(Xf h3 c3 e1).below (Za k7)
  refine xb (.e [0,1,2] 3) 0 o9 ?_
  have z0:=f7.below (Za k7)
  refine xb (.e [4] 5) 1 z0 ?_
  have p7:=(((((((((hI.below n1.below).below (Za W1)).below (Za W1.drew)).below d1.below).only (Zf.of_grown (T:=[76]) b3 b8 (by decide)) (by decide)).only (Zf.of_upd (T:=[74]) c4 b0 (by decide)) (by decide)).below (Za a2)).below (Za a2.drew)).only (Zo (T:=[]) c3 e1) (by decide)).below (Za k7)
  refine yc (.o [] 6) (args:=#[P0 b,V0 to]) .z (Ku Bi b pi ni ci l to _ p7) ?_
  rintro e fh bl
  rcases bl with ⟨d0,j2,vx,rfl,d9,i3⟩|⟨d0,pl,cl,rfl,d9,hs⟩
  ·refine⟨d9,?_⟩
   have aq:=blB (blB (e1.below (blB (blB (c4.below (hB.trans f2) a9) a0 (Za a2)) a0 (Za a2.drew)) a4) a0 (Za k7)) a0 d9
   have hO:=((((((((((show Zf [74,76] w _ from(Zf.of_below n1.below)).trans (Zf.of_below (Za W1))).trans (Zf.of_below (Za W1.drew))).trans (Zf.of_below d1.below)).trans (Zf.of_grown b3 b8 (by decide))).trans (Zf.of_upd c4 b0 (by decide))).trans (Zf.of_below (Za a2))).trans (Zf.of_below (Za a2.drew))).trans (Zo c3 e1)).trans (Zf.of_below (Za k7))).trans (Zf.of_below d9)
   refine xe (.r [7,8,9,10,11] 11) (.iface j2 (vx)) ?_
   have e9:=Xa (l:=l) (n:=n) (d:=d) (fr:=fr) (ak:=ak) (to:=to) (out:=out) (by omega) ht
   have a5:ak=7:=by omega
   subst a5
   rw[Jq (Pc l to) d0] at e9
   exact Hq e9 d0 aq hO i3
  refine⟨d9,?_⟩
  have v6:=p7.below d9
  have t6:=o9.below d9
  have x7:=Zb (Zb (Qz (Zb (Zb (c4.own2 t9 b0 (by decide)) (Za a2)) (Za a2.drew)) c3 e1) (Za k7)) d9
  have hM:=((Yr (x:=(fr,to,ak,0)) b2 ch).below (Za k7)).below d9
  have n2:=blB (blB (e1.below (blB (blB (c4.below (hB.trans f2) a9) a0 (Za a2)) a0 (Za a2.drew)) a4) a0 (Za k7)) a0 d9
  have ad:=((Xf (((c4.blkT (e6.grown3 b3 a3) b0 (by decide)).below (Za a2)).below (Za a2.drew)) c3 e1).below (Za k7)).below d9
  have hO:=((((((((((show Zf [74,76] w _ from(Zf.of_below n1.below)).trans (Zf.of_below (Za W1))).trans (Zf.of_below (Za W1.drew))).trans (Zf.of_below d1.below)).trans (Zf.of_grown b3 b8 (by decide))).trans (Zf.of_upd c4 b0 (by decide))).trans (Zf.of_below (Za a2))).trans (Zf.of_below (Za a2.drew))).trans (Zo c3 e1)).trans (Zf.of_below (Za k7))).trans (Zf.of_below d9)
  refine xe (.r [7,8,9,10,11] 11) .nilIface ?_
  have e9:=Xa (l:=l) (n:=n) (d:=d) (fr:=fr) (ak:=ak) (to:=to) (out:=out) (by omega) ht
  have a5:ak=7:=by omega
  subst a5
  rw[Vj ((Pc l to).trans d0),Io,Ut] at e9
  exact Pb e9 rfl n2 hO v6 t6 x7 hM (Nat.le_trans a0 n2.size) a9 a4 ad (Qc a3 h5 e8)
 refine xb 7 1 f7 ?_
 refine xb 1 2 f7 ?_
 have o4:=((((((((hI.below n1.below).below (Za W1)).below (Za W1.drew)).below d1.below).only (Zf.of_grown (T:=[76]) b3 b8 (by decide)) (by decide)).only (Zf.of_upd (T:=[74]) c4 b0 (by decide)) (by decide)).below (Za a2)).below (Za a2.drew)).only (Zo (T:=[]) c3 e1) (by decide)
 have s9:=Xf h3 c3 e1
 have x9:=Qz (Zb (Zb (c4.own2 t9 b0 (by decide)) (Za a2)) (Za a2.drew)) c3 e1
 have hM:=(Yr (x:=(fr,to,ak,0)) b2 ch)
 have i1:=e1.below (blB (blB (c4.below (hB.trans f2) a9) a0 (Za a2)) a0 (Za a2.drew)) a4
 have v2:=Xf (((c4.blkT (e6.grown3 b3 a3) b0 (by decide)).below (Za a2)).below (Za a2.drew)) c3 e1
 have j7:=Vb (x:=(fr,to,ak,0)) (n:=n) (out:=out) ⟨hto,(show to<(n:Int) from by omega)⟩ ht
 have j0:Ql n (out++[(fr,to,ak,0)])≤999999999000:=by unfold Ql at hph ⊢;rw[List.length_append,List.length_singleton];omega
 refine xc 0 (args:=#[P0 bx,V0 to,V0 ak]) (Um B Bi b bx rm kb K pi ni ci l n d hA _ _ (out++[(fr,to,ak,0)]) to ak _ ⟨o4,s9,x9,hM,(Nat.le_trans a0 i1.size),a9,a4,v2,(Qc a3 h5 e8)⟩ (by omega) (by omega) h1 (by omega)) ?_
 rintro e eq bc
 rcases bc with ⟨a6,e7,vr,rfl,t0,l0,c6⟩|⟨a6,j8,i2,rfl,t0,l0,⟨_,c9,c8,hM,_,_,_,c7,a3⟩⟩
 ·have q6:=i1.trans t0
  have hO:=(((((((((show Zf [74,76] w _ from(Zf.of_below n1.below)).trans (Zf.of_below (Za W1))).trans (Zf.of_below (Za W1.drew))).trans (Zf.of_below d1.below)).trans (Zf.of_grown b3 b8 (by decide))).trans (Zf.of_upd c4 b0 (by decide))).trans (Zf.of_below (Za a2))).trans (Zf.of_below (Za a2.drew))).trans (Zo c3 e1)).trans l0
  refine xe 4 (.iface e7 (vr)) ?_
  have e9:=Xa (l:=l) (n:=n) (d:=d) (fr:=fr) (ak:=ak) (to:=to) (out:=out) (by omega) ht
  first|(have a5:ak=6:=(by omega);subst a5;exact .inl ⟨by rw[e9];exact a6,_,_,rfl,q6,hO,by rw[e9];exact c6⟩)|exact .inl ⟨by rw[e9];exact a6,_,_,rfl,q6,hO,by rw[e9];exact c6⟩
 have q4:=o4.only l0 (by decide)
 have g8:=i1.trans t0
 have hO:=(((((((((show Zf [74,76] w _ from(Zf.of_below n1.below)).trans (Zf.of_below (Za W1))).trans (Zf.of_below (Za W1.drew))).trans (Zf.of_below d1.below)).trans (Zf.of_grown b3 b8 (by decide))).trans (Zf.of_upd c4 b0 (by decide))).trans (Zf.of_below (Za a2))).trans (Zf.of_below (Za a2.drew))).trans (Zo c3 e1)).trans l0
 refine xe 4 .nilIface ?_
 have e9:=Xa (l:=l) (n:=n) (d:=d) (fr:=fr) (ak:=ak) (to:=to) (out:=out) (by omega) ht
 first|(have a5:ak=6:=(by omega);subst a5;exact .inr ⟨by rw[e9];exact a6,_,_,rfl,g8,hO,by rw[e9];exact⟨q4,c9,c8,hM,(Nat.le_trans a0 g8.size),a9,a4,c7,a3⟩⟩)|exact .inr ⟨by rw[e9];exact a6,_,_,rfl,g8,hO,by rw[e9];exact⟨q4,c9,c8,hM,(Nat.le_trans a0 g8.size),a9,a4,c7,a3⟩⟩
theorem Ln(B Bi b bx rm kb:Nat)(K:List Value)(pi:O0)(ni ci:Nat)(l:Bl)(n:Nat):∀ d,Zds d B Bi b bx rm kb K pi ni ci l n
 | 0=>fun po co a0 fr to ak w hL a1 hz a2 h1 h7=>absurd hz (by omega)
 | d+1=>fun po co a0 fr to ak w hL a1 hz a2 h1 h7=>by
  have hA:=Ln B Bi b bx rm kb K pi ni ci l n d
  cases ht:Vg a0 to with
  | true=>exact link_add1 B Bi b bx rm kb K pi ni ci l n d hA po co a0 fr to ak w hL hz a2 a1 h1 h7 ht
  | false=>exact link_add2 B Bi b bx rm kb K pi ni ci l n d hA po co a0 fr to ak w hL hz a2 a1 h1 h7 ht
end Go.Proofs.YtceeiinepijokaaGreatDoor
namespace Go.Proofs.YtceeiinepijokaaGreatDoor
set_option maxHeartbeats 8000000
set_option maxRecDepth 100000
open Go.RowKit Go.Extern.Stop Go.Stop Go.Extern
set_option linter.unusedVariables false
attribute [local irreducible] wpList wpAnyH Code.wp Oper.wp Go
def rightZ(s:Sup)(z:Int):Bool:=(((((((((((true&&decide ((0:Int)≤s.tx∧s.tx≤2147483647))&&decide ((0:Int)≤s.time∧s.time≤16777215))&&decide ((1:Int)≤s.unit∧s.unit≤65536))&&decide ((0:Int)≤s.data∧s.data≤65536))&&decide ((2:Int)≤s.blocks∧s.blocks≤14400))&&decide ((1:Int)≤s.top∧s.top≤z))&&decide ((1:Int)≤s.details∧s.details≤z))&&decide ((1:Int)≤s.dslots∧s.dslots≤z))&&decide ((1:Int)≤s.dover∧s.dover≤z))&&decide ((1:Int)≤s.mindex∧s.mindex≤z))&&decide ((1:Int)≤s.mover∧s.mover≤z))
theorem rightZ_eq{s:Sup}{z:Int}(h:IntKind.i64.wrap (s.blocks-1)=z):rightZ s z=Zp s:=by
 by_cases hb:(2:Int)≤s.blocks∧s.blocks≤14400
 ·have e:z=s.blocks-1:=by rw[←h];exact IntWalk.i64_in _ (by omega)
  subst e;rfl
 ·have hd:decide ((2:Int)≤s.blocks∧s.blocks≤14400)=false:=decide_eq_false hb
  unfold rightZ Zp
  rw[hd];simp
theorem Th{s:Sup}(h:Zp s=true):2≤s.blocks∧s.blocks≤14400:=by
 by_cases hb:(2:Int)≤s.blocks∧s.blocks≤14400
 ·exact hb
 ·have hd:decide ((2:Int)≤s.blocks∧s.blocks≤14400)=false:=decide_eq_false hb
  unfold Zp at h
  rw[hd] at h;simp at h
theorem Sx(B bs bo:Nat)(s:Sup)(w:World)(hBw:B≤w.heap.size)(hBo:B≤bo)(ks:Blk w bs [V0 s.tx,V0 s.time,V0 s.unit,V0 s.data,V0 s.blocks,V0 s.top,V0 s.details,V0 s.dslots,V0 s.dover,V0 s.mindex,V0 s.mover] 24)(ko:Blk w bo [.bool true] 4) :
 C0 77 #[P0 bs,.func (.func 78) #[] #[P0 bo]] w ((fun e w'=>∃ u,e=.returned u∧Below B w w'∧Zf [4] w w'∧Blk w' bo [.bool (rightZ s (IntKind.i64.wrap (s.blocks-1)))] 4)):=by
 refine zin 64 Tryz.func77 ?_
 refine xc 6 (args:=#[P0 bs,V0 0,V0 2147483647,P0 bo]) (Xm B bs bo 0 _ s.tx 0 2147483647 true _ (Nat.le_trans hBw (Below.refl B _).size) hBo ks rfl ko) ?_
 rintro _ W1 ⟨u1,rfl,e5,e0,f4⟩
 have c2:=ks.only e0 (by decide)
 refine xc 8 (args:=#[.pointer (some ⟨bs,1,none⟩),V0 0,V0 16777215,P0 bo]) (Xm B bs bo 1 _ s.time 0 16777215 (true&&decide ((0:Int)≤s.tx∧s.tx≤2147483647)) _ (Nat.le_trans hBw e5.size) hBo c2 rfl f4) ?_
 rintro _ W2 ⟨u2,rfl,e6,e2,e8⟩
 have b2:=e5.trans e6
 have c4:=c2.only e2 (by decide)
 refine xc 8 (args:=#[.pointer (some ⟨bs,2,none⟩),V0 1,V0 65536,P0 bo]) (Xm B bs bo 2 _ s.unit 1 65536 ((true&&decide ((0:Int)≤s.tx∧s.tx≤2147483647))&&decide ((0:Int)≤s.time∧s.time≤16777215)) _ (Nat.le_trans hBw b2.size) hBo c4 rfl e8) ?_
 rintro _ W3 ⟨u3,rfl,f1,e1,g0⟩
 have c0:=b2.trans f1
 have a9:=c4.only e1 (by decide)
 refine xc 8 (args:=#[.pointer (some ⟨bs,3,none⟩),V0 0,V0 65536,P0 bo]) (Xm B bs bo 3 _ s.data 0 65536 (((true&&decide ((0:Int)≤s.tx∧s.tx≤2147483647))&&decide ((0:Int)≤s.time∧s.time≤16777215))&&decide ((1:Int)≤s.unit∧s.unit≤65536)) _ (Nat.le_trans hBw c0.size) hBo a9 rfl g0) ?_
 rintro _ W4 ⟨u4,rfl,f7,e4,e7⟩
 have b3:=c0.trans f7
 have b1:=a9.only e4 (by decide)
 refine xc 8 (args:=#[.pointer (some ⟨bs,4,none⟩),V0 2,V0 14400,P0 bo]) (Xm B bs bo 4 _ s.blocks 2 14400 ((((true&&decide ((0:Int)≤s.tx∧s.tx≤2147483647))&&decide ((0:Int)≤s.time∧s.time≤16777215))&&decide ((1:Int)≤s.unit∧s.unit≤65536))&&decide ((0:Int)≤s.data∧s.data≤65536)) _ (Nat.le_trans hBw b3.size) hBo b1 rfl e7) ?_
 rintro _ W5 ⟨u5,rfl,f8,e3,f9⟩
 refine xd 3 .z ?_
 refine xbs (.o [0,1,2,3,4,5,6,7,8,9,10,11,12,13,14,15,16,17,20] 18) 6 [.pointer (some ⟨bs,5,none⟩),.pointer (some ⟨bs,6,none⟩),.pointer (some ⟨bs,7,none⟩),.pointer (some ⟨bs,8,none⟩),.pointer (some ⟨bs,9,none⟩),.pointer (some ⟨bs,10,none⟩)] 171 fun b6 W6 n6=>?_
 have c1:=blB (b3.trans f8) hBw (Za W5)
 have g6:=n6.ge0 c1
 refine xu (.r [19] 3) 7 ?_
 refine xb 14 0 n6.blk ?_
 have a7:=((b1.only e3 (by decide)).below (Za W5)).below n6.below
 refine xb 9 4 a7 ?_
 have b8:=blB c1 hBw n6.below
 have b7:=(f9.below (Za W5)).below n6.below
 refine xc 1 (args:=#[.pointer (some ⟨bs,5,none⟩),V0 1,V0 (IntKind.i64.wrap (s.blocks-(1:Int))),P0 bo]) (Xm B bs bo 5 _ s.top 1 (IntKind.i64.wrap (s.blocks-(1:Int))) (((((true&&decide ((0:Int)≤s.tx∧s.tx≤2147483647))&&decide ((0:Int)≤s.time∧s.time≤16777215))&&decide ((1:Int)≤s.unit∧s.unit≤65536))&&decide ((0:Int)≤s.data∧s.data≤65536))&&decide ((2:Int)≤s.blocks∧s.blocks≤14400)) _ (Nat.le_trans hBw b8.size) hBo a7 rfl b7) ?_
 rintro _ W7 ⟨u7,rfl,f2,d9,f0⟩
 have b4:=n6.blk.only d9 (by decide)
 refine xb 22 1 b4 ?_
 have a2:=a7.only d9 (by decide)
 refine xb 9 4 a2 ?_
 have b9:=b8.trans f2
 refine xc 1 (args:=#[.pointer (some ⟨bs,6,none⟩),V0 1,V0 (IntKind.i64.wrap (s.blocks-(1:Int))),P0 bo]) (Xm B bs bo 6 _ s.details 1 (IntKind.i64.wrap (s.blocks-(1:Int))) ((((((true&&decide ((0:Int)≤s.tx∧s.tx≤2147483647))&&decide ((0:Int)≤s.time∧s.time≤16777215))&&decide ((1:Int)≤s.unit∧s.unit≤65536))&&decide ((0:Int)≤s.data∧s.data≤65536))&&decide ((2:Int)≤s.blocks∧s.blocks≤14400))&&decide ((1:Int)≤s.top∧s.top≤IntKind.i64.wrap (s.blocks-1))) _ (Nat.le_trans hBw b9.size) hBo a2 rfl f0) ?_
 rintro _ W8 ⟨u8,rfl,f3,d8,e9⟩
 have c3:=b4.only d8 (by decide)
 refine xb 22 2 c3 ?_
 have a3:=a2.only d8 (by decide)
 refine xb 9 4 a3 ?_
 have c7:=b9.trans f3
 refine xc 1 (args:=#[.pointer (some ⟨bs,7,none⟩),V0 1,V0 (IntKind.i64.wrap (s.blocks-(1:Int))),P0 bo]) (Xm B bs bo 7 _ s.dslots 1 (IntKind.i64.wrap (s.blocks-(1:Int))) (((((((true&&decide ((0:Int)≤s.tx∧s.tx≤2147483647))&&decide ((0:Int)≤s.time∧s.time≤16777215))&&decide ((1:Int)≤s.unit∧s.unit≤65536))&&decide ((0:Int)≤s.data∧s.data≤65536))&&decide ((2:Int)≤s.blocks∧s.blocks≤14400))&&decide ((1:Int)≤s.top∧s.top≤IntKind.i64.wrap (s.blocks-1)))&&decide ((1:Int)≤s.details∧s.details≤IntKind.i64.wrap (s.blocks-1))) _ (Nat.le_trans hBw c7.size) hBo a3 rfl e9) ?_
 rintro _ W9 ⟨u9,rfl,f6,d4,f5⟩
 have c8:=c3.only d4 (by decide)
 refine xb 22 3 c8 ?_
 have a6:=a3.only d4 (by decide)
 refine xb 9 4 a6 ?_
 have b0:=c7.trans f6
 refine xc 1 (args:=#[.pointer (some ⟨bs,8,none⟩),V0 1,V0 (IntKind.i64.wrap (s.blocks-(1:Int))),P0 bo]) (Xm B bs bo 8 _ s.dover 1 (IntKind.i64.wrap (s.blocks-(1:Int))) ((((((((true&&decide ((0:Int)≤s.tx∧s.tx≤2147483647))&&decide ((0:Int)≤s.time∧s.time≤16777215))&&decide ((1:Int)≤s.unit∧s.unit≤65536))&&decide ((0:Int)≤s.data∧s.data≤65536))&&decide ((2:Int)≤s.blocks∧s.blocks≤14400))&&decide ((1:Int)≤s.top∧s.top≤IntKind.i64.wrap (s.blocks-1)))&&decide ((1:Int)≤s.details∧s.details≤IntKind.i64.wrap (s.blocks-1)))&&decide ((1:Int)≤s.dslots∧s.dslots≤IntKind.i64.wrap (s.blocks-1))) _ (Nat.le_trans hBw b0.size) hBo a6 rfl f5) ?_
 rintro _ g3 ⟨g1,rfl,d7,a8,d2⟩
 have b5:=c8.only a8 (by decide)
 refine xb 22 4 b5 ?_
 have a5:=a6.only a8 (by decide)
 refine xb 9 4 a5 ?_
 have c5:=b0.trans d7
 refine xc 1 (args:=#[.pointer (some ⟨bs,9,none⟩),V0 1,V0 (IntKind.i64.wrap (s.blocks-(1:Int))),P0 bo]) (Xm B bs bo 9 _ s.mindex 1 (IntKind.i64.wrap (s.blocks-(1:Int))) (((((((((true&&decide ((0:Int)≤s.tx∧s.tx≤2147483647))&&decide ((0:Int)≤s.time∧s.time≤16777215))&&decide ((1:Int)≤s.unit∧s.unit≤65536))&&decide ((0:Int)≤s.data∧s.data≤65536))&&decide ((2:Int)≤s.blocks∧s.blocks≤14400))&&decide ((1:Int)≤s.top∧s.top≤IntKind.i64.wrap (s.blocks-1)))&&decide ((1:Int)≤s.details∧s.details≤IntKind.i64.wrap (s.blocks-1)))&&decide ((1:Int)≤s.dslots∧s.dslots≤IntKind.i64.wrap (s.blocks-1)))&&decide ((1:Int)≤s.dover∧s.dover≤IntKind.i64.wrap (s.blocks-1))) _ (Nat.le_trans hBw c5.size) hBo a5 rfl d2) ?_
 rintro _ g7 ⟨g2,rfl,d6,a4,d1⟩
 have c9:=b5.only a4 (by decide)
 refine xb 22 5 c9 ?_
 have a0:=a5.only a4 (by decide)
 refine xb 9 4 a0 ?_
 have a1:=c5.trans d6
 refine xc 1 (args:=#[.pointer (some ⟨bs,10,none⟩),V0 1,V0 (IntKind.i64.wrap (s.blocks-(1:Int))),P0 bo]) (Xm B bs bo 10 _ s.mover 1 (IntKind.i64.wrap (s.blocks-(1:Int))) ((((((((((true&&decide ((0:Int)≤s.tx∧s.tx≤2147483647))&&decide ((0:Int)≤s.time∧s.time≤16777215))&&decide ((1:Int)≤s.unit∧s.unit≤65536))&&decide ((0:Int)≤s.data∧s.data≤65536))&&decide ((2:Int)≤s.blocks∧s.blocks≤14400))&&decide ((1:Int)≤s.top∧s.top≤IntKind.i64.wrap (s.blocks-1)))&&decide ((1:Int)≤s.details∧s.details≤IntKind.i64.wrap (s.blocks-1)))&&decide ((1:Int)≤s.dslots∧s.dslots≤IntKind.i64.wrap (s.blocks-1)))&&decide ((1:Int)≤s.dover∧s.dover≤IntKind.i64.wrap (s.blocks-1)))&&decide ((1:Int)≤s.mindex∧s.mindex≤IntKind.i64.wrap (s.blocks-1))) _ (Nat.le_trans hBw a1.size) hBo a0 rfl d1) ?_
 rintro _ g8 ⟨g5,rfl,d3,d5,d0⟩
 have c6:=a1.trans d3
 have hO:=((((((((((((show Zf [4] w _ from e0).trans e2).trans e1).trans e4).trans e3).trans (Zf.of_below (Za W5))).trans (Zf.of_below n6.below)).trans d9).trans d8).trans d4).trans a8).trans a4).trans d5
 exact xe 19 (.tuple #[]) ⟨_,rfl,c6,hO,d0⟩
theorem sup_RightG(s:Sup)(w:World) :
 C0 34 #[.agg #[V0 s.tx,V0 s.time,V0 s.unit,V0 s.data,V0 s.blocks,V0 s.top,V0 s.details,V0 s.dslots,V0 s.dover,V0 s.mindex,V0 s.mover]] w (Ret (.bool (Zp s)) w):=by
 refine zin 7 Tryz.func34 ?_
 refine xa 2 [V0 s.tx,V0 s.time,V0 s.unit,V0 s.data,V0 s.blocks,V0 s.top,V0 s.details,V0 s.dslots,V0 s.dover,V0 s.mindex,V0 s.mover] 24 fun b1 W1 n1=>?_
 refine xa 5 [.bool false] 4 fun b2 W2 n2=>?_
 refine xs 0 n2.blk [.bool true] fun W3 u3 k3=>?_
 have g2:=n2.ge n1.below
 have hB:=u3.below (bln n1.below n2.below) g2
 have k1:=u3.blkT (n1.blk.below n2.below) n2.blk (by decide)
 refine xc 5 (args:=#[P0 b1,.func (.func 78) #[] #[P0 b2]]) (Sx w.heap.size b1 b2 s _ hB.size g2 k1 k3) ?_
 rintro _ W4 ⟨u4,rfl,a2,a3,a1⟩
 refine xb 4 0 a1 ?_
 have a0:=hB.trans a2
 exact xe 4 (.bool (rightZ s (IntKind.i64.wrap (s.blocks-1)))) ⟨by rw[rightZ_eq rfl],a0⟩
def Zdj(O:Kx)(w:World)(e:Ending)(w':World):Prop :=
 (O.2.2≠0∧∃ ty v,e=.returned (.tuple #[S0,.iface ty v])∧B3 w w'∧Hb w' (O.2.1.map some) (some O.2.2) (.iface ty v)) ∨
 (O.2.2=0∧∃ p c,e=.returned (.tuple #[.slice p O.1.length c,.nilIface])∧B3 w w'∧w'.ownsRow w.heap.size 76 3 (.slice p O.1.length c) O.1.length (O.1.flatMap lkC))
theorem Kt{O:Kx}{c:List Lk}{bl:List Int}{er:Int}{w W:World}{ty:TypeId}{v:Value}(h:O=(c,bl,er))(her:er≠0)(hb:B3 w W)(hv:Hb W (bl.map some) (some er) (.iface ty v)):Zdj O w (.returned (.tuple #[S0,.iface ty v])) W:=by
 subst h;exact .inl ⟨her,ty,v,rfl,hb,hv⟩
theorem linksP_ok{O:Kx}{c:List Lk}{m d:Nat}{p:O0}{w W:World}(h:O.2.2=0)(h1:O.1=c)(hm:c.length=m)(hb:B3 w W)(ho:W.ownsRow w.heap.size 76 3 (.slice p m d) m (c.flatMap lkC)):Zdj O w (.returned (.tuple #[.slice p m d,.nilIface])) W:=by
 subst h1 hm;exact .inr ⟨h,p,d,rfl,hb,ho⟩
theorem Oy{l:Bl}{s:Sup}(h:Zp s=false):Xr l s=([],[],1):=if_pos h
theorem Jd{l:Bl}{s:Sup}(h:Zp s=true):Xr l s=Qr (Xu l s.blocks.toNat (s.blocks.toNat+1)) [] (Az s):=by
 unfold Xr;rw[if_neg (by rw[h];decide)];rfl
theorem Jn.more{f:List Lk→Lk→Kx}{o c c':List Lk}{L:List Lk}(h:Jn f o L c){x:Lk}(hc:(f c x).1=c')(h2:(f c x).2.2=0):Jn f o (L++[x]) c':=hc▸h.next h2
theorem rightS_ge{s:Sup}(h:Zp s=true):0≤s.top∧0≤s.details∧0≤s.dslots∧0≤s.dover∧0≤s.mindex∧0≤s.mover:=by
 unfold Zp at h
 simp only[Bool.and_eq_true,decide_eq_true_eq,true_and] at h
 omega
theorem seenM_new{w W:World}{rm:Nat}(m:NewMV V0 w rm W):Uf rm [] W:=⟨[],m.map,fun k=>rfl⟩
theorem unt_nil(n:Nat):unt [] n≤n:=Zb8 [] n
theorem Zaf(Bi b:Nat)(pi:O0)(ni ci:Nat)(l:Bl)(s:Sup)(w:World)(hI:ImgR Bi b pi ni ci l w) :
 C0 6 #[P0 b,.agg #[V0 s.tx,V0 s.time,V0 s.unit,V0 s.data,V0 s.blocks,V0 s.top,V0 s.details,V0 s.dslots,V0 s.dover,V0 s.mindex,V0 s.mover]] w (Zdj (Xr l s) w):=by
 refine zin 55 Tryz.func6 ?_
 refine xa 2 [V0 s.tx,V0 s.time,V0 s.unit,V0 s.data,V0 s.blocks,V0 s.top,V0 s.details,V0 s.dslots,V0 s.dover,V0 s.mindex,V0 s.mover] 24 fun b1 W1 n1=>?_
 refine xlv 7 n1.blk.rp ?_
 refine xr 0 (args:=#[.agg #[V0 s.tx,V0 s.time,V0 s.unit,V0 s.data,V0 s.blocks,V0 s.top,V0 s.details,V0 s.dslots,V0 s.dover,V0 s.mindex,V0 s.mover]]) (sup_RightG s _) fun W2 k7=>?_
 refine xi 3 (!(Zp s)) (fun e6=>?_) (fun e6=>?_)
 ·have b4:Zp s=false:=Kb e6
  have hB:=bln n1.below k7
  refine xe 9 (.tuple #[S0,.iface 50 (V0 1)]) ?_
  exact Kt (bl:=[]) (Oy b4) (by decide) hB rfl
 have b4:Zp s=true:=Ka e6
 have s1:=Th b4
 have t1:=rightS_ge b4
 have r7:s.blocks=((s.blocks.toNat:Nat):Int):=(Int.toNat_of_nonneg (by omega)).symm
 have n8:Jn (Xu l s.blocks.toNat (s.blocks.toNat+1)) [] [] []:=Jn.nil _ _
 have u3:=unt_nil s.blocks.toNat
 have p0:s.blocks.toNat≤14400:=by omega
 have h3:=n1.blk.below k7
 refine xb 6 4 h3 ?_
 refine xmmV V0 0 72 fun rm W4 m4=>?_
 have hB:=bln n1.below k7
 have e5:=m4.ge hB
 refine xa 1 [P0 b,V0 s.blocks,.map (some rm),S0] 74 fun b5 W5 n5=>?_
 have f0:=bln hB m4.below
 have g5:=n5.ge f0
 have a5:=(h3.below m4.below).below n5.below
 refine xb 7 5 a5 ?_
 refine xb 2 6 a5 ?_
 refine xb 2 7 a5 ?_
 refine xb 2 8 a5 ?_
 refine xb 2 9 a5 ?_
 refine xb 2 10 a5 ?_
 refine xbs 1 6 [V0 0,V0 s.top,V0 1,V0 0,V0 s.details,V0 3,V0 0,V0 s.dslots,V0 4,V0 0,V0 s.dover,V0 5,V0 0,V0 s.mindex,V0 6,V0 0,V0 s.mover,V0 5] 76 fun b6 W6 n6=>?_
 have f3:=bln f0 n5.below
 have g6:=n6.ge f3
 refine xu 5 7 ?_
 refine xlv 14 (n6.blk.rpp 0 3) ?_
 refine xa 0 [V0 0,V0 0,V0 0] 76 fun b7 W7 n7=>?_
 have g1:=n7.ne n6.blk
 have f2:=bln f3 n6.below
 have g7:=n7.ge f2
 refine xsv 0 n7.blk [V0 0,V0 s.top,V0 1] fun W8 u8 k8=>?_
 refine xlv 5 k8.rp ?_
 have k5:=u8.blkT ((n5.blk.below n6.below).below n7.below) n7.blk (by decide)
 have hM:=((((seenM_new m4).below n5.below).below n6.below).below n7.below).updBlk u8 n7.blk
 have j5:=u8.blk (n6.blk.below n7.below) (Ne.symm (Ne.symm g1))
 have n0:=k5
 rw[r7] at n0
 have c0:=u8.below (bln f2 n7.below) g7
 refine xc 0 (args:=#[P0 b5,.agg #[V0 0,V0 s.top,V0 1]]) (Ln w.heap.size Bi b b5 rm b6 [V0 0,V0 s.top,V0 1,V0 0,V0 s.details,V0 3,V0 0,V0 s.dslots,V0 4,V0 0,V0 s.dover,V0 5,V0 0,V0 s.mindex,V0 6,V0 0,V0 s.mover,V0 5] pi ni ci l s.blocks.toNat (s.blocks.toNat+1) none 0 [] 0 s.top 1 _ ⟨hI.below c0,n0,(World.ownsRow_nil _ _ _ _),hM,c0.size,g5,e5,j5,(fun j hj=>(by cases hj))⟩ (by omega) (by omega) (by unfold Ql;first|(simp only[List.length_nil];omega)|(unfold Ql at hp0;omega)) (by decide) (by decide)) ?_
 rintro e W9 p9
 rcases p9 with ⟨a0,b2,vr,rfl,l8,p5,b0⟩|⟨a0,p7,r2,rfl,l8,p5,⟨_,m6,ho,hM,_,_,_,l9,f5⟩⟩
 ·have b8:=n8.bad (x:=(0,s.top,1,0)) a0 [(0,s.details,3,0),(0,s.dslots,4,0),(0,s.dover,5,0),(0,s.mindex,6,0),(0,s.mover,5,0)]
  have k3:=c0.trans l8
  refine xe 23 (.tuple #[S0,.iface b2 (vr)]) ?_
  exact Kt ((Jd b4).trans b8) a0 k3 b0
 obtain⟨c1,m5⟩:∃ c,(Xu l s.blocks.toNat (s.blocks.toNat+1) [] (0,s.top,1,0)).1=c:=⟨_,rfl⟩
 rw[m5] at ho hM m6 f5
 have k6:Jn (Xu l s.blocks.toNat (s.blocks.toNat+1)) [] [(0,s.top,1,0)] c1:=n8.more m5 a0
 have o2:=k6.well
 have r3:Ql s.blocks.toNat c1≤30000000:=by have:=o2.2;unfold Ql at this ⊢;simp only[List.length_cons,List.length_nil] at this;omega
 have t2:unt c1 s.blocks.toNat<s.blocks.toNat+1:=by have:=o2.1;omega
 refine xlv 32 (l9.rpp 3 3) ?_
 refine xa 0 [V0 0,V0 0,V0 0] 76 fun s7 s0 a7=>?_
 have d5:=a7.ne l9
 have i1:=c0.trans l8
 have r1:=a7.ge i1
 have d1:=Zn ho a7
 refine xsv 0 a7.blk [V0 0,V0 s.details,V0 3] fun s4 f7 r0=>?_
 refine xlv 5 r0.rp ?_
 have j7:=f7.own3 (Zb ho a7.below) d1
 have h0:=f7.blkT (m6.below a7.below) a7.blk (by decide)
 have l6:=(hM.below a7.below).updBlk f7 a7.blk
 have f8:=f7.blk (l9.below a7.below) (Ne.symm (Ne.symm d5))
 have b9:=f7.below (bln i1 a7.below) r1
 refine xc 0 (args:=#[P0 b5,.agg #[V0 0,V0 s.details,V0 3]]) (Ln w.heap.size Bi b b5 rm b6 [V0 0,V0 s.top,V0 1,V0 0,V0 s.details,V0 3,V0 0,V0 s.dslots,V0 4,V0 0,V0 s.dover,V0 5,V0 0,V0 s.mindex,V0 6,V0 0,V0 s.mover,V0 5] pi ni ci l s.blocks.toNat (s.blocks.toNat+1) p7 r2 c1 0 s.details 3 _ ⟨hI.below b9,h0,j7,l6,b9.size,g5,e5,f8,f5⟩ (by omega) (by omega) (by unfold Ql;first|(simp only[List.length_nil];omega)|(unfold Ql at r3;omega)) (by decide) (by decide)) ?_
 rintro e t3 m1
 rcases m1 with ⟨a0,b2,vr,rfl,d6,j0,b0⟩|⟨a0,p8,q0,rfl,d6,j0,⟨_,o3,ho,hM,_,_,_,k4,i2⟩⟩
 ·have b8:=k6.bad (x:=(0,s.details,3,0)) a0 [(0,s.dslots,4,0),(0,s.dover,5,0),(0,s.mindex,6,0),(0,s.mover,5,0)]
  have i4:=b9.trans d6
  refine xe 23 (.tuple #[S0,.iface b2 (vr)]) ?_
  exact Kt ((Jd b4).trans b8) a0 i4 b0
 obtain⟨c2,o6⟩:∃ c,(Xu l s.blocks.toNat (s.blocks.toNat+1) c1 (0,s.details,3,0)).1=c:=⟨_,rfl⟩
 rw[o6] at ho hM o3 i2
 have j9:Jn (Xu l s.blocks.toNat (s.blocks.toNat+1)) [] [(0,s.top,1,0),(0,s.details,3,0)] c2:=k6.more o6 a0
 have m7:=j9.well
 have p6:Ql s.blocks.toNat c2≤30000000:=by have:=m7.2;unfold Ql at this ⊢;simp only[List.length_cons,List.length_nil] at this;omega
 have u1:unt c2 s.blocks.toNat<s.blocks.toNat+1:=by have:=m7.1;omega
 refine xlv 32 (k4.rpp 6 3) ?_
 refine xa 0 [V0 0,V0 0,V0 0] 76 fun t6 s5 a9=>?_
 have d7:=a9.ne k4
 have g2:=b9.trans d6
 have p4:=a9.ge g2
 have e1:=Zn ho a9
 refine xsv 0 a9.blk [V0 0,V0 s.dslots,V0 4] fun s2 i0 p1=>?_
 refine xlv 5 p1.rp ?_
 have k1:=i0.own3 (Zb ho a9.below) e1
 have h4:=i0.blkT (o3.below a9.below) a9.blk (by decide)
 have j3:=(hM.below a9.below).updBlk i0 a9.blk
 have f4:=i0.blk (k4.below a9.below) (Ne.symm (Ne.symm d7))
 have a4:=i0.below (bln g2 a9.below) p4
 refine xc 0 (args:=#[P0 b5,.agg #[V0 0,V0 s.dslots,V0 4]]) (Ln w.heap.size Bi b b5 rm b6 [V0 0,V0 s.top,V0 1,V0 0,V0 s.details,V0 3,V0 0,V0 s.dslots,V0 4,V0 0,V0 s.dover,V0 5,V0 0,V0 s.mindex,V0 6,V0 0,V0 s.mover,V0 5] pi ni ci l s.blocks.toNat (s.blocks.toNat+1) p8 q0 c2 0 s.dslots 4 _ ⟨hI.below a4,h4,k1,j3,a4.size,g5,e5,f4,i2⟩ (by omega) (by omega) (by unfold Ql;first|(simp only[List.length_nil];omega)|(unfold Ql at p6;omega)) (by decide) (by decide)) ?_
 rintro e u7 j8
 rcases j8 with ⟨a0,b2,vr,rfl,d4,j6,b0⟩|⟨a0,r4,p2,rfl,d4,j6,⟨_,o4,ho,hM,_,_,_,l3,h7⟩⟩
 ·have b8:=j9.bad (x:=(0,s.dslots,4,0)) a0 [(0,s.dover,5,0),(0,s.mindex,6,0),(0,s.mover,5,0)]
  have g8:=a4.trans d4
  refine xe 23 (.tuple #[S0,.iface b2 (vr)]) ?_
  exact Kt ((Jd b4).trans b8) a0 g8 b0
 obtain⟨c3,e6⟩:∃ c,(Xu l s.blocks.toNat (s.blocks.toNat+1) c2 (0,s.dslots,4,0)).1=c:=⟨_,rfl⟩
 rw[e6] at ho hM o4 h7
 have l5:Jn (Xu l s.blocks.toNat (s.blocks.toNat+1)) [] [(0,s.top,1,0),(0,s.details,3,0),(0,s.dslots,4,0)] c3:=j9.more e6 a0
 have o1:=l5.well
 have q7:Ql s.blocks.toNat c3≤30000000:=by have:=o1.2;unfold Ql at this ⊢;simp only[List.length_cons,List.length_nil] at this;omega
 have u5:unt c3 s.blocks.toNat<s.blocks.toNat+1:=by have:=o1.1;omega
 refine xlv 32 (l3.rpp 9 3) ?_
 refine xa 0 [V0 0,V0 0,V0 0] 76 fun s8 t9 a6=>?_
 have d8:=a6.ne l3
 have c9:=a4.trans d4
 have o9:=a6.ge c9
 have e3:=Zn ho a6
 refine xsv 0 a6.blk [V0 0,V0 s.dover,V0 5] fun s9 g9 o7=>?_
 refine xlv 5 o7.rp ?_
 have i7:=g9.own3 (Zb ho a6.below) e3
 have h1:=g9.blkT (o4.below a6.below) a6.blk (by decide)
 have i9:=(hM.below a6.below).updBlk g9 a6.blk
 have h8:=g9.blk (l3.below a6.below) (Ne.symm (Ne.symm d8))
 have a2:=g9.below (bln c9 a6.below) o9
 refine xc 0 (args:=#[P0 b5,.agg #[V0 0,V0 s.dover,V0 5]]) (Ln w.heap.size Bi b b5 rm b6 [V0 0,V0 s.top,V0 1,V0 0,V0 s.details,V0 3,V0 0,V0 s.dslots,V0 4,V0 0,V0 s.dover,V0 5,V0 0,V0 s.mindex,V0 6,V0 0,V0 s.mover,V0 5] pi ni ci l s.blocks.toNat (s.blocks.toNat+1) r4 p2 c3 0 s.dover 5 _ ⟨hI.below a2,h1,i7,i9,a2.size,g5,e5,h8,h7⟩ (by omega) (by omega) (by unfold Ql;first|(simp only[List.length_nil];omega)|(unfold Ql at q7;omega)) (by decide) (by decide)) ?_
 rintro e u0 k0
 rcases k0 with ⟨a0,b2,vr,rfl,d0,j4,b0⟩|⟨a0,r5,q8,rfl,d0,j4,⟨_,o5,ho,hM,_,_,_,m2,g0⟩⟩
 ·have b8:=l5.bad (x:=(0,s.dover,5,0)) a0 [(0,s.mindex,6,0),(0,s.mover,5,0)]
  have h5:=a2.trans d0
  refine xe 23 (.tuple #[S0,.iface b2 (vr)]) ?_
  exact Kt ((Jd b4).trans b8) a0 h5 b0
 obtain⟨c4,m9⟩:∃ c,(Xu l s.blocks.toNat (s.blocks.toNat+1) c3 (0,s.dover,5,0)).1=c:=⟨_,rfl⟩
 rw[m9] at ho hM o5 g0
 have j1:Jn (Xu l s.blocks.toNat (s.blocks.toNat+1)) [] [(0,s.top,1,0),(0,s.details,3,0),(0,s.dslots,4,0),(0,s.dover,5,0)] c4:=l5.more m9 a0
 have n4:=j1.well
 have q3:Ql s.blocks.toNat c4≤30000000:=by have:=n4.2;unfold Ql at this ⊢;simp only[List.length_cons,List.length_nil] at this;omega
 have r8:unt c4 s.blocks.toNat<s.blocks.toNat+1:=by have:=n4.1;omega
 refine xlv 32 (m2.rpp 12 3) ?_
 refine xa 0 [V0 0,V0 0,V0 0] 76 fun s3 u9 b3=>?_
 have e2:=b3.ne m2
 have c7:=a2.trans d0
 have q5:=b3.ge c7
 have d9:=Zn ho b3
 refine xsv 0 b3.blk [V0 0,V0 s.mindex,V0 6] fun u6 h9 q6=>?_
 refine xlv 5 q6.rp ?_
 have l7:=h9.own3 (Zb ho b3.below) d9
 have e8:=h9.blkT (o5.below b3.below) b3.blk (by decide)
 have j2:=(hM.below b3.below).updBlk h9 b3.blk
 have i3:=h9.blk (m2.below b3.below) (Ne.symm (Ne.symm e2))
 have a3:=h9.below (bln c7 b3.below) q5
 refine xc 0 (args:=#[P0 b5,.agg #[V0 0,V0 s.mindex,V0 6]]) (Ln w.heap.size Bi b b5 rm b6 [V0 0,V0 s.top,V0 1,V0 0,V0 s.details,V0 3,V0 0,V0 s.dslots,V0 4,V0 0,V0 s.dover,V0 5,V0 0,V0 s.mindex,V0 6,V0 0,V0 s.mover,V0 5] pi ni ci l s.blocks.toNat (s.blocks.toNat+1) r5 q8 c4 0 s.mindex 6 _ ⟨hI.below a3,e8,l7,j2,a3.size,g5,e5,i3,g0⟩ (by omega) (by omega) (by unfold Ql;first|(simp only[List.length_nil];omega)|(unfold Ql at q3;omega)) (by decide) (by decide)) ?_
 rintro e t8 i5
 rcases i5 with ⟨a0,b2,vr,rfl,e0,l1,b0⟩|⟨a0,q4,q2,rfl,e0,l1,⟨_,m3,ho,hM,_,_,_,i8,h2⟩⟩
 ·have b8:=j1.bad (x:=(0,s.mindex,6,0)) a0 [(0,s.mover,5,0)]
  have f6:=a3.trans e0
  refine xe 23 (.tuple #[S0,.iface b2 (vr)]) ?_
  exact Kt ((Jd b4).trans b8) a0 f6 b0
 obtain⟨c5,m8⟩:∃ c,(Xu l s.blocks.toNat (s.blocks.toNat+1) c4 (0,s.mindex,6,0)).1=c:=⟨_,rfl⟩
 rw[m8] at ho hM m3 h2
 have i6:Jn (Xu l s.blocks.toNat (s.blocks.toNat+1)) [] [(0,s.top,1,0),(0,s.details,3,0),(0,s.dslots,4,0),(0,s.dover,5,0),(0,s.mindex,6,0)] c5:=j1.more m8 a0
 have n9:=i6.well
 have r6:Ql s.blocks.toNat c5≤30000000:=by have:=n9.2;unfold Ql at this ⊢;simp only[List.length_cons,List.length_nil] at this;omega
 have r9:unt c5 s.blocks.toNat<s.blocks.toNat+1:=by have:=n9.1;omega
 refine xlv 32 (i8.rpp 15 3) ?_
 refine xa 0 [V0 0,V0 0,V0 0] 76 fun t0 t5 a8=>?_
 have d2:=a8.ne i8
 have c8:=a3.trans e0
 have q9:=a8.ge c8
 have e4:=Zn ho a8
 refine xsv 0 a8.blk [V0 0,V0 s.mover,V0 5] fun s6 h6 p3=>?_
 refine xlv 5 p3.rp ?_
 have l0:=h6.own3 (Zb ho a8.below) e4
 have f9:=h6.blkT (m3.below a8.below) a8.blk (by decide)
 have k2:=(hM.below a8.below).updBlk h6 a8.blk
 have g3:=h6.blk (i8.below a8.below) (Ne.symm (Ne.symm d2))
 have a1:=h6.below (bln c8 a8.below) q9
 refine xc 0 (args:=#[P0 b5,.agg #[V0 0,V0 s.mover,V0 5]]) (Ln w.heap.size Bi b b5 rm b6 [V0 0,V0 s.top,V0 1,V0 0,V0 s.details,V0 3,V0 0,V0 s.dslots,V0 4,V0 0,V0 s.dover,V0 5,V0 0,V0 s.mindex,V0 6,V0 0,V0 s.mover,V0 5] pi ni ci l s.blocks.toNat (s.blocks.toNat+1) q4 q2 c5 0 s.mover 5 _ ⟨hI.below a1,f9,l0,k2,a1.size,g5,e5,g3,h2⟩ (by omega) (by omega) (by unfold Ql;first|(simp only[List.length_nil];omega)|(unfold Ql at r6;omega)) (by decide) (by decide)) ?_
 rintro e t7 l4
 rcases l4 with ⟨a0,b2,vr,rfl,d3,k9,b0⟩|⟨a0,o8,q1,rfl,d3,k9,⟨_,o0,ho,hM,_,_,_,t4,l2⟩⟩
 ·have b8:=i6.bad (x:=(0,s.mover,5,0)) a0 []
  have f1:=a1.trans d3
  refine xe 23 (.tuple #[S0,.iface b2 (vr)]) ?_
  exact Kt ((Jd b4).trans b8) a0 f1 b0
 obtain⟨c6,n3⟩:∃ c,(Xu l s.blocks.toNat (s.blocks.toNat+1) c5 (0,s.mover,5,0)).1=c:=⟨_,rfl⟩
 rw[n3] at ho hM o0 l2
 have m0:Jn (Xu l s.blocks.toNat (s.blocks.toNat+1)) [] [(0,s.top,1,0),(0,s.details,3,0),(0,s.dslots,4,0),(0,s.dover,5,0),(0,s.mindex,6,0),(0,s.mover,5,0)] c6:=i6.more n3 a0
 have n2:=m0.well
 have u4:Ql s.blocks.toNat c6≤30000000:=by have:=n2.2;unfold Ql at this ⊢;simp only[List.length_cons,List.length_nil] at this;omega
 have u2:unt c6 s.blocks.toNat<s.blocks.toNat+1:=by have:=n2.1;omega
 refine xb 35 3 o0 ?_
 have e7:=a1.trans d3
 refine xe 5 (.tuple #[.slice o8 c6.length q1,.nilIface]) ?_
 have e9:=Jd (l:=l) b4
 exact linksP_ok (by rw[e9];exact m0.1) (by rw[e9];exact m0.2) rfl e7 ho
theorem Zf8(B bm:Nat)(p:O0)(k c:Nat)(l:Bl)(no:Int)(w:World)(hI:RefI B bm p k c l w) :
 C0 84 #[P0 bm,V0 no] w (fun e w' =>
 (Xn l no≠0∧∃ p c a c2,e=.returned (.tuple #[.slice p 0 c,.agg #[.slice a 1 c2,V0 (Xn l no)]])∧B3 w w'∧w'.ownsRow w.heap.size 3 1 (.slice a 1 c2) 1 (([no]:List Int).map V0)) ∨
 (Xn l no=0∧∃ p c a c2,e=.returned (.tuple #[.slice p (Zb3 l no).length c,.agg #[.slice a 0 c2,V0 0]])∧B3 w w'∧w'.ownsRow w.heap.size 3 1 (.slice p (Zb3 l no).length c) (Zb3 l no).length ((Zb3 l no).map V0))):=by
 refine(ref11_Bits B bm p k c l no w hI).mono ?_
 rintro e W ⟨p,c,a5,c5,rfl,hb,ho,hf⟩
 by_cases h:Xn l no=0
 ·refine .inr ⟨h,p,c,a5,c5,?_,hb,ho⟩
  rw[h];rfl
 ·refine .inl ⟨h,p,c,a5,c5,?_,hb,?_⟩
  ·rw[Zbt h,Cx h];rfl
  ·rw[Cx h] at hf;exact hf
theorem Zcp(B bm:Nat)(p:O0)(k c:Nat)(l:Bl)(no:Int)(w:World)(hI:RefI B bm p k c l w) :
 C0 85 #[P0 bm,V0 no] w (fun e w' =>
 (Xy l no≠0∧∃ p c a c2,e=.returned (.tuple #[.slice p 0 c,.agg #[.slice a 1 c2,V0 (Xy l no)]])∧B3 w w'∧w'.ownsRow w.heap.size 3 1 (.slice a 1 c2) 1 (([no]:List Int).map V0)) ∨
 (Xy l no=0∧∃ p c a c2,e=.returned (.tuple #[.slice p (Vz l no).length c,.agg #[.slice a 0 c2,V0 0]])∧B3 w w'∧w'.ownsRow w.heap.size 134 3 (.slice p (Vz l no).length c) (Vz l no).length ((Vz l no).flatMap Zfq))):=by
 refine(Zfw B bm p k c l no w hI).mono ?_
 rintro e W ⟨p,c,a5,c5,rfl,hb,ho,hf⟩
 by_cases h:Xy l no=0
 ·refine .inr ⟨h,p,c,a5,c5,?_,hb,ho⟩
  rw[h];rfl
 ·refine .inl ⟨h,p,c,a5,c5,?_,hb,?_⟩
  ·rw[Rj h,Cx h];rfl
  ·rw[Cx h] at hf;exact hf
def wkC (x:Lk):List Value:=[V0 x.1,V0 x.2.1,V0 x.2.2.1,V0 x.2.2.2]
theorem Zbi(x:Lk):(wkC x).length=4:=rfl
theorem wk_one(ts:List Lk):∀ u∈ts.flatMap wkC,u.oneCell'=true:=by
 intro u hu
 obtain⟨t,_,h⟩:=List.mem_flatMap.1 hu
 simp only[wkC,List.mem_cons,List.not_mem_nil,or_false] at h
 rcases h with rfl|rfl|rfl|rfl<;>rfl
def lrC (x:Lk):List Value:=[V0 x.1,V0 x.2.1,V0 x.2.2.1]
theorem lrC_len(x:Lk):(lrC x).length=3:=rfl
def lkD:Lk:=(0,0,0,0)
def Zc1(B:Nat)(w:World)(a:O0)(c:Nat)(ts:List Lk):Prop:=∃ v0 n0 xs0,w.ownsRow B 83 4 v0 n0 xs0∧∀ W,W.ownsRow B 83 4 v0 n0 xs0→Sts wkC W (.slice a ts.length c) ts
theorem Zc1.below{B:Nat}{w W:World}{a:O0}{c:Nat}{ts:List Lk}(h:Zc1 B w a c ts)(hb:B3 w W):Zc1 B W a c ts:=by
 obtain⟨v0,n0,a0,h1,h2⟩:=h
 exact⟨v0,n0,a0,Zb h1 hb,h2⟩
theorem Zc1.sts{B:Nat}{w:World}{a:O0}{c:Nat}{ts:List Lk}(h:Zc1 B w a c ts):Sts wkC w (.slice a ts.length c) ts:=by
 obtain⟨v0,n0,a0,h1,h2⟩:=h
 exact h2 w h1
theorem Zc1.of{B:Nat}{w:World}{a:O0}{n c:Nat}{ts:List Lk}(h:w.ownsRow B 83 4 (.slice a n c) n (ts.flatMap wkC))(hn:n=ts.length):Zc1 B w a c ts:=by
 subst hn
 exact⟨_,_,_,h,fun W k=>Ze k⟩
theorem Zc1.tail{B:Nat}{w:World}{a:O0}{c:Nat}{t:Lk}{ts:List Lk}(h:Zc1 B w a c (t::ts)):Zc1 B w (Qu a 1 c 4) (c-1) ts:=by
 obtain⟨v0,n0,a0,h1,h2⟩:=h
 exact⟨v0,n0,a0,h1,fun W k=>Sts.cut Zbi (h2 W k) 1 (by simp)⟩
def Wr(B N:Nat)(w:World)(a:O0)(c:Nat)(ts:List Lk):Prop:=∃ v0 n0 xs0,w.ownsRow B 83 4 v0 n0 xs0∧(∀ j,v0.ownBlock=some j→j<N)∧∀ W,W.ownsRow B 83 4 v0 n0 xs0→Sts wkC W (.slice a ts.length c) ts
theorem Zc1.at_{B:Nat}{w:World}{a:O0}{c:Nat}{ts:List Lk}(h:Zc1 B w a c ts):Wr B w.heap.size w a c ts:=by
 obtain⟨v0,n0,a0,h1,h2⟩:=h
 exact⟨v0,n0,a0,h1,fun j hj=>(h1.lt j hj).2,h2⟩
theorem Wr.un{B N:Nat}{w:World}{a:O0}{c:Nat}{ts:List Lk}(h:Wr B N w a c ts):Zc1 B w a c ts:=by
 obtain⟨v0,n0,a0,h1,_,h2⟩:=h
 exact⟨v0,n0,a0,h1,h2⟩
theorem Wr.below{B N:Nat}{w W:World}{a:O0}{c:Nat}{ts:List Lk}(h:Wr B N w a c ts)(hb:B3 w W):Wr B N W a c ts:=by
 obtain⟨v0,n0,a0,h1,h3,h2⟩:=h
 exact⟨v0,n0,a0,Zb h1 hb,h3,h2⟩
theorem Wr.only{B N:Nat}{w W:World}{a:O0}{c:Nat}{ts:List Lk}{T:List TypeId}(h:Wr B N w a c ts)(hO:Zf T w W)(hT:T.contains 83=false):Wr B N W a c ts:=by
 obtain⟨v0,n0,a0,h1,h3,h2⟩:=h
 exact⟨v0,n0,a0,Zj h1 hO hT,h3,h2⟩
theorem Wr.updN{B N:Nat}{w w0 W W2:World}{b:Nat}{cs:List Value}{e:TypeId}{a:O0}{c:Nat}{ts:List Lk}(h:Wr B N w a c ts)(u:Upd w b W)(n:New w0 b cs e W2)(hN:N≤w0.heap.size):Wr B N W a c ts:=by
 obtain⟨v0,n0,a0,h1,h3,h2⟩:=h
 exact⟨v0,n0,a0,u.own3 h1 (fun j hj=>by have:=h3 j hj;have:=n.at_;omega),h3,h2⟩
theorem sufk_eq{w:World}{a:O0}{c:Nat}{ts us:List Lk}(h:Sts wkC w (.slice a ts.length c) ts)(e:ts=us):Sts wkC w (.slice a us.length c) us:=by subst e;exact h
theorem Wr.sts{B N:Nat}{w:World}{a:O0}{c:Nat}{ts us:List Lk}(h:Wr B N w a c ts)(e:ts=us):Sts wkC w (.slice a us.length c) us:=sufk_eq h.un.sts e
theorem Wr.tail{B N:Nat}{w:World}{a:O0}{c:Nat}{ts us:List Lk}{t:Lk}(h:Wr B N w a c ts)(e:ts=t::us):Zc1 B w (Qu a 1 c 4) (c-1) us:=by subst e;exact h.un.tail
theorem Wr.slN{B N:Nat}{w:World}{a:O0}{c:Nat}{ts us:List Lk}{t:Lk}(h:Wr B N w a c ts)(e:ts=t::us):Sl w (.slice (Qu a 1 c 4) (ts.length-1) (c-1)) (ts.length-1) (us.flatMap wkC):=by subst e;exact h.un.tail.sts
def RHasK(l:Bl)(no ak:Int)(w:World)(e:Ending)(w':World):Prop :=
 (Wx l no ak≠0∧∃ p m c a d,e=.returned (.tuple #[.slice p m c,.agg #[.slice a 1 d,V0 (Wx l no ak)]])∧B3 w w'∧w'.ownsRow w.heap.size 3 1 (.slice a 1 d) 1 (([no]:List Int).map V0)) ∨
 (Wx l no ak=0∧∃ p c a d,e=.returned (.tuple #[.slice p (Mc l no ak).length c,.agg #[.slice a 0 d,V0 0]])∧B3 w w'∧w'.ownsRow w.heap.size 83 4 (.slice p (Mc l no ak).length c) (Mc l no ak).length ((Mc l no ak).flatMap wkC))
theorem Rp{l:Bl}{no ak er:Int}{w W:World}{p a:O0}{m c d:Nat}(h:Wx l no ak=er)(her:er≠0)(hb:B3 w W)(ho:W.ownsRow w.heap.size 3 1 (.slice a 1 d) 1 (([no]:List Int).map V0)):RHasK l no ak w (.returned (.tuple #[.slice p m c,.agg #[.slice a 1 d,V0 er]])) W:=by
 subst h;exact .inl ⟨her,p,m,c,a,d,rfl,hb,ho⟩
theorem Zaw{l:Bl}{no ak:Int}{L:List Lk}{n:Nat}{w W:World}{p a:O0}{c d:Nat}(h:Wx l no ak=0)(hL:Mc l no ak=L)(hn:L.length=n)(hb:B3 w W)(ho:W.ownsRow w.heap.size 83 4 (.slice p n c) n (L.flatMap wkC)):RHasK l no ak w (.returned (.tuple #[.slice p n c,.agg #[.slice a 0 d,V0 0]])) W:=by
 subst hL hn;exact .inr ⟨h,p,c,a,d,rfl,hb,ho⟩
theorem hasE_6K(l:Bl)(no:Int):Wx l no 6=Xy l no:=if_pos rfl
theorem hasE_7K(l:Bl)(no:Int):Wx l no 7=Xn l no:=by unfold Wx;rw[if_neg (by decide),if_pos rfl]
theorem hasE_nK{l:Bl}{no t:Int}(h6:t≠6)(h7:t≠7):Wx l no t=Xl l no t:=by unfold Wx;rw[if_neg h6,if_neg h7]
theorem hasJ_6K(l:Bl)(no:Int):Mc l no 6=(Vz l no).map (Fh no):=if_pos rfl
theorem hasJ_7K(l:Bl)(no:Int):Mc l no 7=[]:=by unfold Mc;rw[if_neg (by decide),if_pos rfl]
theorem hasJ_nK{l:Bl}{no t:Int}(h6:t≠6)(h7:t≠7):Mc l no t=Zea l no:=by unfold Mc;rw[if_neg h6,if_neg h7]
theorem Ho(l:Bl)(no:Int):(Vy l no).length=Xh (inB l no):=by unfold Vy;exact Uw _ _
theorem Oa{l:Bl}{no:Int}{i:Nat}(h:Nc (Xz (inB l no)) (Yi (inB l no))):Vo l no (i+1)=Vo l no i:=by unfold Vo;rw[if_pos h,if_pos h]
theorem takeJ_full{l:Bl}{no:Int}{i:Nat}(h:i=(Vy l no).length):Vo l no i=Zea l no:=by subst h;exact Zee l no
theorem Zfk{no t:Int}{leaf:Bool}{v:Bl}(h:leaf=true)(h4:t=4):wkC (Uz no t leaf v)=[V0 no,V0 (((Yo Xk v).getD 0 0:Nat):Int),V0 7,V0 (Ye Xk v)]:=by
 unfold Uz;rw[if_pos ⟨h,h4⟩];rfl
theorem Zba{no t:Int}{leaf:Bool}{v:Bl}(h:leaf=true)(h4:t≠4):wkC (Uz no t leaf v)=[V0 no,V0 (Ji v:Int),V0 2,V0 (Kv v)]:=by
 unfold Uz;rw[if_neg (fun q=>h4 q.2),if_pos h];rfl
theorem Zbo{no t:Int}{leaf:Bool}{v:Bl}(h:leaf=false):wkC (Uz no t leaf v)=[V0 no,V0 (Ji v:Int),V0 t,V0 (Kv v)]:=by
 unfold Uz;rw[if_neg (fun q=>by rw[h] at q;exact absurd q.1 (by decide)),h];rfl
theorem sltK_flat(no:Int)(L:List (Nat×Nat×Nat)){i:Nat}(hi:i<L.length):((L.take (i+1)).map (Fh no)).flatMap wkC=((L.take i).map (Fh no)).flatMap wkC++[V0 no,V0 ((L.getD i (0,0,0)).1:Int),V0 7,V0 0]:=by
 rw[Zdq hi,List.flatMap_append];simp[Fh,wkC]
theorem toldK_at{out:List Lk}{no:Int}{i:Nat}(hi:i<out.length)(h:(out.getD i lkD).2.1=no):Vg out no=true:=by
 unfold Vg
 rw[List.any_eq_true]
 exact⟨out.getD i lkD,by rw[show out.getD i lkD=out[i] from by simp[List.getD,hi]];exact List.getElem_mem hi,by simpa using h⟩
theorem toldK_none{out:List Lk}{no:Int}(h:∀ i,i<out.length→(out.getD i lkD).2.1≠no):Vg out no=false:=by
 unfold Vg
 rw[List.any_eq_false]
 intro x hx
 obtain⟨i,hi,rfl⟩:=List.mem_iff_getElem.1 hx
 have:=h i hi
 rw[show out.getD i lkD=out[i] from by simp[List.getD,hi]] at this
 simpa using this
theorem ref47_told(pl:O0)(cl:Nat)(out:List Lk)(no:Int)(w:World)(hL:Sts lrC w (.slice pl out.length cl) out) :
 C0 39 #[.slice pl out.length cl,V0 no] w (Ret (.bool (Vg out no)) w):=by
 have a6:=Sl.len hL
 refine zin 19 Tryz.func39 ?_
 have hB:=Below.refl w.heap.size w
 refine zl 12 19 (fun zm a4 V=>∃ (i:Nat),a4=[(0,.slice pl out.length cl),(1,V0 no),(5,V0 (i:Int))]∧zm=out.length-((i:Int)).toNat∧B3 w V∧i≤out.length∧(∀ j,j<i→(out.getD j lkD).2.1≠no)) ⟨0,rfl,rfl,hB,Nat.zero_le _,?_⟩ ?_
 ·exact fun j hj=>absurd hj (by omega)
 rintro _ _ W1 ⟨i,rfl,rfl,a0,hi,a1⟩ J1 a5 r1
 refine xid 9 ((i:Int)<(out.length:Int)) (fun a3=>?_) (fun a3=>?_)
 ·refine xx 8 _ out.length i 3 (Sts.cell (f:=lrC) hL lrC_len lkD (k:=i) (i:=0) (by omega) rfl).1 ?_
  refine xl 1 ((Sts.cell (hL.below a0) lrC_len lkD (k:=i) (i:=1) (by omega) rfl).2) ?_
  refine xie 4 ((out.getD i lkD).2.1) no (fun a2=>?_) (fun a2=>?_)
  ·exact xe 11 (.bool true) ⟨by rw[toldK_at (i:=i) (by omega) (by assumption)],a0⟩
  refine xwm 5 ((i:Int)+1) (↑(i+1):Int) ?_
  exact ze 2 (a5 _ _ _ ⟨i+1,rfl,rfl,a0,by omega,(fun j hj=>by rcases Nat.lt_succ_iff_lt_or_eq.1 hj with q|q;exact a1 j q;subst q;assumption)⟩ (by omega))
 exact xe 11 (.bool false) ⟨by rw[toldK_none (fun j hj=>a1 j (by omega))],a0⟩
theorem ref47_has6(B bm:Nat)(p:O0)(k c:Nat)(l:Bl)(no:Int)(w:World)(hI:RefI B bm p k c l w) :
 C0 40 #[P0 bm,V0 no,V0 6] w (RHasK l no 6 w):=by
 refine zin 142 Tryz.func40 ?_
 refine xa 3 [S0,V0 0] 36 fun b1 W1 n1=>?_
 refine xc 29 (args:=#[P0 bm,V0 no]) (Zcp B bm p k c l no _ (hI.below n1.below)) ?_
 rintro e W2 e6
 rcases e6 with ⟨d1,p9,c9,a9,d9,rfl,b4,e4⟩|⟨d1,p9,c9,a9,d9,rfl,b4,hs⟩
 ·refine xa 3 [S0,V0 0] 36 fun b3 W3 n3=>?_
  have k1:=n1.blk.below b4
  have b9:=n3.ne k1
  have b7:=bln n1.below b4
  have g3:=n3.ge b7
  refine xsv 1 n3.blk [.slice a9 1 d9,V0 (Xy l no)] fun W4 u4 k4=>?_
  refine xu 9 1 ?_
  refine xd 16 (.t w.heap.size [36]) ?_
  have d5:=k4.below (Za W4)
  refine xlv (.o [0,2] 1) d5.rp ?_
  have b0:=(u4.blk (k1.below n3.below) (Ne.symm (Ne.symm b9))).below (Za W4)
  have g1:=n1.ge (B4 w)
  refine ysv (.o [] 3) b0 [.slice a9 1 d9,V0 (Xy l no)] (.t w.heap.size [36]) fun W5 u5 k5=>⟨(Zl u5 b0 g1 (by decide)),?_⟩
  have c2:=u5.own2 (Zb (u4.own2 (Zb (Zd e4 n1.below.size) n3.below) n3.blk (by decide)) (Za W4)) b0 (by decide)
  have c6:=u5.below (bln (u4.below (bln b7 n3.below) g3) (Za W4)) g1
  exact xec 4 k5 (.tuple #[S0,.agg #[.slice a9 1 d9,V0 (Xy l no)]]) (Rp (hasE_6K l no) d1 c6 c2)
 have e2:=Zby l no
 refine xa 3 [S0,V0 0] 36 fun b6 W6 n6=>?_
 have k1:=n1.blk.below b4
 have c1:=n6.ne k1
 have b8:=bln n1.below b4
 have g6:=n6.ge b8
 refine xsv 1 n6.blk [.slice a9 0 d9,V0 0] fun W7 u7 k7=>?_
 have d3:=u7.own2 (Zb (Zd hs n1.below.size) n6.below) n6.blk (by decide)
 have c7:=u7.below (bln b8 n6.below) g6
 have d0:=u7.blk (k1.below n6.below) (Ne.symm (Ne.symm c1))
 refine zl 9 142 (fun zm d7 V=>∃ (i:Nat) (pz:O0) (cz:Nat),d7=[(0,P0 bm),(1,V0 no),(2,V0 6),(6,S0),(7,P0 b1),(8,.slice pz i cz),(11,.slice p9 ((Vz l no).length) c9),(12,P0 b6),(13,V0 (i:Int))]∧zm=(Vz l no).length-((i:Int)).toNat∧B3 w V∧Blk V b1 ([S0,V0 0]) 36∧Blk V b6 ([.slice a9 0 d9,V0 0]) 36∧V.ownsRow w.heap.size 134 3 (.slice p9 (Vz l no).length c9) (Vz l no).length ((Vz l no).flatMap Zfq)∧V.ownsRow w.heap.size 83 4 (.slice pz i cz) i ((((Vz l no).take i).map (Fh no)).flatMap wkC)∧i≤(Vz l no).length) ⟨0,none,0,rfl,rfl,c7,d0,k7,d3,World.ownsRow_nil _ _ _ _,Nat.zero_le _⟩ ?_
 rintro _ _ W8 ⟨i,pz,cz,rfl,rfl,b2,a7,a6,hs,ho,hi⟩ J8 e5 r8
 refine xid 9 ((i:Int)<(↑((Vz l no).length):Int)) (fun e1=>?_) (fun e1=>?_)
 ·refine xx 9 _ ((Vz l no).length) i 3 (Sts.cell (f:=Zfq) (Ze hs) Rg (0,0,0) (k:=i) (i:=0) (by omega) rfl).1 ?_
  refine xl 1 ((Sts.cell (Ze hs) Rg (0,0,0) (k:=i) (i:=0) (by omega) rfl).2) ?_
  refine xbs 2 1 [V0 no,V0 (↑((Vz l no).getD i (0,0,0)).1:Int),V0 7,V0 0] 83 fun e8 e9 a5=>?_
  have e7:=a5.ge b2
  have c4:=Zn ho a5
  have a2:=Zb ho a5.below
  have c0:=bln b2 a5.below
  refine xbi 0 fun _ _ _ _ zJ zQ zo zx zy zK=>Zr (m:=1) (news:=[V0 no,V0 (↑((Vz l no).getD i (0,0,0)).1:Int),V0 7,V0 0]) (.agg #[V0 0,V0 0,V0 0,V0 0]) 4 32 (i+1) (((((Vz l no).take (i+1)).map (Fh no)).flatMap wkC)) zo Tryz.underlying84 (by kernel_rfl) rfl (by decide) zx a2 zy (a5.blk.sl 1 1 (by decide) (by decide)) rfl (by simp[Value.oneCell']) (by unfold maxLen;omega) (by omega) c0.size (rfl) (by rw[sltK_flat no _ (by omega)]) fun e0 d8 f0 e3 a8 d2=>?_
  refine zK _ _ ?_
  refine xwm 6 ((i:Int)+1) (↑(i+1):Int) ?_
  have c5:=c0.trans d2
  have a1:=(a7.below a5.below).grown a8 a2 (by decide)
  have a3:=(a6.below a5.below).grown a8 a2 (by decide)
  have c3:=Xj (Zb hs a5.below) a8 a2 (by decide)
  exact ze 2 (e5 _ _ _ ⟨i+1,_,_,rfl,rfl,c5,a1,a3,c3,e3,by omega⟩ (by omega))
 refine xd 6 (.t w.heap.size [36]) ?_
 have a4:=a6.below (Za W8)
 refine xlv (.o [0,2] 1) a4.rp ?_
 have a0:=a7.below (Za W8)
 have g1:=n1.ge (B4 w)
 refine ysv (.o [] 3) a0 [.slice a9 0 d9,V0 0] (.t w.heap.size [36]) fun f1 c8 d6=>⟨(Zl c8 a0 g1 (by decide)),?_⟩
 have b5:=c8.own2 (Zb ho (Za W8)) a0 (by decide)
 have d4:=c8.below (bln b2 (Za W8)) g1
 refine xec 4 d6 (.tuple #[.slice pz i cz,.agg #[.slice a9 0 d9,V0 0]]) ?_
 obtain rfl:i=(Vz l no).length:=by omega
 rw[List.take_length] at b5
 exact Zaw ((hasE_6K l no).trans d1) (hasJ_6K l no) (List.length_map _) d4 b5
theorem ref47_has7(B bm:Nat)(p:O0)(k c:Nat)(l:Bl)(no:Int)(w:World)(hI:RefI B bm p k c l w) :
 C0 40 #[P0 bm,V0 no,V0 7] w (RHasK l no 7 w):=by
 refine zin 142 Tryz.func40 ?_
 refine xa 3 [S0,V0 0] 36 fun b1 W1 n1=>?_
 refine xc 19 (args:=#[P0 bm,V0 no]) (Zf8 B bm p k c l no _ (hI.below n1.below)) ?_
 rintro e W2 b7
 rcases b7 with ⟨a8,p9,c9,a9,d9,rfl,a1,b8⟩|⟨a8,p9,c9,a9,d9,rfl,a1,hs⟩
 ·refine xa 3 [S0,V0 0] 36 fun b3 W3 n3=>?_
  have k1:=n1.blk.below a1
  have a5:=n3.ne k1
  have a6:=bln n1.below a1
  have g3:=n3.ge a6
  refine xsv 1 n3.blk [.slice a9 1 d9,V0 (Xn l no)] fun W4 u4 k4=>?_
  refine xd 3 (.t w.heap.size [36]) ?_
  have b4:=k4.below (Za W4)
  refine xlv (.o [1] 0) b4.rp ?_
  have a0:=(u4.blk (k1.below n3.below) (Ne.symm (Ne.symm a5))).below (Za W4)
  have g1:=n1.ge (B4 w)
  refine ysv (.o [] 2) a0 [.slice a9 1 d9,V0 (Xn l no)] (.t w.heap.size [36]) fun W5 u5 k5=>⟨(Zl u5 a0 g1 (by decide)),?_⟩
  have a7:=u5.own2 (Zb (u4.own2 (Zb (Zd b8 n1.below.size) n3.below) n3.blk (by decide)) (Za W4)) a0 (by decide)
  have b0:=u5.below (bln (u4.below (bln a6 n3.below) g3) (Za W4)) g1
  exact xec 4 k5 (.tuple #[S0,.agg #[.slice a9 1 d9,V0 (Xn l no)]]) (Rp (hasE_7K l no) a8 b0 a7)
 refine xa 3 [S0,V0 0] 36 fun b6 W6 n6=>?_
 have k1:=n1.blk.below a1
 have a3:=n6.ne k1
 have a4:=bln n1.below a1
 have g6:=n6.ge a4
 refine xsv 1 n6.blk [.slice a9 0 d9,V0 0] fun W7 u7 k7=>?_
 refine xd 3 (.t w.heap.size [36]) ?_
 have b5:=k7.below (Za W7)
 refine xlv (.o [1] 0) b5.rp ?_
 have a2:=(u7.blk (k1.below n6.below) (Ne.symm (Ne.symm a3))).below (Za W7)
 have g1:=n1.ge (B4 w)
 refine ysv (.o [] 2) a2 [.slice a9 0 d9,V0 0] (.t w.heap.size [36]) fun W8 u8 k8=>⟨(Zl u8 a2 g1 (by decide)),?_⟩
 have b2:=u8.below (bln (u7.below (bln a4 n6.below) g6) (Za W7)) g1
 exact xec 4 k8 (.tuple #[S0,.agg #[.slice a9 0 d9,V0 0]]) (Zaw (n:=0) ((hasE_7K l no).trans a8) (hasJ_7K l no) rfl b2 (World.ownsRow_nil _ _ _ _))
theorem ref47_hasN(B bm:Nat)(p:O0)(k c:Nat)(l:Bl)(no t:Int)(w:World)(hI:RefI B bm p k c l w)(h6:t≠6)(h7:t≠7) :
 C0 40 #[P0 bm,V0 no,V0 t] w (RHasK l no t w):=by
 refine zin 142 Tryz.func40 ?_
 refine xa 3 [S0,V0 0] 36 fun b1 W1 n1=>?_
 refine xk 14 (show((t==(7:Int)):Bool)=false from beq_false_of_ne h7) ?_
 refine xk 9 (show((t==(6:Int)):Bool)=false from beq_false_of_ne h6) ?_
 refine xc 7 (args:=#[P0 bm,V0 no,V0 t]) (ref11_Node B bm p k c l no t _ (hI.below n1.below)) ?_
 rintro e W2 k0
 rcases k0 with ⟨h4,a9,d9,rfl,g7,l6⟩|⟨h4,kp,kc,vp,vc,rfl,g7,o0,b2⟩
 ·refine xa 3 [V0 0,.bool false,S0,S0] 181 fun b3 W3 n3=>?_
  have e7:=bln n1.below g7
  have g3:=n3.ge e7
  refine xa 0 [S0,V0 0] 36 fun b4 W4 n4=>?_
  have k1:=(n1.blk.below g7).below n3.below
  have h1:=n4.ne k1
  have f0:=bln e7 n3.below
  have g4:=n4.ge f0
  have k3:=n3.blk.below n4.below
  refine xsv 0 k3 [V0 0,.bool false,S0,S0] fun W5 u5 k5=>?_
  have k4:=u5.blkT n4.blk k3 (by decide)
  refine xsv 0 k4 [.slice a9 1 d9,V0 (Xl l no t)] fun W6 u6 k6=>?_
  refine xu 9 1 ?_
  have i0:=u6.blkT k5 k4 (by decide)
  refine xb 5 3 i0 ?_
  refine xd 11 (.t w.heap.size [36]) ?_
  have i6:=k6.below (Za W6)
  refine xlv (.o [0,2] 1) i6.rp ?_
  have e2:=(u6.blk (u5.blkT (k1.below n4.below) k3 (by decide)) (Ne.symm (Ne.symm h1))).below (Za W6)
  have g1:=n1.ge (B4 w)
  refine ysv (.o [] 3) e2 [.slice a9 1 d9,V0 (Xl l no t)] (.t w.heap.size [36]) fun W7 u7 k7=>⟨(Zl u7 e2 g1 (by decide)),?_⟩
  have h2:=u7.own2 (Zb (u6.own2 (u5.own2 (Zb (Zb (Zd l6 n1.below.size) n3.below) n4.below) k3 (by decide)) k4 (by decide)) (Za W6)) e2 (by decide)
  have i3:=u7.below (bln (u6.below (u5.below (bln f0 n4.below) g3) g4) (Za W6)) g1
  exact xec 3 k7 (.tuple #[S0,.agg #[.slice a9 1 d9,V0 (Xl l no t)]]) (Rp (hasE_nK h6 h7) h4 i3 h2)
 have l4:=maxC l no t h4
 have o7:=Ho l no
 refine xa 3 [V0 0,.bool false,S0,S0] 181 fun b8 W8 n8=>?_
 have f6:=bln n1.below g7
 have g8:=n8.ge f6
 refine xa 0 [S0,V0 0] 36 fun b9 W9 n9=>?_
 have k1:=(n1.blk.below g7).below n8.below
 have e6:=n9.ne k1
 have g6:=bln f6 n8.below
 have g9:=n9.ge g6
 have k8:=n8.blk.below n9.below
 refine xsv 0 k8 [V0 (Xz (inB l no)),.bool (Yi (inB l no)),.slice kp (Xh (inB l no)) kc,.slice vp (Xh (inB l no)) vc] fun m4 h9 l3=>?_
 have k9:=h9.blkT n9.blk k8 (by decide)
 refine xsv 0 k9 [S0,V0 0] fun m9 h5 l8=>?_
 refine xv1 9 8 (show(S0:Value)=.slice none ((Vo l no 0).length) 0 from by rw[Dk];rfl) ?_
 have g2:=h5.own2 (h9.own2 (Zb (Zb (Zd b2 n1.below.size) n8.below) n9.below) k8 (by decide)) k9 (by decide)
 have j3:=h5.below (h9.below (bln g6 n9.below) g8) g9
 have j5:=h5.blk (h9.blkT (k1.below n9.below) k8 (by decide)) (Ne.symm (Ne.symm e6))
 have f1:=h5.blkT l3 k9 (by decide)
 refine zl 0 142 (fun zm l5 V=>∃ (i:Nat) (pz:O0) (cz:Nat),l5=[(1,V0 no),(6,S0),(7,P0 b1),(8,.slice pz ((Vo l no i).length) cz),(14,P0 b8),(15,P0 b9),(16,V0 (i:Int))]∧zm=(Xh (inB l no))-((i:Int)).toNat∧B3 w V∧Blk V b1 ([S0,V0 0]) 36∧Blk V b8 ([V0 (Xz (inB l no)),.bool (Yi (inB l no)),.slice kp (Xh (inB l no)) kc,.slice vp (Xh (inB l no)) vc]) 181∧Blk V b9 ([S0,V0 0]) 36∧V.ownsRow w.heap.size 9 1 (.slice vp (Xh (inB l no)) vc) (Xh (inB l no)) ((Vy l no).map sv)∧V.ownsRow w.heap.size 83 4 (.slice pz (Vo l no i).length cz) (Vo l no i).length ((Vo l no i).flatMap wkC)∧i≤(Xh (inB l no))) ⟨0,none,0,rfl,rfl,j3,j5,f1,l8,g2,(by rw[Dk];exact World.ownsRow_nil _ _ _ _),Nat.zero_le _⟩ ?_
 rintro _ _ h8 ⟨i,pz,cz,rfl,rfl,a5,a2,a0,a1,b2,ho,hi⟩ o9 d2 n7
 have m5:=Zd1 l no i
 refine xb 5 3 a0 ?_
 refine xid 4 ((i:Int)<(↑(Xh (inB l no)):Int)) (fun j0=>?_) (fun j0=>?_)
 ·refine xb 7 1 a0 ?_
  refine xg 1 [74,75] (Yi (inB l no)) (fun e3=>?_) (fun e3=>?_)
  ·refine xb 1 0 a0 ?_
   refine xie 4 (Xz (inB l no)) (4:Int) (fun i2=>?_) (fun i2=>?_)
   ·refine xb 3 3 a0 ?_
    refine xx 1 _ (Xh (inB l no)) i 1 (Strs.elem (Ze b2) (Ho l no) (k:=i) (by omega)).1 ?_
    refine xl 0 ((Strs.elem (Ze b2) (Ho l no) (k:=i) (by omega)).2) ?_
    refine xr 0 (args:=#[.string ⟨((Vy l no).getD i []).toArray⟩]) (Mr ((Vy l no).getD i []) _ (Wd _ _ i)) fun o5 a7=>?_
    refine xa 3 [V0 0,V0 0,V0 0] 134 fun m8 n5 a8=>?_
    have f2:=bln a5 a7
    have k2:=a8.ge f2
    refine xsv 0 a8.blk [V0 (↑((Yo Xk ((Vy l no).getD i [])).getD 0 0):Int),V0 (↑((Yo Xk ((Vy l no).getD i [])).getD 1 0):Int),V0 (↑((Yo Xk ((Vy l no).getD i [])).getD 2 0):Int)] fun o6 e4 l0=>?_
    refine xb 7 0 l0 ?_
    refine xbs 3 1 [V0 no,V0 (↑((Yo Xk ((Vy l no).getD i [])).getD 0 0):Int),V0 7,V0 (Ye Xk ((Vy l no).getD i []))] 83 fun m7 p1 d4=>?_
    have e5:=e4.below (bln f2 a8.below) k2
    have o4:=d4.ge e5
    have f5:=e4.own2 (Zb (Zb ho a7) a8.below) a8.blk (by decide)
    have i8:=Zn f5 d4
    have c1:=Zb f5 d4.below
    have f8:=bln e5 d4.below
    refine xbi 0 fun _ _ _ _ zJ zQ zo zx zy zK=>Zr (m:=1) (news:=[V0 no,V0 (↑((Yo Xk ((Vy l no).getD i [])).getD 0 0):Int),V0 7,V0 (Ye Xk ((Vy l no).getD i []))]) (.agg #[V0 0,V0 0,V0 0,V0 0]) 4 32 ((Vo l no (i+1)).length) (((Vo l no (i+1)).flatMap wkC)) zo Tryz.underlying84 (by kernel_rfl) rfl (by decide) zx c1 zy (d4.blk.sl 1 1 (by decide) (by decide)) rfl (by simp[Value.oneCell']) (by unfold maxLen;omega) (by omega) f8.size (by rw[Ky (by omega) (show ¬ Nc (Xz (inB l no)) (Yi (inB l no)) from fun q=>by obtain⟨q1,q2,q3⟩:=q;first|omega|exact absurd (q1.symm.trans (show(Yi (inB l no))=false by assumption)) (by decide)),List.length_append];rfl) (by rw[Ky (by omega) (show ¬ Nc (Xz (inB l no)) (Yi (inB l no)) from fun q=>by obtain⟨q1,q2,q3⟩:=q;first|omega|exact absurd (q1.symm.trans (show(Yi (inB l no))=false by assumption)) (by decide)),List.flatMap_append,List.flatMap_cons,List.flatMap_nil,List.append_nil];first|rw[Zfk (by assumption) (by omega)]|rw[Zba (by assumption) (by omega)]|rw[Zbo (by assumption)]) fun l7 m0 p0 j7 d6 i7=>?_
    refine zK _ _ ?_
    refine xwm 6 ((i:Int)+1) (↑(i+1):Int) ?_
    have g0:=f8.trans i7
    have c4:=((e4.blkT ((a2.below a7).below a8.below) a8.blk (by decide)).below d4.below).grown d6 c1 (by decide)
    have b7:=((e4.blkT ((a0.below a7).below a8.below) a8.blk (by decide)).below d4.below).grown d6 c1 (by decide)
    have c6:=((e4.blkT ((a1.below a7).below a8.below) a8.blk (by decide)).below d4.below).grown d6 c1 (by decide)
    have f9:=Xj (Zb (e4.own2 (Zb (Zb b2 a7) a8.below) a8.blk (by decide)) d4.below) d6 c1 (by decide)
    exact ze 2 (d2 _ _ _ ⟨i+1,_,_,rfl,rfl,g0,c4,b7,c6,f9,j7,by omega⟩ (by omega))
   refine xb 3 1 a0 ?_
   refine xk 3 (show(!(Yi (inB l no)):Bool)=false from by rw[e3];rfl) ?_
   refine xb 3 0 a0 ?_
   refine xie 3 (Xz (inB l no)) (1:Int) (fun i9=>?_) (fun i9=>?_)
   ·refine xb 3 3 a0 ?_
    refine xx 1 _ (Xh (inB l no)) i 1 (Strs.elem (Ze b2) (Ho l no) (k:=i) (by omega)).1 ?_
    refine xl 0 ((Strs.elem (Ze b2) (Ho l no) (k:=i) (by omega)).2) ?_
    refine xr 0 (args:=#[.string ⟨((Vy l no).getD i []).toArray⟩]) (Ox ((Vy l no).getD i []) _ (Wd _ _ i)) fun o1 a6=>?_
    refine xbs 14 1 [V0 no,V0 (↑(Ji ((Vy l no).getD i [])):Int),V0 2,V0 (Kv ((Vy l no).getD i []))] 83 fun o2 n2 d3=>?_
    have d8:=bln a5 a6
    have m6:=d3.ge d8
    have e8:=Zb ho a6
    have i1:=Zn e8 d3
    have c7:=Zb e8 d3.below
    have e0:=bln d8 d3.below
    refine xbi 0 fun _ _ _ _ zJ zQ zo zx zy zK=>Zr (m:=1) (news:=[V0 no,V0 (↑(Ji ((Vy l no).getD i [])):Int),V0 2,V0 (Kv ((Vy l no).getD i []))]) (.agg #[V0 0,V0 0,V0 0,V0 0]) 4 32 ((Vo l no (i+1)).length) (((Vo l no (i+1)).flatMap wkC)) zo Tryz.underlying84 (by kernel_rfl) rfl (by decide) zx c7 zy (d3.blk.sl 1 1 (by decide) (by decide)) rfl (by simp[Value.oneCell']) (by unfold maxLen;omega) (by omega) e0.size (by rw[Ky (by omega) (show ¬ Nc (Xz (inB l no)) (Yi (inB l no)) from fun q=>by obtain⟨q1,q2,q3⟩:=q;first|omega|exact absurd (q1.symm.trans (show(Yi (inB l no))=false by assumption)) (by decide)),List.length_append];rfl) (by rw[Ky (by omega) (show ¬ Nc (Xz (inB l no)) (Yi (inB l no)) from fun q=>by obtain⟨q1,q2,q3⟩:=q;first|omega|exact absurd (q1.symm.trans (show(Yi (inB l no))=false by assumption)) (by decide)),List.flatMap_append,List.flatMap_cons,List.flatMap_nil,List.append_nil];first|rw[Zfk (by assumption) (by omega)]|rw[Zba (by assumption) (by omega)]|rw[Zbo (by assumption)]) fun j6 l1 o3 l9 d0 i5=>?_
    refine zK _ _ ?_
    refine xwm 6 ((i:Int)+1) (↑(i+1):Int) ?_
    have f4:=e0.trans i5
    have b5:=((a2.below a6).below d3.below).grown d0 c7 (by decide)
    have c8:=((a0.below a6).below d3.below).grown d0 c7 (by decide)
    have b6:=((a1.below a6).below d3.below).grown d0 c7 (by decide)
    have h3:=Xj (Zb (Zb b2 a6) d3.below) d0 c7 (by decide)
    exact ze 2 (d2 _ _ _ ⟨i+1,_,_,rfl,rfl,f4,b5,c8,b6,h3,l9,by omega⟩ (by omega))
   refine xwm 5 ((i:Int)+1) (↑(i+1):Int) ?_
   refine xv1 2 8 (show(.slice pz ((Vo l no i).length) cz:Value)=.slice pz ((Vo l no (i+1)).length) cz from by rw[Oa (show Nc (Xz (inB l no)) (Yi (inB l no)) from⟨by assumption,by omega,by omega⟩)]) ?_
   exact ze 0 (d2 _ _ _ ⟨i+1,pz,cz,rfl,rfl,a5,a2,a0,a1,b2,(by rw[Oa (show Nc (Xz (inB l no)) (Yi (inB l no)) from⟨by assumption,by omega,by omega⟩)];exact ho),by omega⟩ (by omega))
  refine xb 10 1 a0 ?_
  refine xk 3 (show(!(Yi (inB l no)):Bool)=true from by rw[e3];rfl) ?_
  refine xb 3 3 a0 ?_
  refine xx 1 _ (Xh (inB l no)) i 1 (Strs.elem (Ze b2) (Ho l no) (k:=i) (by omega)).1 ?_
  refine xl 0 ((Strs.elem (Ze b2) (Ho l no) (k:=i) (by omega)).2) ?_
  refine xr 0 (args:=#[.string ⟨((Vy l no).getD i []).toArray⟩]) (Ox ((Vy l no).getD i []) _ (Wd _ _ i)) fun n0 b0=>?_
  have a4:=a0.below b0
  refine xb 12 0 a4 ?_
  refine xbs 3 1 [V0 no,V0 (↑(Ji ((Vy l no).getD i [])):Int),V0 (Xz (inB l no)),V0 (Kv ((Vy l no).getD i []))] 83 fun m2 n6 d1=>?_
  have e1:=bln a5 b0
  have m3:=d1.ge e1
  have h0:=Zb ho b0
  have i4:=Zn h0 d1
  have c5:=Zb h0 d1.below
  have d7:=bln e1 d1.below
  refine xbi 0 fun _ _ _ _ zJ zQ zo zx zy zK=>Zr (m:=1) (news:=[V0 no,V0 (↑(Ji ((Vy l no).getD i [])):Int),V0 (Xz (inB l no)),V0 (Kv ((Vy l no).getD i []))]) (.agg #[V0 0,V0 0,V0 0,V0 0]) 4 32 ((Vo l no (i+1)).length) (((Vo l no (i+1)).flatMap wkC)) zo Tryz.underlying84 (by kernel_rfl) rfl (by decide) zx c5 zy (d1.blk.sl 1 1 (by decide) (by decide)) rfl (by simp[Value.oneCell']) (by unfold maxLen;omega) (by omega) d7.size (by rw[Ky (by omega) (show ¬ Nc (Xz (inB l no)) (Yi (inB l no)) from fun q=>by obtain⟨q1,q2,q3⟩:=q;first|omega|exact absurd (q1.symm.trans (show(Yi (inB l no))=false by assumption)) (by decide)),List.length_append];rfl) (by rw[Ky (by omega) (show ¬ Nc (Xz (inB l no)) (Yi (inB l no)) from fun q=>by obtain⟨q1,q2,q3⟩:=q;first|omega|exact absurd (q1.symm.trans (show(Yi (inB l no))=false by assumption)) (by decide)),List.flatMap_append,List.flatMap_cons,List.flatMap_nil,List.append_nil];first|rw[Zfk (by assumption) (by omega)]|rw[Zba (by assumption) (by omega)]|rw[Zbo (by assumption)]) fun m1 l2 o8 j9 d5 j2=>?_
  refine zK _ _ ?_
  refine xwm 6 ((i:Int)+1) (↑(i+1):Int) ?_
  have f7:=d7.trans j2
  have c9:=((a2.below b0).below d1.below).grown d5 c5 (by decide)
  have c3:=(a4.below d1.below).grown d5 c5 (by decide)
  have c0:=((a1.below b0).below d1.below).grown d5 c5 (by decide)
  have g5:=Xj (Zb (Zb b2 b0) d1.below) d5 c5 (by decide)
  exact ze 2 (d2 _ _ _ ⟨i+1,_,_,rfl,rfl,f7,c9,c3,c0,g5,j9,by omega⟩ (by omega))
 refine xd 6 (.t w.heap.size [36]) ?_
 have c2:=a1.below (Za h8)
 refine xlv (.o [0,2] 1) c2.rp ?_
 have a3:=a2.below (Za h8)
 have g1:=n1.ge (B4 w)
 refine ysv (.o [] 3) a3 [S0,V0 0] (.t w.heap.size [36]) fun p2 j1 j8=>⟨(Zl j1 a3 g1 (by decide)),?_⟩
 have j4:=j1.own2 (Zb ho (Za h8)) a3 (by decide)
 have f3:=j1.below (bln a5 (Za h8)) g1
 refine xec 3 j8 (.tuple #[.slice pz ((Vo l no i).length) cz,.agg #[S0,V0 0]]) ?_
 have e9:=takeJ_full (l:=l) (no:=no) (i:=i) (by omega)
 exact Zaw ((hasE_nK h6 h7).trans h4) ((hasJ_nK h6 h7).trans e9.symm) rfl f3 j4
theorem ref47_has(B bm:Nat)(p:O0)(k c:Nat)(l:Bl)(no ak:Int)(w:World)(hI:RefI B bm p k c l w) :
 C0 40 #[P0 bm,V0 no,V0 ak] w (RHasK l no ak w):=by
 by_cases h6:ak=6
 ·subst h6;exact ref47_has6 B bm p k c l no w hI
 ·by_cases h7:ak=7
  ·subst h7;exact ref47_has7 B bm p k c l no w hI
  ·exact ref47_hasN B bm p k c l no ak w hI h6 h7
theorem Zen(s:Sup)(w:World) :
 C0 37 #[.agg #[V0 s.tx,V0 s.time,V0 s.unit,V0 s.data,V0 s.blocks,V0 s.top,V0 s.details,V0 s.dslots,V0 s.dover,V0 s.mindex,V0 s.mover]] w (Ret (.bool (Zp s)) w):=by
 refine zin 69 Tryz.func37 ?_
 refine xa 2 [V0 s.tx,V0 s.time,V0 s.unit,V0 s.data,V0 s.blocks,V0 s.top,V0 s.details,V0 s.dslots,V0 s.dover,V0 s.mindex,V0 s.mover] 24 fun b1 W1 n1=>?_
 refine xb 7 0 n1.blk ?_
 refine xr 0 (args:=#[V0 s.tx,V0 0,V0 2147483647]) (Yc s.tx 0 2147483647 _) fun W2 b4=>?_
 refine xg 2 [7,8] (!(decide ((0:Int)≤s.tx∧s.tx≤2147483647))) (fun e7=>?_) (fun e7=>?_)
 ·have f1:(decide ((0:Int)≤s.tx∧s.tx≤2147483647))=false:=Kb e7
  have hB:=bln n1.below b4
  refine xe 33 (.bool false) ?_
  have hR:Zp s=false:=by
   unfold Zp
   first|(rw[f1];done)|(rw[f1];rfl)
  rw[hR];exact⟨rfl,hB⟩
 have a5:(decide ((0:Int)≤s.tx∧s.tx≤2147483647))=true:=Ka e7
 have d6:=n1.blk.below b4
 refine xb 1 1 d6 ?_
 refine xr 0 (args:=#[V0 s.time,V0 0,V0 16777215]) (Yc s.time 0 16777215 _) fun W6 b5=>?_
 refine xg 3 [12,13,14] (!(decide ((0:Int)≤s.time∧s.time≤16777215))) (fun e8=>?_) (fun e8=>?_)
 ·have f0:(decide ((0:Int)≤s.time∧s.time≤16777215))=false:=Kb e8
  have hB:=bln (bln n1.below b4) b5
  refine xe 27 (.bool false) ?_
  have hR:Zp s=false:=by
   unfold Zp
   first|(rw[a5,f0];done)|(rw[a5,f0];rfl)
  rw[hR];exact⟨rfl,hB⟩
 have a7:(decide ((0:Int)≤s.time∧s.time≤16777215))=true:=Ka e8
 have e3:=d6.below b5
 refine xb 1 2 e3 ?_
 refine xr 0 (args:=#[V0 s.unit,V0 1,V0 65536]) (Yc s.unit 1 65536 _) fun f7 a4=>?_
 refine xg 3 [18,19,20] (!(decide ((1:Int)≤s.unit∧s.unit≤65536))) (fun c0=>?_) (fun c0=>?_)
 ·have d0:(decide ((1:Int)≤s.unit∧s.unit≤65536))=false:=Kb c0
  have hB:=bln (bln (bln n1.below b4) b5) a4
  refine xe 21 (.bool false) ?_
  have hR:Zp s=false:=by
   unfold Zp
   first|(rw[a5,a7,d0];done)|(rw[a5,a7,d0];rfl)
  rw[hR];exact⟨rfl,hB⟩
 have a0:(decide ((1:Int)≤s.unit∧s.unit≤65536))=true:=Ka c0
 have d7:=e3.below a4
 refine xb 1 3 d7 ?_
 refine xr 0 (args:=#[V0 s.data,V0 0,V0 65536]) (Yc s.data 0 65536 _) fun f9 a6=>?_
 refine xg 3 [24,25,26] (!(decide ((0:Int)≤s.data∧s.data≤65536))) (fun c1=>?_) (fun c1=>?_)
 ·have c9:(decide ((0:Int)≤s.data∧s.data≤65536))=false:=Kb c1
  have hB:=bln (bln (bln (bln n1.below b4) b5) a4) a6
  refine xe 15 (.bool false) ?_
  have hR:Zp s=false:=by
   unfold Zp
   first|(rw[a5,a7,a0,c9];done)|(rw[a5,a7,a0,c9];rfl)
  rw[hR];exact⟨rfl,hB⟩
 have a1:(decide ((0:Int)≤s.data∧s.data≤65536))=true:=Ka c1
 have d2:=d7.below a6
 refine xb 1 4 d2 ?_
 refine xr 0 (args:=#[V0 s.blocks,V0 2,V0 14400]) (Yc s.blocks 2 14400 _) fun g0 a8=>?_
 refine xi 4 (!(decide ((2:Int)≤s.blocks∧s.blocks≤14400))) (fun b9=>?_) (fun b9=>?_)
 ·have e4:(decide ((2:Int)≤s.blocks∧s.blocks≤14400))=false:=Kb b9
  have hB:=bln (bln (bln (bln (bln n1.below b4) b5) a4) a6) a8
  refine xe 7 (.bool false) ?_
  have hR:Zp s=false:=by
   unfold Zp
   first|(rw[a5,a7,a0,a1,e4];done)|(rw[a5,a7,a0,a1,e4];rfl)
  rw[hR];exact⟨rfl,hB⟩
 have a2:(decide ((2:Int)≤s.blocks∧s.blocks≤14400))=true:=Ka b9
 have f4:=of_decide_eq_true a2
 have c2:=d2.below a8
 refine xb 5 4 c2 ?_
 refine xw 0 (s.blocks-1) ?_
 refine xb 6 5 c2 ?_
 refine xr 1 (args:=#[V0 s.top,V0 1,V0 (s.blocks-1)]) (Yc s.top 1 (s.blocks-1) _) fun f3 b0=>?_
 refine xg 1 [38,39] (decide ((1:Int)≤s.top∧s.top≤s.blocks-1)) (fun c3=>?_) (fun c3=>?_)
 ·have a3:(decide ((1:Int)≤s.top∧s.top≤s.blocks-1))=true:=c3
  have d4:=c2.below b0
  refine xb 1 6 d4 ?_
  refine xr 1 (args:=#[V0 s.details,V0 1,V0 (s.blocks-1)]) (Yc s.details 1 (s.blocks-1) _) fun f2 b3=>?_
  refine xg 2 [43,44,45] (decide ((1:Int)≤s.details∧s.details≤s.blocks-1)) (fun c7=>?_) (fun c7=>?_)
  ·have a9:(decide ((1:Int)≤s.details∧s.details≤s.blocks-1))=true:=c7
   have e6:=d4.below b3
   refine xb 1 7 e6 ?_
   refine xr 1 (args:=#[V0 s.dslots,V0 1,V0 (s.blocks-1)]) (Yc s.dslots 1 (s.blocks-1) _) fun g1 b6=>?_
   refine xg 2 [49,50,51] (decide ((1:Int)≤s.dslots∧s.dslots≤s.blocks-1)) (fun c6=>?_) (fun c6=>?_)
   ·have b2:(decide ((1:Int)≤s.dslots∧s.dslots≤s.blocks-1))=true:=c6
    have d8:=e6.below b6
    refine xb 1 8 d8 ?_
    refine xr 1 (args:=#[V0 s.dover,V0 1,V0 (s.blocks-1)]) (Yc s.dover 1 (s.blocks-1) _) fun f5 b7=>?_
    refine xg 2 [55,56,57] (decide ((1:Int)≤s.dover∧s.dover≤s.blocks-1)) (fun c5=>?_) (fun c5=>?_)
    ·have b8:(decide ((1:Int)≤s.dover∧s.dover≤s.blocks-1))=true:=c5
     have e1:=d8.below b7
     refine xb 1 9 e1 ?_
     refine xr 1 (args:=#[V0 s.mindex,V0 1,V0 (s.blocks-1)]) (Yc s.mindex 1 (s.blocks-1) _) fun f8 c4=>?_
     refine xg 2 [61,62,63] (decide ((1:Int)≤s.mindex∧s.mindex≤s.blocks-1)) (fun c8=>?_) (fun c8=>?_)
     ·have e0:(decide ((1:Int)≤s.mindex∧s.mindex≤s.blocks-1))=true:=c8
      have d3:=e1.below c4
      refine xb 1 10 d3 ?_
      refine xr 1 (args:=#[V0 s.mover,V0 1,V0 (s.blocks-1)]) (Yc s.mover 1 (s.blocks-1) _) fun f6 e9=>?_
      have hB:=bln (bln (bln (bln (bln (bln (bln (bln (bln (bln (bln n1.below b4) b5) a4) a6) a8) b0) b3) b6) b7) c4) e9
      refine xe 5 (.bool (decide ((1:Int)≤s.mover∧s.mover≤s.blocks-1))) ?_
      have hR:Zp s=(decide ((1:Int)≤s.mover∧s.mover≤s.blocks-1)):=by
       unfold Zp
       first|(rw[a5,a7,a0,a1,a2,a3,a9,b2,b8,e0];done)|(rw[a5,a7,a0,a1,a2,a3,a9,b2,b8,e0];rfl)
      rw[hR];exact⟨rfl,hB⟩
     have d9:(decide ((1:Int)≤s.mindex∧s.mindex≤s.blocks-1))=false:=c8
     have hB:=bln (bln (bln (bln (bln (bln (bln (bln (bln (bln n1.below b4) b5) a4) a6) a8) b0) b3) b6) b7) c4
     refine xe 9 (.bool false) ?_
     have hR:Zp s=false:=by
      unfold Zp
      first|(rw[a5,a7,a0,a1,a2,a3,a9,b2,b8,d9];done)|(rw[a5,a7,a0,a1,a2,a3,a9,b2,b8,d9];rfl)
     rw[hR];exact⟨rfl,hB⟩
    have d5:(decide ((1:Int)≤s.dover∧s.dover≤s.blocks-1))=false:=c5
    have hB:=bln (bln (bln (bln (bln (bln (bln (bln (bln n1.below b4) b5) a4) a6) a8) b0) b3) b6) b7
    refine xe 15 (.bool false) ?_
    have hR:Zp s=false:=by
     unfold Zp
     first|(rw[a5,a7,a0,a1,a2,a3,a9,b2,d5];done)|(rw[a5,a7,a0,a1,a2,a3,a9,b2,d5];rfl)
    rw[hR];exact⟨rfl,hB⟩
   have e2:(decide ((1:Int)≤s.dslots∧s.dslots≤s.blocks-1))=false:=c6
   have hB:=bln (bln (bln (bln (bln (bln (bln (bln n1.below b4) b5) a4) a6) a8) b0) b3) b6
   refine xe 21 (.bool false) ?_
   have hR:Zp s=false:=by
    unfold Zp
    first|(rw[a5,a7,a0,a1,a2,a3,a9,e2];done)|(rw[a5,a7,a0,a1,a2,a3,a9,e2];rfl)
   rw[hR];exact⟨rfl,hB⟩
  have d1:(decide ((1:Int)≤s.details∧s.details≤s.blocks-1))=false:=c7
  have hB:=bln (bln (bln (bln (bln (bln (bln n1.below b4) b5) a4) a6) a8) b0) b3
  refine xe 27 (.bool false) ?_
  have hR:Zp s=false:=by
   unfold Zp
   first|(rw[a5,a7,a0,a1,a2,a3,d1];done)|(rw[a5,a7,a0,a1,a2,a3,d1];rfl)
  rw[hR];exact⟨rfl,hB⟩
 have e5:(decide ((1:Int)≤s.top∧s.top≤s.blocks-1))=false:=c3
 have hB:=bln (bln (bln (bln (bln (bln n1.below b4) b5) a4) a6) a8) b0
 refine xe 33 (.bool false) ?_
 have hR:Zp s=false:=by
  unfold Zp
  first|(rw[a5,a7,a0,a1,a2,e5];done)|(rw[a5,a7,a0,a1,a2,e5];rfl)
 rw[hR];exact⟨rfl,hB⟩
end Go.Proofs.YtceeiinepijokaaGreatDoor
