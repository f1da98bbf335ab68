/- Package load: Devices. -/
import Derived.Lib.SmallJoins
import Derived.Test.YtegcamkgeacjfaaGreatDoorMg4
namespace Go.Proofs.YtegcamkgeacjfaaGreatDoor
set_option maxHeartbeats 8000000
set_option maxRecDepth 100000
open Go.RowKit Go.Extern.Stop Go.Stop Go.Extern
set_option linter.unusedVariables false
attribute [local irreducible] wpList wpAnyH Code.wp Oper.wp Go
def Zdl(O:List Int×Int×List Dv)(w:World)(e:Ending)(w':World):Prop :=
 (O.2.1≠0∧∃ ty v,e=.returned (.tuple #[S0,.iface ty v])∧B0 w w'∧Yu w' (O.1.map some) (some O.2.1) (.iface ty v)) ∨
 (O.2.1=0∧∃ p c Z,e=.returned (.tuple #[.slice p O.2.2.length c,.nilIface])∧B0 w w'∧Z.map Prod.fst=O.2.2∧Xi w.heap.size w' Z∧w'.ownsRow w.heap.size 61 5 (.slice p O.2.2.length c) O.2.2.length (Z.flatMap Bp))
theorem Hf{O:List Int×Int×List Dv}{bl:List Int}{er:Int}{w W:World}{ty:TypeId}{v:Value}(h:O=(bl,er,[]))(her:er≠0)(hb:B0 w W)(hv:Yu W (bl.map some) (some er) (.iface ty v)):Zdl O w (.returned (.tuple #[S0,.iface ty v])) W:=by
 subst h;exact .inl ⟨her,ty,v,rfl,hb,hv⟩
theorem ldevs_ok{O:List Int×Int×List Dv}{L:List Dv}{Z:List Zv}{n c:Nat}{w W:World}{p:O0}(h:O=([],0,L))(hn:Z.length=n)(hZ:Z.map Prod.fst=L)(hb:B0 w W)(hM:Xi w.heap.size W Z)(ho:W.ownsRow w.heap.size 61 5 (.slice p n c) n (Z.flatMap Bp)):Zdl O w (.returned (.tuple #[.slice p n c,.nilIface])) W:=by
 subst h
 have hl:L.length=n:=by rw[←hZ,List.length_map,hn]
 subst hl
 exact .inr ⟨rfl,p,c,Z,rfl,hb,hZ,hM,ho⟩
theorem Xi.mono{B B':Nat}{w:World}{Z:List Zv}(h:Xi B' w Z)(hB:B≤B'):Xi B w Z:=fun i hi=>Zh (h i hi) hB
theorem Xi.ab{q:Nat→Prop}{A C:World}{row:Option Nat}{B m:Nat}{Z:List Zv}(h:Xi B A Z)(hg:A.grownBy C row)(hr:Zbu q m A row)(hq:∀ r,q r→r<B):Xi B C Z:=fun i hi=>own_ab (h i hi) hg hr hq
theorem Xi.pt{D B:Nat}{w:World}{Z:List Zv}(h:Xi B w Z)(hK:Dfr D w)(o:Obj):Xi B (w.putObj D o) Z:=fun i hi=>Zb4 (h i hi) hK o
theorem Zar{B1 B2:Nat}{a:O0}{n c:Nat}{y:Value}{t t':TypeId}(hy:y=.nilIface∨∃ ty v,y=.iface ty v){tmps:Array Value}(e:tmps.getD 10 undef=P0 B1)(e2:tmps.getD 11 undef=P0 B2) :
 ∀ U,Blk U B1 [.slice a n c] t→Blk U B2 [y] t'→(results Tryz.f23 tmps).run Tryz.prog U=.ok (.tuple #[.slice a n c,y]) U:=by
 intro U h h2
 have c0:=h.cell (i:=0) rfl
 have c1:=h2.cell (i:=0) rfl
 have e':tmps[10]?.getD undef=P0 B1:=by simpa using e
 have a0:tmps[11]?.getD undef=P0 B2:=by simpa using e2
 rcases hy with rfl|⟨ty,v,rfl⟩<;>simp[results,Tryz.results23,go_sem,c0,c1,e',a0]
def Zbo(O:List Int×Int×List Dv)(w:World)(b10 b11:Nat)(V:World):Prop :=
 ∃ ty v bl er,O=(bl,er,[])∧er≠0∧Blk V b10 [S0] 22∧Blk V b11 [.iface ty v] 29∧Yu V (bl.map some) (some er) (.iface ty v)∧B0 w V
theorem Zbo.ab{q:Nat→Prop}{O:List Int×Int×List Dv}{w A B:World}{row:Option Nat}{b10 b11 m:Nat}(h:Zbo O w b10 b11 A)(hg:A.grownBy B row)(hr:∀ r,row=some r→m≤r∧∃ o:Obj,A.heap[r]? = some o∧o.isCells=false)(hm:w.heap.size≤m):Zbo O w b10 b11 B:=by
 obtain⟨ty,v,bl,er,h1,h2,k1,k2,hv,hb⟩:=h
 have ht:∀ r,row=some r→∃ o:Obj,A.heap[r]? = some o∧o.isCells=false:=fun r e=>(hr r e).2
 exact⟨ty,v,bl,er,h1,h2,k1.turn hg ht,k2.turn hg ht,hv.turn hg ht,hb.grown hg hb.size (fun r e=>Nat.le_trans hm (hr r e).1)⟩
theorem Bu{A E:List Ent}(h:(Xd 0 0 A E).all Rk=true):(Xd 0 0 A E).length=A.length∧∀ k x,(Xd 0 0 A E)[k]? = some x→k<A.length∧x=(some k,some k):=by
 obtain⟨_,h2⟩:=Nb A E 0 0 h
 rw[h2]
 refine⟨by simp,fun k x hx=>?_⟩
 rw[List.getElem?_map] at hx
 by_cases hk:k<A.length
 ·rw[List.getElem?_range hk] at hx
  simp only[Option.map_some,Option.some.injEq,Nat.zero_add] at hx
  exact⟨hk,hx.symm⟩
 ·rw[List.getElem?_eq_none (by simp;omega)] at hx;cases hx
theorem Dh{α:Type}{L:List α}{p:α→Bool}{k:Nat}{x:α}(h:(L.take k).all p=true)(hx:L[k]? = some x)(hp:p x=true):(L.take (k+1)).all p=true:=by
 obtain⟨hk,rfl⟩:=List.getElem?_eq_some_iff.1 hx
 rw[List.take_succ_eq_append_getElem hk,List.all_append,h];simpa using hp
theorem Zd4{l:Bl}{x y:Ent}{data fuel:Int}{sum:Nat}(h:(Pa l x y data fuel sum).2=0):sum+(Qf l y data fuel).2.2.length≤16384:=by
 unfold Pa at h
 repeat' split at h
 all_goals first|omega|(simp at h;done)|(exact absurd h (by assumption))
theorem Tl{ga oa i:Nat}{p:O0}(h:p=some ⟨ga,oa,none⟩):Pg ga oa (some i)=.pointer (some (Xa p (i*3))):=by
 subst h
 show Value.pointer (some ⟨ga,oa+3*i,none⟩)=_
 simp[Xa,Addr.add_mid,Nat.mul_comm]
theorem Ff(Bi b:Nat)(pi:O0)(ni ci:Nat)(l:Bl)(top details data fuel:Int)(w:World)(hI:ImgR Bi b pi ni ci l w)(hfu:fuel≤1000) :
 C0 23 #[P0 b,V0 top,V0 details,V0 data,V0 fuel] w (Zdl (Qp l top details data fuel) w):=by
 have kk:=(Qz l details 3 fuel hfu).1
 have jp:=(Qz l top 1 fuel hfu).1
 refine Kf Tryz.func23 rfl ?_
 refine g_fr ⟨#[P0 b,V0 top,V0 details,V0 data,V0 fuel,undef,undef,undef,undef,undef,undef,undef,undef,undef,undef,undef,undef,undef,undef,undef,undef,undef,undef,undef,undef,undef,undef,undef,undef,undef,undef,undef,undef,undef,undef,undef,undef,undef,undef,undef,undef,undef,undef,undef,undef,undef,undef,undef,undef,undef,undef,undef,undef,undef,undef,undef,undef,undef,undef,undef,undef,undef,undef,undef,undef,undef,undef,undef,undef,undef,undef,undef,undef,undef,undef,undef,undef,undef,undef,undef,undef,undef,undef,undef,undef,undef,undef,undef,undef,undef,undef,undef,undef,undef,undef,undef,undef],[]⟩ (by kernel_rfl) ?_
 refine wp_seq ?_
 refine wp_region_lit ?_
 refine Yb (by kernel_rfl) (Cj [V0 top] rfl (by kernel_rfl) ?_)
 intro b1 W1 n1
 have g1:=n1.ge (B3 w)
 have hB:=n1.below
 have k1:=n1.blk
 refine Yb (by kernel_rfl) (Cj [V0 details] rfl (by kernel_rfl) ?_)
 intro b2 W2 n2
 have jk:=n2.ne k1
 have g2:=n2.ge hB
 replace hB:=bln hB n2.below
 replace k1:=k1.below n2.below
 have k2:=n2.blk
 refine Yb (by kernel_rfl) (Xw [S0] rfl (by kernel_rfl) ?_)
 intro b3 W3 n3
 have k0:=n3.ne k1
 have j7:=n3.ne k2
 have g3:=n3.ge hB
 replace hB:=bln hB n3.below
 replace k1:=k1.below n3.below
 replace k2:=k2.below n3.below
 have k3:=n3.blk
 refine Yb (by kernel_rfl) (Xw [.nilIface] rfl (by kernel_rfl) ?_)
 intro b4 W4 n4
 have j8:=n4.ne k1
 have j5:=n4.ne k2
 have c8:=n4.ne k3
 have g4:=n4.ge hB
 replace hB:=bln hB n4.below
 replace k1:=k1.below n4.below
 replace k2:=k2.below n4.below
 replace k3:=k3.below n4.below
 have k4:=n4.blk
 refine wpList_nil ?_
 refine wp_seq ?_
 refine wp_region_lit ?_
 refine Kj 1 [(24,P0 b)] (by kernel_rfl) ?_
 refine Yb (by kernel_rfl) (Yc ⟨b2,0,none⟩ (V0 details) rfl (by kernel_rfl) (by kernel_rfl) (k2.cell (i:=0) rfl) ?_)
 refine Kj 1 [(26,V0 fuel)] (by kernel_rfl) ?_
 have kh:w.heap.size≤(W4).heap.size:=hB.size
 refine Yb (by kernel_rfl) (Yh (lb:=#[]) 59 #[P0 b,V0 details,V0 3,V0 fuel] rfl (by kernel_rfl) (fun _ _=>by kernel_rfl) (by kernel_rfl) ((Kx Bi b pi ni ci l details 3 fuel _ hfu (hI.below hB)).mono ?_))
 rintro e W5 kv
 rcases kv with ⟨u4,pe,ce,pb,cb,pf,cf,p9,vw,rfl,u3,e0⟩|⟨u4,pd,cd,d8,e4,e3,e2,e5,e1,d9,rfl,u3,hd⟩
 ·refine⟨_,rfl,?_⟩
  replace hB:=bln hB u3
  replace k1:=k1.below u3
  replace k2:=k2.below u3
  replace k3:=k3.below u3
  replace k4:=k4.below u3
  refine Kj 3 [(23,.tuple #[.agg #[.slice pe 0 ce,.slice pb 0 cb,V0 0,V0 0,.slice pf 0 cf],.iface p9 (vw)]),(28,.agg #[.slice pe 0 ce,.slice pb 0 cb,V0 0,V0 0,.slice pf 0 cf]),(29,.iface p9 (vw))] (by kernel_rfl) ?_
  refine Yb (by kernel_rfl) (Xw [S0,S0,V0 0,V0 0,S0] rfl (by kernel_rfl) ?_)
  intro b6 W6 n6
  have iu:=n6.ne k1
  have jo:=n6.ne k2
  have cw:=n6.ne k3
  have cs:=n6.ne k4
  have g6:=n6.ge hB
  replace hB:=bln hB n6.below
  replace k3:=k3.below n6.below
  replace k4:=k4.below n6.below
  replace e0:=e0.below n6.below
  have k6:=n6.blk
  refine Yb (by kernel_rfl) (Ya (b:=b6) (off:=0) [.slice pe 0 ce,.slice pb 0 cb,V0 0,V0 0,.slice pf 0 cf] rfl (by kernel_rfl) (by kernel_rfl) (by kernel_rfl) (by first|decide|simp[Value.oneCell']) k6 (by first|decide|simp) ?_)
  intro W7 u7 k7
  change Blk _ _ [.slice pe 0 ce,.slice pb 0 cb,V0 0,V0 0,.slice pf 0 cf] _ at k7
  replace hB:=u7.below hB g6
  replace k3:=u7.blk k3 (Ne.symm (Ne.symm cw))
  replace k4:=u7.blk k4 (Ne.symm (Ne.symm cs))
  replace e0:=e0.only (Ze.of_upd (T:=[130]) u7 k6 (by decide)) (by decide)
  refine Kj 1 [(13,.iface p9 (vw))] (by kernel_rfl) ?_
  refine wpList_nil ?_
  refine wp_seq ?_
  refine wp_seq ?_
  refine wp_region_lit ?_
  refine Kj 2 [(30,.iface p9 (vw)),(31,.bool true)] (by kernel_rfl) ?_
  refine wpList_nil ?_
  refine wp_cond_true (by kernel_rfl) ?_
  refine wp_seq ?_
  refine wp_region_lit ?_
  refine Kj 1 [(32,.iface p9 (vw))] (by kernel_rfl) ?_
  refine Yb (by kernel_rfl) (Xg (v:=S0) (b:=b3) (off:=0) rfl (by kernel_rfl) (by kernel_rfl) (by kernel_rfl) rfl k3 (by first|decide|simp) ?_)
  intro W8 u8 k8
  change Blk _ _ [S0] _ at k8
  replace hB:=u8.below hB g3
  replace k4:=u8.blk k4 (Ne.symm c8)
  replace e0:=e0.only (Ze.of_upd (T:=[22]) u8 k3 (by decide)) (by decide)
  refine Yb (by kernel_rfl) (Xg (v:=.iface p9 (vw)) (b:=b4) (off:=0) rfl (by kernel_rfl) (by kernel_rfl) (by kernel_rfl) rfl k4 (by first|decide|simp) ?_)
  intro W9 u9 k9
  change Blk _ _ [.iface p9 (vw)] _ at k9
  replace hB:=u9.below hB g4
  replace k8:=u9.blk k8 (Ne.symm (Ne.symm c8))
  replace e0:=e0.only (Ze.of_upd (T:=[29]) u9 k4 (by decide)) (by decide)
  refine wpList_nil ?_
  exact wp_ret (ret0 k8 k9 (Zar (.inr ⟨_,_,rfl⟩) (by kernel_rfl) (by kernel_rfl)) rfl (Hf (Zcq u4) (Vu u4) hB e0))
 ·refine⟨_,rfl,?_⟩
  replace hB:=bln hB u3
  replace k1:=k1.below u3
  replace k2:=k2.below u3
  replace k3:=k3.below u3
  replace k4:=k4.below u3
  replace hd:=Zh hd kh
  refine Kj 3 [(23,.tuple #[.agg #[.slice pd ((Zd l details 3 fuel).es.length) cd,.slice d8 e4 e3,V0 e2,V0 e5,.slice e1 0 d9],.nilIface]),(28,.agg #[.slice pd ((Zd l details 3 fuel).es.length) cd,.slice d8 e4 e3,V0 e2,V0 e5,.slice e1 0 d9]),(29,.nilIface)] (by kernel_rfl) ?_
  refine Yb (by kernel_rfl) (Xw [S0,S0,V0 0,V0 0,S0] rfl (by kernel_rfl) ?_)
  intro d5 lv s4
  have aw:=s4.ne k1
  have ai:=s4.ne k2
  have e8:=s4.ne k3
  have f2:=s4.ne k4
  have kp:=s4.ge hB
  replace hB:=bln hB s4.below
  replace k1:=k1.below s4.below
  replace k2:=k2.below s4.below
  replace k3:=k3.below s4.below
  replace k4:=k4.below s4.below
  replace hd:=Zb hd s4.below
  have ca:=s4.blk
  refine Yb (by kernel_rfl) (Ya (b:=d5) (off:=0) [.slice pd ((Zd l details 3 fuel).es.length) cd,.slice d8 e4 e3,V0 e2,V0 e5,.slice e1 0 d9] rfl (by kernel_rfl) (by kernel_rfl) (by kernel_rfl) (by first|decide|simp[Value.oneCell']) ca (by first|decide|simp) ?_)
  intro jy cg j2
  change Blk _ _ [.slice pd ((Zd l details 3 fuel).es.length) cd,.slice d8 e4 e3,V0 e2,V0 e5,.slice e1 0 d9] _ at j2
  replace hB:=cg.below hB kp
  replace k1:=cg.blk k1 (Ne.symm (Ne.symm aw))
  replace k2:=cg.blk k2 (Ne.symm (Ne.symm ai))
  replace k3:=cg.blk k3 (Ne.symm (Ne.symm e8))
  replace k4:=cg.blk k4 (Ne.symm (Ne.symm f2))
  replace hd:=cg.own2 hd ca (by decide)
  refine Kj 1 [(13,.nilIface)] (by kernel_rfl) ?_
  refine wpList_nil ?_
  refine wp_seq ?_
  refine wp_seq ?_
  refine wp_region_lit ?_
  refine Kj 2 [(30,.nilIface),(31,.bool false)] (by kernel_rfl) ?_
  refine wpList_nil ?_
  refine wp_cond_false (by kernel_rfl) ?_
  refine wp_skip ?_
  refine wp_seq ?_
  refine wp_region_lit ?_
  refine Kj 1 [(34,P0 b)] (by kernel_rfl) ?_
  refine Yb (by kernel_rfl) (Yc ⟨b1,0,none⟩ (V0 top) rfl (by kernel_rfl) (by kernel_rfl) (k1.cell (i:=0) rfl) ?_)
  refine Kj 1 [(36,V0 fuel)] (by kernel_rfl) ?_
  have gy:w.heap.size≤(jy).heap.size:=hB.size
  refine Yb (by kernel_rfl) (Yh (lb:=#[]) 59 #[P0 b,V0 top,V0 1,V0 fuel] rfl (by kernel_rfl) (fun _ _=>by kernel_rfl) (by kernel_rfl) ((Kx Bi b pi ni ci l top 1 fuel _ hfu (hI.below hB)).mono ?_))
  rintro e la gh
  rcases gh with ⟨v9,pe,ce,pb,cb,pf,cf,p9,vw,rfl,f7,e0⟩|⟨v9,pt,ct,b9,b5,b8,c0,b7,b0,a9,rfl,f7,ht⟩
  ·refine⟨_,rfl,?_⟩
   replace hB:=bln hB f7
   replace k1:=k1.below f7
   replace k2:=k2.below f7
   replace k3:=k3.below f7
   replace k4:=k4.below f7
   replace j2:=j2.below f7
   refine Kj 3 [(33,.tuple #[.agg #[.slice pe 0 ce,.slice pb 0 cb,V0 0,V0 0,.slice pf 0 cf],.iface p9 (vw)]),(38,.agg #[.slice pe 0 ce,.slice pb 0 cb,V0 0,V0 0,.slice pf 0 cf]),(39,.iface p9 (vw))] (by kernel_rfl) ?_
   refine Yb (by kernel_rfl) (Xw [S0,S0,V0 0,V0 0,S0] rfl (by kernel_rfl) ?_)
   intro kd md u1
   have hl:=u1.ne k1
   have hm:=u1.ne k2
   have bd:=u1.ne k3
   have bo:=u1.ne k4
   have dy:=u1.ne j2
   have kc:=u1.ge hB
   replace hB:=bln hB u1.below
   replace k3:=k3.below u1.below
   replace k4:=k4.below u1.below
   replace e0:=e0.below u1.below
   have jl:=u1.blk
   refine Yb (by kernel_rfl) (Ya (b:=kd) (off:=0) [.slice pe 0 ce,.slice pb 0 cb,V0 0,V0 0,.slice pf 0 cf] rfl (by kernel_rfl) (by kernel_rfl) (by kernel_rfl) (by first|decide|simp[Value.oneCell']) jl (by first|decide|simp) ?_)
   intro mm fb jz
   change Blk _ _ [.slice pe 0 ce,.slice pb 0 cb,V0 0,V0 0,.slice pf 0 cf] _ at jz
   replace hB:=fb.below hB kc
   replace k3:=fb.blk k3 (Ne.symm (Ne.symm bd))
   replace k4:=fb.blk k4 (Ne.symm (Ne.symm bo))
   replace e0:=e0.only (Ze.of_upd (T:=[130]) fb jl (by decide)) (by decide)
   refine Kj 1 [(13,.iface p9 (vw))] (by kernel_rfl) ?_
   refine wpList_nil ?_
   refine wp_seq ?_
   refine wp_seq ?_
   refine wp_region_lit ?_
   refine Kj 2 [(40,.iface p9 (vw)),(41,.bool true)] (by kernel_rfl) ?_
   refine wpList_nil ?_
   refine wp_cond_true (by kernel_rfl) ?_
   refine wp_seq ?_
   refine wp_region_lit ?_
   refine Kj 1 [(42,.iface p9 (vw))] (by kernel_rfl) ?_
   refine Yb (by kernel_rfl) (Xg (v:=S0) (b:=b3) (off:=0) rfl (by kernel_rfl) (by kernel_rfl) (by kernel_rfl) rfl k3 (by first|decide|simp) ?_)
   intro ms fy fg
   change Blk _ _ [S0] _ at fg
   replace hB:=fy.below hB g3
   replace k4:=fy.blk k4 (Ne.symm c8)
   replace e0:=e0.only (Ze.of_upd (T:=[22]) fy k3 (by decide)) (by decide)
   refine Yb (by kernel_rfl) (Xg (v:=.iface p9 (vw)) (b:=b4) (off:=0) rfl (by kernel_rfl) (by kernel_rfl) (by kernel_rfl) rfl k4 (by first|decide|simp) ?_)
   intro lq gd jr
   change Blk _ _ [.iface p9 (vw)] _ at jr
   replace hB:=gd.below hB g4
   replace fg:=gd.blk fg (Ne.symm (Ne.symm c8))
   replace e0:=e0.only (Ze.of_upd (T:=[29]) gd k4 (by decide)) (by decide)
   refine wpList_nil ?_
   exact wp_ret (ret0 fg jr (Zar (.inr ⟨_,_,rfl⟩) (by kernel_rfl) (by kernel_rfl)) rfl (Hf (Zdb u4 v9) (Vu v9) hB e0))
  ·refine⟨_,rfl,?_⟩
   replace hB:=bln hB f7
   replace k1:=k1.below f7
   replace k2:=k2.below f7
   replace k3:=k3.below f7
   replace k4:=k4.below f7
   replace j2:=j2.below f7
   replace hd:=Zb hd f7
   replace ht:=Zh ht gy
   refine Kj 3 [(33,.tuple #[.agg #[.slice pt ((Zd l top 1 fuel).es.length) ct,.slice b9 b5 b8,V0 c0,V0 b7,.slice b0 0 a9],.nilIface]),(38,.agg #[.slice pt ((Zd l top 1 fuel).es.length) ct,.slice b9 b5 b8,V0 c0,V0 b7,.slice b0 0 a9]),(39,.nilIface)] (by kernel_rfl) ?_
   refine Yb (by kernel_rfl) (Xw [S0,S0,V0 0,V0 0,S0] rfl (by kernel_rfl) ?_)
   intro e6 lx p6
   have bj:=p6.ne k1
   have ag:=p6.ne k2
   have f1:=p6.ne k3
   have f0:=p6.ne k4
   have y2:=p6.ne j2
   have kx:=p6.ge hB
   replace hB:=bln hB p6.below
   replace k1:=k1.below p6.below
   replace k2:=k2.below p6.below
   replace k3:=k3.below p6.below
   replace k4:=k4.below p6.below
   replace j2:=j2.below p6.below
   replace hd:=Zb hd p6.below
   replace ht:=Zb ht p6.below
   have ia:=p6.blk
   refine Yb (by kernel_rfl) (Ya (b:=e6) (off:=0) [.slice pt ((Zd l top 1 fuel).es.length) ct,.slice b9 b5 b8,V0 c0,V0 b7,.slice b0 0 a9] rfl (by kernel_rfl) (by kernel_rfl) (by kernel_rfl) (by first|decide|simp[Value.oneCell']) ia (by first|decide|simp) ?_)
   intro lf z3 cc
   change Blk _ _ [.slice pt ((Zd l top 1 fuel).es.length) ct,.slice b9 b5 b8,V0 c0,V0 b7,.slice b0 0 a9] _ at cc
   replace hB:=z3.below hB kx
   replace k1:=z3.blk k1 (Ne.symm (Ne.symm bj))
   replace k2:=z3.blk k2 (Ne.symm (Ne.symm ag))
   replace k3:=z3.blk k3 (Ne.symm (Ne.symm f1))
   replace k4:=z3.blk k4 (Ne.symm (Ne.symm f0))
   replace j2:=z3.blk j2 (Ne.symm (Ne.symm y2))
   replace hd:=z3.own2 hd ia (by decide)
   replace ht:=z3.own2 ht ia (by decide)
   refine Kj 1 [(13,.nilIface)] (by kernel_rfl) ?_
   refine wpList_nil ?_
   refine wp_seq ?_
   refine wp_seq ?_
   refine wp_region_lit ?_
   refine Kj 2 [(40,.nilIface),(41,.bool false)] (by kernel_rfl) ?_
   refine wpList_nil ?_
   refine wp_cond_false (by kernel_rfl) ?_
   refine wp_skip ?_
   refine wp_seq ?_
   refine wp_seq ?_
   refine wp_region_lit ?_
   refine Kj 1 [(43,P0 d5)] (by kernel_rfl) ?_
   refine Yb (by kernel_rfl) (Yc ⟨d5,0,none⟩ (.slice pd ((Zd l details 3 fuel).es.length) cd) rfl (by kernel_rfl) (by kernel_rfl) (j2.cell (i:=0) rfl) ?_)
   refine Kj 2 [(45,V0 (↑((Zd l details 3 fuel).es.length):Int)),(46,.bool (decide ((↑((Zd l details 3 fuel).es.length):Int)>(4096:Int))))] (by kernel_rfl) ?_
   refine wpList_nil ?_
   refine wp_cond_split (t:=decide ((↑((Zd l details 3 fuel).es.length):Int)>(4096:Int))) (by kernel_rfl) (fun t6=>?_) (fun t6=>?_)
   ·have t6:=of_decide_eq_true t6
    refine wp_seq ?_
    refine wp_region_lit ?_
    refine Yb (by kernel_rfl) (Yc ⟨b2,0,none⟩ (V0 details) rfl (by kernel_rfl) (by kernel_rfl) (k2.cell (i:=0) rfl) ?_)
    refine Yb (by kernel_rfl) (Yh (lb:=#[]) 60 #[V0 details,V0 2] rfl (by kernel_rfl) (fun _ _=>by kernel_rfl) (by kernel_rfl) ((Vg details 2 _ (by omega)).mono ?_))
    rintro e ma ⟨dl,im,rfl,bg,i6⟩
    refine⟨_,rfl,?_⟩
    replace hB:=bln hB bg
    replace k3:=k3.below bg
    replace k4:=k4.below bg
    refine Yb (by kernel_rfl) (Xg (v:=S0) (b:=b3) (off:=0) rfl (by kernel_rfl) (by kernel_rfl) (by kernel_rfl) rfl k3 (by first|decide|simp) ?_)
    intro lo hq fe
    change Blk _ _ [S0] _ at fe
    replace hB:=hq.below hB g3
    replace k4:=hq.blk k4 (Ne.symm c8)
    replace i6:=i6.only (Ze.of_upd (T:=[22]) hq k3 (by decide)) (by decide)
    refine Yb (by kernel_rfl) (Xg (v:=.iface dl (im)) (b:=b4) (off:=0) rfl (by kernel_rfl) (by kernel_rfl) (by kernel_rfl) rfl k4 (by first|decide|simp) ?_)
    intro mv hu ih
    change Blk _ _ [.iface dl (im)] _ at ih
    replace hB:=hu.below hB g4
    replace fe:=hu.blk fe (Ne.symm (Ne.symm c8))
    replace i6:=i6.only (Ze.of_upd (T:=[29]) hu k4 (by decide)) (by decide)
    refine wpList_nil ?_
    exact wp_ret (ret0 fe ih (Zar (.inr ⟨_,_,rfl⟩) (by kernel_rfl) (by kernel_rfl)) rfl (Hf (Bf u4 v9 (by omega)) (by decide) hB i6))
   ·have t6:=of_decide_eq_false t6
    refine wp_skip ?_
    refine wp_seq ?_
    refine wp_seq ?_
    refine wp_region_lit ?_
    refine Kj 1 [(49,P0 d5)] (by kernel_rfl) ?_
    refine Yb (by kernel_rfl) (Yc ⟨d5,0,none⟩ (.slice pd ((Zd l details 3 fuel).es.length) cd) rfl (by kernel_rfl) (by kernel_rfl) (j2.cell (i:=0) rfl) ?_)
    refine Kj 1 [(51,P0 e6)] (by kernel_rfl) ?_
    refine Yb (by kernel_rfl) (Yc ⟨e6,0,none⟩ (.slice pt ((Zd l top 1 fuel).es.length) ct) rfl (by kernel_rfl) (by kernel_rfl) (cc.cell (i:=0) rfl) ?_)
    have gw:=Zi hd
    have fz:=Zi ht
    have di:=hB.size
    have gx:=k1.lt
    have hn:=k2.lt
    have fu:=k3.lt
    have gr:=k4.lt
    have el:=j2.lt
    have ex:=cc.lt
    refine Yb (by kernel_rfl) (Yh (lb:=#[]) 61 #[.slice pd ((Zd l details 3 fuel).es.length) cd,.slice pt ((Zd l top 1 fuel).es.length) ct] rfl (by kernel_rfl) (fun _ _=>by kernel_rfl) (by kernel_rfl) ((Pt pd (Zd l details 3 fuel).es.length cd pt (Zd l top 1 fuel).es.length ct _).mono ?_))
    rintro e ap ⟨p1,q1,rfl,j3,dn,cv,gs,au,ae⟩
    refine⟨_,rfl,?_⟩
    replace hB:=bln hB j3
    replace k1:=k1.below j3
    replace k2:=k2.below j3
    replace k3:=k3.below j3
    replace k4:=k4.below j3
    replace j2:=j2.below j3
    replace cc:=cc.below j3
    replace hd:=Zb hd j3
    replace ht:=Zb ht j3
    refine wpList_nil ?_
    refine wp_block ?_
    obtain⟨s1,w2,s9,y5,hi,al,ah⟩:=Eo (A:=(Zd l details 3 fuel).es) (E:=(Zd l top 1 fuel).es) rfl rfl (by omega) (by omega) gw fz j3 dn cv gs au ae
    have l9:w.heap.size≤ap.heap.size:=hB.size
    have ku:w.heap.size≤p1:=Nat.le_trans di dn
    have ka:w.heap.size≤q1:=Nat.le_trans di cv
    have df:=au.lt
    have dc:=ae.lt
    have gb:=hB
    have m5:=k1
    have n0:=k2
    have i8:=k3
    have i2:=k4
    have i7:=j2
    have i3:=cc
    have z5:=au
    have y8:=ae
    have cj:=hd
    have bz:=ht
    have fv:∀ d,(fun d=>d=p1∨d=q1∨((Zd l details 3 fuel).es.length≠0∧d=s1)∨((Zd l top 1 fuel).es.length≠0∧d=s9)) d→d<ap.heap.size:=by
     rintro d (rfl|rfl|⟨h,rfl⟩|⟨h,rfl⟩)
     ·exact df
     ·exact dc
     ·exact(cj.lt _ (by rw[al h];rfl)).2
     ·exact(bz.lt _ (by rw[ah h];rfl)).2
    have ky:∀ d,(fun d=>d=p1∨d=q1∨((Zd l details 3 fuel).es.length≠0∧d=s1)∨((Zd l top 1 fuel).es.length≠0∧d=s9)) d→d∉[b3,b4]:=by
     rintro d (rfl|rfl|⟨h,rfl⟩|⟨h,rfl⟩)<;>simp only[List.mem_cons,List.not_mem_nil,or_false]
     ·omega
     ·omega
     ·rintro(h9|h9)
      ·exact Xb cj i8 (by decide) _ (by rw[al h];rfl) h9
      ·exact Xb cj i2 (by decide) _ (by rw[al h];rfl) h9
     ·rintro(h9|h9)
      ·exact Xb bz i8 (by decide) _ (by rw[ah h];rfl) h9
      ·exact Xb bz i2 (by decide) _ (by rw[ah h];rfl) h9
    refine g_fr ⟨#[P0 b,V0 top,V0 details,V0 data,V0 fuel,undef,P0 b1,P0 b2,undef,undef,P0 b3,P0 b4,P0 d5,.nilIface,P0 e6,undef,undef,undef,undef,undef,undef,undef,undef,.tuple #[.agg #[.slice pd ((Zd l details 3 fuel).es.length) cd,.slice d8 e4 e3,V0 e2,V0 e5,.slice e1 0 d9],.nilIface],P0 b,V0 details,V0 fuel,.tuple #[.agg #[.slice pd ((Zd l details 3 fuel).es.length) cd,.slice d8 e4 e3,V0 e2,V0 e5,.slice e1 0 d9],.nilIface],.agg #[.slice pd ((Zd l details 3 fuel).es.length) cd,.slice d8 e4 e3,V0 e2,V0 e5,.slice e1 0 d9],.nilIface,.nilIface,.bool false,undef,.tuple #[.agg #[.slice pt ((Zd l top 1 fuel).es.length) ct,.slice b9 b5 b8,V0 c0,V0 b7,.slice b0 0 a9],.nilIface],P0 b,V0 top,V0 fuel,.tuple #[.agg #[.slice pt ((Zd l top 1 fuel).es.length) ct,.slice b9 b5 b8,V0 c0,V0 b7,.slice b0 0 a9],.nilIface],.agg #[.slice pt ((Zd l top 1 fuel).es.length) ct,.slice b9 b5 b8,V0 c0,V0 b7,.slice b0 0 a9],.nilIface,.nilIface,.bool false,undef,P0 d5,.slice pd ((Zd l details 3 fuel).es.length) cd,V0 (↑((Zd l details 3 fuel).es.length):Int),.bool (decide ((↑((Zd l details 3 fuel).es.length):Int)>(4096:Int))),undef,undef,P0 d5,.slice pd ((Zd l details 3 fuel).es.length) cd,P0 e6,.slice pt ((Zd l top 1 fuel).es.length) ct,.func (.func 128) #[] #[P0 p1,P0 q1],undef,undef,undef,undef,undef,undef,undef,undef,undef,undef,undef,undef,undef,undef,undef,undef,undef,undef,undef,undef,undef,undef,undef,undef,undef,undef,undef,undef,undef,undef,undef,undef,undef,undef,undef,undef,undef,undef,undef,undef,undef,undef,undef],[]⟩ (by kernel_rfl) ?_
    refine Fo (g:=.tmp 53) (gf:=128) (lb:=#[P0 p1,P0 q1]) rfl (enters_of Tryz.func128 (by kernel_rfl) rfl) (fun d=>d=p1∨d=q1∨((Zd l details 3 fuel).es.length≠0∧d=s1)∨((Zd l top 1 fuel).es.length≠0∧d=s9)) (fun d=>d=p1∨d=q1) fv (fun d h=>h.elim (fun q=>q▸df) (fun q=>q▸dc)) hi (fun _=>rfl)
     (fun i V=>B0 w V∧Fr [p1,q1] ap V∧((Xd 0 0 (Zd l details 3 fuel).es (Zd l top 1 fuel).es).take i).all Rk=true)
     (fun c i V=>c=.ret∧Zbo (Qp l top details data fuel) w b3 b4 V) ?own (fun c k A B hs h hg hr=>⟨h.1,h.2.ab (q:=fun _=>False) hg hr l9⟩) ?start
     (fun x=>{ tmps:=#[P0 b,V0 top,V0 details,V0 data,V0 fuel,undef,P0 b1,P0 b2,undef,undef,P0 b3,P0 b4,P0 d5,.nilIface,P0 e6,(Pg s1 w2 x.1),(Pg s9 y5 x.2),undef,undef,undef,undef,undef,undef,.tuple #[.agg #[.slice pd ((Zd l details 3 fuel).es.length) cd,.slice d8 e4 e3,V0 e2,V0 e5,.slice e1 0 d9],.nilIface],P0 b,V0 details,V0 fuel,.tuple #[.agg #[.slice pd ((Zd l details 3 fuel).es.length) cd,.slice d8 e4 e3,V0 e2,V0 e5,.slice e1 0 d9],.nilIface],.agg #[.slice pd ((Zd l details 3 fuel).es.length) cd,.slice d8 e4 e3,V0 e2,V0 e5,.slice e1 0 d9],.nilIface,.nilIface,.bool false,undef,.tuple #[.agg #[.slice pt ((Zd l top 1 fuel).es.length) ct,.slice b9 b5 b8,V0 c0,V0 b7,.slice b0 0 a9],.nilIface],P0 b,V0 top,V0 fuel,.tuple #[.agg #[.slice pt ((Zd l top 1 fuel).es.length) ct,.slice b9 b5 b8,V0 c0,V0 b7,.slice b0 0 a9],.nilIface],.agg #[.slice pt ((Zd l top 1 fuel).es.length) ct,.slice b9 b5 b8,V0 c0,V0 b7,.slice b0 0 a9],.nilIface,.nilIface,.bool false,undef,P0 d5,.slice pd ((Zd l details 3 fuel).es.length) cd,V0 (↑((Zd l details 3 fuel).es.length):Int),.bool (decide ((↑((Zd l details 3 fuel).es.length):Int)>(4096:Int))),undef,undef,P0 d5,.slice pd ((Zd l details 3 fuel).es.length) cd,P0 e6,.slice pt ((Zd l top 1 fuel).es.length) ct,.func (.func 128) #[] #[P0 p1,P0 q1],(Pg s1 w2 x.1),(Pg s9 y5 x.2),undef,undef,undef,undef,undef,undef,undef,undef,undef,undef,undef,undef,undef,undef,undef,undef,undef,undef,undef,undef,undef,undef,undef,undef,undef,undef,undef,undef,undef,undef,undef,undef,undef,undef,undef,undef,undef,undef,undef,undef,undef],defers:=[] }) ?assign ?body ?done ?stop
    case own =>
     exact fun k A B hs h hg hr=>⟨Ty h.1 hg hr (Nat.le_refl _) l9 (fun r q=>by rcases q with rfl|rfl;exact ku;exact ka),fr_ab h.2.1 hg hr (fun r h=>by rcases h with rfl|rfl<;>simp),h.2.2⟩
    case start =>
     exact⟨gb,Fr.refl _ _,by simp⟩
    case assign =>
     intro lr i x W K hx hK
     refine Sw { tmps:=#[P0 b,V0 top,V0 details,V0 data,V0 fuel,undef,P0 b1,P0 b2,undef,undef,P0 b3,P0 b4,P0 d5,.nilIface,P0 e6,undef,undef,undef,undef,undef,undef,undef,undef,.tuple #[.agg #[.slice pd ((Zd l details 3 fuel).es.length) cd,.slice d8 e4 e3,V0 e2,V0 e5,.slice e1 0 d9],.nilIface],P0 b,V0 details,V0 fuel,.tuple #[.agg #[.slice pd ((Zd l details 3 fuel).es.length) cd,.slice d8 e4 e3,V0 e2,V0 e5,.slice e1 0 d9],.nilIface],.agg #[.slice pd ((Zd l details 3 fuel).es.length) cd,.slice d8 e4 e3,V0 e2,V0 e5,.slice e1 0 d9],.nilIface,.nilIface,.bool false,undef,.tuple #[.agg #[.slice pt ((Zd l top 1 fuel).es.length) ct,.slice b9 b5 b8,V0 c0,V0 b7,.slice b0 0 a9],.nilIface],P0 b,V0 top,V0 fuel,.tuple #[.agg #[.slice pt ((Zd l top 1 fuel).es.length) ct,.slice b9 b5 b8,V0 c0,V0 b7,.slice b0 0 a9],.nilIface],.agg #[.slice pt ((Zd l top 1 fuel).es.length) ct,.slice b9 b5 b8,V0 c0,V0 b7,.slice b0 0 a9],.nilIface,.nilIface,.bool false,undef,P0 d5,.slice pd ((Zd l details 3 fuel).es.length) cd,V0 (↑((Zd l details 3 fuel).es.length):Int),.bool (decide ((↑((Zd l details 3 fuel).es.length):Int)>(4096:Int))),undef,undef,P0 d5,.slice pd ((Zd l details 3 fuel).es.length) cd,P0 e6,.slice pt ((Zd l top 1 fuel).es.length) ct,.func (.func 128) #[] #[P0 p1,P0 q1],(Pg s1 w2 x.1),(Pg s9 y5 x.2),undef,undef,undef,undef,undef,undef,undef,undef,undef,undef,undef,undef,undef,undef,undef,undef,undef,undef,undef,undef,undef,undef,undef,undef,undef,undef,undef,undef,undef,undef,undef,undef,undef,undef,undef,undef,undef,undef,undef,undef,undef],defers:=[] } (by kernel_rfl) ?_
     refine wpIn_seq ?_
     refine Yy (fun⟨_,_,q⟩=>q) (by simp) ?_
     refine Kj 1 [(15,(Pg s1 w2 x.1))] (by kernel_rfl) ?_
     refine wpList_nil ?_
     refine Yy (fun⟨_,_,q⟩=>q) (by simp) ?_
     refine Kj 1 [(16,(Pg s9 y5 x.2))] (by kernel_rfl) ?_
     refine wpList_nil ?_
     exact hK
    case body =>
     rintro lr i x W kb hx ⟨o5,hF,dv⟩
     obtain⟨xa,xb⟩:=x
     rcases xa with _|ja<;>rcases xb with _|jb
     ·
      have g9:w.heap.size≤W.heap.size:=Nat.le_trans l9 hF.size
      have ev:=hI.below o5
      have hZ:RdS ap [b3,b4] W W:=RdS.refl _ hF.size
      have c3:=m5.fr hF (by simp only[List.mem_cons,List.not_mem_nil,or_false];omega)
      have c2:=n0.fr hF (by simp only[List.mem_cons,List.not_mem_nil,or_false];omega)
      have c7:=i8.fr hF (by simp only[List.mem_cons,List.not_mem_nil,or_false];omega)
      have c1:=i2.fr hF (by simp only[List.mem_cons,List.not_mem_nil,or_false];omega)
      have a8:=i7.fr hF (by simp only[List.mem_cons,List.not_mem_nil,or_false];omega)
      have a7:=i3.fr hF (by simp only[List.mem_cons,List.not_mem_nil,or_false];omega)
      refine Sw { tmps:=#[P0 b,V0 top,V0 details,V0 data,V0 fuel,undef,P0 b1,P0 b2,undef,undef,P0 b3,P0 b4,P0 d5,.nilIface,P0 e6,.pointer none,.pointer none,undef,undef,undef,undef,undef,undef,.tuple #[.agg #[.slice pd ((Zd l details 3 fuel).es.length) cd,.slice d8 e4 e3,V0 e2,V0 e5,.slice e1 0 d9],.nilIface],P0 b,V0 details,V0 fuel,.tuple #[.agg #[.slice pd ((Zd l details 3 fuel).es.length) cd,.slice d8 e4 e3,V0 e2,V0 e5,.slice e1 0 d9],.nilIface],.agg #[.slice pd ((Zd l details 3 fuel).es.length) cd,.slice d8 e4 e3,V0 e2,V0 e5,.slice e1 0 d9],.nilIface,.nilIface,.bool false,undef,.tuple #[.agg #[.slice pt ((Zd l top 1 fuel).es.length) ct,.slice b9 b5 b8,V0 c0,V0 b7,.slice b0 0 a9],.nilIface],P0 b,V0 top,V0 fuel,.tuple #[.agg #[.slice pt ((Zd l top 1 fuel).es.length) ct,.slice b9 b5 b8,V0 c0,V0 b7,.slice b0 0 a9],.nilIface],.agg #[.slice pt ((Zd l top 1 fuel).es.length) ct,.slice b9 b5 b8,V0 c0,V0 b7,.slice b0 0 a9],.nilIface,.nilIface,.bool false,undef,P0 d5,.slice pd ((Zd l details 3 fuel).es.length) cd,V0 (↑((Zd l details 3 fuel).es.length):Int),.bool (decide ((↑((Zd l details 3 fuel).es.length):Int)>(4096:Int))),undef,undef,P0 d5,.slice pd ((Zd l details 3 fuel).es.length) cd,P0 e6,.slice pt ((Zd l top 1 fuel).es.length) ct,.func (.func 128) #[] #[P0 p1,P0 q1],.pointer none,.pointer none,undef,undef,undef,undef,undef,undef,undef,undef,undef,undef,undef,undef,undef,undef,undef,undef,undef,undef,undef,undef,undef,undef,undef,undef,undef,undef,undef,undef,undef,undef,undef,undef,undef,undef,undef,undef,undef,undef,undef,undef,undef],defers:=[] } rfl ?_
      refine wpIn_block ?_
      refine wpIn_block ?_
      refine wpIn_seq ?_
      refine Yy (fun⟨_,_,q⟩=>q) (by simp) ?_
      refine Kj 3 [(57,.pointer none),(58,.bool true),(56,.bool true)] (by kernel_rfl) ?_
      refine wpList_nil ?_
      refine wpIn_cond_true (by kernel_rfl) ?_
      refine wpIn_seq ?_
      refine Yy (fun⟨_,_,q⟩=>q) (by simp) ?_
      refine Yb (by kernel_rfl) (Yc ⟨b2,0,none⟩ (V0 details) rfl (by kernel_rfl) (by kernel_rfl) (c2.cell (i:=0) rfl) ?_)
      refine Yb (by kernel_rfl) (Yh (lb:=#[]) 60 #[V0 details,V0 18] rfl (by kernel_rfl) (fun _ _=>by kernel_rfl) (by kernel_rfl) ((Vg details 18 _ (by omega)).mono ?_))
      rintro e lm ⟨dq,jh,rfl,o2,i6⟩
      refine⟨_,rfl,?_⟩
      have hB:=blB (Below.refl w.heap.size W) g9 o2
      replace c3:=c3.below o2
      replace c2:=c2.below o2
      replace c7:=c7.below o2
      replace c1:=c1.below o2
      replace a8:=a8.below o2
      replace a7:=a7.below o2
      replace hZ:=hZ.below o2
      refine Yb (by kernel_rfl) (Xg (v:=S0) (b:=b3) (off:=0) rfl (by kernel_rfl) (by kernel_rfl) (by kernel_rfl) rfl c7 (by first|decide|simp) ?_)
      intro mb z6 fd
      change Blk _ _ [S0] _ at fd
      replace hB:=z6.below hB g3
      replace c3:=z6.blk c3 (Ne.symm (Ne.symm k0))
      replace c2:=z6.blk c2 (Ne.symm (Ne.symm j7))
      replace c1:=z6.blk c1 (Ne.symm c8)
      replace a8:=z6.blk a8 (Ne.symm e8)
      replace a7:=z6.blk a7 (Ne.symm f1)
      replace hZ:=hZ.upd z6 c7 (.inl (by simp))
      replace i6:=i6.only (Ze.of_upd (T:=[22]) z6 c7 (by decide)) (by decide)
      refine Yb (by kernel_rfl) (Xg (v:=.iface dq (jh)) (b:=b4) (off:=0) rfl (by kernel_rfl) (by kernel_rfl) (by kernel_rfl) rfl c1 (by first|decide|simp) ?_)
      intro mg z1 jf
      change Blk _ _ [.iface dq (jh)] _ at jf
      replace hB:=z1.below hB g4
      replace c3:=z1.blk c3 (Ne.symm (Ne.symm j8))
      replace c2:=z1.blk c2 (Ne.symm (Ne.symm j5))
      replace fd:=z1.blk fd (Ne.symm (Ne.symm c8))
      replace a8:=z1.blk a8 (Ne.symm f2)
      replace a7:=z1.blk a7 (Ne.symm f0)
      replace hZ:=hZ.upd z1 c1 (.inl (by simp))
      replace i6:=i6.only (Ze.of_upd (T:=[29]) z1 c1 (by decide)) (by decide)
      refine wpList_nil ?_
      refine wpIn_ret (Yd (Yd ?_))
      exact⟨hZ.ko.from _,rfl,_,_,_,_,(Ay u4 v9 (by omega) ((Jb _ _ 0 0 i _ dv hx rfl).trans rfl)),(by decide),fd,jf,i6,o5.trans hB⟩
     ·
      have g9:w.heap.size≤W.heap.size:=Nat.le_trans l9 hF.size
      have ev:=hI.below o5
      have hZ:RdS ap [b3,b4] W W:=RdS.refl _ hF.size
      have c3:=m5.fr hF (by simp only[List.mem_cons,List.not_mem_nil,or_false];omega)
      have c2:=n0.fr hF (by simp only[List.mem_cons,List.not_mem_nil,or_false];omega)
      have c7:=i8.fr hF (by simp only[List.mem_cons,List.not_mem_nil,or_false];omega)
      have c1:=i2.fr hF (by simp only[List.mem_cons,List.not_mem_nil,or_false];omega)
      have a8:=i7.fr hF (by simp only[List.mem_cons,List.not_mem_nil,or_false];omega)
      have a7:=i3.fr hF (by simp only[List.mem_cons,List.not_mem_nil,or_false];omega)
      refine Sw { tmps:=#[P0 b,V0 top,V0 details,V0 data,V0 fuel,undef,P0 b1,P0 b2,undef,undef,P0 b3,P0 b4,P0 d5,.nilIface,P0 e6,.pointer none,.pointer (some ⟨s9,y5+3*jb,none⟩),undef,undef,undef,undef,undef,undef,.tuple #[.agg #[.slice pd ((Zd l details 3 fuel).es.length) cd,.slice d8 e4 e3,V0 e2,V0 e5,.slice e1 0 d9],.nilIface],P0 b,V0 details,V0 fuel,.tuple #[.agg #[.slice pd ((Zd l details 3 fuel).es.length) cd,.slice d8 e4 e3,V0 e2,V0 e5,.slice e1 0 d9],.nilIface],.agg #[.slice pd ((Zd l details 3 fuel).es.length) cd,.slice d8 e4 e3,V0 e2,V0 e5,.slice e1 0 d9],.nilIface,.nilIface,.bool false,undef,.tuple #[.agg #[.slice pt ((Zd l top 1 fuel).es.length) ct,.slice b9 b5 b8,V0 c0,V0 b7,.slice b0 0 a9],.nilIface],P0 b,V0 top,V0 fuel,.tuple #[.agg #[.slice pt ((Zd l top 1 fuel).es.length) ct,.slice b9 b5 b8,V0 c0,V0 b7,.slice b0 0 a9],.nilIface],.agg #[.slice pt ((Zd l top 1 fuel).es.length) ct,.slice b9 b5 b8,V0 c0,V0 b7,.slice b0 0 a9],.nilIface,.nilIface,.bool false,undef,P0 d5,.slice pd ((Zd l details 3 fuel).es.length) cd,V0 (↑((Zd l details 3 fuel).es.length):Int),.bool (decide ((↑((Zd l details 3 fuel).es.length):Int)>(4096:Int))),undef,undef,P0 d5,.slice pd ((Zd l details 3 fuel).es.length) cd,P0 e6,.slice pt ((Zd l top 1 fuel).es.length) ct,.func (.func 128) #[] #[P0 p1,P0 q1],.pointer none,.pointer (some ⟨s9,y5+3*jb,none⟩),undef,undef,undef,undef,undef,undef,undef,undef,undef,undef,undef,undef,undef,undef,undef,undef,undef,undef,undef,undef,undef,undef,undef,undef,undef,undef,undef,undef,undef,undef,undef,undef,undef,undef,undef,undef,undef,undef,undef,undef,undef],defers:=[] } rfl ?_
      refine wpIn_block ?_
      refine wpIn_block ?_
      refine wpIn_seq ?_
      refine Yy (fun⟨_,_,q⟩=>q) (by simp) ?_
      refine Kj 3 [(57,.pointer none),(58,.bool true),(56,.bool true)] (by kernel_rfl) ?_
      refine wpList_nil ?_
      refine wpIn_cond_true (by kernel_rfl) ?_
      refine wpIn_seq ?_
      refine Yy (fun⟨_,_,q⟩=>q) (by simp) ?_
      refine Yb (by kernel_rfl) (Yc ⟨b2,0,none⟩ (V0 details) rfl (by kernel_rfl) (by kernel_rfl) (c2.cell (i:=0) rfl) ?_)
      refine Yb (by kernel_rfl) (Yh (lb:=#[]) 60 #[V0 details,V0 18] rfl (by kernel_rfl) (fun _ _=>by kernel_rfl) (by kernel_rfl) ((Vg details 18 _ (by omega)).mono ?_))
      rintro e mu ⟨co,iv,rfl,n8,i6⟩
      refine⟨_,rfl,?_⟩
      have hB:=blB (Below.refl w.heap.size W) g9 n8
      replace c3:=c3.below n8
      replace c2:=c2.below n8
      replace c7:=c7.below n8
      replace c1:=c1.below n8
      replace a8:=a8.below n8
      replace a7:=a7.below n8
      replace hZ:=hZ.below n8
      refine Yb (by kernel_rfl) (Xg (v:=S0) (b:=b3) (off:=0) rfl (by kernel_rfl) (by kernel_rfl) (by kernel_rfl) rfl c7 (by first|decide|simp) ?_)
      intro mt aa ek
      change Blk _ _ [S0] _ at ek
      replace hB:=aa.below hB g3
      replace c3:=aa.blk c3 (Ne.symm (Ne.symm k0))
      replace c2:=aa.blk c2 (Ne.symm (Ne.symm j7))
      replace c1:=aa.blk c1 (Ne.symm c8)
      replace a8:=aa.blk a8 (Ne.symm e8)
      replace a7:=aa.blk a7 (Ne.symm f1)
      replace hZ:=hZ.upd aa c7 (.inl (by simp))
      replace i6:=i6.only (Ze.of_upd (T:=[22]) aa c7 (by decide)) (by decide)
      refine Yb (by kernel_rfl) (Xg (v:=.iface co (iv)) (b:=b4) (off:=0) rfl (by kernel_rfl) (by kernel_rfl) (by kernel_rfl) rfl c1 (by first|decide|simp) ?_)
      intro lh z8 js
      change Blk _ _ [.iface co (iv)] _ at js
      replace hB:=z8.below hB g4
      replace c3:=z8.blk c3 (Ne.symm (Ne.symm j8))
      replace c2:=z8.blk c2 (Ne.symm (Ne.symm j5))
      replace ek:=z8.blk ek (Ne.symm (Ne.symm c8))
      replace a8:=z8.blk a8 (Ne.symm f2)
      replace a7:=z8.blk a7 (Ne.symm f0)
      replace hZ:=hZ.upd z8 c1 (.inl (by simp))
      replace i6:=i6.only (Ze.of_upd (T:=[29]) z8 c1 (by decide)) (by decide)
      refine wpList_nil ?_
      refine wpIn_ret (Yd (Yd ?_))
      exact⟨hZ.ko.from _,rfl,_,_,_,_,(Ay u4 v9 (by omega) ((Jb _ _ 0 0 i _ dv hx rfl).trans rfl)),(by decide),ek,js,i6,o5.trans hB⟩
     ·
      have g9:w.heap.size≤W.heap.size:=Nat.le_trans l9 hF.size
      have ev:=hI.below o5
      have hZ:RdS ap [b3,b4] W W:=RdS.refl _ hF.size
      have c3:=m5.fr hF (by simp only[List.mem_cons,List.not_mem_nil,or_false];omega)
      have c2:=n0.fr hF (by simp only[List.mem_cons,List.not_mem_nil,or_false];omega)
      have c7:=i8.fr hF (by simp only[List.mem_cons,List.not_mem_nil,or_false];omega)
      have c1:=i2.fr hF (by simp only[List.mem_cons,List.not_mem_nil,or_false];omega)
      have a8:=i7.fr hF (by simp only[List.mem_cons,List.not_mem_nil,or_false];omega)
      have a7:=i3.fr hF (by simp only[List.mem_cons,List.not_mem_nil,or_false];omega)
      refine Sw { tmps:=#[P0 b,V0 top,V0 details,V0 data,V0 fuel,undef,P0 b1,P0 b2,undef,undef,P0 b3,P0 b4,P0 d5,.nilIface,P0 e6,.pointer (some ⟨s1,w2+3*ja,none⟩),.pointer none,undef,undef,undef,undef,undef,undef,.tuple #[.agg #[.slice pd ((Zd l details 3 fuel).es.length) cd,.slice d8 e4 e3,V0 e2,V0 e5,.slice e1 0 d9],.nilIface],P0 b,V0 details,V0 fuel,.tuple #[.agg #[.slice pd ((Zd l details 3 fuel).es.length) cd,.slice d8 e4 e3,V0 e2,V0 e5,.slice e1 0 d9],.nilIface],.agg #[.slice pd ((Zd l details 3 fuel).es.length) cd,.slice d8 e4 e3,V0 e2,V0 e5,.slice e1 0 d9],.nilIface,.nilIface,.bool false,undef,.tuple #[.agg #[.slice pt ((Zd l top 1 fuel).es.length) ct,.slice b9 b5 b8,V0 c0,V0 b7,.slice b0 0 a9],.nilIface],P0 b,V0 top,V0 fuel,.tuple #[.agg #[.slice pt ((Zd l top 1 fuel).es.length) ct,.slice b9 b5 b8,V0 c0,V0 b7,.slice b0 0 a9],.nilIface],.agg #[.slice pt ((Zd l top 1 fuel).es.length) ct,.slice b9 b5 b8,V0 c0,V0 b7,.slice b0 0 a9],.nilIface,.nilIface,.bool false,undef,P0 d5,.slice pd ((Zd l details 3 fuel).es.length) cd,V0 (↑((Zd l details 3 fuel).es.length):Int),.bool (decide ((↑((Zd l details 3 fuel).es.length):Int)>(4096:Int))),undef,undef,P0 d5,.slice pd ((Zd l details 3 fuel).es.length) cd,P0 e6,.slice pt ((Zd l top 1 fuel).es.length) ct,.func (.func 128) #[] #[P0 p1,P0 q1],.pointer (some ⟨s1,w2+3*ja,none⟩),.pointer none,undef,undef,undef,undef,undef,undef,undef,undef,undef,undef,undef,undef,undef,undef,undef,undef,undef,undef,undef,undef,undef,undef,undef,undef,undef,undef,undef,undef,undef,undef,undef,undef,undef,undef,undef,undef,undef,undef,undef,undef,undef],defers:=[] } rfl ?_
      refine wpIn_block ?_
      refine wpIn_block ?_
      refine wpIn_seq ?_
      refine Yy (fun⟨_,_,q⟩=>q) (by simp) ?_
      refine Kj 3 [(57,.pointer (some ⟨s1,w2+3*ja,none⟩)),(58,.bool false),(56,.bool false)] (by kernel_rfl) ?_
      refine wpList_nil ?_
      refine wpIn_cond_false (by kernel_rfl) ?_
      refine wpIn_seq ?_
      refine Yy (fun⟨_,_,q⟩=>q) (by simp) ?_
      refine Kj 3 [(62,.pointer none),(63,.bool true),(61,.bool true)] (by kernel_rfl) ?_
      refine wpList_nil ?_
      refine wpIn_cond_true (by kernel_rfl) ?_
      refine wpIn_seq ?_
      refine Yy (fun⟨_,_,q⟩=>q) (by simp) ?_
      refine Yb (by kernel_rfl) (Yc ⟨b1,0,none⟩ (V0 top) rfl (by kernel_rfl) (by kernel_rfl) (c3.cell (i:=0) rfl) ?_)
      refine Yb (by kernel_rfl) (Yh (lb:=#[]) 60 #[V0 top,V0 18] rfl (by kernel_rfl) (fun _ _=>by kernel_rfl) (by kernel_rfl) ((Vg top 18 _ (by omega)).mono ?_))
      rintro e mq ⟨cx,iw,rfl,o3,i6⟩
      refine⟨_,rfl,?_⟩
      have hB:=blB (Below.refl w.heap.size W) g9 o3
      replace c3:=c3.below o3
      replace c2:=c2.below o3
      replace c7:=c7.below o3
      replace c1:=c1.below o3
      replace a8:=a8.below o3
      replace a7:=a7.below o3
      replace hZ:=hZ.below o3
      refine Yb (by kernel_rfl) (Xg (v:=S0) (b:=b3) (off:=0) rfl (by kernel_rfl) (by kernel_rfl) (by kernel_rfl) rfl c7 (by first|decide|simp) ?_)
      intro mw z4 ef
      change Blk _ _ [S0] _ at ef
      replace hB:=z4.below hB g3
      replace c3:=z4.blk c3 (Ne.symm (Ne.symm k0))
      replace c2:=z4.blk c2 (Ne.symm (Ne.symm j7))
      replace c1:=z4.blk c1 (Ne.symm c8)
      replace a8:=z4.blk a8 (Ne.symm e8)
      replace a7:=z4.blk a7 (Ne.symm f1)
      replace hZ:=hZ.upd z4 c7 (.inl (by simp))
      replace i6:=i6.only (Ze.of_upd (T:=[22]) z4 c7 (by decide)) (by decide)
      refine Yb (by kernel_rfl) (Xg (v:=.iface cx (iw)) (b:=b4) (off:=0) rfl (by kernel_rfl) (by kernel_rfl) (by kernel_rfl) rfl c1 (by first|decide|simp) ?_)
      intro mf z2 ip
      change Blk _ _ [.iface cx (iw)] _ at ip
      replace hB:=z2.below hB g4
      replace c3:=z2.blk c3 (Ne.symm (Ne.symm j8))
      replace c2:=z2.blk c2 (Ne.symm (Ne.symm j5))
      replace ef:=z2.blk ef (Ne.symm (Ne.symm c8))
      replace a8:=z2.blk a8 (Ne.symm f2)
      replace a7:=z2.blk a7 (Ne.symm f0)
      replace hZ:=hZ.upd z2 c1 (.inl (by simp))
      replace i6:=i6.only (Ze.of_upd (T:=[29]) z2 c1 (by decide)) (by decide)
      refine wpList_nil ?_
      refine wpIn_ret (Yd (Yd ?_))
      exact⟨hZ.ko.from _,rfl,_,_,_,_,(devsO_p2 u4 v9 (by omega) ((Jb _ _ 0 0 i _ dv hx rfl).trans rfl)),(by decide),ef,ip,i6,o5.trans hB⟩
     ·
      have g9:w.heap.size≤W.heap.size:=Nat.le_trans l9 hF.size
      have ev:=hI.below o5
      have hZ:RdS ap [b3,b4] W W:=RdS.refl _ hF.size
      have c3:=m5.fr hF (by simp only[List.mem_cons,List.not_mem_nil,or_false];omega)
      have c2:=n0.fr hF (by simp only[List.mem_cons,List.not_mem_nil,or_false];omega)
      have c7:=i8.fr hF (by simp only[List.mem_cons,List.not_mem_nil,or_false];omega)
      have c1:=i2.fr hF (by simp only[List.mem_cons,List.not_mem_nil,or_false];omega)
      have a8:=i7.fr hF (by simp only[List.mem_cons,List.not_mem_nil,or_false];omega)
      have a7:=i3.fr hF (by simp only[List.mem_cons,List.not_mem_nil,or_false];omega)
      refine Sw { tmps:=#[P0 b,V0 top,V0 details,V0 data,V0 fuel,undef,P0 b1,P0 b2,undef,undef,P0 b3,P0 b4,P0 d5,.nilIface,P0 e6,.pointer (some ⟨s1,w2+3*ja,none⟩),.pointer (some ⟨s9,y5+3*jb,none⟩),undef,undef,undef,undef,undef,undef,.tuple #[.agg #[.slice pd ((Zd l details 3 fuel).es.length) cd,.slice d8 e4 e3,V0 e2,V0 e5,.slice e1 0 d9],.nilIface],P0 b,V0 details,V0 fuel,.tuple #[.agg #[.slice pd ((Zd l details 3 fuel).es.length) cd,.slice d8 e4 e3,V0 e2,V0 e5,.slice e1 0 d9],.nilIface],.agg #[.slice pd ((Zd l details 3 fuel).es.length) cd,.slice d8 e4 e3,V0 e2,V0 e5,.slice e1 0 d9],.nilIface,.nilIface,.bool false,undef,.tuple #[.agg #[.slice pt ((Zd l top 1 fuel).es.length) ct,.slice b9 b5 b8,V0 c0,V0 b7,.slice b0 0 a9],.nilIface],P0 b,V0 top,V0 fuel,.tuple #[.agg #[.slice pt ((Zd l top 1 fuel).es.length) ct,.slice b9 b5 b8,V0 c0,V0 b7,.slice b0 0 a9],.nilIface],.agg #[.slice pt ((Zd l top 1 fuel).es.length) ct,.slice b9 b5 b8,V0 c0,V0 b7,.slice b0 0 a9],.nilIface,.nilIface,.bool false,undef,P0 d5,.slice pd ((Zd l details 3 fuel).es.length) cd,V0 (↑((Zd l details 3 fuel).es.length):Int),.bool (decide ((↑((Zd l details 3 fuel).es.length):Int)>(4096:Int))),undef,undef,P0 d5,.slice pd ((Zd l details 3 fuel).es.length) cd,P0 e6,.slice pt ((Zd l top 1 fuel).es.length) ct,.func (.func 128) #[] #[P0 p1,P0 q1],.pointer (some ⟨s1,w2+3*ja,none⟩),.pointer (some ⟨s9,y5+3*jb,none⟩),undef,undef,undef,undef,undef,undef,undef,undef,undef,undef,undef,undef,undef,undef,undef,undef,undef,undef,undef,undef,undef,undef,undef,undef,undef,undef,undef,undef,undef,undef,undef,undef,undef,undef,undef,undef,undef,undef,undef,undef,undef],defers:=[] } rfl ?_
      refine wpIn_block ?_
      refine wpIn_block ?_
      refine wpIn_seq ?_
      refine Yy (fun⟨_,_,q⟩=>q) (by simp) ?_
      refine Kj 3 [(57,.pointer (some ⟨s1,w2+3*ja,none⟩)),(58,.bool false),(56,.bool false)] (by kernel_rfl) ?_
      refine wpList_nil ?_
      refine wpIn_cond_false (by kernel_rfl) ?_
      refine wpIn_seq ?_
      refine Yy (fun⟨_,_,q⟩=>q) (by simp) ?_
      refine Kj 3 [(62,.pointer (some ⟨s9,y5+3*jb,none⟩)),(63,.bool false),(61,.bool false)] (by kernel_rfl) ?_
      refine wpList_nil ?_
      refine wpIn_cond_false (by kernel_rfl) ?_
      refine wpIn_skip ?_
      exact⟨KeepsFrom.refl _ _,Keeps.refl _ _,o5,hF,Dh dv hx rfl⟩
    case stop =>
     rintro D c k V hD hk ⟨rfl,ty,v,bl,er,hO,fp,ca,j2,hv,hb⟩ w9
     have hK:Dfr D V:=w9
     refine wp_ret (Yd (Pl ?_))
     exact ret1 ca j2 hK (Zar (.inr ⟨_,_,rfl⟩) (by kernel_rfl) (by kernel_rfl)) rfl (Hf hO fp (Gs hb hb.size (Nat.le_trans l9 hD) _) (hv.pt hK _))
    case done =>
     rintro D1 W9 jn ⟨kt,z0,aj⟩ w9
     have hK:Dfr D1 W9:=w9;clear w9
     rw[List.take_length] at aj
     have de:=aj
     have ew:=(Nb _ _ 0 0 aj).1
     have ki:=(Bg ew).1
     have d1:=m5.fr z0 (by simp only[List.mem_cons,List.not_mem_nil,or_false];omega)
     have d2:=n0.fr z0 (by simp only[List.mem_cons,List.not_mem_nil,or_false];omega)
     have d3:=i8.fr z0 (by simp only[List.mem_cons,List.not_mem_nil,or_false];omega)
     have d4:=i2.fr z0 (by simp only[List.mem_cons,List.not_mem_nil,or_false];omega)
     have c5:=i7.fr z0 (by simp only[List.mem_cons,List.not_mem_nil,or_false];omega)
     have c4:=i3.fr z0 (by simp only[List.mem_cons,List.not_mem_nil,or_false];omega)
     have s6:=Au cj z0 (fun d hd=>by simp only[List.mem_cons,List.not_mem_nil,or_false];rintro(h|h);exact Xb cj z5 (by decide) d hd h;exact Xb cj y8 (by decide) d hd h)
     have s5:=Au bz z0 (fun d hd=>by simp only[List.mem_cons,List.not_mem_nil,or_false];rintro(h|h);exact Xb bz z5 (by decide) d hd h;exact Xb bz y8 (by decide) d hd h)
     replace hB:=kt
     refine wp_seq ?_
     refine wp_region_lit ?_
     refine Kj 4 [(66,P0 b),(67,V0 data),(68,V0 fuel),(69,.agg #[P0 b,V0 data,V0 fuel,V0 0])] (by kernel_rfl) ?_
     refine Yb (by kernel_rfl) (Cj [P0 b,V0 data,V0 fuel,V0 0] rfl (by kernel_rfl) ?_)
     intro g8 mo m2
     have bq:=m2.ne d1
     have bm:=m2.ne d2
     have bt:=m2.ne d3
     have bc:=m2.ne d4
     have x1:=m2.ne c5
     have y1:=m2.ne c4
     have ke:=m2.ge hB
     replace hB:=bln hB m2.below
     replace d1:=d1.below m2.below
     replace d2:=d2.below m2.below
     replace d3:=d3.below m2.below
     replace d4:=d4.below m2.below
     replace c5:=c5.below m2.below
     replace c4:=c4.below m2.below
     replace s6:=Zb s6 m2.below
     replace s5:=Zb s5 m2.below
     replace hK:=hK.below m2.below
     have s2:=m2.blk
     refine Yb (by kernel_rfl) (Xw [.pointer none] rfl (by kernel_rfl) ?_)
     intro y7 mr j9
     have bf:=j9.ne d1
     have bp:=j9.ne d2
     have l3:=j9.ne d3
     have m1:=j9.ne d4
     have x6:=j9.ne c5
     have w5:=j9.ne c4
     have q4:=j9.ne s2
     have kz:=j9.ge hB
     replace hB:=bln hB j9.below
     replace d1:=d1.below j9.below
     replace d2:=d2.below j9.below
     replace d3:=d3.below j9.below
     replace d4:=d4.below j9.below
     replace c5:=c5.below j9.below
     replace c4:=c4.below j9.below
     replace s2:=s2.below j9.below
     replace s6:=Zb s6 j9.below
     replace s5:=Zb s5 j9.below
     replace hK:=hK.below j9.below
     have ez:=j9.blk
     refine Yb (by kernel_rfl) (Xg (v:=P0 g8) (b:=y7) (off:=0) rfl (by kernel_rfl) (by kernel_rfl) (by kernel_rfl) rfl ez (by first|decide|simp) ?_)
     intro mp u6 y6
     change Blk _ _ [P0 g8] _ at y6
     replace hB:=u6.below hB kz
     replace d1:=u6.blk d1 (Ne.symm (Ne.symm bf))
     replace d2:=u6.blk d2 (Ne.symm (Ne.symm bp))
     replace d3:=u6.blk d3 (Ne.symm (Ne.symm l3))
     replace d4:=u6.blk d4 (Ne.symm (Ne.symm m1))
     replace c5:=u6.blk c5 (Ne.symm (Ne.symm x6))
     replace c4:=u6.blk c4 (Ne.symm (Ne.symm w5))
     replace s2:=u6.blk s2 (Ne.symm (Ne.symm q4))
     replace s6:=u6.own2 s6 ez (by decide)
     replace s5:=u6.own2 s5 ez (by decide)
     replace hK:=hK.upd u6 ez
     refine wpList_nil ?_
     refine wp_seq ?_
     refine wp_region_lit ?_
     refine Yb (by kernel_rfl) (Xw [S0] rfl (by kernel_rfl) ?_)
     intro i5 mh j0
     have p3:=j0.ne d1
     have p8:=j0.ne d2
     have g7:=j0.ne d3
     have g5:=j0.ne d4
     have l7:=j0.ne c5
     have l2:=j0.ne c4
     have r4:=j0.ne s2
     have m0:=j0.ne y6
     have jc:=j0.ge hB
     replace hB:=bln hB j0.below
     replace d1:=d1.below j0.below
     replace d2:=d2.below j0.below
     replace d3:=d3.below j0.below
     replace d4:=d4.below j0.below
     replace c5:=c5.below j0.below
     replace c4:=c4.below j0.below
     replace s2:=s2.below j0.below
     replace y6:=y6.below j0.below
     replace s6:=Zb s6 j0.below
     replace s5:=Zb s5 j0.below
     replace hK:=hK.below j0.below
     have cq:=j0.blk
     refine wpList_nil ?_
     refine wp_seq ?_
     refine wp_seq ?_
     refine wp_region_lit ?_
     refine Kj 1 [(71,P0 d5)] (by kernel_rfl) ?_
     refine Yb (by kernel_rfl) (Yc ⟨d5,0,none⟩ (.slice pd ((Zd l details 3 fuel).es.length) cd) rfl (by kernel_rfl) (by kernel_rfl) (c5.cell (i:=0) rfl) ?_)
     refine Kj 1 [(73,P0 e6)] (by kernel_rfl) ?_
     refine Yb (by kernel_rfl) (Yc ⟨e6,0,none⟩ (.slice pt ((Zd l top 1 fuel).es.length) ct) rfl (by kernel_rfl) (by kernel_rfl) (c4.cell (i:=0) rfl) ?_)
     have gi:=Zi s6
     have gq:=Zi s5
     have cl:=hB.size
     have ft:=d1.lt
     have fq:=d2.lt
     have gz:=d3.lt
     have gl:=d4.lt
     have fa:=c5.lt
     have ej:=c4.lt
     have fk:=s2.lt
     have dw:=y6.lt
     have dz:=cq.lt
     refine Yb (by kernel_rfl) (Yh (lb:=#[]) 61 #[.slice pd ((Zd l details 3 fuel).es.length) cd,.slice pt ((Zd l top 1 fuel).es.length) ct] rfl (by kernel_rfl) (fun _ _=>by kernel_rfl) (by kernel_rfl) ((Pt pd (Zd l details 3 fuel).es.length cd pt (Zd l top 1 fuel).es.length ct _).mono ?_))
     rintro e az ⟨p2,q2,rfl,f9,dr,dh,gv,ax,bs⟩
     refine⟨_,rfl,?_⟩
     replace hB:=bln hB f9
     replace d1:=d1.below f9
     replace d2:=d2.below f9
     replace d3:=d3.below f9
     replace d4:=d4.below f9
     replace c5:=c5.below f9
     replace c4:=c4.below f9
     replace s2:=s2.below f9
     replace y6:=y6.below f9
     replace cq:=cq.below f9
     replace s6:=Zb s6 f9
     replace s5:=Zb s5 f9
     replace hK:=hK.below f9
     refine wpList_nil ?_
     refine wp_block ?_
     obtain⟨bn,fc,bw,ed,hz,s3,s0⟩:=Eo (A:=(Zd l details 3 fuel).es) (E:=(Zd l top 1 fuel).es) rfl rfl (by omega) (by omega) gi gq f9 dr dh gv ax bs
     have l6:w.heap.size≤az.heap.size:=hB.size
     have kf:w.heap.size≤p2:=Nat.le_trans cl dr
     have kw:w.heap.size≤q2:=Nat.le_trans cl dh
     have x4:=ax.lt
     have w8:=bs.lt
     have hw:=hB
     have z9:=d1
     have z7:=d2
     have j4:=d3
     have j6:=d4
     have u2:=c5
     have t8:=c4
     have i9:=s2
     have v6:=y6
     have i4:=cq
     have t7:=ax
     have t9:=bs
     have w0:=s6
     have w1:=s5
     have ji:w.heap.size≤g8:=ke
     have r2:b1≠g8:=(Ne.symm (Ne.symm bq))
     have r6:b1≠i5:=(Ne.symm (Ne.symm p3))
     have q6:b2≠g8:=(Ne.symm (Ne.symm bm))
     have r8:b2≠i5:=(Ne.symm (Ne.symm p8))
     have q8:b3≠g8:=(Ne.symm (Ne.symm bt))
     have q5:b3≠i5:=(Ne.symm (Ne.symm g7))
     have q7:b4≠g8:=(Ne.symm (Ne.symm bc))
     have q9:b4≠i5:=(Ne.symm (Ne.symm g5))
     have m9:d5≠g8:=(Ne.symm (Ne.symm x1))
     have n9:d5≠i5:=(Ne.symm (Ne.symm l7))
     have n7:e6≠g8:=(Ne.symm (Ne.symm y1))
     have m6:e6≠i5:=(Ne.symm (Ne.symm l2))
     have o0:y7≠g8:=(Ne.symm q4)
     have m8:y7≠i5:=(Ne.symm (Ne.symm m0))
     have kg:g8≠p2:=by omega
     have kq:g8≠q2:=by omega
     have jx:i5≠p2:=by omega
     have jw:i5≠q2:=by omega
     have bb:∀ d,(fun d=>d=p2∨d=q2∨((Zd l details 3 fuel).es.length≠0∧d=bn)∨((Zd l top 1 fuel).es.length≠0∧d=bw)) d→d<az.heap.size:=by
      rintro d (rfl|rfl|⟨h,rfl⟩|⟨h,rfl⟩)
      ·exact x4
      ·exact w8
      ·exact(w0.lt _ (by rw[s3 h];rfl)).2
      ·exact(w1.lt _ (by rw[s0 h];rfl)).2
     have dd:∀ d,(fun d=>d=p2∨d=q2∨((Zd l details 3 fuel).es.length≠0∧d=bn)∨((Zd l top 1 fuel).es.length≠0∧d=bw)) d→d∉[b3,b4,g8,i5]:=by
      rintro d (rfl|rfl|⟨h,rfl⟩|⟨h,rfl⟩)<;>simp only[List.mem_cons,List.not_mem_nil,or_false]
      ·omega
      ·omega
      ·rintro(h9|h9|h9|h9)
       ·exact Xb w0 j4 (by decide) _ (by rw[s3 h];rfl) h9
       ·exact Xb w0 j6 (by decide) _ (by rw[s3 h];rfl) h9
       ·exact Xb w0 i9 (by decide) _ (by rw[s3 h];rfl) h9
       ·exact Xb w0 i4 (by decide) _ (by rw[s3 h];rfl) h9
      ·rintro(h9|h9|h9|h9)
       ·exact Xb w1 j4 (by decide) _ (by rw[s0 h];rfl) h9
       ·exact Xb w1 j6 (by decide) _ (by rw[s0 h];rfl) h9
       ·exact Xb w1 i9 (by decide) _ (by rw[s0 h];rfl) h9
       ·exact Xb w1 i4 (by decide) _ (by rw[s0 h];rfl) h9
     have bu:D1<az.heap.size:=(Array.getElem?_eq_some_iff.1 hK).1
     have gu:D1∉[p2,q2,g8,i5]:=by simp only[List.mem_cons,List.not_mem_nil,or_false];rintro(h9|h9|h9|h9);exact(hK.ne t7) h9.symm;exact(hK.ne t9) h9.symm;exact(hK.ne i9) h9.symm;exact(hK.ne i4) h9.symm
     have fw:=hK
     refine g_fr ⟨#[P0 b,V0 top,V0 details,V0 data,V0 fuel,undef,P0 b1,P0 b2,undef,undef,P0 b3,P0 b4,P0 d5,.nilIface,P0 e6,undef,undef,P0 y7,P0 i5,undef,undef,undef,undef,.tuple #[.agg #[.slice pd ((Zd l details 3 fuel).es.length) cd,.slice d8 e4 e3,V0 e2,V0 e5,.slice e1 0 d9],.nilIface],P0 b,V0 details,V0 fuel,.tuple #[.agg #[.slice pd ((Zd l details 3 fuel).es.length) cd,.slice d8 e4 e3,V0 e2,V0 e5,.slice e1 0 d9],.nilIface],.agg #[.slice pd ((Zd l details 3 fuel).es.length) cd,.slice d8 e4 e3,V0 e2,V0 e5,.slice e1 0 d9],.nilIface,.nilIface,.bool false,undef,.tuple #[.agg #[.slice pt ((Zd l top 1 fuel).es.length) ct,.slice b9 b5 b8,V0 c0,V0 b7,.slice b0 0 a9],.nilIface],P0 b,V0 top,V0 fuel,.tuple #[.agg #[.slice pt ((Zd l top 1 fuel).es.length) ct,.slice b9 b5 b8,V0 c0,V0 b7,.slice b0 0 a9],.nilIface],.agg #[.slice pt ((Zd l top 1 fuel).es.length) ct,.slice b9 b5 b8,V0 c0,V0 b7,.slice b0 0 a9],.nilIface,.nilIface,.bool false,undef,P0 d5,.slice pd ((Zd l details 3 fuel).es.length) cd,V0 (↑((Zd l details 3 fuel).es.length):Int),.bool (decide ((↑((Zd l details 3 fuel).es.length):Int)>(4096:Int))),undef,undef,P0 d5,.slice pd ((Zd l details 3 fuel).es.length) cd,P0 e6,.slice pt ((Zd l top 1 fuel).es.length) ct,.func (.func 128) #[] #[P0 p1,P0 q1],undef,undef,undef,undef,undef,undef,undef,undef,undef,undef,undef,undef,P0 b,V0 data,V0 fuel,.agg #[P0 b,V0 data,V0 fuel,V0 0],P0 g8,P0 d5,.slice pd ((Zd l details 3 fuel).es.length) cd,P0 e6,.slice pt ((Zd l top 1 fuel).es.length) ct,.func (.func 128) #[] #[P0 p2,P0 q2],undef,undef,undef,undef,undef,undef,undef,undef,undef,undef,undef,undef,undef,undef,undef,undef,undef,undef,undef,undef,undef],[{ target:=.collected D1,args:=#[] }]⟩ (by kernel_rfl) ?_
     refine Fo (g:=.tmp 75) (gf:=128) (lb:=#[P0 p2,P0 q2]) rfl (enters_of Tryz.func128 (by kernel_rfl) rfl) (fun d=>d=p2∨d=q2∨((Zd l details 3 fuel).es.length≠0∧d=bn)∨((Zd l top 1 fuel).es.length≠0∧d=bw)) (fun d=>d=p2∨d=q2) bb (fun d h=>h.elim (fun q=>q▸x4) (fun q=>q▸w8)) hz (fun _=>rfl)
      (fun i V=>B0 w V∧Fr [p2,q2,g8,i5] az V∧Blk V g8 [P0 b,V0 data,V0 fuel,V0 (↑(Ie l (Zd l top 1 fuel).es data fuel i):Int)] 140∧(Ie l (Zd l top 1 fuel).es data fuel i)≤16384∧devK l (Zd l details 3 fuel).es (Zd l top 1 fuel).es data fuel i∧∃ (p:O0) (c:Nat) (Z:List Zv),Blk V i5 [.slice p i c] 22∧V.ownsRow az.heap.size 61 5 (.slice p i c) i (Z.flatMap Bp)∧Xi az.heap.size V Z∧Z.length=i∧Z.map Prod.fst=devL l (Zd l details 3 fuel).es (Zd l top 1 fuel).es data fuel i)
      (fun c i V=>c=.ret∧Dfr D1 V∧Zbo (Qp l top details data fuel) w b3 b4 V) ?own (fun c k A B hs h hg hr=>⟨h.1,(hg.block D1 (Array.getElem?_eq_some_iff.1 h.2.1).1 (fun e=>by have:=(hr _ e.symm).1;omega)).trans h.2.1,h.2.2.ab (q:=fun _=>False) hg hr l6⟩) ?start
      (fun x=>{ tmps:=#[P0 b,V0 top,V0 details,V0 data,V0 fuel,undef,P0 b1,P0 b2,undef,undef,P0 b3,P0 b4,P0 d5,.nilIface,P0 e6,undef,undef,P0 y7,P0 i5,(Pg bn fc x.1),(Pg bw ed x.2),undef,undef,.tuple #[.agg #[.slice pd ((Zd l details 3 fuel).es.length) cd,.slice d8 e4 e3,V0 e2,V0 e5,.slice e1 0 d9],.nilIface],P0 b,V0 details,V0 fuel,.tuple #[.agg #[.slice pd ((Zd l details 3 fuel).es.length) cd,.slice d8 e4 e3,V0 e2,V0 e5,.slice e1 0 d9],.nilIface],.agg #[.slice pd ((Zd l details 3 fuel).es.length) cd,.slice d8 e4 e3,V0 e2,V0 e5,.slice e1 0 d9],.nilIface,.nilIface,.bool false,undef,.tuple #[.agg #[.slice pt ((Zd l top 1 fuel).es.length) ct,.slice b9 b5 b8,V0 c0,V0 b7,.slice b0 0 a9],.nilIface],P0 b,V0 top,V0 fuel,.tuple #[.agg #[.slice pt ((Zd l top 1 fuel).es.length) ct,.slice b9 b5 b8,V0 c0,V0 b7,.slice b0 0 a9],.nilIface],.agg #[.slice pt ((Zd l top 1 fuel).es.length) ct,.slice b9 b5 b8,V0 c0,V0 b7,.slice b0 0 a9],.nilIface,.nilIface,.bool false,undef,P0 d5,.slice pd ((Zd l details 3 fuel).es.length) cd,V0 (↑((Zd l details 3 fuel).es.length):Int),.bool (decide ((↑((Zd l details 3 fuel).es.length):Int)>(4096:Int))),undef,undef,P0 d5,.slice pd ((Zd l details 3 fuel).es.length) cd,P0 e6,.slice pt ((Zd l top 1 fuel).es.length) ct,.func (.func 128) #[] #[P0 p1,P0 q1],undef,undef,undef,undef,undef,undef,undef,undef,undef,undef,undef,undef,P0 b,V0 data,V0 fuel,.agg #[P0 b,V0 data,V0 fuel,V0 0],P0 g8,P0 d5,.slice pd ((Zd l details 3 fuel).es.length) cd,P0 e6,.slice pt ((Zd l top 1 fuel).es.length) ct,.func (.func 128) #[] #[P0 p2,P0 q2],(Pg bn fc x.1),(Pg bw ed x.2),undef,undef,undef,undef,undef,undef,undef,undef,undef,undef,undef,undef,undef,undef,undef,undef,undef,undef,undef],defers:=[] }) ?assign ?body ?done ?stop
     case own =>
      rintro k A B hs ⟨h1,h2,h3,h4,h5,p,c,Z,h6,h7,h8,h9,kr⟩ hg hr
      exact⟨Ty h1 hg hr (Nat.le_refl _) l6 (fun r q=>by rcases q with rfl|rfl;exact kf;exact kw),fr_ab h2 hg hr (fun r h=>by rcases h with rfl|rfl<;>simp),blk_ab h3 hg hr (fun r q=>by rcases q with rfl|rfl;exact kg;exact kq),h4,h5,p,c,Z,blk_ab h6 hg hr (fun r q=>by rcases q with rfl|rfl;exact jx;exact jw),own_ab h7 hg hr (fun r q=>by rcases q with rfl|rfl;exact x4;exact w8),h8.ab hg hr (fun r q=>by rcases q with rfl|rfl;exact x4;exact w8),h9,kr⟩
     case start =>
      exact⟨hw,Fr.refl _ _,s2,Nat.zero_le _,fun j hj=>absurd hj (by omega),none,0,[],cq,World.ownsRow_nil _ _ _ _,Xi.nil _ _,rfl,rfl⟩
     case assign =>
      intro lr i x W K hx hK
      refine Sw { tmps:=#[P0 b,V0 top,V0 details,V0 data,V0 fuel,undef,P0 b1,P0 b2,undef,undef,P0 b3,P0 b4,P0 d5,.nilIface,P0 e6,undef,undef,P0 y7,P0 i5,undef,undef,undef,undef,.tuple #[.agg #[.slice pd ((Zd l details 3 fuel).es.length) cd,.slice d8 e4 e3,V0 e2,V0 e5,.slice e1 0 d9],.nilIface],P0 b,V0 details,V0 fuel,.tuple #[.agg #[.slice pd ((Zd l details 3 fuel).es.length) cd,.slice d8 e4 e3,V0 e2,V0 e5,.slice e1 0 d9],.nilIface],.agg #[.slice pd ((Zd l details 3 fuel).es.length) cd,.slice d8 e4 e3,V0 e2,V0 e5,.slice e1 0 d9],.nilIface,.nilIface,.bool false,undef,.tuple #[.agg #[.slice pt ((Zd l top 1 fuel).es.length) ct,.slice b9 b5 b8,V0 c0,V0 b7,.slice b0 0 a9],.nilIface],P0 b,V0 top,V0 fuel,.tuple #[.agg #[.slice pt ((Zd l top 1 fuel).es.length) ct,.slice b9 b5 b8,V0 c0,V0 b7,.slice b0 0 a9],.nilIface],.agg #[.slice pt ((Zd l top 1 fuel).es.length) ct,.slice b9 b5 b8,V0 c0,V0 b7,.slice b0 0 a9],.nilIface,.nilIface,.bool false,undef,P0 d5,.slice pd ((Zd l details 3 fuel).es.length) cd,V0 (↑((Zd l details 3 fuel).es.length):Int),.bool (decide ((↑((Zd l details 3 fuel).es.length):Int)>(4096:Int))),undef,undef,P0 d5,.slice pd ((Zd l details 3 fuel).es.length) cd,P0 e6,.slice pt ((Zd l top 1 fuel).es.length) ct,.func (.func 128) #[] #[P0 p1,P0 q1],undef,undef,undef,undef,undef,undef,undef,undef,undef,undef,undef,undef,P0 b,V0 data,V0 fuel,.agg #[P0 b,V0 data,V0 fuel,V0 0],P0 g8,P0 d5,.slice pd ((Zd l details 3 fuel).es.length) cd,P0 e6,.slice pt ((Zd l top 1 fuel).es.length) ct,.func (.func 128) #[] #[P0 p2,P0 q2],(Pg bn fc x.1),(Pg bw ed x.2),undef,undef,undef,undef,undef,undef,undef,undef,undef,undef,undef,undef,undef,undef,undef,undef,undef,undef,undef],defers:=[] } (by kernel_rfl) ?_
      refine wpIn_seq ?_
      refine Yy (fun⟨_,_,q⟩=>q) (by simp) ?_
      refine Kj 1 [(19,(Pg bn fc x.1))] (by kernel_rfl) ?_
      refine wpList_nil ?_
      refine Yy (fun⟨_,_,q⟩=>q) (by simp) ?_
      refine Kj 1 [(20,(Pg bw ed x.2))] (by kernel_rfl) ?_
      refine wpList_nil ?_
      exact hK
     case body =>
      rintro lr i x W kb hx ⟨o5,hF,kl,fs,ao,p,cp,Z,k8,ho,d0,db,dp⟩
      obtain⟨lz,rfl⟩:=(Bu de).2 _ _ hx
      have mj:(Zd l details 3 fuel).es.length=(Zd l top 1 fuel).es.length:=ki
      have g9:w.heap.size≤W.heap.size:=Nat.le_trans l6 hF.size
      have ev:=hI.below o5
      have hZ:RdS az [b3,b4,g8,i5] W W:=RdS.refl _ hF.size
      have a6:=z9.fr hF (by simp only[List.mem_cons,List.not_mem_nil,or_false];rintro(h|h|h|h);omega;omega;exact r2 h;exact r6 h)
      have a5:=z7.fr hF (by simp only[List.mem_cons,List.not_mem_nil,or_false];rintro(h|h|h|h);omega;omega;exact q6 h;exact r8 h)
      have a4:=j4.fr hF (by simp only[List.mem_cons,List.not_mem_nil,or_false];rintro(h|h|h|h);omega;omega;exact q8 h;exact q5 h)
      have a3:=j6.fr hF (by simp only[List.mem_cons,List.not_mem_nil,or_false];rintro(h|h|h|h);omega;omega;exact q7 h;exact q9 h)
      have a0:=u2.fr hF (by simp only[List.mem_cons,List.not_mem_nil,or_false];rintro(h|h|h|h);omega;omega;exact m9 h;exact n9 h)
      have a1:=t8.fr hF (by simp only[List.mem_cons,List.not_mem_nil,or_false];rintro(h|h|h|h);omega;omega;exact n7 h;exact m6 h)
      have a2:=v6.fr hF (by simp only[List.mem_cons,List.not_mem_nil,or_false];rintro(h|h|h|h);omega;omega;exact o0 h;exact m8 h)
      have ea:=Tl (i:=i) (s3 (by omega))
      have eb:=Tl (i:=i) (s0 (by omega))
      refine Sw { tmps:=#[P0 b,V0 top,V0 details,V0 data,V0 fuel,undef,P0 b1,P0 b2,undef,undef,P0 b3,P0 b4,P0 d5,.nilIface,P0 e6,undef,undef,P0 y7,P0 i5,.pointer (some (Xa pd (i*3))),.pointer (some (Xa pt (i*3))),undef,undef,.tuple #[.agg #[.slice pd ((Zd l details 3 fuel).es.length) cd,.slice d8 e4 e3,V0 e2,V0 e5,.slice e1 0 d9],.nilIface],P0 b,V0 details,V0 fuel,.tuple #[.agg #[.slice pd ((Zd l details 3 fuel).es.length) cd,.slice d8 e4 e3,V0 e2,V0 e5,.slice e1 0 d9],.nilIface],.agg #[.slice pd ((Zd l details 3 fuel).es.length) cd,.slice d8 e4 e3,V0 e2,V0 e5,.slice e1 0 d9],.nilIface,.nilIface,.bool false,undef,.tuple #[.agg #[.slice pt ((Zd l top 1 fuel).es.length) ct,.slice b9 b5 b8,V0 c0,V0 b7,.slice b0 0 a9],.nilIface],P0 b,V0 top,V0 fuel,.tuple #[.agg #[.slice pt ((Zd l top 1 fuel).es.length) ct,.slice b9 b5 b8,V0 c0,V0 b7,.slice b0 0 a9],.nilIface],.agg #[.slice pt ((Zd l top 1 fuel).es.length) ct,.slice b9 b5 b8,V0 c0,V0 b7,.slice b0 0 a9],.nilIface,.nilIface,.bool false,undef,P0 d5,.slice pd ((Zd l details 3 fuel).es.length) cd,V0 (↑((Zd l details 3 fuel).es.length):Int),.bool (decide ((↑((Zd l details 3 fuel).es.length):Int)>(4096:Int))),undef,undef,P0 d5,.slice pd ((Zd l details 3 fuel).es.length) cd,P0 e6,.slice pt ((Zd l top 1 fuel).es.length) ct,.func (.func 128) #[] #[P0 p1,P0 q1],undef,undef,undef,undef,undef,undef,undef,undef,undef,undef,undef,undef,P0 b,V0 data,V0 fuel,.agg #[P0 b,V0 data,V0 fuel,V0 0],P0 g8,P0 d5,.slice pd ((Zd l details 3 fuel).es.length) cd,P0 e6,.slice pt ((Zd l top 1 fuel).es.length) ct,.func (.func 128) #[] #[P0 p2,P0 q2],.pointer (some (Xa pd (i*3))),.pointer (some (Xa pt (i*3))),undef,undef,undef,undef,undef,undef,undef,undef,undef,undef,undef,undef,undef,undef,undef,undef,undef,undef,undef],defers:=[] } (by simp only[ea,eb]) ?_
      have d6:=Au w0 hF (fun d hd=>by simp only[List.mem_cons,List.not_mem_nil,or_false];rintro(h|h|h|h);exact Xb w0 t7 (by decide) d hd h;exact Xb w0 t9 (by decide) d hd h;exact Xb w0 i9 (by decide) d hd h;exact Xb w0 i4 (by decide) d hd h)
      have d7:=Au w1 hF (fun d hd=>by simp only[List.mem_cons,List.not_mem_nil,or_false];rintro(h|h|h|h);exact Xb w1 t7 (by decide) d hd h;exact Xb w1 t9 (by decide) d hd h;exact Xb w1 i9 (by decide) d hd h;exact Xb w1 i4 (by decide) d hd h)
      refine wpIn_block ?_
      refine wpIn_seq ?_
      have hB:=blB (Below.refl w.heap.size W) g9 (Za W)
      replace a6:=a6.below (Za W)
      replace a5:=a5.below (Za W)
      replace a4:=a4.below (Za W)
      replace a3:=a3.below (Za W)
      replace a0:=a0.below (Za W)
      replace a1:=a1.below (Za W)
      replace kl:=kl.below (Za W)
      replace a2:=a2.below (Za W)
      replace k8:=k8.below (Za W)
      replace hZ:=hZ.below (Za W)
      replace d6:=Zb d6 (Za W)
      replace d7:=Zb d7 (Za W)
      replace ho:=Zb ho (Za W)
      replace d0:=d0.below (Za W)
      refine h_regIn (fun V=>Below w.heap.size (W.drew) V∧Ze [140] (W.drew) V) 14 rfl #[false,false,false,false,false,false,false,false,false,false,false,false,false,false] rfl (by kernel_rfl) (fun⟨_,_,q⟩=>q) (by simp) ⟨Below.refl _ _,Ze.refl _ _⟩ ?_
      intro h0
      have t2:=hB
      have ep:=a6
      have fm:=a5
      have fo:=a4
      have ds:=a3
      have dk:=a0
      have dm:=a1
      have dg:=kl
      have v2:=a2
      have cy:=k8
      have br:=d6
      have ay:=d7
      have jm:=ho
      refine h_load 0 13 rfl ⟨y7,0,none⟩ (P0 g8) rfl (by kernel_rfl) (by kernel_rfl) (by kernel_rfl) (fun _ _ _ _ _ h=>h) (by kernel_rfl) rfl (by kernel_rfl) (by kernel_rfl) (fun V hV=>((v2.only hV.2 (by decide)).cell (i:=0) rfl)) h0 ?_
      refine Ag [1,2] 11 rfl #[true,true,true,false,false,false,false,false,false,false,false,false,false,false] [(80,.pointer (some (Xa pd (i*3)))),(81,.pointer (some (Xa pd (i*3))))] (by kernel_rfl) (fun _ _ _ _ _ h=>h) (by kernel_rfl) h0 ?_
      refine h_val 3 10 rfl (.agg #[V0 (((Zd l details 3 fuel).es.getD i Zg).1),.string ⟨(((Zd l details 3 fuel).es.getD i Zg).2.1).toArray⟩,V0 (((Zd l details 3 fuel).es.getD i Zg).2.2)]) rfl (by kernel_rfl) (by kernel_rfl) (by kernel_rfl) (fun _ _ _ _ _ h=>h) (by kernel_rfl) (fun V hV=>By (k:=i) Xt Zg _ rfl (by kernel_rfl) (Zi (Zf br hV.2 (by decide))) (by omega) (by decide) Tryz.underlying123 rfl (by kernel_rfl)) h0 ?_
      refine Ag [4,5] 8 rfl #[true,true,true,true,true,true,false,false,false,false,false,false,false,false] [(83,.pointer (some (Xa pt (i*3)))),(84,.pointer (some (Xa pt (i*3))))] (by kernel_rfl) (fun _ _ _ _ _ h=>h) (by kernel_rfl) h0 ?_
      refine h_val 6 7 rfl (.agg #[V0 (((Zd l top 1 fuel).es.getD i Zg).1),.string ⟨(((Zd l top 1 fuel).es.getD i Zg).2.1).toArray⟩,V0 (((Zd l top 1 fuel).es.getD i Zg).2.2)]) rfl (by kernel_rfl) (by kernel_rfl) (by kernel_rfl) (fun _ _ _ _ _ h=>h) (by kernel_rfl) (fun V hV=>By (k:=i) Xt Zg _ rfl (by kernel_rfl) (Zi (Zf ay hV.2 (by decide))) (by omega) (by decide) Tryz.underlying123 rfl (by kernel_rfl)) h0 ?_
      refine h_two 7 11 6 rfl (by kernel_rfl) rfl rfl (by kernel_rfl) (by kernel_rfl) ?_ ?_
      ·have cz:=kl
       have gk:=Nat.le_trans hF.size hZ.le
       refine Yh (lb:=#[]) 62 #[P0 g8,.agg #[V0 (((Zd l details 3 fuel).es.getD i Zg).1),.string ⟨(((Zd l details 3 fuel).es.getD i Zg).2.1).toArray⟩,V0 (((Zd l details 3 fuel).es.getD i Zg).2.2)],.agg #[V0 (((Zd l top 1 fuel).es.getD i Zg).1),.string ⟨(((Zd l top 1 fuel).es.getD i Zg).2.1).toArray⟩,V0 (((Zd l top 1 fuel).es.getD i Zg).2.2)]] rfl (by kernel_rfl) (fun _ _=>by kernel_rfl) (by kernel_rfl) ((Mc w.heap.size Bi g8 b pi ni ci l data fuel (Ie l (Zd l top 1 fuel).es data fuel i) ((Zd l details 3 fuel).es.getD i Zg) ((Zd l top 1 fuel).es.getD i Zg) _ (hI.below (o5.trans hB)) kl hfu (Xz _ _ _ _ i (by omega)) (Xz _ _ _ _ i (by omega)) fs ji (Nat.le_trans g9 hB.size)).mono ?_)
       rintro e fj hh
       rcases hh with ⟨t0,q3,vd,rfl,v4,c9,bi,e0⟩|⟨t0,pm,cm,rfl,v4,c9,bi,g0,i0⟩
       ·refine⟨_,rfl,?_⟩
        replace hB:=hB.trans v4
        replace a6:=a6.only c9 (by decide)
        replace a5:=a5.only c9 (by decide)
        replace a4:=a4.only c9 (by decide)
        replace a3:=a3.only c9 (by decide)
        replace a0:=a0.only c9 (by decide)
        replace a1:=a1.only c9 (by decide)
        replace a2:=a2.only c9 (by decide)
        replace k8:=k8.only c9 (by decide)
        replace hZ:=hZ.frm bi cz (by simp)
        replace d6:=Zf d6 c9 (by decide)
        replace d7:=Zf d7 c9 (by decide)
        replace ho:=Zf ho c9 (by decide)
        replace d0:=d0.only c9 (by decide)
        have v0:Below w.heap.size (W.drew) (fj)∧Ze [140] (W.drew) (fj):=⟨h0.1.trans v4,h0.2.trans c9⟩
        refine⟨v0,?_⟩
        refine Ag [8,9,10] 3 rfl #[true,true,true,true,true,true,true,true,true,true,true,false,false,false] [(78,.tuple #[.agg #[V0 0,V0 0,V0 0,V0 0,S0],.iface q3 (vd)]),(87,.agg #[V0 0,V0 0,V0 0,V0 0,S0]),(88,.iface q3 (vd))] (by kernel_rfl) (fun _ _ _ _ _ h=>h) (by kernel_rfl) v0 ?_
        refine Ku 11 2 rfl (by kernel_rfl) rfl (by kernel_rfl) (Xw [V0 0,V0 0,V0 0,V0 0,S0] rfl (by kernel_rfl) ?_)
        intro ju ie f8
        have aq:=f8.ne a6
        have ak:=f8.ne a5
        have t1:=f8.ne a4
        have u5:=f8.ne a3
        have w7:=f8.ne a0
        have w4:=f8.ne a1
        have w6:=f8.ne a2
        have y4:=f8.ne k8
        have ig:=f8.ge0 hB
        have bk:=Zz ho f8
        have t3:(W.drew).heap.size≤ju:=by have:=v0.1.size;have:=f8.at_;omega
        replace hB:=blB hB g9 f8.below
        replace a6:=a6.below f8.below
        replace a5:=a5.below f8.below
        replace a4:=a4.below f8.below
        replace a3:=a3.below f8.below
        replace a0:=a0.below f8.below
        replace a1:=a1.below f8.below
        replace a2:=a2.below f8.below
        replace k8:=k8.below f8.below
        replace hZ:=hZ.below f8.below
        replace d6:=Zb d6 f8.below
        replace d7:=Zb d7 f8.below
        replace ho:=Zb ho f8.below
        replace d0:=d0.below f8.below
        replace e0:=e0.below f8.below
        have bx:=f8.blk
        have ad:Below w.heap.size (W.drew) (ie)∧Ze [140] (W.drew) (ie):=⟨blB v0.1 (Nat.le_trans g9 t2.size) f8.below,v0.2.trans (Ze.of_below f8.below)⟩
        refine⟨ad,?_⟩
        refine Ku 12 1 rfl (by kernel_rfl) rfl (by kernel_rfl) (Ya (b:=ju) (off:=0) [V0 0,V0 0,V0 0,V0 0,S0] rfl (by kernel_rfl) (by kernel_rfl) (by kernel_rfl) (by first|decide|simp[Value.oneCell']) bx (by first|decide|simp) ?_)
        intro il n5 dj
        change Blk _ _ [V0 0,V0 0,V0 0,V0 0,S0] _ at dj
        replace hB:=n5.below hB (Nat.le_trans g9 ig)
        replace a6:=n5.blk a6 (Ne.symm (Ne.symm aq))
        replace a5:=n5.blk a5 (Ne.symm (Ne.symm ak))
        replace a4:=n5.blk a4 (Ne.symm (Ne.symm t1))
        replace a3:=n5.blk a3 (Ne.symm (Ne.symm u5))
        replace a0:=n5.blk a0 (Ne.symm (Ne.symm w7))
        replace a1:=n5.blk a1 (Ne.symm (Ne.symm w4))
        replace a2:=n5.blk a2 (Ne.symm (Ne.symm w6))
        replace k8:=n5.blk k8 (Ne.symm (Ne.symm y4))
        replace hZ:=hZ.upd n5 bx (.inr (Nat.le_trans hF.size t3))
        replace d6:=n5.own2 d6 bx (by decide)
        replace d7:=n5.own2 d7 bx (by decide)
        replace ho:=n5.own3 ho bk
        replace d0:=d0.only (Ze.of_upd (T:=[61]) n5 bx (by decide)) (by decide)
        replace e0:=e0.only (Ze.of_upd (T:=[61]) n5 bx (by decide)) (by decide)
        have ck:Below w.heap.size (W.drew) (il)∧Ze [140] (W.drew) (il):=⟨n5.below ad.1 (Nat.le_trans g9 ig),Ze.upd_new ad.2 n5 t3⟩
        refine⟨ck,?_⟩
        refine Ag [13] 0 rfl #[true,true,true,true,true,true,true,true,true,true,true,true,true,true] [(22,.iface q3 (vd))] (by kernel_rfl) (fun _ _ _ _ _ h=>h) (by kernel_rfl) ck ?_
        refine Wf _ (by kernel_rfl) ?_
        refine wpIn_seq ?_
        refine wpIn_seq ?_
        refine Yy (fun⟨_,_,q⟩=>q) (by simp) ?_
        refine Kj 2 [(89,.iface q3 (vd)),(90,.bool true)] (by kernel_rfl) ?_
        refine wpList_nil ?_
        refine wpIn_cond_true (by kernel_rfl) ?_
        refine wpIn_seq ?_
        refine Yy (fun⟨_,_,q⟩=>q) (by simp) ?_
        refine Kj 1 [(91,.iface q3 (vd))] (by kernel_rfl) ?_
        refine Yb (by kernel_rfl) (Xg (v:=S0) (b:=b3) (off:=0) rfl (by kernel_rfl) (by kernel_rfl) (by kernel_rfl) rfl a4 (by first|decide|simp) ?_)
        intro ml p5 eq
        change Blk _ _ [S0] _ at eq
        replace hB:=p5.below hB g3
        replace a6:=p5.blk a6 (Ne.symm (Ne.symm k0))
        replace a5:=p5.blk a5 (Ne.symm (Ne.symm j7))
        replace a3:=p5.blk a3 (Ne.symm c8)
        replace a0:=p5.blk a0 (Ne.symm e8)
        replace a1:=p5.blk a1 (Ne.symm f1)
        replace a2:=p5.blk a2 (Ne.symm l3)
        replace k8:=p5.blk k8 (Ne.symm g7)
        replace dj:=p5.blk dj (Ne.symm t1)
        replace hZ:=hZ.upd p5 a4 (.inl (by simp))
        replace d6:=p5.own2 d6 a4 (by decide)
        replace d7:=p5.own2 d7 a4 (by decide)
        replace ho:=p5.own2 ho a4 (by decide)
        replace d0:=d0.only (Ze.of_upd (T:=[22]) p5 a4 (by decide)) (by decide)
        replace e0:=e0.only (Ze.of_upd (T:=[22]) p5 a4 (by decide)) (by decide)
        refine Yb (by kernel_rfl) (Xg (v:=.iface q3 (vd)) (b:=b4) (off:=0) rfl (by kernel_rfl) (by kernel_rfl) (by kernel_rfl) rfl a3 (by first|decide|simp) ?_)
        intro lk p4 iy
        change Blk _ _ [.iface q3 (vd)] _ at iy
        replace hB:=p4.below hB g4
        replace a6:=p4.blk a6 (Ne.symm (Ne.symm j8))
        replace a5:=p4.blk a5 (Ne.symm (Ne.symm j5))
        replace eq:=p4.blk eq (Ne.symm (Ne.symm c8))
        replace a0:=p4.blk a0 (Ne.symm f2)
        replace a1:=p4.blk a1 (Ne.symm f0)
        replace a2:=p4.blk a2 (Ne.symm m1)
        replace k8:=p4.blk k8 (Ne.symm g5)
        replace dj:=p4.blk dj (Ne.symm u5)
        replace hZ:=hZ.upd p4 a3 (.inl (by simp))
        replace d6:=p4.own2 d6 a3 (by decide)
        replace d7:=p4.own2 d7 a3 (by decide)
        replace ho:=p4.own2 ho a3 (by decide)
        replace d0:=d0.only (Ze.of_upd (T:=[29]) p4 a3 (by decide)) (by decide)
        replace e0:=e0.only (Ze.of_upd (T:=[29]) p4 a3 (by decide)) (by decide)
        refine wpList_nil ?_
        refine wpIn_ret (Pl (Yd ?_))
        exact⟨hZ.ko.from _,rfl,hZ.ko.same D1 _ ((hF.block D1 bu gu).trans fw) rfl,_,_,_,_,((He u4 v9 (by omega) ew).trans (Mv (i:=i) (by omega) ao t0)),t0,eq,iy,e0,o5.trans hB⟩
       ·refine⟨_,rfl,?_⟩
        replace hB:=hB.trans v4
        replace a6:=a6.only c9 (by decide)
        replace a5:=a5.only c9 (by decide)
        replace a4:=a4.only c9 (by decide)
        replace a3:=a3.only c9 (by decide)
        replace a0:=a0.only c9 (by decide)
        replace a1:=a1.only c9 (by decide)
        replace a2:=a2.only c9 (by decide)
        replace k8:=k8.only c9 (by decide)
        replace hZ:=hZ.frm bi cz (by simp)
        replace d6:=Zf d6 c9 (by decide)
        replace d7:=Zf d7 c9 (by decide)
        replace ho:=Zf ho c9 (by decide)
        replace d0:=d0.only c9 (by decide)
        replace i0:=Zh i0 gk
        have v3:Below w.heap.size (W.drew) (fj)∧Ze [140] (W.drew) (fj):=⟨h0.1.trans v4,h0.2.trans c9⟩
        refine⟨v3,?_⟩
        refine Ag [8,9,10] 3 rfl #[true,true,true,true,true,true,true,true,true,true,true,false,false,false] [(78,.tuple #[.agg #[V0 (((Zd l details 3 fuel).es.getD i Zg).1),V0 (↑(Xh ((Zd l details 3 fuel).es.getD i Zg).2.1 1):Int),V0 (↑(Xh ((Zd l details 3 fuel).es.getD i Zg).2.1 2):Int),V0 (↑(Xh ((Zd l details 3 fuel).es.getD i Zg).2.1 3):Int),.slice pm ((Qf l ((Zd l top 1 fuel).es.getD i Zg) data fuel).2.2.length) cm],.nilIface]),(87,.agg #[V0 (((Zd l details 3 fuel).es.getD i Zg).1),V0 (↑(Xh ((Zd l details 3 fuel).es.getD i Zg).2.1 1):Int),V0 (↑(Xh ((Zd l details 3 fuel).es.getD i Zg).2.1 2):Int),V0 (↑(Xh ((Zd l details 3 fuel).es.getD i Zg).2.1 3):Int),.slice pm ((Qf l ((Zd l top 1 fuel).es.getD i Zg) data fuel).2.2.length) cm]),(88,.nilIface)] (by kernel_rfl) (fun _ _ _ _ _ h=>h) (by kernel_rfl) v3 ?_
        refine Ku 11 2 rfl (by kernel_rfl) rfl (by kernel_rfl) (Xw [V0 0,V0 0,V0 0,V0 0,S0] rfl (by kernel_rfl) ?_)
        intro hy ix e7
        have ba:=e7.ne a6
        have bh:=e7.ne a5
        have ac:=e7.ne a4
        have av:=e7.ne a3
        have y0:=e7.ne a0
        have x5:=e7.ne a1
        have x3:=e7.ne g0
        have x9:=e7.ne a2
        have r9:=e7.ne k8
        have jv:=e7.ge0 hB
        have u0:=Zz ho e7
        have v1:(W.drew).heap.size≤hy:=by have:=v3.1.size;have:=e7.at_;omega
        replace hB:=blB hB g9 e7.below
        replace a6:=a6.below e7.below
        replace a5:=a5.below e7.below
        replace a4:=a4.below e7.below
        replace a3:=a3.below e7.below
        replace a0:=a0.below e7.below
        replace a1:=a1.below e7.below
        replace g0:=g0.below e7.below
        replace a2:=a2.below e7.below
        replace k8:=k8.below e7.below
        replace hZ:=hZ.below e7.below
        replace d6:=Zb d6 e7.below
        replace d7:=Zb d7 e7.below
        replace ho:=Zb ho e7.below
        replace d0:=d0.below e7.below
        replace i0:=Zb i0 e7.below
        have ch:=e7.blk
        have ar:Below w.heap.size (W.drew) (ix)∧Ze [140] (W.drew) (ix):=⟨blB v3.1 (Nat.le_trans g9 t2.size) e7.below,v3.2.trans (Ze.of_below e7.below)⟩
        refine⟨ar,?_⟩
        refine Ku 12 1 rfl (by kernel_rfl) rfl (by kernel_rfl) (Ya (b:=hy) (off:=0) [V0 (((Zd l details 3 fuel).es.getD i Zg).1),V0 (↑(Xh ((Zd l details 3 fuel).es.getD i Zg).2.1 1):Int),V0 (↑(Xh ((Zd l details 3 fuel).es.getD i Zg).2.1 2):Int),V0 (↑(Xh ((Zd l details 3 fuel).es.getD i Zg).2.1 3):Int),.slice pm ((Qf l ((Zd l top 1 fuel).es.getD i Zg) data fuel).2.2.length) cm] rfl (by kernel_rfl) (by kernel_rfl) (by kernel_rfl) (by first|decide|simp[Value.oneCell']) ch (by first|decide|simp) ?_)
        intro je m4 x7
        change Blk _ _ [V0 (((Zd l details 3 fuel).es.getD i Zg).1),V0 (↑(Xh ((Zd l details 3 fuel).es.getD i Zg).2.1 1):Int),V0 (↑(Xh ((Zd l details 3 fuel).es.getD i Zg).2.1 2):Int),V0 (↑(Xh ((Zd l details 3 fuel).es.getD i Zg).2.1 3):Int),.slice pm ((Qf l ((Zd l top 1 fuel).es.getD i Zg) data fuel).2.2.length) cm] _ at x7
        replace hB:=m4.below hB (Nat.le_trans g9 jv)
        replace a6:=m4.blk a6 (Ne.symm (Ne.symm ba))
        replace a5:=m4.blk a5 (Ne.symm (Ne.symm bh))
        replace a4:=m4.blk a4 (Ne.symm (Ne.symm ac))
        replace a3:=m4.blk a3 (Ne.symm (Ne.symm av))
        replace a0:=m4.blk a0 (Ne.symm (Ne.symm y0))
        replace a1:=m4.blk a1 (Ne.symm (Ne.symm x5))
        replace g0:=m4.blk g0 (Ne.symm (Ne.symm x3))
        replace a2:=m4.blk a2 (Ne.symm (Ne.symm x9))
        replace k8:=m4.blk k8 (Ne.symm (Ne.symm r9))
        replace hZ:=hZ.upd m4 ch (.inr (Nat.le_trans hF.size v1))
        replace d6:=m4.own2 d6 ch (by decide)
        replace d7:=m4.own2 d7 ch (by decide)
        replace ho:=m4.own3 ho u0
        replace d0:=d0.only (Ze.of_upd (T:=[61]) m4 ch (by decide)) (by decide)
        replace i0:=m4.own2 i0 ch (by decide)
        have cn:Below w.heap.size (W.drew) (je)∧Ze [140] (W.drew) (je):=⟨m4.below ar.1 (Nat.le_trans g9 jv),Ze.upd_new ar.2 m4 v1⟩
        refine⟨cn,?_⟩
        refine Ag [13] 0 rfl #[true,true,true,true,true,true,true,true,true,true,true,true,true,true] [(22,.nilIface)] (by kernel_rfl) (fun _ _ _ _ _ h=>h) (by kernel_rfl) cn ?_
        refine Wf _ (by kernel_rfl) ?_
        refine wpIn_seq ?_
        refine wpIn_seq ?_
        refine Yy (fun⟨_,_,q⟩=>q) (by simp) ?_
        refine Kj 2 [(89,.nilIface),(90,.bool false)] (by kernel_rfl) ?_
        refine wpList_nil ?_
        refine wpIn_cond_false (by kernel_rfl) ?_
        refine wpIn_skip ?_
        refine Yy (fun⟨_,_,q⟩=>q) (by simp) ?_
        refine Yb (by kernel_rfl) (Yc ⟨i5,0,none⟩ (.slice p i cp) rfl (by kernel_rfl) (by kernel_rfl) (k8.cell (i:=0) rfl) ?_)
        refine Yb (by kernel_rfl) (Dc (b:=hy) (off:=0) [V0 (((Zd l details 3 fuel).es.getD i Zg).1),V0 (↑(Xh ((Zd l details 3 fuel).es.getD i Zg).2.1 1):Int),V0 (↑(Xh ((Zd l details 3 fuel).es.getD i Zg).2.1 2):Int),V0 (↑(Xh ((Zd l details 3 fuel).es.getD i Zg).2.1 3):Int),.slice pm ((Qf l ((Zd l top 1 fuel).es.getD i Zg) data fuel).2.2.length) cm] _ rfl (by kernel_rfl) Tryz.underlying61 rfl (by kernel_rfl) x7.whole ?_)
        refine Yb (by kernel_rfl) (Yi 61 [V0 (((Zd l details 3 fuel).es.getD i Zg).1),V0 (↑(Xh ((Zd l details 3 fuel).es.getD i Zg).2.1 1):Int),V0 (↑(Xh ((Zd l details 3 fuel).es.getD i Zg).2.1 2):Int),V0 (↑(Xh ((Zd l details 3 fuel).es.getD i Zg).2.1 3):Int),.slice pm ((Qf l ((Zd l top 1 fuel).es.getD i Zg) data fuel).2.2.length) cm] rfl (by kernel_rfl) ?_)
        intro lj ls f6
        have gc:=f6.ne a6
        have ga:=f6.ne a5
        have gn:=f6.ne a4
        have ic:=f6.ne a3
        have em:=f6.ne a0
        have eg:=f6.ne a1
        have fh:=f6.ne g0
        have eu:=f6.ne a2
        have ee:=f6.ne k8
        have dt:=f6.ne x7
        have lc:=f6.ge0 hB
        have gp:=Zz ho f6
        replace hB:=blB hB g9 f6.below
        replace a6:=a6.below f6.below
        replace a5:=a5.below f6.below
        replace a4:=a4.below f6.below
        replace a3:=a3.below f6.below
        replace a0:=a0.below f6.below
        replace a1:=a1.below f6.below
        replace g0:=g0.below f6.below
        replace a2:=a2.below f6.below
        replace k8:=k8.below f6.below
        replace x7:=x7.below f6.below
        replace hZ:=hZ.below f6.below
        replace d6:=Zb d6 f6.below
        replace d7:=Zb d7 f6.below
        replace ho:=Zb ho f6.below
        replace d0:=d0.below f6.below
        replace i0:=Zb i0 f6.below
        have ks:=f6.blk
        refine Yb (by kernel_rfl) (Xq (e:=61) (n:=i) (xs:=(Z.flatMap Bp)) (m:=1) (news:=[V0 (((Zd l details 3 fuel).es.getD i Zg).1),V0 (↑(Xh ((Zd l details 3 fuel).es.getD i Zg).2.1 1):Int),V0 (↑(Xh ((Zd l details 3 fuel).es.getD i Zg).2.1 2):Int),V0 (↑(Xh ((Zd l details 3 fuel).es.getD i Zg).2.1 3):Int),.slice pm ((Qf l ((Zd l top 1 fuel).es.getD i Zg) data fuel).2.2.length) cm]) (.agg #[V0 0,V0 0,V0 0,V0 0,S0]) 5 56 (i+1) (((Z++[(devX l ((Zd l details 3 fuel).es.getD i Zg) ((Zd l top 1 fuel).es.getD i Zg) data fuel,pm,cm)]).flatMap Bp)) rfl Tryz.underlying22 (by kernel_rfl) rfl (by decide) (by kernel_rfl) ho (by kernel_rfl) (ks.sl 1 1 (by decide) (by decide)) rfl (by simp[Value.oneCell']) (by unfold maxLen;omega) (by omega) (Nat.le_trans hZ.l0 hZ.le) (rfl) (by rw[List.flatMap_append];rfl) ?_)
        intro ij jq ly hp e9 ha
        replace a6:=a6.grown e9 ho (by decide)
        replace a5:=a5.grown e9 ho (by decide)
        replace a4:=a4.grown e9 ho (by decide)
        replace a3:=a3.grown e9 ho (by decide)
        replace a0:=a0.grown e9 ho (by decide)
        replace a1:=a1.grown e9 ho (by decide)
        replace g0:=g0.grown e9 ho (by decide)
        replace a2:=a2.grown e9 ho (by decide)
        replace k8:=k8.grown e9 ho (by decide)
        replace x7:=x7.grown3 e9 u0
        replace hZ:=hZ.grown e9 ho
        replace d6:=Zp d6 e9 ho (by decide)
        replace d7:=Zp d7 e9 ho (by decide)
        replace d0:=d0.only (Ze.of_grown (T:=[61]) e9 ho (by decide)) (by decide)
        replace i0:=Zp i0 e9 ho (by decide)
        replace hB:=hB.trans (ha.mono l6)
        refine Yb (by kernel_rfl) (Xg (v:=.slice ij (i+1) jq) (b:=i5) (off:=0) rfl (by kernel_rfl) (by kernel_rfl) (by kernel_rfl) rfl k8 (by first|decide|simp) ?_)
        intro lu o6 iz
        change Blk _ _ [.slice ij (i+1) jq] _ at iz
        replace hB:=o6.below hB jc
        replace a6:=o6.blk a6 (Ne.symm (Ne.symm p3))
        replace a5:=o6.blk a5 (Ne.symm (Ne.symm p8))
        replace a4:=o6.blk a4 (Ne.symm (Ne.symm g7))
        replace a3:=o6.blk a3 (Ne.symm (Ne.symm g5))
        replace a0:=o6.blk a0 (Ne.symm (Ne.symm l7))
        replace a1:=o6.blk a1 (Ne.symm (Ne.symm l2))
        replace g0:=o6.blk g0 (Ne.symm (Ne.symm r4))
        replace a2:=o6.blk a2 (Ne.symm (Ne.symm m0))
        replace x7:=o6.blk x7 (Ne.symm r9)
        replace hZ:=hZ.upd o6 k8 (.inl (by simp))
        replace d6:=o6.own2 d6 k8 (by decide)
        replace d7:=o6.own2 d7 k8 (by decide)
        replace d0:=d0.only (Ze.of_upd (T:=[22]) o6 k8 (by decide)) (by decide)
        replace i0:=o6.own2 i0 k8 (by decide)
        replace hp:=o6.own2 hp k8 (by decide)
        refine wpList_nil ?_
        exact⟨hZ.ko.from _,⟨hZ.le,fun d hd=>hZ.fr d (bb d hd) (dd d hd)⟩,o5.trans hB,Zdi hF hZ (fun k hk=>by simp only[List.mem_cons,List.not_mem_nil,or_false] at hk ⊢;rcases hk with rfl|rfl|rfl|rfl;exact .inr ((show _=_ from a4).trans (show _=_ from j4).symm);exact .inr ((show _=_ from a3).trans (show _=_ from j6).symm);exact .inl (by simp);exact .inl (by simp)),g0,Zd4 t0,Ml ao t0,_,_,_,iz,hp,(d0.snoc (d:=devX l ((Zd l details 3 fuel).es.getD i Zg) ((Zd l top 1 fuel).es.getD i Zg) data fuel) rfl i0),by simp[db],by rw[List.map_append,dp,Ue];rfl⟩
      ·refine Xw [V0 0,V0 0,V0 0,V0 0,S0] rfl (by kernel_rfl) ?_
       intro ff ir f4
       have v5:=f4.ne a6
       have t4:=f4.ne a5
       have p0:=f4.ne a4
       have o9:=f4.ne a3
       have r1:=f4.ne a0
       have r0:=f4.ne a1
       have x8:=f4.ne kl
       have r5:=f4.ne a2
       have l8:=f4.ne k8
       have ey:=f4.ge0 hB
       have q0:=Zz ho f4
       have k5:(W.drew).heap.size≤ff:=by have:=h0.1.size;have:=f4.at_;omega
       replace hB:=blB hB g9 f4.below
       replace a6:=a6.below f4.below
       replace a5:=a5.below f4.below
       replace a4:=a4.below f4.below
       replace a3:=a3.below f4.below
       replace a0:=a0.below f4.below
       replace a1:=a1.below f4.below
       replace kl:=kl.below f4.below
       replace a2:=a2.below f4.below
       replace k8:=k8.below f4.below
       replace hZ:=hZ.below f4.below
       replace d6:=Zb d6 f4.below
       replace d7:=Zb d7 f4.below
       replace ho:=Zb ho f4.below
       replace d0:=d0.below f4.below
       have o4:=f4.blk
       have v8:Below w.heap.size (W.drew) (ir)∧Ze [140] (W.drew) (ir):=⟨blB h0.1 (Nat.le_trans g9 t2.size) f4.below,h0.2.trans (Ze.of_below f4.below)⟩
       refine⟨v8,?_⟩
       have cz:=kl
       have gk:=Nat.le_trans hF.size hZ.le
       refine Ku 7 5 rfl (by kernel_rfl) rfl (by kernel_rfl) (Yh (lb:=#[]) 62 #[P0 g8,.agg #[V0 (((Zd l details 3 fuel).es.getD i Zg).1),.string ⟨(((Zd l details 3 fuel).es.getD i Zg).2.1).toArray⟩,V0 (((Zd l details 3 fuel).es.getD i Zg).2.2)],.agg #[V0 (((Zd l top 1 fuel).es.getD i Zg).1),.string ⟨(((Zd l top 1 fuel).es.getD i Zg).2.1).toArray⟩,V0 (((Zd l top 1 fuel).es.getD i Zg).2.2)]] rfl (by kernel_rfl) (fun _ _=>by kernel_rfl) (by kernel_rfl) ((Mc w.heap.size Bi g8 b pi ni ci l data fuel (Ie l (Zd l top 1 fuel).es data fuel i) ((Zd l details 3 fuel).es.getD i Zg) ((Zd l top 1 fuel).es.getD i Zg) _ (hI.below (o5.trans hB)) kl hfu (Xz _ _ _ _ i (by omega)) (Xz _ _ _ _ i (by omega)) fs ji (Nat.le_trans g9 hB.size)).mono ?_))
       rintro e eo hf
       rcases hf with ⟨t0,q3,vd,rfl,t5,c6,af,e0⟩|⟨t0,pm,cm,rfl,t5,c6,af,j1,i0⟩
       ·refine⟨_,rfl,?_⟩
        replace hB:=hB.trans t5
        replace a6:=a6.only c6 (by decide)
        replace a5:=a5.only c6 (by decide)
        replace a4:=a4.only c6 (by decide)
        replace a3:=a3.only c6 (by decide)
        replace a0:=a0.only c6 (by decide)
        replace a1:=a1.only c6 (by decide)
        replace a2:=a2.only c6 (by decide)
        replace k8:=k8.only c6 (by decide)
        replace o4:=o4.only c6 (by decide)
        replace hZ:=hZ.frm af cz (by simp)
        replace d6:=Zf d6 c6 (by decide)
        replace d7:=Zf d7 c6 (by decide)
        replace ho:=Zf ho c6 (by decide)
        replace d0:=d0.only c6 (by decide)
        have x0:Below w.heap.size (W.drew) (eo)∧Ze [140] (W.drew) (eo):=⟨v8.1.trans t5,v8.2.trans c6⟩
        refine⟨x0,?_⟩
        refine Ag [8,9,10] 2 rfl #[true,true,true,true,true,true,true,true,true,true,true,true,false,false] [(78,.tuple #[.agg #[V0 0,V0 0,V0 0,V0 0,S0],.iface q3 (vd)]),(87,.agg #[V0 0,V0 0,V0 0,V0 0,S0]),(88,.iface q3 (vd))] (by kernel_rfl) (fun _ _ _ _ _ h=>h) (by kernel_rfl) x0 ?_
        refine Ku 12 1 rfl (by kernel_rfl) rfl (by kernel_rfl) (Ya (b:=ff) (off:=0) [V0 0,V0 0,V0 0,V0 0,S0] rfl (by kernel_rfl) (by kernel_rfl) (by kernel_rfl) (by first|decide|simp[Value.oneCell']) o4 (by first|decide|simp) ?_)
        intro ii m7 cu
        change Blk _ _ [V0 0,V0 0,V0 0,V0 0,S0] _ at cu
        replace hB:=m7.below hB (Nat.le_trans g9 ey)
        replace a6:=m7.blk a6 (Ne.symm (Ne.symm v5))
        replace a5:=m7.blk a5 (Ne.symm (Ne.symm t4))
        replace a4:=m7.blk a4 (Ne.symm (Ne.symm p0))
        replace a3:=m7.blk a3 (Ne.symm (Ne.symm o9))
        replace a0:=m7.blk a0 (Ne.symm (Ne.symm r1))
        replace a1:=m7.blk a1 (Ne.symm (Ne.symm r0))
        replace a2:=m7.blk a2 (Ne.symm (Ne.symm r5))
        replace k8:=m7.blk k8 (Ne.symm (Ne.symm l8))
        replace hZ:=hZ.upd m7 o4 (.inr (Nat.le_trans hF.size k5))
        replace d6:=m7.own2 d6 o4 (by decide)
        replace d7:=m7.own2 d7 o4 (by decide)
        replace ho:=m7.own3 ho q0
        replace d0:=d0.only (Ze.of_upd (T:=[61]) m7 o4 (by decide)) (by decide)
        replace e0:=e0.only (Ze.of_upd (T:=[61]) m7 o4 (by decide)) (by decide)
        have da:Below w.heap.size (W.drew) (ii)∧Ze [140] (W.drew) (ii):=⟨m7.below x0.1 (Nat.le_trans g9 ey),Ze.upd_new x0.2 m7 k5⟩
        refine⟨da,?_⟩
        refine Ag [13] 0 rfl #[true,true,true,true,true,true,true,true,true,true,true,true,true,true] [(22,.iface q3 (vd))] (by kernel_rfl) (fun _ _ _ _ _ h=>h) (by kernel_rfl) da ?_
        refine Wf _ (by kernel_rfl) ?_
        refine wpIn_seq ?_
        refine wpIn_seq ?_
        refine Yy (fun⟨_,_,q⟩=>q) (by simp) ?_
        refine Kj 2 [(89,.iface q3 (vd)),(90,.bool true)] (by kernel_rfl) ?_
        refine wpList_nil ?_
        refine wpIn_cond_true (by kernel_rfl) ?_
        refine wpIn_seq ?_
        refine Yy (fun⟨_,_,q⟩=>q) (by simp) ?_
        refine Kj 1 [(91,.iface q3 (vd))] (by kernel_rfl) ?_
        refine Yb (by kernel_rfl) (Xg (v:=S0) (b:=b3) (off:=0) rfl (by kernel_rfl) (by kernel_rfl) (by kernel_rfl) rfl a4 (by first|decide|simp) ?_)
        intro li p7 ec
        change Blk _ _ [S0] _ at ec
        replace hB:=p7.below hB g3
        replace a6:=p7.blk a6 (Ne.symm (Ne.symm k0))
        replace a5:=p7.blk a5 (Ne.symm (Ne.symm j7))
        replace a3:=p7.blk a3 (Ne.symm c8)
        replace a0:=p7.blk a0 (Ne.symm e8)
        replace a1:=p7.blk a1 (Ne.symm f1)
        replace a2:=p7.blk a2 (Ne.symm l3)
        replace k8:=p7.blk k8 (Ne.symm g7)
        replace cu:=p7.blk cu (Ne.symm p0)
        replace hZ:=hZ.upd p7 a4 (.inl (by simp))
        replace d6:=p7.own2 d6 a4 (by decide)
        replace d7:=p7.own2 d7 a4 (by decide)
        replace ho:=p7.own2 ho a4 (by decide)
        replace d0:=d0.only (Ze.of_upd (T:=[22]) p7 a4 (by decide)) (by decide)
        replace e0:=e0.only (Ze.of_upd (T:=[22]) p7 a4 (by decide)) (by decide)
        refine Yb (by kernel_rfl) (Xg (v:=.iface q3 (vd)) (b:=b4) (off:=0) rfl (by kernel_rfl) (by kernel_rfl) (by kernel_rfl) rfl a3 (by first|decide|simp) ?_)
        intro lg o8 io
        change Blk _ _ [.iface q3 (vd)] _ at io
        replace hB:=o8.below hB g4
        replace a6:=o8.blk a6 (Ne.symm (Ne.symm j8))
        replace a5:=o8.blk a5 (Ne.symm (Ne.symm j5))
        replace ec:=o8.blk ec (Ne.symm (Ne.symm c8))
        replace a0:=o8.blk a0 (Ne.symm f2)
        replace a1:=o8.blk a1 (Ne.symm f0)
        replace a2:=o8.blk a2 (Ne.symm m1)
        replace k8:=o8.blk k8 (Ne.symm g5)
        replace cu:=o8.blk cu (Ne.symm o9)
        replace hZ:=hZ.upd o8 a3 (.inl (by simp))
        replace d6:=o8.own2 d6 a3 (by decide)
        replace d7:=o8.own2 d7 a3 (by decide)
        replace ho:=o8.own2 ho a3 (by decide)
        replace d0:=d0.only (Ze.of_upd (T:=[29]) o8 a3 (by decide)) (by decide)
        replace e0:=e0.only (Ze.of_upd (T:=[29]) o8 a3 (by decide)) (by decide)
        refine wpList_nil ?_
        refine wpIn_ret (Pl (Yd ?_))
        exact⟨hZ.ko.from _,rfl,hZ.ko.same D1 _ ((hF.block D1 bu gu).trans fw) rfl,_,_,_,_,((He u4 v9 (by omega) ew).trans (Mv (i:=i) (by omega) ao t0)),t0,ec,io,e0,o5.trans hB⟩
       ·refine⟨_,rfl,?_⟩
        replace hB:=hB.trans t5
        replace a6:=a6.only c6 (by decide)
        replace a5:=a5.only c6 (by decide)
        replace a4:=a4.only c6 (by decide)
        replace a3:=a3.only c6 (by decide)
        replace a0:=a0.only c6 (by decide)
        replace a1:=a1.only c6 (by decide)
        replace a2:=a2.only c6 (by decide)
        replace k8:=k8.only c6 (by decide)
        replace o4:=o4.only c6 (by decide)
        replace hZ:=hZ.frm af cz (by simp)
        replace d6:=Zf d6 c6 (by decide)
        replace d7:=Zf d7 c6 (by decide)
        replace ho:=Zf ho c6 (by decide)
        replace d0:=d0.only c6 (by decide)
        replace i0:=Zh i0 gk
        have y3:Below w.heap.size (W.drew) (eo)∧Ze [140] (W.drew) (eo):=⟨v8.1.trans t5,v8.2.trans c6⟩
        refine⟨y3,?_⟩
        refine Ag [8,9,10] 2 rfl #[true,true,true,true,true,true,true,true,true,true,true,true,false,false] [(78,.tuple #[.agg #[V0 (((Zd l details 3 fuel).es.getD i Zg).1),V0 (↑(Xh ((Zd l details 3 fuel).es.getD i Zg).2.1 1):Int),V0 (↑(Xh ((Zd l details 3 fuel).es.getD i Zg).2.1 2):Int),V0 (↑(Xh ((Zd l details 3 fuel).es.getD i Zg).2.1 3):Int),.slice pm ((Qf l ((Zd l top 1 fuel).es.getD i Zg) data fuel).2.2.length) cm],.nilIface]),(87,.agg #[V0 (((Zd l details 3 fuel).es.getD i Zg).1),V0 (↑(Xh ((Zd l details 3 fuel).es.getD i Zg).2.1 1):Int),V0 (↑(Xh ((Zd l details 3 fuel).es.getD i Zg).2.1 2):Int),V0 (↑(Xh ((Zd l details 3 fuel).es.getD i Zg).2.1 3):Int),.slice pm ((Qf l ((Zd l top 1 fuel).es.getD i Zg) data fuel).2.2.length) cm]),(88,.nilIface)] (by kernel_rfl) (fun _ _ _ _ _ h=>h) (by kernel_rfl) y3 ?_
        refine Ku 12 1 rfl (by kernel_rfl) rfl (by kernel_rfl) (Ya (b:=ff) (off:=0) [V0 (((Zd l details 3 fuel).es.getD i Zg).1),V0 (↑(Xh ((Zd l details 3 fuel).es.getD i Zg).2.1 1):Int),V0 (↑(Xh ((Zd l details 3 fuel).es.getD i Zg).2.1 2):Int),V0 (↑(Xh ((Zd l details 3 fuel).es.getD i Zg).2.1 3):Int),.slice pm ((Qf l ((Zd l top 1 fuel).es.getD i Zg) data fuel).2.2.length) cm] rfl (by kernel_rfl) (by kernel_rfl) (by kernel_rfl) (by first|decide|simp[Value.oneCell']) o4 (by first|decide|simp) ?_)
        intro jg m3 x2
        change Blk _ _ [V0 (((Zd l details 3 fuel).es.getD i Zg).1),V0 (↑(Xh ((Zd l details 3 fuel).es.getD i Zg).2.1 1):Int),V0 (↑(Xh ((Zd l details 3 fuel).es.getD i Zg).2.1 2):Int),V0 (↑(Xh ((Zd l details 3 fuel).es.getD i Zg).2.1 3):Int),.slice pm ((Qf l ((Zd l top 1 fuel).es.getD i Zg) data fuel).2.2.length) cm] _ at x2
        replace hB:=m3.below hB (Nat.le_trans g9 ey)
        replace a6:=m3.blk a6 (Ne.symm (Ne.symm v5))
        replace a5:=m3.blk a5 (Ne.symm (Ne.symm t4))
        replace a4:=m3.blk a4 (Ne.symm (Ne.symm p0))
        replace a3:=m3.blk a3 (Ne.symm (Ne.symm o9))
        replace a0:=m3.blk a0 (Ne.symm (Ne.symm r1))
        replace a1:=m3.blk a1 (Ne.symm (Ne.symm r0))
        replace j1:=m3.blk j1 (Ne.symm (Ne.symm x8))
        replace a2:=m3.blk a2 (Ne.symm (Ne.symm r5))
        replace k8:=m3.blk k8 (Ne.symm (Ne.symm l8))
        replace hZ:=hZ.upd m3 o4 (.inr (Nat.le_trans hF.size k5))
        replace d6:=m3.own2 d6 o4 (by decide)
        replace d7:=m3.own2 d7 o4 (by decide)
        replace ho:=m3.own3 ho q0
        replace d0:=d0.only (Ze.of_upd (T:=[61]) m3 o4 (by decide)) (by decide)
        replace i0:=m3.own2 i0 o4 (by decide)
        have cr:Below w.heap.size (W.drew) (jg)∧Ze [140] (W.drew) (jg):=⟨m3.below y3.1 (Nat.le_trans g9 ey),Ze.upd_new y3.2 m3 k5⟩
        refine⟨cr,?_⟩
        refine Ag [13] 0 rfl #[true,true,true,true,true,true,true,true,true,true,true,true,true,true] [(22,.nilIface)] (by kernel_rfl) (fun _ _ _ _ _ h=>h) (by kernel_rfl) cr ?_
        refine Wf _ (by kernel_rfl) ?_
        refine wpIn_seq ?_
        refine wpIn_seq ?_
        refine Yy (fun⟨_,_,q⟩=>q) (by simp) ?_
        refine Kj 2 [(89,.nilIface),(90,.bool false)] (by kernel_rfl) ?_
        refine wpList_nil ?_
        refine wpIn_cond_false (by kernel_rfl) ?_
        refine wpIn_skip ?_
        refine Yy (fun⟨_,_,q⟩=>q) (by simp) ?_
        refine Yb (by kernel_rfl) (Yc ⟨i5,0,none⟩ (.slice p i cp) rfl (by kernel_rfl) (by kernel_rfl) (k8.cell (i:=0) rfl) ?_)
        refine Yb (by kernel_rfl) (Dc (b:=ff) (off:=0) [V0 (((Zd l details 3 fuel).es.getD i Zg).1),V0 (↑(Xh ((Zd l details 3 fuel).es.getD i Zg).2.1 1):Int),V0 (↑(Xh ((Zd l details 3 fuel).es.getD i Zg).2.1 2):Int),V0 (↑(Xh ((Zd l details 3 fuel).es.getD i Zg).2.1 3):Int),.slice pm ((Qf l ((Zd l top 1 fuel).es.getD i Zg) data fuel).2.2.length) cm] _ rfl (by kernel_rfl) Tryz.underlying61 rfl (by kernel_rfl) x2.whole ?_)
        refine Yb (by kernel_rfl) (Yi 61 [V0 (((Zd l details 3 fuel).es.getD i Zg).1),V0 (↑(Xh ((Zd l details 3 fuel).es.getD i Zg).2.1 1):Int),V0 (↑(Xh ((Zd l details 3 fuel).es.getD i Zg).2.1 2):Int),V0 (↑(Xh ((Zd l details 3 fuel).es.getD i Zg).2.1 3):Int),.slice pm ((Qf l ((Zd l top 1 fuel).es.getD i Zg) data fuel).2.2.length) cm] rfl (by kernel_rfl) ?_)
        intro lw ln f5
        have gg:=f5.ne a6
        have hc:=f5.ne a5
        have gj:=f5.ne a4
        have gt:=f5.ne a3
        have en:=f5.ne a0
        have fi:=f5.ne a1
        have du:=f5.ne j1
        have fn:=f5.ne a2
        have ei:=f5.ne k8
        have eh:=f5.ne x2
        have ld:=f5.ge0 hB
        have ib:=Zz ho f5
        replace hB:=blB hB g9 f5.below
        replace a6:=a6.below f5.below
        replace a5:=a5.below f5.below
        replace a4:=a4.below f5.below
        replace a3:=a3.below f5.below
        replace a0:=a0.below f5.below
        replace a1:=a1.below f5.below
        replace j1:=j1.below f5.below
        replace a2:=a2.below f5.below
        replace k8:=k8.below f5.below
        replace x2:=x2.below f5.below
        replace hZ:=hZ.below f5.below
        replace d6:=Zb d6 f5.below
        replace d7:=Zb d7 f5.below
        replace ho:=Zb ho f5.below
        replace d0:=d0.below f5.below
        replace i0:=Zb i0 f5.below
        have kn:=f5.blk
        refine Yb (by kernel_rfl) (Xq (e:=61) (n:=i) (xs:=(Z.flatMap Bp)) (m:=1) (news:=[V0 (((Zd l details 3 fuel).es.getD i Zg).1),V0 (↑(Xh ((Zd l details 3 fuel).es.getD i Zg).2.1 1):Int),V0 (↑(Xh ((Zd l details 3 fuel).es.getD i Zg).2.1 2):Int),V0 (↑(Xh ((Zd l details 3 fuel).es.getD i Zg).2.1 3):Int),.slice pm ((Qf l ((Zd l top 1 fuel).es.getD i Zg) data fuel).2.2.length) cm]) (.agg #[V0 0,V0 0,V0 0,V0 0,S0]) 5 56 (i+1) (((Z++[(devX l ((Zd l details 3 fuel).es.getD i Zg) ((Zd l top 1 fuel).es.getD i Zg) data fuel,pm,cm)]).flatMap Bp)) rfl Tryz.underlying22 (by kernel_rfl) rfl (by decide) (by kernel_rfl) ho (by kernel_rfl) (kn.sl 1 1 (by decide) (by decide)) rfl (by simp[Value.oneCell']) (by unfold maxLen;omega) (by omega) (Nat.le_trans hZ.l0 hZ.le) (rfl) (by rw[List.flatMap_append];rfl) ?_)
        intro iq jj mi fx f3 gm
        replace a6:=a6.grown f3 ho (by decide)
        replace a5:=a5.grown f3 ho (by decide)
        replace a4:=a4.grown f3 ho (by decide)
        replace a3:=a3.grown f3 ho (by decide)
        replace a0:=a0.grown f3 ho (by decide)
        replace a1:=a1.grown f3 ho (by decide)
        replace j1:=j1.grown f3 ho (by decide)
        replace a2:=a2.grown f3 ho (by decide)
        replace k8:=k8.grown f3 ho (by decide)
        replace x2:=x2.grown3 f3 q0
        replace hZ:=hZ.grown f3 ho
        replace d6:=Zp d6 f3 ho (by decide)
        replace d7:=Zp d7 f3 ho (by decide)
        replace d0:=d0.only (Ze.of_grown (T:=[61]) f3 ho (by decide)) (by decide)
        replace i0:=Zp i0 f3 ho (by decide)
        replace hB:=hB.trans (gm.mono l6)
        refine Yb (by kernel_rfl) (Xg (v:=.slice iq (i+1) jj) (b:=i5) (off:=0) rfl (by kernel_rfl) (by kernel_rfl) (by kernel_rfl) rfl k8 (by first|decide|simp) ?_)
        intro lp o7 jd
        change Blk _ _ [.slice iq (i+1) jj] _ at jd
        replace hB:=o7.below hB jc
        replace a6:=o7.blk a6 (Ne.symm (Ne.symm p3))
        replace a5:=o7.blk a5 (Ne.symm (Ne.symm p8))
        replace a4:=o7.blk a4 (Ne.symm (Ne.symm g7))
        replace a3:=o7.blk a3 (Ne.symm (Ne.symm g5))
        replace a0:=o7.blk a0 (Ne.symm (Ne.symm l7))
        replace a1:=o7.blk a1 (Ne.symm (Ne.symm l2))
        replace j1:=o7.blk j1 (Ne.symm (Ne.symm r4))
        replace a2:=o7.blk a2 (Ne.symm (Ne.symm m0))
        replace x2:=o7.blk x2 (Ne.symm l8)
        replace hZ:=hZ.upd o7 k8 (.inl (by simp))
        replace d6:=o7.own2 d6 k8 (by decide)
        replace d7:=o7.own2 d7 k8 (by decide)
        replace d0:=d0.only (Ze.of_upd (T:=[22]) o7 k8 (by decide)) (by decide)
        replace i0:=o7.own2 i0 k8 (by decide)
        replace fx:=o7.own2 fx k8 (by decide)
        refine wpList_nil ?_
        exact⟨hZ.ko.from _,⟨hZ.le,fun d hd=>hZ.fr d (bb d hd) (dd d hd)⟩,o5.trans hB,Zdi hF hZ (fun k hk=>by simp only[List.mem_cons,List.not_mem_nil,or_false] at hk ⊢;rcases hk with rfl|rfl|rfl|rfl;exact .inr ((show _=_ from a4).trans (show _=_ from j4).symm);exact .inr ((show _=_ from a3).trans (show _=_ from j6).symm);exact .inl (by simp);exact .inl (by simp)),j1,Zd4 t0,Ml ao t0,_,_,_,jd,fx,(d0.snoc (d:=devX l ((Zd l details 3 fuel).es.getD i Zg) ((Zd l top 1 fuel).es.getD i Zg) data fuel) rfl i0),by simp[db],by rw[List.map_append,dp,Ue];rfl⟩
     case stop =>
      rintro D c k V hD hk ⟨rfl,hK,ty,v,bl,er,hO,fp,ca,j2,hv,hb⟩ w9
      have w3:Dfr D V:=w9
      have v7:D1≠D:=by omega
      refine wp_ret (Yd (Pl ?_))
      exact ret2 ca j2 hK w3 v7 (Zar (.inr ⟨_,_,rfl⟩) (by kernel_rfl) (by kernel_rfl)) rfl (Hf hO fp (Gs (Gs hb hb.size (Nat.le_trans l6 hD) _) (by simpa [World.putObj] using hb.size) (Nat.le_trans l9 jn) _) ((hv.pt w3 _).pt (hK.put v7 _) _))
     case done =>
      rintro D2 W8 kj ⟨km,y9,mc,fs,ao,p,cp,Z,k8,ho,d0,db,dp⟩ w9
      have w3:Dfr D2 W8:=w9;clear w9
      have hK:Dfr D1 W8:=(y9.block D1 bu gu).trans fw
      have v7:D1≠D2:=by omega
      rw[(Bu de).1] at ao k8 ho db dp
      have r7:=z9.fr y9 (by simp only[List.mem_cons,List.not_mem_nil,or_false];rintro(h|h|h|h);omega;omega;exact r2 h;exact r6 h)
      have r3:=z7.fr y9 (by simp only[List.mem_cons,List.not_mem_nil,or_false];rintro(h|h|h|h);omega;omega;exact q6 h;exact r8 h)
      have o1:=j4.fr y9 (by simp only[List.mem_cons,List.not_mem_nil,or_false];rintro(h|h|h|h);omega;omega;exact q8 h;exact q5 h)
      have i1:=j6.fr y9 (by simp only[List.mem_cons,List.not_mem_nil,or_false];rintro(h|h|h|h);omega;omega;exact q7 h;exact q9 h)
      have l4:=u2.fr y9 (by simp only[List.mem_cons,List.not_mem_nil,or_false];rintro(h|h|h|h);omega;omega;exact m9 h;exact n9 h)
      have l1:=t8.fr y9 (by simp only[List.mem_cons,List.not_mem_nil,or_false];rintro(h|h|h|h);omega;omega;exact n7 h;exact m6 h)
      have l5:=v6.fr y9 (by simp only[List.mem_cons,List.not_mem_nil,or_false];rintro(h|h|h|h);omega;omega;exact o0 h;exact m8 h)
      replace hB:=km
      refine wp_seq ?_
      refine wp_region_lit ?_
      refine Yb (by kernel_rfl) (Yc ⟨i5,0,none⟩ (.slice p ((Zd l details 3 fuel).es.length) cp) rfl (by kernel_rfl) (by kernel_rfl) (k8.cell (i:=0) rfl) ?_)
      refine Yb (by kernel_rfl) (Xg (v:=.slice p ((Zd l details 3 fuel).es.length) cp) (b:=b3) (off:=0) rfl (by kernel_rfl) (by kernel_rfl) (by kernel_rfl) rfl o1 (by first|decide|simp) ?_)
      intro ll s7 et
      change Blk _ _ [.slice p ((Zd l details 3 fuel).es.length) cp] _ at et
      replace hB:=s7.below hB g3
      replace r7:=s7.blk r7 (Ne.symm (Ne.symm k0))
      replace r3:=s7.blk r3 (Ne.symm (Ne.symm j7))
      replace i1:=s7.blk i1 (Ne.symm c8)
      replace l4:=s7.blk l4 (Ne.symm e8)
      replace l1:=s7.blk l1 (Ne.symm f1)
      replace l5:=s7.blk l5 (Ne.symm l3)
      replace k8:=s7.blk k8 (Ne.symm g7)
      replace ho:=s7.own2 ho o1 (by decide)
      replace d0:=d0.only (Ze.of_upd (T:=[22]) s7 o1 (by decide)) (by decide)
      replace hK:=hK.upd s7 o1
      replace w3:=w3.upd s7 o1
      refine Yb (by kernel_rfl) (Xg (v:=.nilIface) (b:=b4) (off:=0) rfl (by kernel_rfl) (by kernel_rfl) (by kernel_rfl) rfl i1 (by first|decide|simp) ?_)
      intro mn s8 jt
      change Blk _ _ [.nilIface] _ at jt
      replace hB:=s8.below hB g4
      replace r7:=s8.blk r7 (Ne.symm (Ne.symm j8))
      replace r3:=s8.blk r3 (Ne.symm (Ne.symm j5))
      replace et:=s8.blk et (Ne.symm (Ne.symm c8))
      replace l4:=s8.blk l4 (Ne.symm f2)
      replace l1:=s8.blk l1 (Ne.symm f0)
      replace l5:=s8.blk l5 (Ne.symm m1)
      replace k8:=s8.blk k8 (Ne.symm g5)
      replace ho:=s8.own2 ho i1 (by decide)
      replace d0:=d0.only (Ze.of_upd (T:=[29]) s8 i1 (by decide)) (by decide)
      replace hK:=hK.upd s8 i1
      replace w3:=w3.upd s8 i1
      refine wpList_nil ?_
      have ik:=hK.put v7 (.deferred none)
      refine wp_ret ?_
      refine ret2 et jt hK w3 v7 (Zar (.inl rfl) (by kernel_rfl) (by kernel_rfl)) rfl ?_
      refine ldevs_ok ((He u4 v9 (by omega) ew).trans (Ar ao)) db dp (Gs (Gs hB hB.size (Nat.le_trans l6 kj) _) (by simpa [World.putObj] using hB.size) (Nat.le_trans l9 jn) _) ((((d0.mono l6).pt w3 _).pt ik _)) (Zb4 (Zb4 (Zh ho l6) w3 _) ik _)
theorem Km{f:Ent→Value}(L:List Ent)(id:Int):Qm (L.map fun x=>(x.1,f x)) id=(Uj L id).map f:=by
 induction L with
 | nil=>rfl
 | cons x L ih =>
  unfold Uj at ih ⊢
  rw[List.map_cons,Qm,List.find?_cons]
  by_cases h:id=x.1
  ·subst h;simp
  ·rw[if_neg h,ih,show(x.1==id)=false from by simpa using fun e=>h e.symm]
theorem Gm{L:List Ent}{id:Int}{x:Ent}(h:Uj L id=some x):x∈L∧x.1=id:=⟨List.mem_of_find?_eq_some h,by simpa using List.find?_some h⟩
theorem Ux{l:Bl}{data fuel:Int}{D T:List Ent}{id:Int}(h:Uj D id=none):Tp l data fuel D T id=[((4:Int),id,(18:Int))]:=by unfold Tp;rw[h]
theorem Bn{l:Bl}{data fuel:Int}{D T:List Ent}{id:Int}{x:Ent}(h:Uj D id=some x)(h2:Uj T id=none):Tp l data fuel D T id=[((4:Int),id,(18:Int))]:=by unfold Tp;rw[h,h2]
theorem Bd{l:Bl}{data fuel:Int}{D T:List Ent}{id:Int}(h:Uj D id=none):Ip l data fuel D T id=[]:=by unfold Ip;rw[h]
theorem Zax{l:Bl}{data fuel:Int}{D T:List Ent}{id:Int}{x:Ent}(h:Uj D id=some x)(h2:Uj T id=none):Ip l data fuel D T id=[]:=by unfold Ip;rw[h,h2]
theorem Ai{l:Bl}{data fuel:Int}{D T:List Ent}{id:Int}{x y:Ent}(h:Uj D id=some x)(h2:Uj T id=some y)(h3:((Xh x.2.1 0:Nat):Int)≠((Ji l data fuel (Zo y.2.1:Nat)).length:Nat)):Tp l data fuel D T id=[((4:Int),id,(13:Int))]:=by unfold Tp;rw[h,h2];exact if_neg h3
theorem Zeb{l:Bl}{data fuel:Int}{D T:List Ent}{id:Int}{x y:Ent}(h:Uj D id=some x)(h2:Uj T id=some y)(h3:((Xh x.2.1 0:Nat):Int)=((Ji l data fuel (Zo y.2.1:Nat)).length:Nat)):Tp l data fuel D T id=[]:=by unfold Tp;rw[h,h2];exact if_pos h3
theorem Td{l:Bl}{data fuel:Int}{D T:List Ent}{id:Int}{x y:Ent}(h:Uj D id=some x)(h2:Uj T id=some y):Ip l data fuel D T id=[((id,((Xh x.2.1 1:Nat):Int),((Xh x.2.1 2:Nat):Int),((Xh x.2.1 3:Nat):Int)),Ji l data fuel (Zo y.2.1:Nat))]:=by unfold Ip;rw[h,h2]
theorem Hh{l:Bl}{data fuel:Int}{D T:List Ent}{P:List Int}{j:Nat}(hj:j<P.length):Vc l data fuel D T (P.take (j+1))=Vc l data fuel D T (P.take j)++Tp l data fuel D T (P.getD j 0):=by
 unfold Vc
 rw[List.take_succ_eq_append_getElem hj,List.flatMap_append,show P.getD j 0=P[j] from by simp[List.getD,hj]]
 simp
theorem Hc{l:Bl}{data fuel:Int}{D T:List Ent}{P:List Int}{j:Nat}(hj:j<P.length):Uh l data fuel D T (P.take (j+1))=Uh l data fuel D T (P.take j)++Ip l data fuel D T (P.getD j 0):=by
 unfold Uh
 rw[List.take_succ_eq_append_getElem hj,List.flatMap_append,show P.getD j 0=P[j] from by simp[List.getD,hj]]
 simp
theorem oneG_1(l:Bl)(data fuel:Int)(D T:List Ent)(id:Int):(Tp l data fuel D T id).length≤1:=by
 unfold Tp
 repeat' split
 all_goals simp
theorem oneV_1(l:Bl)(data fuel:Int)(D T:List Ent)(id:Int):(Ip l data fuel D T id).length≤1:=by
 unfold Ip
 repeat' split
 all_goals simp
theorem Dp(l:Bl)(data fuel:Int)(D T:List Ent):∀ P:List Int,(Vc l data fuel D T P).length≤P.length
 | []=>Nat.le_refl _
 | x::P=>by
  have:=Dp l data fuel D T P;have:=oneG_1 l data fuel D T x
  show(Tp l data fuel D T x++Vc l data fuel D T P).length≤_
  rw[List.length_append,List.length_cons];omega
theorem Dq(l:Bl)(data fuel:Int)(D T:List Ent):∀ P:List Int,(Uh l data fuel D T P).length≤P.length
 | []=>Nat.le_refl _
 | x::P=>by
  have:=Dq l data fuel D T P;have:=oneV_1 l data fuel D T x
  show(Ip l data fuel D T x++Uh l data fuel D T P).length≤_
  rw[List.length_append,List.length_cons];omega
theorem Tj(l:Bl)(data fuel r:Int)(hf:fuel≤1000):(Ji l data fuel r).length≤18001:=by
 have h1:=Yx l r 2 fuel hf
 have h2:=Ib data (Zd l r 2 fuel).es
 unfold Ji;omega
theorem Of(p:Addr)(N c:Nat)(xs:List Value)(w:World)(h:Sl w (.slice (some p) N c) N xs)(hl:xs.length=N*3)(h1:∀ u∈xs,u.oneCell'=true)(hn:N≤1000000) :
 C0 114 #[.slice (some p) N c] w (Jl (fun w' r=>∃ q c2,r=.slice q N c2∧w'.ownsRow w.heap.size 164 3 (.slice q N c2) N xs) w):=by
 refine zin 8 Tryz.func114 ?_
 refine xb0 17 164 fun b1 W1 n1=>?_
 have o1:=Qh (size:=3) (n:=0) n1.blk (n1.ge (B3 w)) rfl (by decide)
 refine xbi 1 fun _ _ _ _ zJ zQ zo zx zy zK=>Xq (m:=N) (news:=xs) (.agg #[V0 0,V0 0,V0 0]) 3 24 (N) (xs) zo Tryz.underlying59 (by kernel_rfl) rfl (by decide) zx o1 zy (h.below n1.below) hl h1 (by unfold maxLen;omega) (by omega) n1.below.size (by omega) (by rfl) fun a3 a2 W2 o2 a4 a1=>?_
 refine zK _ _ ?_
 have a0:=n1.below.trans a1
 exact xe 4 (.slice a3 N a2) ⟨_,rfl,a0,_,_,rfl,o2⟩
theorem Za5(w:World) :
 C0 114 #[S0] w (Ret (S0) w):=by
 refine zin 8 Tryz.func114 ?_
 exact xe 20 (S0) ⟨rfl,(B3 w)⟩
theorem mapC_one(L:List Mp):∀ u∈L.flatMap Kh,u.oneCell'=true:=fun u hu=>by
 obtain⟨m,_,h⟩:=List.mem_flatMap.1 hu
 simp only[Kh,List.mem_cons,List.not_mem_nil,or_false] at h
 rcases h with rfl|rfl|rfl<;>rfl
theorem Zcp(L:List Mp):(L.flatMap Kh).length=L.length*3:=by
 induction L with
 | nil=>rfl
 | cons x L ih=>rw[List.flatMap_cons,List.length_append,ih,List.length_cons];show 3+_=_;omega
theorem Lz{base:Nat}(a:O0)(c:Nat)(L:List Mp)(w:World)(ho:w.ownsRow base 164 3 (.slice a L.length c) L.length (L.flatMap Kh))(hn:L.length≤1000000):C0 114 #[.slice a L.length c] w (Jl (fun w' r=>∃ q c2,r=.slice q L.length c2∧w'.ownsRow w.heap.size 164 3 (.slice q L.length c2) L.length (L.flatMap Kh)) w):=by
 rcases ho.2 with ⟨h1,h2⟩|⟨g,a1,a0,hv,_⟩
 ·simp only[Value.slice.injEq] at h1
  obtain⟨rfl,hl,rfl⟩:=h1
  rw[hl]
  have:L=[]:=List.eq_nil_of_length_eq_zero hl
  subst this
  exact(Za5 w).mono fun e W q=>⟨_,q.1,q.2,none,0,rfl,World.ownsRow_nil _ _ _ _⟩
 ·simp only[Value.slice.injEq] at hv
  obtain⟨rfl,_,rfl⟩:=hv
  exact Of _ _ _ _ w (Zi ho) (Zcp L) (mapC_one L) hn
def DvsP(B bx:Nat)(cs:List Value)(D:List Dg)(l:Bl)(data fuel:Int)(De Te:List Ent)(ra rb rc:Nat)(kd kr km:List (Int×Value))(w:World)(e:Ending)(w':World):Prop :=
 ∃ (P:List Int) (q:O0) (d:Nat) (Z:List Zv),Cv De Te P∧e=.returned (.slice q Z.length d)∧Pw B bx cs (D++Vc l data fuel De Te P) ra rb rc kd kr km w w'∧Z.map Prod.fst=Uh l data fuel De Te P∧Xi w.heap.size w' Z∧w'.ownsRow w.heap.size 61 5 (.slice q Z.length d) Z.length (Z.flatMap Bp)
theorem Zc5{De Te:List Ent}{P:List Int}(h:Cv De Te P):P.length≤De.length+Te.length:=by
 have h1:P.Nodup:=h.1.imp fun q e=>by omega
 have h2:∀ {L E:List Int},L.Nodup→(∀ x∈L,x∈E)→L.length≤E.length:=by
  intro L
  induction L with
  | nil=>intro E _ _;exact Nat.zero_le _
  | cons a L ih =>
   intro E h k
   rw[List.nodup_cons] at h
   have ha:=k a List.mem_cons_self
   have:=ih (E:=E.erase a) h.2 fun x hx=>(List.mem_erase_of_ne (show x≠a from fun e=>h.1 (by rw[←e];exact hx))).2 (k x (List.mem_cons_of_mem _ hx))
   rw[List.length_erase_of_mem ha] at this
   have:=List.length_pos_of_mem ha
   rw[List.length_cons];omega
 have:=h2 h1 (E:=De.map Prod.fst++Te.map Prod.fst) fun x hx=>by rw[List.mem_append];exact(h.2 x).1 hx
 simpa using this
theorem Mw(B bx:Nat)(p:O0)(c:Nat)(D:List Dg)(ra rb rc:Nat)(km:List (Int×Value))(pi:O0)(ni ci Bi b:Nat)(l:Bl)(s:Sup)(fuel:Int)(De Te:List Ent)(w:World)(hk:Blk w bx [.slice p D.length c,P0 b,V0 s.tx,V0 s.time,V0 s.unit,V0 s.data,V0 s.blocks,V0 s.top,V0 s.details,V0 s.dslots,V0 s.dover,V0 s.mindex,V0 s.mover,V0 fuel,.map (some ra),.map (some rb),.map (some rc)] 114)(ho:w.ownsRow B 100 3 (.slice p D.length c) D.length (D.flatMap dmc))(hM:Maps3 B ra rb rc (De.map fun x=>(x.1,Kl x)) (Te.map fun x=>(x.1,V0 ((Zo x.2.1:Nat):Int))) km w)(hR:Vj (Ji l s.data fuel) km w)(hks:∀ y∈Te,((Zo y.2.1:Nat):Int)∈km.map Prod.fst)(hfu:fuel≤1000)(hBb:B≤bx)(hBw:B≤w.heap.size)(hl:D.length≤500000000)(hDe:De.length≤18001)(hTe:Te.length≤18001) :
 C0 51 #[P0 bx] w (DvsP B bx [P0 b,V0 s.tx,V0 s.time,V0 s.unit,V0 s.data,V0 s.blocks,V0 s.top,V0 s.details,V0 s.dslots,V0 s.dover,V0 s.mindex,V0 s.mover,V0 fuel,.map (some ra),.map (some rb),.map (some rc)] D l s.data fuel De Te ra rb rc (De.map fun x=>(x.1,Kl x)) (Te.map fun x=>(x.1,V0 ((Zo x.2.1:Nat):Int))) km w):=by
 have l6:w.heap.size≤w.heap.size:=Nat.le_refl _
 refine zin 78 Tryz.func51 ?_
 refine xc 14 (args:=#[P0 bx]) (Sa B bx b _ _ _ s fuel ra rb rc (De.map fun x=>(x.1,Kl x)) (Te.map fun x=>(x.1,V0 ((Zo x.2.1:Nat):Int))) km _ hk hM (by rw[List.length_map];omega) (by rw[List.length_map];omega)) ?_
 rintro _ W1 ⟨qi,ci,P,rfl,e3,a6,m9,n5⟩
 have n2:=Nat.le_refl w.heap.size
 have hP:Cv De Te P:=⟨m9,fun z=>by rw[n5];simp only[List.map_map];rfl⟩
 have n7:=Zc5 hP
 have j1:=hk.below e3
 have l9:=j1
 have k1:=Zb ho e3
 have m0:=k1
 rw[(by simp[Vc]:D=D++Vc l s.data fuel De Te (P.take 0))] at l9 m0
 have d5:=Zh a6 n2
 have k3:=hM.below e3
 have k2:=hR.below e3
 have hB:=blB (Below.refl B w) hBw e3
 have hO:=(show Ze [114,100] w _ from(Ze.of_below e3))
 refine zl 5 78 (fun zm n0 V=>∃ (j:Nat) (p:O0) (c:Nat) (pz:O0) (cz:Nat) (Z:List Zv),n0=[(0,P0 bx),(2,S0),(3,.slice pz Z.length cz),(12,.slice qi P.length ci),(13,V0 (P.length:Int)),(14,V0 (j:Int))]∧zm=P.length-((j:Int)).toNat∧Below B w V∧Ze [114,100] w V∧Blk V bx ([.slice p ((D++Vc l s.data fuel De Te (P.take j)).length) c,P0 b,V0 s.tx,V0 s.time,V0 s.unit,V0 s.data,V0 s.blocks,V0 s.top,V0 s.details,V0 s.dslots,V0 s.dover,V0 s.mindex,V0 s.mover,V0 fuel,.map (some ra),.map (some rb),.map (some rc)]) 114∧V.ownsRow B 100 3 (.slice p (D++Vc l s.data fuel De Te (P.take j)).length c) (D++Vc l s.data fuel De Te (P.take j)).length ((D++Vc l s.data fuel De Te (P.take j)).flatMap dmc)∧V.ownsRow w.heap.size 3 1 (.slice qi P.length ci) P.length (P.map V0)∧V.ownsRow w.heap.size 61 5 (.slice pz Z.length cz) Z.length (Z.flatMap Bp)∧Maps3 B ra rb rc (De.map fun x=>(x.1,Kl x)) (Te.map fun x=>(x.1,V0 ((Zo x.2.1:Nat):Int))) km V∧Vj (Ji l s.data fuel) km V∧Xi w.heap.size V Z∧j≤P.length∧Z.map Prod.fst=Uh l s.data fuel De Te (P.take j)) ⟨0,_,_,none,0,[],rfl,rfl,hB,hO,l9,m0,d5,World.ownsRow_nil _ _ _ _,k3,k2,Xi.nil _ _,Nat.zero_le _,rfl⟩ ?_
 rintro _ _ W2 ⟨j,p,c,pz,cz,Z,rfl,rfl,a8,b7,b1,ho,a6,e2,hM,hR,e4,hj,hZ⟩ J2 h3 r2
 have o8:=Dp l s.data fuel De Te (P.take j)
 have n9:=Dq l s.data fuel De Te (P.take j)
 have o0:=List.length_take_le' j P
 have n1:=congrArg List.length hZ
 rw[List.length_map] at n1
 refine xid 6 ((j:Int)<(P.length:Int)) (fun m5=>?_) (fun m5=>?_)
 ·refine xx 6 _ P.length j 1 (Ints.elem (Zi a6) (k:=j) (by omega)).1 ?_
  refine xl 0 ((Ints.elem (Zi a6) (k:=j) (by omega)).2) ?_
  refine xb 8 14 b1 ?_
  rcases hkx:Uj De (P.getD j 0) with _|x
  ·have j5:Qm (De.map fun x=>(x.1,Kl x)) (P.getD j 0)=none:=by rw[Km,hkx];rfl
   refine xlkN 1 (z:=.agg #[V0 0,V0 0,V0 0,V0 0]) (P.getD j 0) true Tryz.underlying108 (Df Tryz.underlying3) (fun V=>by kernel_rfl) hM.m1 j5 ?_
   refine xa 3 [V0 0,V0 0,V0 0,V0 0] 202 fun b4 W4 n4=>?_
   have g4:=n4.ge0 a8
   refine xsv 0 n4.blk [V0 0,V0 0,V0 0,V0 0] fun W5 u5 k5=>?_
   have a5:=u5.blkT (b1.below n4.below) n4.blk (by decide)
   refine xb 8 15 a5 ?_
   rcases hky:Uj Te (P.getD j 0) with _|y
   ·have d8:Qm (Te.map fun x=>(x.1,V0 ((Zo x.2.1:Nat):Int))) (P.getD j 0)=none:=by rw[Km,hky];rfl
    have g9:=(hM.below n4.below).updBlk u5 n4.blk
    refine xlkN 1 (z:=V0 0) (P.getD j 0) true Tryz.underlying109 (Df Tryz.underlying3) (fun V=>by kernel_rfl) g9.m2 d8 ?_
    have l0:=u5.own2 (Zb ho n4.below) n4.blk (by decide)
    have h0:=u5.below (blB a8 hBw n4.below) (Nat.le_trans hBw g4)
    refine xc 25 (args:=#[P0 bx,V0 4,V0 (P.getD j 0),V0 18]) (Xj B bx _ _ (D++Vc l s.data fuel De Te (P.take j)) ra rb rc _ _ _ _ _ _ _ _ _ _ _ _ _ _ _ _ _ _ _ 4 (P.getD j 0) 18 _ (by first|assumption|decide|omega) a5 l0 g9 hBb (Nat.le_trans hBw h0.size) (by first|omega|(simp;omega))) ?_
    rintro _ W6 ⟨rfl,pa,ca,n3,e8,d1,c8,hM⟩
    refine xwm 7 ((j:Int)+1) (↑(j+1):Int) ?_
    have b2:=d1
    have b3:=c8
    have eg:Vc l s.data fuel De Te (P.take (j+1))=_:=(Hh (by omega)).trans (congrArg (_++·) (Ux hkx))
    have ev:Uh l s.data fuel De Te (P.take (j+1))=_:=(Hc (by omega)).trans (congrArg (_++·) (Bd hkx))
    rw[Lf,←eg] at b2 b3
    have k6:=h0.trans n3
    have i9:=(Ze.upd_new (b7.trans (Ze.of_below n4.below)) u5 g4).trans e8
    have d3:=Zf (u5.own2 (Zb a6 n4.below) n4.blk (by decide)) e8 (by decide)
    have e6:=Zf (u5.own2 (Zb e2 n4.below) n4.blk (by decide)) e8 (by decide)
    have k4:=((hR.below n4.below).only (Ze.of_upd (T:=[202]) u5 n4.blk (by decide)) (by decide)).only e8 (by decide)
    have h2:=((e4.below n4.below).only (Ze.of_upd (T:=[202]) u5 n4.blk (by decide)) (by decide)).only e8 (by decide)
    exact ze 2 (h3 _ _ _ ⟨j+1,_,_,_,_,Z,rfl,rfl,k6,i9,b2,b3,d3,e6,hM,k4,h2,by omega,by rw[ev,List.append_nil];exact hZ⟩ (by omega))
   have d8:Qm (Te.map fun x=>(x.1,V0 ((Zo x.2.1:Nat):Int))) (P.getD j 0)=some (V0 ((Zo y.2.1:Nat):Int)):=by rw[Km,hky];rfl
   have e9:=(hM.below n4.below).updBlk u5 n4.blk
   refine xlkS 1 (P.getD j 0) true Tryz.underlying109 (Df Tryz.underlying3) e9.m2 d8 ?_
   have j3:=u5.own2 (Zb ho n4.below) n4.blk (by decide)
   have f9:=u5.below (blB a8 hBw n4.below) (Nat.le_trans hBw g4)
   refine xc 25 (args:=#[P0 bx,V0 4,V0 (P.getD j 0),V0 18]) (Xj B bx _ _ (D++Vc l s.data fuel De Te (P.take j)) ra rb rc _ _ _ _ _ _ _ _ _ _ _ _ _ _ _ _ _ _ _ 4 (P.getD j 0) 18 _ (by first|assumption|decide|omega) a5 j3 e9 hBb (Nat.le_trans hBw f9.size) (by first|omega|(simp;omega))) ?_
   rintro _ W7 ⟨rfl,pa,ca,m7,h1,d1,c8,hM⟩
   refine xwm 7 ((j:Int)+1) (↑(j+1):Int) ?_
   have b2:=d1
   have b3:=c8
   have eg:Vc l s.data fuel De Te (P.take (j+1))=_:=(Hh (by omega)).trans (congrArg (_++·) (Ux hkx))
   have ev:Uh l s.data fuel De Te (P.take (j+1))=_:=(Hc (by omega)).trans (congrArg (_++·) (Bd hkx))
   rw[Lf,←eg] at b2 b3
   have i3:=f9.trans m7
   have j4:=(Ze.upd_new (b7.trans (Ze.of_below n4.below)) u5 g4).trans h1
   have d6:=Zf (u5.own2 (Zb a6 n4.below) n4.blk (by decide)) h1 (by decide)
   have f3:=Zf (u5.own2 (Zb e2 n4.below) n4.blk (by decide)) h1 (by decide)
   have i8:=((hR.below n4.below).only (Ze.of_upd (T:=[202]) u5 n4.blk (by decide)) (by decide)).only h1 (by decide)
   have f1:=((e4.below n4.below).only (Ze.of_upd (T:=[202]) u5 n4.blk (by decide)) (by decide)).only h1 (by decide)
   exact ze 2 (h3 _ _ _ ⟨j+1,_,_,_,_,Z,rfl,rfl,i3,j4,b2,b3,d6,f3,hM,i8,f1,by omega,by rw[ev,List.append_nil];exact hZ⟩ (by omega))
  have j5:Qm (De.map fun x=>(x.1,Kl x)) (P.getD j 0)=some (Kl x):=by rw[Km,hkx];rfl
  refine xlkS 1 (P.getD j 0) true Tryz.underlying108 (Df Tryz.underlying3) hM.m1 j5 ?_
  refine xa 3 [V0 0,V0 0,V0 0,V0 0] 202 fun b8 W8 n8=>?_
  have g8:=n8.ge0 a8
  refine xsv 0 n8.blk [V0 (↑(Xh x.2.1 0):Int),V0 (↑(Xh x.2.1 1):Int),V0 (↑(Xh x.2.1 2):Int),V0 (↑(Xh x.2.1 3):Int)] fun W9 u9 k9=>?_
  have a2:=u9.blkT (b1.below n8.below) n8.blk (by decide)
  refine xb 8 15 a2 ?_
  rcases hky:Uj Te (P.getD j 0) with _|y
  ·have d8:Qm (Te.map fun x=>(x.1,V0 ((Zo x.2.1:Nat):Int))) (P.getD j 0)=none:=by rw[Km,hky];rfl
   have i0:=(hM.below n8.below).updBlk u9 n8.blk
   refine xlkN 1 (z:=V0 0) (P.getD j 0) true Tryz.underlying109 (Df Tryz.underlying3) (fun V=>by kernel_rfl) i0.m2 d8 ?_
   have j7:=u9.own2 (Zb ho n8.below) n8.blk (by decide)
   have g1:=u9.below (blB a8 hBw n8.below) (Nat.le_trans hBw g8)
   refine xc 25 (args:=#[P0 bx,V0 4,V0 (P.getD j 0),V0 18]) (Xj B bx _ _ (D++Vc l s.data fuel De Te (P.take j)) ra rb rc _ _ _ _ _ _ _ _ _ _ _ _ _ _ _ _ _ _ _ 4 (P.getD j 0) 18 _ (by first|assumption|decide|omega) a2 j7 i0 hBb (Nat.le_trans hBw g1.size) (by first|omega|(simp;omega))) ?_
   rintro _ o3 ⟨rfl,pa,ca,l3,c0,d1,c8,hM⟩
   refine xwm 7 ((j:Int)+1) (↑(j+1):Int) ?_
   have b2:=d1
   have b3:=c8
   have eg:Vc l s.data fuel De Te (P.take (j+1))=_:=(Hh (by omega)).trans (congrArg (_++·) (Bn hkx hky))
   have ev:Uh l s.data fuel De Te (P.take (j+1))=_:=(Hc (by omega)).trans (congrArg (_++·) (Zax hkx hky))
   rw[Lf,←eg] at b2 b3
   have k0:=g1.trans l3
   have i7:=(Ze.upd_new (b7.trans (Ze.of_below n8.below)) u9 g8).trans c0
   have d7:=Zf (u9.own2 (Zb a6 n8.below) n8.blk (by decide)) c0 (by decide)
   have f6:=Zf (u9.own2 (Zb e2 n8.below) n8.blk (by decide)) c0 (by decide)
   have i4:=((hR.below n8.below).only (Ze.of_upd (T:=[202]) u9 n8.blk (by decide)) (by decide)).only c0 (by decide)
   have h8:=((e4.below n8.below).only (Ze.of_upd (T:=[202]) u9 n8.blk (by decide)) (by decide)).only c0 (by decide)
   exact ze 2 (h3 _ _ _ ⟨j+1,_,_,_,_,Z,rfl,rfl,k0,i7,b2,b3,d7,f6,hM,i4,h8,by omega,by rw[ev,List.append_nil];exact hZ⟩ (by omega))
  have d8:Qm (Te.map fun x=>(x.1,V0 ((Zo x.2.1:Nat):Int))) (P.getD j 0)=some (V0 ((Zo y.2.1:Nat):Int)):=by rw[Km,hky];rfl
  have c2:=(hM.below n8.below).updBlk u9 n8.blk
  refine xlkS 1 (P.getD j 0) true Tryz.underlying109 (Df Tryz.underlying3) c2.m2 d8 ?_
  refine xb 26 16 a2 ?_
  have e1:=(hR.below n8.below).only (Ze.of_upd (T:=[202]) u9 n8.blk (by decide)) (by decide)
  obtain⟨am,cm,m6,l7⟩:=e1.get (hks y (Gm hky).1)
  have o9:=Tj l s.data fuel (Zo y.2.1:Nat) hfu
  refine xlkS 1 (↑(Zo y.2.1):Int) false Tryz.underlying110 (Df Tryz.underlying3) c2.m3 m6 ?_
  refine xb 7 0 k9 ?_
  refine xin 5 (↑(Xh x.2.1 0):Int) (↑((Ji l s.data fuel (↑(Zo y.2.1):Int)).length):Int) (fun c7=>?_) (fun c7=>?_)
  ·have k8:=c7
   have k7:=u9.own2 (Zb ho n8.below) n8.blk (by decide)
   have e0:=u9.below (blB a8 hBw n8.below) (Nat.le_trans hBw g8)
   refine xc 5 (args:=#[P0 bx,V0 4,V0 (P.getD j 0),V0 13]) (Xj B bx _ _ (D++Vc l s.data fuel De Te (P.take j)) ra rb rc _ _ _ _ _ _ _ _ _ _ _ _ _ _ _ _ _ _ _ 4 (P.getD j 0) 13 _ (by first|assumption|decide|omega) a2 k7 c2 hBb (Nat.le_trans hBw e0.size) (by first|omega|(simp;omega))) ?_
   rintro _ b9 ⟨rfl,pa,ca,g7,b0,d1,c8,hM⟩
   refine xd 2 (.t B [61]) ?_
   have d0:=(k9.only b0 (by decide)).below (Za b9)
   refine xbt (.e [0,1,2] 3) 1 B [61] d0 ?_
   refine xbt (.e [4] 5) 2 B [61] d0 ?_
   refine xbt (.e [6] 7) 3 B [61] d0 ?_
   have f8:=Zb (Zf l7 b0 (by decide)) (Za b9)
   refine yc (.o [8] 9) (args:=#[.slice am ((Ji l s.data fuel (↑(Zo y.2.1):Int)).length) cm]) (.t B [61]) (Lz am cm (Ji l s.data fuel (↑(Zo y.2.1):Int)) _ f8 (by omega)) ?_
   rintro _ n6 ⟨_,rfl,a4,q9,d9,rfl,j8⟩
   have l4:=(blB (e0.trans g7) hBw (Za b9)).size
   refine⟨(SF.of_below _ a4),?_⟩
   refine xbs (.o [10] 11) 1 [V0 (P.getD j 0),V0 (↑(Xh x.2.1 1):Int),V0 (↑(Xh x.2.1 2):Int),V0 (↑(Xh x.2.1 3):Int),.slice q9 ((Ji l s.data fuel (↑(Zo y.2.1):Int)).length) d9] 61 fun o1 o6 b5=>?_
   have e7:=blB (blB (e0.trans g7) hBw (Za b9)) hBw a4
   have p1:=b5.ge0 e7
   have c4:=Zb (Zb (Zf (u9.own2 (Zb e2 n8.below) n8.blk (by decide)) b0 (by decide)) (Za b9)) a4
   have i2:=Zz c4 b5
   have a1:=Zb c4 b5.below
   have h7:=blB e7 hBw b5.below
   refine ybi (.o [] 12) (.t B [61]) fun _ _ _ _ zJ zQ zo zx zy zK=>Xq (m:=1) (news:=[V0 (P.getD j 0),V0 (↑(Xh x.2.1 1):Int),V0 (↑(Xh x.2.1 2):Int),V0 (↑(Xh x.2.1 3):Int),.slice q9 ((Ji l s.data fuel (↑(Zo y.2.1):Int)).length) d9]) (.agg #[V0 0,V0 0,V0 0,V0 0,S0]) 5 56 (Z.length+1) ((Z.flatMap Bp++[((((P.getD j 0),((Xh x.2.1 1:Nat):Int),((Xh x.2.1 2:Nat):Int),((Xh x.2.1 3:Nat):Int)),Ji l s.data fuel (Zo y.2.1:Nat)),q9,d9)].flatMap Bp)) zo Tryz.underlying22 (by kernel_rfl) rfl (by decide) zx a1 zy (b5.blk.sl 1 1 (by decide) (by decide)) rfl (by simp[Value.oneCell']) (by unfold maxLen;omega) (by omega) (Nat.le_trans l6 h7.size) (rfl) (by rfl) fun f4 h6 p0 m4 a7 h4=>?_
   refine zK _ _ (Ql (h4.mono hBw) a7 a1 (by decide)) ?_
   refine xwm (.r [13] 4) ((j:Int)+1) (↑(j+1):Int) ?_
   have f7:=(((d1.below (Za b9)).below a4).below b5.below).grown a7 a1 (by decide)
   have f5:=Zp (Zb (Zb (Zb c8 (Za b9)) a4) b5.below) a7 a1 (by decide)
   have g0:=((((((e4.below n8.below).only (Ze.of_upd (T:=[202]) u9 n8.blk (by decide)) (by decide)).only b0 (by decide)).below (Za b9)).below a4).below b5.below).only (Ze.of_grown (T:=[61]) a7 a1 (by decide)) (by decide)
   have h5:=Zp (Zb (Zh j8 l4) b5.below) a7 a1 (by decide)
   refine xv1 2 3 (show(.slice f4 (Z.length+1) h6:Value)=.slice f4 ((Z++[((((P.getD j 0),((Xh x.2.1 1:Nat):Int),((Xh x.2.1 2:Nat):Int),((Xh x.2.1 3:Nat):Int)),Ji l s.data fuel (Zo y.2.1:Nat)),q9,d9)]).length) h6 from(by rw[List.length_append];rfl)) ?_
   have b2:=f7
   have b3:=f5
   have eg:Vc l s.data fuel De Te (P.take (j+1))=_:=(Hh (by omega)).trans (congrArg (_++·) (Ai hkx hky k8))
   have ev:Uh l s.data fuel De Te (P.take (j+1))=_:=(Hc (by omega)).trans (congrArg (_++·) (Td hkx hky))
   rw[Lf,←eg] at b2 b3
   have h9:=h7.trans (h4.mono hBw)
   have i6:=(Ze.grown_new (((((Ze.upd_new (b7.trans (Ze.of_below n8.below)) u9 g8).trans b0).trans (Ze.of_below (Za b9))).trans (Ze.of_below a4)).trans (Ze.of_below b5.below)) a7 a1)
   have c9:=Zp (Zb (Zb (Zb (Zf (u9.own2 (Zb a6 n8.below) n8.blk (by decide)) b0 (by decide)) (Za b9)) a4) b5.below) a7 a1 (by decide)
   have j9:=(((hM.below (Za b9)).below a4).below b5.below).grown a7 a1
   have i5:=((((e1.only b0 (by decide)).below (Za b9)).below a4).below b5.below).only (Ze.of_grown (T:=[61]) a7 a1 (by decide)) (by decide)
   exact ze 0 (h3 _ _ _ ⟨j+1,_,_,_,_,Z++[((((P.getD j 0),((Xh x.2.1 1:Nat):Int),((Xh x.2.1 2:Nat):Int),((Xh x.2.1 3:Nat):Int)),Ji l s.data fuel (Zo y.2.1:Nat)),q9,d9)],rfl,rfl,h9,i6,b2,b3,c9,(by rw[List.length_append,List.flatMap_append];exact m4),j9,i5,(g0.snoc rfl h5),by omega,by rw[List.map_append,ev,hZ];rfl⟩ (by omega))
  have k8:=c7
  refine xd 2 (.t B [61]) ?_
  have d2:=k9.below (Za W9)
  refine xbt (.e [0,1,2] 3) 1 B [61] d2 ?_
  refine xbt (.e [4] 5) 2 B [61] d2 ?_
  refine xbt (.e [6] 7) 3 B [61] d2 ?_
  have g6:=Zb l7 (Za W9)
  refine yc (.o [8] 9) (args:=#[.slice am ((Ji l s.data fuel (↑(Zo y.2.1):Int)).length) cm]) (.t B [61]) (Lz am cm (Ji l s.data fuel (↑(Zo y.2.1):Int)) _ g6 (by omega)) ?_
  rintro _ o2 ⟨_,rfl,a3,q9,d9,rfl,j8⟩
  have j6:=(blB (u9.below (blB a8 hBw n8.below) (Nat.le_trans hBw g8)) hBw (Za W9)).size
  refine⟨(SF.of_below _ a3),?_⟩
  refine xbs (.o [10] 11) 1 [V0 (P.getD j 0),V0 (↑(Xh x.2.1 1):Int),V0 (↑(Xh x.2.1 2):Int),V0 (↑(Xh x.2.1 3):Int),.slice q9 ((Ji l s.data fuel (↑(Zo y.2.1):Int)).length) d9] 61 fun p2 o4 b6=>?_
  have c3:=blB (blB (u9.below (blB a8 hBw n8.below) (Nat.le_trans hBw g8)) hBw (Za W9)) hBw a3
  have o5:=b6.ge0 c3
  have c5:=Zb (Zb (u9.own2 (Zb e2 n8.below) n8.blk (by decide)) (Za W9)) a3
  have i1:=Zz c5 b6
  have a0:=Zb c5 b6.below
  have c6:=blB c3 hBw b6.below
  refine ybi (.o [] 12) (.t B [61]) fun _ _ _ _ zJ zQ zo zx zy zK=>Xq (m:=1) (news:=[V0 (P.getD j 0),V0 (↑(Xh x.2.1 1):Int),V0 (↑(Xh x.2.1 2):Int),V0 (↑(Xh x.2.1 3):Int),.slice q9 ((Ji l s.data fuel (↑(Zo y.2.1):Int)).length) d9]) (.agg #[V0 0,V0 0,V0 0,V0 0,S0]) 5 56 (Z.length+1) ((Z.flatMap Bp++[((((P.getD j 0),((Xh x.2.1 1:Nat):Int),((Xh x.2.1 2:Nat):Int),((Xh x.2.1 3:Nat):Int)),Ji l s.data fuel (Zo y.2.1:Nat)),q9,d9)].flatMap Bp)) zo Tryz.underlying22 (by kernel_rfl) rfl (by decide) zx a0 zy (b6.blk.sl 1 1 (by decide) (by decide)) rfl (by simp[Value.oneCell']) (by unfold maxLen;omega) (by omega) (Nat.le_trans l6 c6.size) (rfl) (by rfl) fun g3 g2 o7 m8 a9 f2=>?_
  refine zK _ _ (Ql (f2.mono hBw) a9 a0 (by decide)) ?_
  refine xwm (.r [13] 4) ((j:Int)+1) (↑(j+1):Int) ?_
  have c1:=(((a2.below (Za W9)).below a3).below b6.below).grown a9 a0 (by decide)
  have l2:=Zp (Zb (Zb (Zb (u9.own2 (Zb ho n8.below) n8.blk (by decide)) (Za W9)) a3) b6.below) a9 a0 (by decide)
  have f0:=(((((e4.below n8.below).only (Ze.of_upd (T:=[202]) u9 n8.blk (by decide)) (by decide)).below (Za W9)).below a3).below b6.below).only (Ze.of_grown (T:=[61]) a9 a0 (by decide)) (by decide)
  have e5:=Zp (Zb (Zh j8 j6) b6.below) a9 a0 (by decide)
  refine xv1 2 3 (show(.slice g3 (Z.length+1) g2:Value)=.slice g3 ((Z++[((((P.getD j 0),((Xh x.2.1 1:Nat):Int),((Xh x.2.1 2:Nat):Int),((Xh x.2.1 3:Nat):Int)),Ji l s.data fuel (Zo y.2.1:Nat)),q9,d9)]).length) g2 from(by rw[List.length_append];rfl)) ?_
  have b2:=c1
  have b3:=l2
  have eg:Vc l s.data fuel De Te (P.take (j+1))=_:=(Hh (by omega)).trans (congrArg (_++·) (Zeb hkx hky k8))
  have ev:Uh l s.data fuel De Te (P.take (j+1))=_:=(Hc (by omega)).trans (congrArg (_++·) (Td hkx hky))
  rw[List.append_nil] at eg
  rw[←eg] at b2 b3
  have g5:=c6.trans (f2.mono hBw)
  have j0:=(Ze.grown_new ((((Ze.upd_new (b7.trans (Ze.of_below n8.below)) u9 g8).trans (Ze.of_below (Za W9))).trans (Ze.of_below a3)).trans (Ze.of_below b6.below)) a9 a0)
  have d4:=Zp (Zb (Zb (Zb (u9.own2 (Zb a6 n8.below) n8.blk (by decide)) (Za W9)) a3) b6.below) a9 a0 (by decide)
  have j2:=(((c2.below (Za W9)).below a3).below b6.below).grown a9 a0
  have l1:=(((e1.below (Za W9)).below a3).below b6.below).only (Ze.of_grown (T:=[61]) a9 a0 (by decide)) (by decide)
  exact ze 0 (h3 _ _ _ ⟨j+1,_,_,_,_,Z++[((((P.getD j 0),((Xh x.2.1 1:Nat):Int),((Xh x.2.1 2:Nat):Int),((Xh x.2.1 3:Nat):Int)),Ji l s.data fuel (Zo y.2.1:Nat)),q9,d9)],rfl,rfl,g5,j0,b2,b3,d4,(by rw[List.length_append,List.flatMap_append];exact m8),j2,l1,(f0.snoc rfl e5),by omega,by rw[List.map_append,ev,hZ];rfl⟩ (by omega))
 refine xe 12 (.slice pz Z.length cz) ?_
 obtain rfl:j=P.length:=by omega
 have l5:=b1
 have l8:=ho
 rw[List.take_of_length_le (Nat.le_refl _)] at l5 l8 hZ
 exact⟨P,_,_,Z,hP,rfl,⟨_,_,a8,b7,l5,l8,hM⟩,hZ,e4,e2⟩
def Ka(O:List Int×Int×List Dv)(V:World)(p:O0)(c:Nat)(Z:List Zv):Prop:=Z.length=O.2.2.length∧Z.map Prod.fst=O.2.2∧Xi 0 V Z∧V.ownsRow 0 61 5 (.slice p O.2.2.length c) O.2.2.length (Z.flatMap Bp)
theorem Ka.below{O:List Int×Int×List Dv}{V W:World}{p:O0}{c:Nat}{Z:List Zv}(h:Ka O V p c Z)(hb:Below V.heap.size V W):Ka O W p c Z:=⟨h.1,h.2.1,h.2.2.1.below hb,Zb h.2.2.2 hb⟩
theorem Ka.only{O:List Int×Int×List Dv}{V W:World}{p:O0}{c:Nat}{Z:List Zv}{T:List TypeId}(h:Ka O V p c Z)(hO:Ze T V W)(hT:(T.contains 164||T.contains 61)=false):Ka O W p c Z:=by
 rw[Bool.or_eq_false_iff] at hT
 exact⟨h.1,h.2.1,h.2.2.1.only hO hT.1,Zf h.2.2.2 hO hT.2⟩
theorem Ka.read{O:List Int×Int×List Dv}{V:World}{p:O0}{c:Nat}{Z:List Zv}(h:Ka O V p c Z):DevsR V p c Z:=by
 have ho:=h.2.2.2
 rw[←h.1] at ho
 exact Ev h.2.2.1 ho
theorem Ig{O:List Int×Int×List Dv}{V:World}{B:Nat}{p:O0}{c:Nat}{Z:List Zv}(hZ:Z.map Prod.fst=O.2.2)(hM:Xi B V Z)(ho:V.ownsRow B 61 5 (.slice p O.2.2.length c) O.2.2.length (Z.flatMap Bp)):Ka O V p c Z:=by
 have hl:Z.length=O.2.2.length:=by rw[←hZ,List.length_map]
 exact⟨hl,hZ,hM.mono (Nat.zero_le _),Zh ho (Nat.zero_le _)⟩
theorem Fd(V:World){O:List Int×Int×List Dv}(h:O.2.2=[]):Ka O V none 0 []:=by
 refine⟨by rw[h];rfl,by rw[h];rfl,fun i hi=>absurd hi (by simp),?_⟩
 rw[h];exact World.ownsRow_nil _ _ _ _
theorem Gi(Bi b:Nat)(pi:O0)(ni ci:Nat)(l:Bl)(top details data fuel:Int)(w:World)(hI:ImgR Bi b pi ni ci l w)(hfu:fuel≤1000):C0 23 #[P0 b,V0 top,V0 details,V0 data,V0 fuel] w (fun e w' =>
 ((Qp l top details data fuel).2.1≠0∧∃ ty v,e=.returned (.tuple #[S0,.iface ty v])∧B0 w w'∧Yu w' ((Qp l top details data fuel).1.map some) (some (Qp l top details data fuel).2.1) (.iface ty v)) ∨
 ((Qp l top details data fuel).2.1=0∧∃ p c Z,e=.returned (.tuple #[.slice p (Qp l top details data fuel).2.2.length c,.nilIface])∧B0 w w'∧Ka (Qp l top details data fuel) w' p c Z)):=by
 refine(Ff Bi b pi ni ci l top details data fuel w hI hfu).mono ?_
 rintro e W q
 rcases q with q|⟨h,p,c,Z,rfl,hb,hZ,hM,ho⟩
 ·exact .inl q
 ·exact .inr ⟨h,p,c,Z,rfl,hb,Ig hZ hM ho⟩
theorem dq_fst{O:List Int×Int×List Dv}{V W:World}{p q:O0}{c d:Nat}{Z Y:List Zv}(h:Ka O V p c Z)(k:Ka O W q d Y):∀ i,i<O.2.2.length→(Z.getD i zvD).1=(Y.getD i zvD).1:=by
 intro i hi
 have h1:i<Z.length:=by rw[h.1];exact hi
 have h2:i<Y.length:=by rw[k.1];exact hi
 have e:(Z.map Prod.fst)[i]? = (Y.map Prod.fst)[i]? := by rw[h.2.1,k.2.1]
 rw[List.getElem?_map,List.getElem?_map,List.getElem?_eq_getElem h1,List.getElem?_eq_getElem h2] at e
 simp only[Option.map_some,Option.some.injEq] at e
 simp[List.getD,h1,h2,e]
def wsum(L:List Dv):Int:=IntKind.i64.wrap (Pn L:Int)
theorem wrap_add(a b:Int):IntKind.i64.wrap (IntKind.i64.wrap a+b)=IntKind.i64.wrap (a+b):=by
 simp only[IntKind.wrap,IntKind.signed,IntKind.bits]
 simp
 try omega
theorem Zdo{L:List Dv}{n:Nat}(h:n<L.length){x:Dv}:Pn (L.take (n+1))=Pn (L.take n)+(L.getD n x).2.length:=by
 unfold Pn
 rw[List.take_succ_eq_append_getElem h,List.map_append,List.sum_append]
 simp[List.getD,h]
theorem zfst{Z:List Zv}{i:Nat}(h:i<Z.length)(x:Dv):(Z.map Prod.fst).getD i x=(Z.getD i zvD).1:=by simp[List.getD,h]
theorem Iw{Z:List Zv}{i:Nat}(h:i<Z.length):Pn ((Z.map Prod.fst).take (i+1))=Pn ((Z.map Prod.fst).take i)+(Z.getD i zvD).1.2.length:=by
 rw[Zdo (x:=zvD.1) (by rw[List.length_map];exact h),zfst h]
theorem Ox(p:O0)(c n:Nat)(t u v x:Int)(Z:List Zv)(w:World)(hZ:Z.length=n)(hP:DevsR w p c Z) :
 C0 52 #[.agg #[V0 t,V0 u,V0 v,V0 x,.slice p n c]] w (Ret (V0 (wsum (Z.map Prod.fst))) w):=by
 have a7:=Sl.len (hP.rowN hZ)
 refine zin 20 Tryz.func52 ?_
 refine xa 2 [V0 t,V0 u,V0 v,V0 x,.slice p n c] 24 fun b1 W1 n1=>?_
 refine xb 12 4 n1.blk ?_
 refine zl 5 20 (fun zm a6 V=>∃ (i:Nat),a6=[(2,V0 0),(3,V0 (IntKind.i64.wrap (↑(Pn ((Z.map Prod.fst).take i)):Int))),(7,.slice p n c),(8,V0 (n:Int)),(9,V0 (i:Int))]∧zm=n-((i:Int)).toNat∧B0 w V∧Blk V b1 ([V0 t,V0 u,V0 v,V0 x,.slice p n c]) 24∧i≤n) ⟨0,rfl,rfl,n1.below,n1.blk,Nat.zero_le _⟩ ?_
 rintro _ _ W2 ⟨i,rfl,rfl,a0,a2,hi⟩ J2 a5 r2
 refine xid 6 ((i:Int)<(n:Int)) (fun a4=>?_) (fun a4=>?_)
 ·refine xx 6 _ n i 5 (hP.someN hZ (i:=i) (by omega)) ?_
  refine xlv 0 (Sts.rp (k:=i) (hP.below a0).row Pf zvD (by omega) (by decide)) ?_
  refine xa 0 [V0 0,V0 0,V0 0,V0 0,S0] 61 fun b4 W4 n4=>?_
  have g4:=n4.ge a0
  refine xsv 0 n4.blk [V0 ((Z.getD i zvD).1.1.1),V0 ((Z.getD i zvD).1.1.2.1),V0 ((Z.getD i zvD).1.1.2.2.1),V0 ((Z.getD i zvD).1.1.2.2.2),.slice ((Z.getD i zvD).2.1) ((Z.getD i zvD).1.2.length) ((Z.getD i zvD).2.2)] fun W5 u5 k5=>?_
  refine xb 5 4 k5 ?_
  refine xwm 7 ((i:Int)+1) (↑(i+1):Int) ?_
  refine xv1 2 3 (show(V0 (IntKind.i64.wrap ((IntKind.i64.wrap (↑(Pn ((Z.map Prod.fst).take i)):Int))+(↑((Z.getD i zvD).1.2.length):Int))):Value)=V0 (IntKind.i64.wrap (↑(Pn ((Z.map Prod.fst).take (i+1))):Int)) from congrArg V0 ((wrap_add _ _).trans (congrArg IntKind.i64.wrap (by have:=Iw (Z:=Z) (i:=i) (by omega);omega)))) ?_
  have a3:=u5.below (bln a0 n4.below) g4
  have a1:=u5.blkT (a2.below n4.below) n4.blk (by decide)
  exact ze 0 (a5 _ _ _ ⟨i+1,rfl,rfl,a3,a1,by omega⟩ (by omega))
 exact xe 12 (V0 (IntKind.i64.wrap (↑(Pn ((Z.map Prod.fst).take i)):Int))) ⟨by unfold wsum;rw[List.take_of_length_le (by rw[List.length_map];omega)],a0⟩
noncomputable def audX (l:Bl) (s:Sup) (fuel:Int):List Dg×List Dv:=audO l s fuel (Classical.choose (Dt (Zd l s.details 3 fuel).es (Zd l s.top 1 fuel).es))
theorem Uu{l:Bl}{s:Sup}{fuel:Int}{P:List Int}(h:Cv (Zd l s.details 3 fuel).es (Zd l s.top 1 fuel).es P):audX l s fuel=audO l s fuel P:=by
 unfold audX
 rw[(Classical.choose_spec (Dt (Zd l s.details 3 fuel).es (Zd l s.top 1 fuel).es)).eq h]
theorem Be{l:Bl}{s:Sup}{fuel:Int}(h:Xe l s fuel≠[]):audX l s fuel=(Xe l s fuel,[]):=Zad h
theorem An{l:Bl}{s:Sup}{fuel:Int}{P:List Int}(h:Xe l s fuel=[])(h2:Vc l s.data fuel (Zd l s.details 3 fuel).es (Zd l s.top 1 fuel).es P≠[]):audO l s fuel P=(Vc l s.data fuel (Zd l s.details 3 fuel).es (Zd l s.top 1 fuel).es P,[]):=by
 unfold audO;rw[if_neg (fun q=>q h),if_pos h2]
theorem Mi{l:Bl}{s:Sup}{fuel:Int}{P:List Int}(h:Xe l s fuel=[])(h2:Vc l s.data fuel (Zd l s.details 3 fuel).es (Zd l s.top 1 fuel).es P=[])(h3:4096<(Uh l s.data fuel (Zd l s.details 3 fuel).es (Zd l s.top 1 fuel).es P).length∨16384<Pn (Uh l s.data fuel (Zd l s.details 3 fuel).es (Zd l s.top 1 fuel).es P)):audO l s fuel P=([((4:Int),(0:Int),(2:Int))],[]):=by
 unfold audO;rw[if_neg (fun q=>q h),if_neg (fun q=>q h2),if_pos h3]
theorem Sb{l:Bl}{s:Sup}{fuel:Int}{P:List Int}(h:Xe l s fuel=[])(h2:Vc l s.data fuel (Zd l s.details 3 fuel).es (Zd l s.top 1 fuel).es P=[])(h3:¬ (4096<(Uh l s.data fuel (Zd l s.details 3 fuel).es (Zd l s.top 1 fuel).es P).length∨16384<Pn (Uh l s.data fuel (Zd l s.details 3 fuel).es (Zd l s.top 1 fuel).es P))):audO l s fuel P=([],Uh l s.data fuel (Zd l s.details 3 fuel).es (Zd l s.top 1 fuel).es P):=by
 unfold audO;rw[if_neg (fun q=>q h),if_neg (fun q=>q h2),if_neg h3]
def Ds(O:List Dg×List Dv)(s:Sup)(w:World)(e:Ending)(w':World):Prop :=
 (O.1≠[]∧∃ q d,e=.returned (.tuple #[.agg #[V0 0,V0 0,V0 0,V0 0,S0],.slice q O.1.length d])∧B0 w w'∧w'.ownsRow w.heap.size 100 3 (.slice q O.1.length d) O.1.length (O.1.flatMap dmc)) ∨
 (O.1=[]∧∃ p c Z,e=.returned (.tuple #[.agg #[V0 s.tx,V0 s.time,V0 s.unit,V0 s.data,.slice p O.2.length c],S0])∧B0 w w'∧Ka ([],0,O.2) w' p c Z)
theorem Pk{O:List Dg×List Dv}{D D':List Dg}{s:Sup}{n d:Nat}{q:O0}{w W:World}(h:O=(D,[]))(hD:D≠[])(he:D'=D)(hn:D'.length=n)(hb:B0 w W)(ho:W.ownsRow w.heap.size 100 3 (.slice q n d) n (D'.flatMap dmc)):Ds O s w (.returned (.tuple #[.agg #[V0 0,V0 0,V0 0,V0 0,S0],.slice q n d])) W:=by
 subst h he hn;exact .inl ⟨hD,q,d,rfl,hb,ho⟩
theorem audP_ok{O:List Dg×List Dv}{L:List Dv}{Z:List Zv}{s:Sup}{n c:Nat}{p:O0}{w W:World}(h:O=([],L))(hZ:Z.map Prod.fst=L)(hn:Z.length=n)(hb:B0 w W)(hM:Xi w.heap.size W Z)(ho:W.ownsRow w.heap.size 61 5 (.slice p n c) n (Z.flatMap Bp)):Ds O s w (.returned (.tuple #[.agg #[V0 s.tx,V0 s.time,V0 s.unit,V0 s.data,.slice p n c],S0])) W:=by
 subst h
 have hl:L.length=n:=by rw[←hZ,List.length_map,hn]
 subst hl
 exact .inr ⟨rfl,p,c,Z,rfl,hb,Ig hZ hM ho⟩
theorem Mo{l:Bl}{s:Sup}{fuel:Int}(h:Xe l s fuel=[]):(∀ x∈(Zd l s.details 3 fuel).es,Lh x=0)∧(∀ x∈(Zd l s.top 1 fuel).es,Xk x.2.1=0):=by
 unfold Xe at h
 rw[List.append_eq_nil_iff,List.append_eq_nil_iff,List.append_eq_nil_iff] at h
 obtain⟨⟨⟨_,h2⟩,_⟩,h4⟩:=h
 refine⟨fun x hx=>?_,?_⟩
 ·unfold Jm at h2
  rw[List.flatMap_eq_nil_iff] at h2
  have:=h2 x hx
  unfold Eu at this
  split at this
  ·assumption
  ·cases this
 ·generalize ([]:List Int)=seen at h4
  generalize (Zd l s.top 1 fuel).es=T at h4
  induction T generalizing seen with
  | nil=>intro x hx;cases hx
  | cons y T ih =>
   change Gy l s.data fuel seen y++Uy l s.data fuel T (Pb seen y)=[] at h4
   rw[List.append_eq_nil_iff] at h4
   intro x hx
   rcases List.mem_cons.1 hx with rfl|hx
   ·have:=h4.1
    unfold Gy at this
    split at this
    ·assumption
    ·cases this
   ·exact ih _ h4.2 x hx
theorem detK_all{L:List Ent}(h:∀ x∈L,Lh x=0):Rz L=L.map fun x=>(x.1,Kl x):=by
 induction L with
 | nil=>rfl
 | cons x L ih =>
  show Iv x++Rz L=_
  rw[Ij (h x List.mem_cons_self),ih fun y hy=>h y (List.mem_cons_of_mem _ hy)];rfl
theorem Zbi{L:List Ent}(h:∀ x∈L,Xk x.2.1=0):Um L=L.map fun x=>(x.1,V0 ((Zo x.2.1:Nat):Int)):=by
 induction L with
 | nil=>rfl
 | cons x L ih =>
  show Br x++Um L=_
  rw[Fj (h x List.mem_cons_self),ih fun y hy=>h y (List.mem_cons_of_mem _ hy)];rfl
theorem Ob(l:Bl)(s:Sup)(fuel:Int)(hf:fuel≤1000):(Xe l s fuel).length≤400000000:=by
 have h1:=Yx l s.details 3 fuel hf
 have h2:=Yx l s.top 1 fuel hf
 have h3:=Cu (Zd l s.details 3 fuel).es
 have h4:=Dd l s.data fuel hf (Zd l s.top 1 fuel).es []
 have h5:18001*(Zd l s.top 1 fuel).es.length≤18001*18001:=Nat.mul_le_mul_left _ (by omega)
 unfold Xe
 simp only[List.length_append,List.length_map];omega
theorem NewMV.ne{w W:World}{r r2:Nat}{kv:List (Int×Value)}(h:NewMV V0 w r2 W)(m:Vf V0 w r kv):r≠r2:=by have:=m.lt;have:=h.at_;omega
theorem wsum_few{L:List Dv}{n:Nat}(h:∀ d∈L,d.2.length≤n)(h2:L.length*n≤1000000000000):wsum L=(Pn L:Int):=by
 have h3:Pn L≤L.length*n:=by
  clear h2
  unfold Pn
  induction L with
  | nil=>simp
  | cons d L ih =>
   have:=h d List.mem_cons_self
   have:=ih fun x hx=>h x (List.mem_cons_of_mem _ hx)
   simp only[List.map_cons,List.sum_cons,List.length_cons,Nat.add_mul];omega
 unfold wsum
 exact IntWalk.i64_in _ (by omega)
theorem idsV_few{l:Bl}{data fuel:Int}{D T:List Ent}{P:List Int}(hf:fuel≤1000):∀ d∈Uh l data fuel D T P,d.2.length≤18001:=fun d hd=>by
 obtain⟨x,_,h⟩:=List.mem_flatMap.1 hd
 unfold Ip at h
 split at h
 ·obtain rfl:=List.mem_singleton.1 h
  exact Tj _ _ _ _ hf
 ·cases h
theorem It(Bi b:Nat)(pi:O0)(ni ci:Nat)(l:Bl)(s:Sup)(fuel:Int)(w:World)(hI:ImgR Bi b pi ni ci l w)(hfu:fuel≤1000)(hg:Dz w) :
 C0 19 #[P0 b,.agg #[V0 s.tx,V0 s.time,V0 s.unit,V0 s.data,V0 s.blocks,V0 s.top,V0 s.details,V0 s.dslots,V0 s.dover,V0 s.mindex,V0 s.mover],V0 fuel] w (Ds (audX l s fuel) s w):=by
 have q2:=Ob l s fuel hfu
 refine zin 77 Tryz.func19 ?_
 refine xa 2 [V0 s.tx,V0 s.time,V0 s.unit,V0 s.data,V0 s.blocks,V0 s.top,V0 s.details,V0 s.dslots,V0 s.dover,V0 s.mindex,V0 s.mover] 44 fun b1 W1 n1=>?_
 refine xa 0 [V0 0,V0 0,V0 0,V0 0,S0] 24 fun b2 W2 n2=>?_
 have k1:=n1.blk.below n2.below
 refine xlv 6 k1.rp ?_
 refine xmmV V0 1 108 fun r3 W3 m3=>?_
 have hB:=bln n1.below n2.below
 have o4:=m3.ge hB
 refine xmmV V0 0 109 fun r4 W4 m4=>?_
 have n5:=m4.ne m3.map
 have h5:=bln hB m3.below
 have o9:=m4.ge h5
 refine xmmV V0 0 110 fun r5 W5 m5=>?_
 have c5:=m3.map.below m4.below
 have o7:=m5.ne c5
 have n7:=m5.ne m4.map
 have g7:=bln h5 m4.below
 have m9:=m5.ge g7
 refine xa 1 [S0,P0 b,V0 s.tx,V0 s.time,V0 s.unit,V0 s.data,V0 s.blocks,V0 s.top,V0 s.details,V0 s.dslots,V0 s.dover,V0 s.mindex,V0 s.mover,V0 fuel,.map (some r3),.map (some r4),.map (some r5)] 114 fun b6 W6 n6=>?_
 have f9:=bln g7 m5.below
 have g6:=n6.ge f9
 have e2:=(c5.below m5.below).below n6.below
 have e8:=(m4.map.below m5.below).below n6.below
 have n8:=m5.map.below n6.below
 have hM:Maps3 w.heap.size r3 r4 r5 [] [] [] _:=⟨e2,e8,n8,n5,o7,n7,o4,o9,m9⟩
 have h0:=(((((hI.below n1.below).below n2.below).below m3.below).below m4.below).below m5.below).below n6.below
 have g5:=g6
 have c9:=bln f9 n6.below
 refine xc 6 (args:=#[P0 b6]) (Lo w.heap.size b6 none 0 [] r3 r4 r5 _ _ pi ni ci Bi b l s fuel _ n6.blk (World.ownsRow_nil _ _ _ _) hM h0 hfu (fun W hb=>hg.below (Below.trans c9 hb)) g5 c9.size (by simp)) ?_
 rintro _ W7 ⟨⟨u7,rfl⟩,p1,c1,n0,l2,l6,l9,hM⟩
 rw[List.nil_append] at l6 l9
 have k5:=h0.only l2 (by decide)
 have d6:=c9.trans n0
 refine xc 5 (args:=#[P0 b6]) (Ta w.heap.size b6 p1 c1 ((Zd l s.details 3 fuel).fs.map (Qd 2)++Jm (Zd l s.details 3 fuel).es) r3 r4 r5 _ pi ni ci Bi b l s fuel _ l6 l9 hM k5 hfu (fun W hb=>hg.below (Below.trans d6 hb)) g5 d6.size (by have:=Yx l s.details 3 fuel hfu;have:=Cu (Zd l s.details 3 fuel).es;rw[List.length_append,List.length_map];omega)) ?_
 rintro _ W8 ⟨u8,km,rfl,⟨p2,c2,o8,l5,m0,j3,hM⟩,hR,p7⟩
 change Blk _ _ (.slice p2 (Xe l s fuel).length c2::_) _ at m0
 change World.ownsRow _ _ _ 3 (.slice p2 (Xe l s fuel).length c2) (Xe l s fuel).length ((Xe l s fuel).flatMap dmc) at j3
 have b7:=(((((k1.below m3.below).below m4.below).below m5.below).below n6.below).only l2 (by decide)).only l5 (by decide)
 refine xb 5 0 b7 ?_
 refine xb 1 1 b7 ?_
 refine xb 1 2 b7 ?_
 refine xb 1 3 b7 ?_
 refine xa 1 [V0 0,V0 0,V0 0,V0 0,S0] 24 fun b9 W9 n9=>?_
 have k2:=(((((n2.blk.below m3.below).below m4.below).below m5.below).below n6.below).only l2 (by decide)).only l5 (by decide)
 have a0:=n9.ne k2
 have b8:=d6.trans o8
 have g9:=n9.ge b8
 refine xsv 0 n9.blk [V0 s.tx,V0 s.time,V0 s.unit,V0 s.data,S0] fun i2 a6 l7=>?_
 have a7:=a6.blkT (m0.below n9.below) n9.blk (by decide)
 refine xb 9 0 a7 ?_
 refine xie 4 (↑((Xe l s fuel).length):Int) (0:Int) (fun b5=>?_) (fun b5=>?_)
 ·have a8:(Xe l s fuel)=[]:=List.eq_nil_of_length_eq_zero (by omega)
  have j9:=Mo a8
  have j8:=(hM.below n9.below).updBlk a6 n9.blk
  have m1:=j8
  rw[detK_all j9.1,Zbi j9.2] at m1
  have n4:=Yx l s.details 3 fuel hfu
  have o3:=Yx l s.top 1 fuel hfu
  have f5:=a6.own2 (Zb j3 n9.below) n9.blk (by decide)
  have j6:=(hR.below n9.below).only (Ze.of_upd (T:=[24]) a6 n9.blk (by decide)) (by decide)
  have h4:=a6.below (bln b8 n9.below) g9
  refine xc 2 (args:=#[P0 b6]) (Mw w.heap.size b6 p2 c2 (Xe l s fuel) r3 r4 r5 km pi ni ci Bi b l s fuel (Zd l s.details 3 fuel).es (Zd l s.top 1 fuel).es _ a7 f5 m1 j6 (fun y hy=>by rw[p7,Zei];exact⟨y,hy,j9.2 y hy,rfl⟩) hfu g5 h4.size (by rw[a8];simp) (by omega) (by omega)) ?_
  rintro _ q6 ⟨P,q3,d3,Z,hP,rfl,⟨p3,c3,k7,a5,n3,l4,hM⟩,hZ,k8,j7⟩
  have a9:=h4.trans k7
  have g1:=(a6.below (bln b8 n9.below) g9).size
  have q5:=a9.size
  replace j7:=Zh j7 g1
  replace k8:=k8.mono g1
  have o5:=congrArg List.length hZ
  rw[List.length_map] at o5
  have q1:=Dq l s.data fuel (Zd l s.details 3 fuel).es (Zd l s.top 1 fuel).es P
  have r9:=Dp l s.data fuel (Zd l s.details 3 fuel).es (Zd l s.top 1 fuel).es P
  have q0:=Zc5 hP
  have p9:wsum (Z.map Prod.fst)=(Pn (Z.map Prod.fst):Int):=wsum_few (n:=18001) (by rw[hZ];exact idsV_few hfu) (by rw[List.length_map];have:Z.length*18001≤36002*18001:=Nat.mul_le_mul_right _ (by omega);omega)
  have a1:=l7.only a5 (by decide)
  refine xs 1 a1 [V0 s.tx,V0 s.time,V0 s.unit,V0 s.data,.slice q3 Z.length d3] fun i0 a3 d9=>?_
  have a4:=a3.blkT n3 a1 (by decide)
  refine xb 9 0 a4 ?_
  refine xg 3 [47,48] ((↑(((Xe l s fuel)++Vc l s.data fuel (Zd l s.details 3 fuel).es (Zd l s.top 1 fuel).es P).length):Int)==(0:Int)) (fun b3=>?_) (fun b3=>?_)
  ·have b3:=eq_of_beq b3
   have p0:((Xe l s fuel)++Vc l s.data fuel (Zd l s.details 3 fuel).es (Zd l s.top 1 fuel).es P).length=(Vc l s.data fuel (Zd l s.details 3 fuel).es (Zd l s.top 1 fuel).es P).length:=by rw[a8];rfl
   have b4:Vc l s.data fuel (Zd l s.details 3 fuel).es (Zd l s.top 1 fuel).es P=[]:=List.eq_nil_of_length_eq_zero (by omega)
   refine xb 1 4 d9 ?_
   refine xg 3 [52,53] (decide ((Z.length:Int)>(4096:Int))) (fun b0=>?_) (fun b0=>?_)
   ·have b0:=of_decide_eq_true b0
    have e1:=a3.own2 l4 a1 (by decide)
    have k9:=hM.updBlk a3 a1
    have h7:=a3.below a9 g9
    refine xc 12 (args:=#[P0 b6,V0 4,V0 0,V0 2]) (Xj w.heap.size b6 _ _ ((Xe l s fuel)++Vc l s.data fuel (Zd l s.details 3 fuel).es (Zd l s.top 1 fuel).es P) r3 r4 r5 _ _ _ _ _ _ _ _ _ _ _ _ _ _ _ _ _ _ _ 4 0 2 _ (by decide) a4 e1 k9 g5 h7.size (by omega)) ?_
    rintro _ i1 ⟨rfl,p4,c4,j2,d8,f1,k4,hM⟩
    refine xb 9 0 f1 ?_
    refine xid 4 ((↑((((Xe l s fuel)++Vc l s.data fuel (Zd l s.details 3 fuel).es (Zd l s.top 1 fuel).es P)++[((4:Int),(0:Int),(2:Int))]).length):Int)>(0:Int)) (fun j4=>?_) (fun j4=>?_)
    ·refine xd 1 (.t w.heap.size [24]) ?_
     have g3:=f1.below (Za i1)
     refine xbt (.e [0,1,2,3,4] 5) 0 w.heap.size [24] g3 ?_
     have d5:=((a3.blk ((a6.blk (k2.below n9.below) (Ne.symm (Ne.symm a0))).only a5 (by decide)) (Ne.symm (Ne.symm a0))).only d8 (by decide)).below (Za i1)
     have g2:=n2.ge n1.below
     refine ysv (.o [] 6) d5 [V0 0,V0 0,V0 0,V0 0,S0] (.t w.heap.size [24]) fun q7 i8 o0=>⟨(Zt i8 d5 g2 (by decide)),?_⟩
     have e4:=i8.own2 (Zb k4 (Za i1)) d5 (by decide)
     have h8:=i8.below (bln (h7.trans j2) (Za i1)) g2
     exact xec (.r [7] 4) o0 (.tuple #[.agg #[V0 0,V0 0,V0 0,V0 0,S0],.slice p4 ((((Xe l s fuel)++Vc l s.data fuel (Zd l s.details 3 fuel).es (Zd l s.top 1 fuel).es P)++[((4:Int),(0:Int),(2:Int))]).length) c4]) (Pk ((Uu hP).trans (Mi a8 b4 (by rw[←hZ,List.length_map];omega))) (by simp) (by rw[a8,b4];rfl) rfl h8 e4)
    have f7:=d9.only d8 (by decide)
    refine xlv 4 f7.rp ?_
    have i7:=(a3.blk ((a6.blk (k2.below n9.below) (Ne.symm (Ne.symm a0))).only a5 (by decide)) (Ne.symm (Ne.symm a0))).only d8 (by decide)
    refine xsv 0 i7 [V0 s.tx,V0 s.time,V0 s.unit,V0 s.data,.slice q3 Z.length d3] fun q9 q8 m6=>?_
    have g2:=n2.ge n1.below
    refine xec 4 m6 (.tuple #[.agg #[V0 s.tx,V0 s.time,V0 s.unit,V0 s.data,.slice q3 Z.length d3],S0]) ?_
    exfalso;have h9:(((Xe l s fuel)++Vc l s.data fuel (Zd l s.details 3 fuel).es (Zd l s.top 1 fuel).es P)++[((4:Int),(0:Int),(2:Int))]).length=((Xe l s fuel)++Vc l s.data fuel (Zd l s.details 3 fuel).es (Zd l s.top 1 fuel).es P).length+1:=List.length_append (bs:=[_]);omega
   have b0:=of_decide_eq_false b0
   refine xlv 0 d9.rp ?_
   have c8:=k8.only (Ze.of_upd (T:=[24]) a3 a1 (by decide)) (by decide)
   have c0:=a3.own2 j7 a1 (by decide)
   refine xr 0 (args:=#[.agg #[V0 s.tx,V0 s.time,V0 s.unit,V0 s.data,.slice q3 Z.length d3]]) ((Ox q3 d3 _ s.tx s.time s.unit s.data Z _ rfl (Ev c8 c0)).mono (fun e W q=>(by rw[p9] at q;exact q))) fun l8 a2=>?_
   refine xid 5 ((↑(Pn (Z.map Prod.fst)):Int)>(16384:Int)) (fun k0=>?_) (fun k0=>?_)
   ·have h2:=Zb (a3.own2 l4 a1 (by decide)) a2
    have i5:=(hM.updBlk a3 a1).below a2
    have e9:=a4.below a2
    have c6:=bln (a3.below a9 g9) a2
    refine xc 4 (args:=#[P0 b6,V0 4,V0 0,V0 2]) (Xj w.heap.size b6 _ _ ((Xe l s fuel)++Vc l s.data fuel (Zd l s.details 3 fuel).es (Zd l s.top 1 fuel).es P) r3 r4 r5 _ _ _ _ _ _ _ _ _ _ _ _ _ _ _ _ _ _ _ 4 0 2 _ (by decide) e9 h2 i5 g5 c6.size (by omega)) ?_
    rintro _ i3 ⟨rfl,p4,c4,j0,d2,f1,k4,hM⟩
    refine xb 9 0 f1 ?_
    refine xid 4 ((↑((((Xe l s fuel)++Vc l s.data fuel (Zd l s.details 3 fuel).es (Zd l s.top 1 fuel).es P)++[((4:Int),(0:Int),(2:Int))]).length):Int)>(0:Int)) (fun l3=>?_) (fun l3=>?_)
    ·refine xd 1 (.t w.heap.size [24]) ?_
     have f0:=f1.below (Za i3)
     refine xbt (.e [0,1,2,3,4] 5) 0 w.heap.size [24] f0 ?_
     have d1:=(((a3.blk ((a6.blk (k2.below n9.below) (Ne.symm (Ne.symm a0))).only a5 (by decide)) (Ne.symm (Ne.symm a0))).below a2).only d2 (by decide)).below (Za i3)
     have g2:=n2.ge n1.below
     refine ysv (.o [] 6) d1 [V0 0,V0 0,V0 0,V0 0,S0] (.t w.heap.size [24]) fun s1 i6 m2=>⟨(Zt i6 d1 g2 (by decide)),?_⟩
     have h1:=i6.own2 (Zb k4 (Za i3)) d1 (by decide)
     have h6:=i6.below (bln (c6.trans j0) (Za i3)) g2
     exact xec (.r [7] 4) m2 (.tuple #[.agg #[V0 0,V0 0,V0 0,V0 0,S0],.slice p4 ((((Xe l s fuel)++Vc l s.data fuel (Zd l s.details 3 fuel).es (Zd l s.top 1 fuel).es P)++[((4:Int),(0:Int),(2:Int))]).length) c4]) (Pk ((Uu hP).trans (Mi a8 b4 (by rw[←hZ,List.length_map];omega))) (by simp) (by rw[a8,b4];rfl) rfl h6 h1)
    have e3:=(d9.below a2).only d2 (by decide)
    refine xlv 4 e3.rp ?_
    have j5:=((a3.blk ((a6.blk (k2.below n9.below) (Ne.symm (Ne.symm a0))).only a5 (by decide)) (Ne.symm (Ne.symm a0))).below a2).only d2 (by decide)
    refine xsv 0 j5 [V0 s.tx,V0 s.time,V0 s.unit,V0 s.data,.slice q3 Z.length d3] fun r1 r0 p5=>?_
    have g2:=n2.ge n1.below
    refine xec 4 p5 (.tuple #[.agg #[V0 s.tx,V0 s.time,V0 s.unit,V0 s.data,.slice q3 Z.length d3],S0]) ?_
    exfalso;have h9:(((Xe l s fuel)++Vc l s.data fuel (Zd l s.details 3 fuel).es (Zd l s.top 1 fuel).es P)++[((4:Int),(0:Int),(2:Int))]).length=((Xe l s fuel)++Vc l s.data fuel (Zd l s.details 3 fuel).es (Zd l s.top 1 fuel).es P).length+1:=List.length_append (bs:=[_]);omega
   have c7:=a4.below a2
   refine xb 9 0 c7 ?_
   refine xid 4 ((↑(((Xe l s fuel)++Vc l s.data fuel (Zd l s.details 3 fuel).es (Zd l s.top 1 fuel).es P).length):Int)>(0:Int)) (fun i4=>?_) (fun i4=>?_)
   ·refine xd 1 (.t w.heap.size [24]) ?_
    have h3:=c7.below (Za l8)
    refine xbt (.e [0,1,2,3,4] 5) 0 w.heap.size [24] h3 ?_
    have f2:=((a3.blk ((a6.blk (k2.below n9.below) (Ne.symm (Ne.symm a0))).only a5 (by decide)) (Ne.symm (Ne.symm a0))).below a2).below (Za l8)
    have g2:=n2.ge n1.below
    refine ysv (.o [] 6) f2 [V0 0,V0 0,V0 0,V0 0,S0] (.t w.heap.size [24]) fun s2 p6 p8=>⟨(Zt p6 f2 g2 (by decide)),?_⟩
    refine xec (.r [7] 4) p8 (.tuple #[.agg #[V0 0,V0 0,V0 0,V0 0,S0],.slice p3 (((Xe l s fuel)++Vc l s.data fuel (Zd l s.details 3 fuel).es (Zd l s.top 1 fuel).es P).length) c3]) ?_
    exfalso;have h9:=congrArg List.length b4;simp only[List.length_nil] at h9;omega
   have e5:=d9.below a2
   refine xlv 4 e5.rp ?_
   have d7:=(a3.blk ((a6.blk (k2.below n9.below) (Ne.symm (Ne.symm a0))).only a5 (by decide)) (Ne.symm (Ne.symm a0))).below a2
   refine xsv 0 d7 [V0 s.tx,V0 s.time,V0 s.unit,V0 s.data,.slice q3 Z.length d3] fun s0 k6 o2=>?_
   have g2:=n2.ge n1.below
   have f3:=(c8.below a2).only (Ze.of_upd (T:=[24]) k6 d7 (by decide)) (by decide)
   have f6:=k6.own2 (Zb c0 a2) d7 (by decide)
   have g8:=k6.below (bln (a3.below a9 g9) a2) g2
   exact xec 4 o2 (.tuple #[.agg #[V0 s.tx,V0 s.time,V0 s.unit,V0 s.data,.slice q3 Z.length d3],S0]) (audP_ok ((Uu hP).trans (Sb a8 b4 (by rw[←hZ,List.length_map];omega))) hZ rfl g8 f3 f6)
  have b3:=Xm b3
  have p0:((Xe l s fuel)++Vc l s.data fuel (Zd l s.details 3 fuel).es (Zd l s.top 1 fuel).es P).length=(Vc l s.data fuel (Zd l s.details 3 fuel).es (Zd l s.top 1 fuel).es P).length:=by rw[a8];rfl
  have b4:Vc l s.data fuel (Zd l s.details 3 fuel).es (Zd l s.top 1 fuel).es P≠[]:=fun q=>by have h9:=congrArg List.length q;simp only[List.length_nil] at h9;omega
  refine xb 22 0 a4 ?_
  refine xid 4 ((↑(((Xe l s fuel)++Vc l s.data fuel (Zd l s.details 3 fuel).es (Zd l s.top 1 fuel).es P).length):Int)>(0:Int)) (fun l0=>?_) (fun l0=>?_)
  ·refine xd 1 (.t w.heap.size [24]) ?_
   have e0:=a4.below (Za i0)
   refine xbt (.e [0,1,2,3,4] 5) 0 w.heap.size [24] e0 ?_
   have d0:=(a3.blk ((a6.blk (k2.below n9.below) (Ne.symm (Ne.symm a0))).only a5 (by decide)) (Ne.symm (Ne.symm a0))).below (Za i0)
   have g2:=n2.ge n1.below
   refine ysv (.o [] 6) d0 [V0 0,V0 0,V0 0,V0 0,S0] (.t w.heap.size [24]) fun r7 l1 o1=>⟨(Zt l1 d0 g2 (by decide)),?_⟩
   have e7:=l1.own2 (Zb (a3.own2 l4 a1 (by decide)) (Za i0)) d0 (by decide)
   have f8:=l1.below (bln (a3.below a9 g9) (Za i0)) g2
   exact xec (.r [7] 4) o1 (.tuple #[.agg #[V0 0,V0 0,V0 0,V0 0,S0],.slice p3 (((Xe l s fuel)++Vc l s.data fuel (Zd l s.details 3 fuel).es (Zd l s.top 1 fuel).es P).length) c3]) (Pk ((Uu hP).trans (An a8 b4)) b4 (by rw[a8];rfl) rfl f8 e7)
  refine xlv 4 d9.rp ?_
  have i9:=a3.blk ((a6.blk (k2.below n9.below) (Ne.symm (Ne.symm a0))).only a5 (by decide)) (Ne.symm (Ne.symm a0))
  refine xsv 0 i9 [V0 s.tx,V0 s.time,V0 s.unit,V0 s.data,.slice q3 Z.length d3] fun s3 q4 m8=>?_
  have g2:=n2.ge n1.below
  refine xec 4 m8 (.tuple #[.agg #[V0 s.tx,V0 s.time,V0 s.unit,V0 s.data,.slice q3 Z.length d3],S0]) ?_
  exfalso;have h9:=List.length_pos_iff.2 b4;omega
 have a8:(Xe l s fuel)≠[]:=fun q=>by rw[q] at b5;exact b5 rfl
 refine xb 9 0 a7 ?_
 refine xgk 3 [37,47,48] (show(((↑((Xe l s fuel).length):Int)==(0:Int)):Bool)=false from(beq_false_of_ne b5)) ?_
 refine xb 22 0 a7 ?_
 refine xid 4 ((↑((Xe l s fuel).length):Int)>(0:Int)) (fun k3=>?_) (fun k3=>?_)
 ·refine xd 1 (.t w.heap.size [24]) ?_
  have g0:=a7.below (Za i2)
  refine xbt (.e [0,1,2,3,4] 5) 0 w.heap.size [24] g0 ?_
  have d4:=(a6.blk (k2.below n9.below) (Ne.symm (Ne.symm a0))).below (Za i2)
  have g2:=n2.ge n1.below
  refine ysv (.o [] 6) d4 [V0 0,V0 0,V0 0,V0 0,S0] (.t w.heap.size [24]) fun r8 j1 o6=>⟨(Zt j1 d4 g2 (by decide)),?_⟩
  have g4:=j1.own2 (Zb (a6.own2 (Zb j3 n9.below) n9.blk (by decide)) (Za i2)) d4 (by decide)
  have e6:=j1.below (bln (a6.below (bln b8 n9.below) g9) (Za i2)) g2
  exact xec (.r [7] 4) o6 (.tuple #[.agg #[V0 0,V0 0,V0 0,V0 0,S0],.slice p2 ((Xe l s fuel).length) c2]) (Pk (Be a8) a8 rfl rfl e6 g4)
 refine xlv 4 l7.rp ?_
 have f4:=a6.blk (k2.below n9.below) (Ne.symm (Ne.symm a0))
 refine xsv 0 f4 [V0 s.tx,V0 s.time,V0 s.unit,V0 s.data,S0] fun r2 r6 m7=>?_
 have g2:=n2.ge n1.below
 refine xec 4 m7 (.tuple #[.agg #[V0 s.tx,V0 s.time,V0 s.unit,V0 s.data,S0],S0]) ?_
 exfalso;have h9:=List.length_pos_iff.2 a8;omega
theorem Ur{L:List Ent}(hs:L.Pairwise (fun x y=>x.1<y.1)){i:Nat}(hi:i<L.length):Uj L (L.getD i Zg).1=some (L.getD i Zg):=by
 rw[show L.getD i Zg=L[i] from by simp[List.getD,hi]]
 induction L generalizing i with
 | nil=>simp at hi
 | cons x L ih =>
  unfold Uj at ih ⊢
  rw[List.pairwise_cons] at hs
  cases i with
  | zero=>simp
  | succ i =>
   have h2:i<L.length:=by simpa using hi
   have:=hs.1 _ (List.getElem_mem h2)
   rw[List.getElem_cons_succ,List.find?_cons,show(x.1==L[i].1)=false from by simpa using fun e=>by omega]
   exact ih hs.2 h2
theorem Zcm{l:Bl}{s:Sup}{fuel:Int}(h:Xe l s fuel=[]):∀ y∈(Zd l s.top 1 fuel).es,Fc l s.data fuel (Zo y.2.1:Nat)=[]:=by
 have hz:=(Mo h).2
 unfold Xe at h
 rw[List.append_eq_nil_iff] at h
 have h4:=h.2
 clear h
 suffices H:∀ (T:List Ent) (a0:List Int),(∀ x∈T,Xk x.2.1=0)→Uy l s.data fuel T a0=[]→∀ y∈T,((Zo y.2.1:Nat):Int)∉a0→Fc l s.data fuel (Zo y.2.1:Nat)=[] from fun y hy=>H _ [] hz h4 y hy (by simp)
 intro T
 induction T with
 | nil=>intro _ _ _ y hy;cases hy
 | cons x T ih =>
  intro a0 h0 h y hy hn
  change Gy l s.data fuel a0 x++Uy l s.data fuel T (Pb a0 x)=[] at h
  rw[List.append_eq_nil_iff] at h
  have hx:((Zo x.2.1:Nat):Int)∉a0→Fc l s.data fuel (Zo x.2.1:Nat)=[]:=fun q=>by
   have:=h.1
   unfold Gy at this
   rwa [if_pos (h0 x List.mem_cons_self),if_neg q] at this
  rcases List.mem_cons.1 hy with rfl|hy
  ·exact hx hn
  ·by_cases q:((Zo y.2.1:Nat):Int)∈Pb a0 x
   ·unfold Pb at q
    split at q
    ·rename_i hc
     rcases List.mem_append.1 q with q|q
     ·exact absurd q hn
     ·rw[List.mem_singleton.1 q];exact hx hc.2
    ·exact absurd q hn
   ·exact ih _ (fun z hz=>h0 z (List.mem_cons_of_mem _ hz)) h.2 y hy q
theorem devM_all{l:Bl}{data fuel r:Int}(h:Fc l data fuel r=[]):(Zd l r 2 fuel).es.map Zaw=Ji l data fuel r:=by
 unfold Fc at h
 rw[List.append_eq_nil_iff] at h
 have h2:=h.2
 unfold Hu at h2
 rw[List.flatMap_eq_nil_iff] at h2
 unfold Ji mapM
 generalize (Zd l r 2 fuel).es=L at h2
 induction L with
 | nil=>rfl
 | cons x L ih =>
  have h3:=h2 x List.mem_cons_self
  have h4:Qn data x.2.1=0:=by
   unfold Dr at h3
   split at h3
   ·assumption
   ·cases h3
  rw[List.map_cons,List.flatMap_cons,Ae h4,ih fun y hy=>h2 y (List.mem_cons_of_mem _ hy)];rfl
theorem idsV_add(l:Bl)(data fuel:Int)(D T:List Ent)(P:List Int)(a:Int):Uh l data fuel D T (P++[a])=Uh l data fuel D T P++Ip l data fuel D T a:=by
 unfold Uh;rw[List.flatMap_append];simp
theorem sumM_add(L:List Dv)(d:Dv):Pn (L++[d])=Pn L+d.2.length:=by unfold Pn;simp
theorem Af{es:List Ent}{data:Int}(h:(Fm es data).2.1=0):∀ n,n≤es.length→Dw data es n
 | 0,_=>fun j hj=>absurd hj (by omega)
 | n+1,hn=>by
  have ih:=Af h n (by omega)
  by_cases hb:Qn data (es.getD n Zg).2.1=0
  ·exact Ut ih hb
  ·rw[La (by omega) ih hb] at h
   exact absurd h hb
theorem mapG_nil{es:List Ent}{data:Int}(h:Dw data es es.length):Hu data es=[]:=by
 unfold Hu
 rw[List.flatMap_eq_nil_iff]
 intro x hx
 obtain⟨i,hi,rfl⟩:=List.mem_iff_getElem.1 hx
 have:=h i hi
 rw[show es.getD i Zg=es[i] from by simp[List.getD,hi]] at this
 exact Ia this
theorem mapG_K{es:List Ent}{data:Int}(h:Hu data es=[]):Dw data es es.length:=fun i hi=>by
 unfold Hu at h
 rw[List.flatMap_eq_nil_iff] at h
 have:=h (es.getD i Zg) (by rw[show es.getD i Zg=es[i] from by simp[List.getD,hi]];exact List.getElem_mem hi)
 unfold Dr at this
 split at this
 ·assumption
 ·cases this
theorem own_dev{l:Bl}{y:Ent}{data fuel:Int}(h:(Qf l y data fuel).2.1=0):Fc l data fuel (Zo y.2.1:Nat)=[]:=by
 unfold Qf at h
 by_cases hf:(Zd l (Zo y.2.1:Int) 2 fuel).fs=[]
 ·rw[Hm hf] at h
  unfold Fc
  rw[hf,mapG_nil (Af h _ (Nat.le_refl _))];rfl
 ·rw[Md hf] at h
  exact absurd h (Vu hf)
theorem Ss{l:Bl}{y:Ent}{data fuel:Int}(h:Fc l data fuel (Zo y.2.1:Nat)=[]):(Qf l y data fuel).2.1=0∧(Qf l y data fuel).2.2=Ji l data fuel (Zo y.2.1:Nat):=by
 have hM:=devM_all h
 unfold Fc at h
 rw[List.append_eq_nil_iff,List.map_eq_nil_iff] at h
 unfold Qf
 rw[Hm h.1,Dl (mapG_K h.2)]
 exact⟨rfl,hM⟩
theorem Zc1{l:Bl}{D T:List Ent}{data fuel:Int}(h:(Th l D T data fuel).2.1=0):∀ n,n≤D.length→devK l D T data fuel n
 | 0,_=>fun j hj=>absurd hj (by omega)
 | n+1,hn=>by
  have ih:=Zc1 h n (by omega)
  by_cases hb:(Zbf l D T data fuel n).2=0
  ·exact Ml ih hb
  ·rw[Mv (by omega) ih hb] at h
   exact absurd h hb
theorem Zb8{l:Bl}{x y:Ent}{data fuel:Int}{sum:Nat}(h:(Pa l x y data fuel sum).2=0):¬ 16777215<x.1∧Xc Vd x.2.1=0∧Xk y.2.1=0∧(Qf l y data fuel).2.1=0∧(Qf l y data fuel).2.2.length=Xh x.2.1 0∧sum+(Qf l y data fuel).2.2.length≤16384:=by
 unfold Pa at h
 split at h
 ·cases h
 ·split at h
  ·rename_i q;exact absurd h q
  ·split at h
   ·rename_i q;exact absurd h q
   ·split at h
    ·rename_i q;exact absurd h q
    ·split at h
     ·cases h
     ·split at h
      ·cases h
      ·rename_i h1 h2 h3 h4 h5 h6
       exact⟨h1,Decidable.not_not.1 h2,Decidable.not_not.1 h3,Decidable.not_not.1 h4,Decidable.not_not.1 h5,by omega⟩
theorem devE_ok{l:Bl}{x y:Ent}{data fuel:Int}{sum:Nat}(h1:¬ 16777215<x.1)(h2:Xc Vd x.2.1=0)(h3:Xk y.2.1=0)(h4:(Qf l y data fuel).2.1=0)(h5:(Qf l y data fuel).2.2.length=Xh x.2.1 0)(h6:sum+(Qf l y data fuel).2.2.length≤16384):(Pa l x y data fuel sum).2=0:=by
 unfold Pa
 rw[if_neg h1,if_neg (fun q=>q h2),if_neg (fun q=>q h3),if_neg (fun q=>q h4),if_neg (fun q=>q h5),if_neg (by omega)]
theorem Lx:∀ {D T:List Ent},D.map Prod.fst=T.map Prod.fst→Vw D T=0
 | [],[],_=>rfl
 | [],_::_,h=>by simp at h
 | _::_,[],h=>by simp at h
 | x::a,y::b,h=>by
  simp only[List.map_cons,List.cons.injEq] at h
  show(if x.1=y.1 then Vw a b else _)=0
  rw[if_pos h.1];exact Lx h.2
theorem Mq{L:List Ent}(h:L.Pairwise (fun x y=>x.1<y.1)):(L.map Prod.fst).Pairwise (·<·):=List.pairwise_map.2 h
theorem Tr{D T:List Ent}(hD:D.Pairwise (fun x y=>x.1<y.1))(h:D.map Prod.fst=T.map Prod.fst):Cv D T (D.map Prod.fst):=⟨Mq hD,fun z=>by rw[←h];simp⟩
theorem Nk{l:Bl}{data fuel:Int}{D T:List Ent}(hD:D.Pairwise (fun x y=>x.1<y.1))(hT:T.Pairwise (fun x y=>x.1<y.1))(h:D.map Prod.fst=T.map Prod.fst)(hy:∀ y∈T,Fc l data fuel (Zo y.2.1:Nat)=[]):∀ n,n≤D.length→Uh l data fuel D T ((D.map Prod.fst).take n)=devL l D T data fuel n
 | 0,_=>rfl
 | n+1,hn=>by
  have hl:D.length=T.length:=by have:=congrArg List.length h;simpa using this
  have ih:=Nk hD hT h hy n (by omega)
  have hk:(D.map Prod.fst)[n]'(by rw[List.length_map];omega)=(D.getD n Zg).1:=by rw[List.getElem_map];simp[List.getD,show n<D.length by omega]
  have a0:(D.getD n Zg).1=(T.getD n Zg).1:=by
   have e:(D.map Prod.fst)[n]? = (T.map Prod.fst)[n]? := by rw[h]
   rw[List.getElem?_map,List.getElem?_map,List.getElem?_eq_getElem (show n<D.length by omega),List.getElem?_eq_getElem (show n<T.length by omega)] at e
   simp only[Option.map_some,Option.some.injEq] at e
   simpa [List.getD,show n<D.length by omega,show n<T.length by omega] using e
  rw[List.take_succ_eq_append_getElem (by rw[List.length_map];omega),idsV_add,ih,Ue,hk]
  congr 1
  rw[Td (Ur hD (by omega)) (by rw[a0];exact Ur hT (by omega))]
  unfold devX
  rw[(Ss (hy _ (Nf (l:=T) (d:=Zg) (i:=n) (by omega)))).2]
theorem Nn(l:Bl)(D T:List Ent)(data fuel:Int):∀ n,Pn (devL l D T data fuel n)=Ie l T data fuel n
 | 0=>rfl
 | n+1=>by rw[Ue,sumM_add,Nn l D T data fuel n];rfl
theorem Ec(l:Bl)(T:List Ent)(data fuel:Int):∀ {n m},n≤m→Ie l T data fuel n≤Ie l T data fuel m
 | n,0,h=>by
  obtain rfl:n=0:=by omega
  exact Nat.le_refl _
 | n,m+1,h=>by
  by_cases e:n=m+1
  ·subst e;exact Nat.le_refl _
  ·have:=Ec l T data fuel (n:=n) (m:=m) (by omega)
   show _≤Ie l T data fuel m+_
   omega
theorem Zd8{D T:List Ent}(h:D.map Prod.fst=T.map Prod.fst){n:Nat}(hn:n<D.length):n<T.length∧(D.getD n Zg).1=(T.getD n Zg).1:=by
 have hl:D.length=T.length:=by have:=congrArg List.length h;simpa using this
 refine⟨by omega,?_⟩
 have e:(D.map Prod.fst)[n]? = (T.map Prod.fst)[n]? := by rw[h]
 rw[List.getElem?_map,List.getElem?_map,List.getElem?_eq_getElem (show n<D.length by omega),List.getElem?_eq_getElem (show n<T.length by omega)] at e
 simp only[Option.map_some,Option.some.injEq] at e
 simpa [List.getD,show n<D.length by omega,show n<T.length by omega] using e
theorem agree1{l:Bl}{s:Sup}{fuel:Int}(h:(audX l s fuel).1=[]):Qp l s.top s.details s.data fuel=([],0,(audX l s fuel).2):=by
 obtain⟨P,hP⟩:=Dt (Zd l s.details 3 fuel).es (Zd l s.top 1 fuel).es
 have a2:=(Vm l s.details 3 fuel).2.2.2.1
 have a4:=(Vm l s.top 1 fuel).2.2.2.1
 by_cases ht0:Xe l s fuel=[]
 case neg=>rw[Be ht0] at h;exact absurd h ht0
 rw[Uu hP] at h ⊢
 by_cases hi0:Vc l s.data fuel (Zd l s.details 3 fuel).es (Zd l s.top 1 fuel).es P=[]
 case neg=>rw[An ht0 hi0] at h;exact absurd h hi0
 by_cases hm:4096<(Uh l s.data fuel (Zd l s.details 3 fuel).es (Zd l s.top 1 fuel).es P).length∨16384<Pn (Uh l s.data fuel (Zd l s.details 3 fuel).es (Zd l s.top 1 fuel).es P)
 case pos=>rw[Mi ht0 hi0 hm] at h;cases h
 rw[Sb ht0 hi0 hm]
 have a9:=Mo ht0
 have b0:=Zcm ht0
 have a5:(Zd l s.details 3 fuel).fs=[]∧(Zd l s.top 1 fuel).fs=[]:=by
  have q:=ht0
  unfold Xe at q
  rw[List.append_eq_nil_iff,List.append_eq_nil_iff,List.append_eq_nil_iff,List.map_eq_nil_iff,List.map_eq_nil_iff] at q
  exact⟨q.1.1.1,q.1.2⟩
 have a3:∀ id∈P,Tp l s.data fuel (Zd l s.details 3 fuel).es (Zd l s.top 1 fuel).es id=[]:=by
  have q:=hi0
  unfold Vc at q
  rwa [List.flatMap_eq_nil_iff] at q
 have a1:∀ id∈P,∃ x y,Uj (Zd l s.details 3 fuel).es id=some x∧Uj (Zd l s.top 1 fuel).es id=some y∧((Xh x.2.1 0:Nat):Int)=((Ji l s.data fuel (Zo y.2.1:Nat)).length:Nat):=fun id b4=>by
  have q:=a3 id b4
  cases hx:Uj (Zd l s.details 3 fuel).es id with
  | none=>rw[Ux hx] at q;cases q
  | some x =>
   cases hy:Uj (Zd l s.top 1 fuel).es id with
   | none=>rw[Bn hx hy] at q;cases q
   | some y =>
    by_cases e:((Xh x.2.1 0:Nat):Int)=((Ji l s.data fuel (Zo y.2.1:Nat)).length:Nat)
    ·exact⟨x,y,rfl,rfl,e⟩
    ·rw[Ai hx hy e] at q;cases q
 have a0:(Zd l s.details 3 fuel).es.map Prod.fst=(Zd l s.top 1 fuel).es.map Prod.fst:=by
  refine Nq (Mq a2) (Mq a4) fun z=>?_
  constructor
  ·intro hz
   obtain⟨x,y,_,h2,_⟩:=a1 z ((hP.2 z).2 (.inl hz))
   exact List.mem_map.2 ⟨y,(Gm h2).1,(Gm h2).2⟩
  ·intro hz
   obtain⟨x,y,h1,_,_⟩:=a1 z ((hP.2 z).2 (.inr hz))
   exact List.mem_map.2 ⟨x,(Gm h1).1,(Gm h1).2⟩
 obtain rfl:P=(Zd l s.details 3 fuel).es.map Prod.fst:=hP.eq (Tr a2 a0)
 have hV:=Nk (l:=l) (data:=s.data) (fuel:=fuel) a2 a4 a0 b0 (Zd l s.details 3 fuel).es.length (Nat.le_refl _)
 rw[List.take_of_length_le (by rw[List.length_map];exact Nat.le_refl _)] at hV
 rw[hV] at hm ⊢
 rw[As,Nn] at hm
 have hK:devK l (Zd l s.details 3 fuel).es (Zd l s.top 1 fuel).es s.data fuel (Zd l s.details 3 fuel).es.length:=fun j hj=>by
  obtain⟨b1,b2⟩:=Zd8 a0 hj
  have a7:=Nf (l:=(Zd l s.details 3 fuel).es) (d:=Zg) hj
  have a8:=Nf (l:=(Zd l s.top 1 fuel).es) (d:=Zg) b1
  obtain⟨x,y,h1,h2,h3⟩:=a1 ((Zd l s.details 3 fuel).es.getD j Zg).1 (List.mem_map.2 ⟨_,a7,rfl⟩)
  rw[Ur a2 hj] at h1
  rw[b2,Ur a4 b1] at h2
  cases h1
  cases h2
  have hd:=a9.1 _ a7
  have ho:=Ss (b0 _ a8)
  have a6:¬ 16777215<((Zd l s.details 3 fuel).es.getD j Zg).1:=fun q=>by
   have e:Lh ((Zd l s.details 3 fuel).es.getD j Zg)=9:=if_pos q
   rw[e] at hd;cases hd
  have b3:Xc Vd ((Zd l s.details 3 fuel).es.getD j Zg).2.1=0:=by
   have e:Lh ((Zd l s.details 3 fuel).es.getD j Zg)=Xc Vd ((Zd l s.details 3 fuel).es.getD j Zg).2.1:=if_neg a6
   rw[←e];exact hd
  have b5:=Ec l (Zd l s.top 1 fuel).es s.data fuel (show j+1≤(Zd l s.details 3 fuel).es.length from hj)
  unfold Zbf
  refine devE_ok a6 b3 (a9.2 _ a8) ho.1 (by rw[ho.2];omega) ?_
  have e2:Ie l (Zd l s.top 1 fuel).es s.data fuel (j+1)=Ie l (Zd l s.top 1 fuel).es s.data fuel j+(Qf l ((Zd l s.top 1 fuel).es.getD j Zg) s.data fuel).2.2.length:=rfl
  omega
 rw[He a5.1 a5.2 (by omega) (Lx a0),Ar hK]
theorem agree2{l:Bl}{s:Sup}{fuel:Int}(h:(Qp l s.top s.details s.data fuel).2.1=0):(audX l s fuel).1=[]:=by
 have a5:=(Vm l s.details 3 fuel).2.2.2.1
 have a6:=(Vm l s.top 1 fuel).2.2.2.1
 by_cases hfd:(Zd l s.details 3 fuel).fs=[]
 case neg=>rw[Zcq hfd] at h;exact absurd h (Vu hfd)
 by_cases hft:(Zd l s.top 1 fuel).fs=[]
 case neg=>rw[Zdb hfd hft] at h;exact absurd h (Vu hft)
 by_cases hm:4096<(Zd l s.details 3 fuel).es.length
 case pos=>rw[Bf hfd hft hm] at h;cases h
 have hp:Vw (Zd l s.details 3 fuel).es (Zd l s.top 1 fuel).es=0:=by
  unfold Qp at h
  rw[if_neg (fun q=>q hfd),if_neg (fun q=>q hft),if_neg hm] at h
  split at h
  ·cases h
  ·split at h
   ·cases h
   ·rename_i h1 h2
    generalize (Zd l s.details 3 fuel).es=D at h1 h2
    generalize (Zd l s.top 1 fuel).es=T at h1 h2
    clear h hm a5 a6 hfd hft
    induction D generalizing T with
    | nil=>cases T with
     | nil=>rfl
     | cons y b=>exact absurd rfl h1
    | cons x a ih=>cases T with
     | nil=>exact absurd rfl h2
     | cons y b =>
      by_cases e:x.1=y.1
      ·have e2:Vw (x::a) (y::b)=Vw a b:=if_pos e
       rw[e2] at h1 h2 ⊢
       exact ih b h1 h2
      ·by_cases q:x.1<y.1
       ·exact absurd ((if_neg e).trans (if_pos q)) h2
       ·exact absurd ((if_neg e).trans (if_neg q)) h1
 rw[He hfd hft hm hp] at h
 have hK:=Zc1 h _ (Nat.le_refl _)
 obtain⟨a3,a7⟩:=Bg hp
 have hz:∀ j,j<(Zd l s.details 3 fuel).es.length→_:=fun j hj=>Zb8 (hK j hj)
 have a0:(Zd l s.details 3 fuel).es.map Prod.fst=(Zd l s.top 1 fuel).es.map Prod.fst:=by
  apply List.ext_getElem (by simp[a3])
  intro i h1 h2
  have h3:i<(Zd l s.details 3 fuel).es.length:=by simpa using h1
  have:=a7 i h3
  rw[List.getElem_map,List.getElem_map]
  simpa [List.getD,h3,show i<(Zd l s.top 1 fuel).es.length by omega] using this
 have a2:∀ y∈(Zd l s.top 1 fuel).es,Xk y.2.1=0∧Fc l s.data fuel (Zo y.2.1:Nat)=[]:=fun y hy=>by
  obtain⟨i,hi,rfl⟩:=List.mem_iff_getElem.1 hy
  have q:=hz i (by omega)
  rw[show(Zd l s.top 1 fuel).es.getD i Zg=(Zd l s.top 1 fuel).es[i] from by simp[List.getD,hi]] at q
  exact⟨q.2.2.1,own_dev q.2.2.2.1⟩
 have a4:∀ x∈(Zd l s.details 3 fuel).es,Lh x=0:=fun x hx=>by
  obtain⟨i,hi,rfl⟩:=List.mem_iff_getElem.1 hx
  have q:=hz i hi
  rw[show(Zd l s.details 3 fuel).es.getD i Zg=(Zd l s.details 3 fuel).es[i] from by simp[List.getD,hi]] at q
  exact(if_neg q.1).trans q.2.1
 have b3:Xe l s fuel=[]:=by
  unfold Xe
  rw[hfd,hft,show Jm (Zd l s.details 3 fuel).es=[] from by unfold Jm;rw[List.flatMap_eq_nil_iff];exact fun x hx=>To (a4 x hx)]
  show Uy l s.data fuel (Zd l s.top 1 fuel).es []=[]
  generalize ([]:List Int)=seen
  have a1:=a2
  clear hz a0 a7 a3 hK h hp a6 a2 a4
  generalize (Zd l s.top 1 fuel).es=T at a1
  induction T generalizing seen with
  | nil=>rfl
  | cons y T ih =>
   show Gy l s.data fuel seen y++Uy l s.data fuel T (Pb seen y)=[]
   rw[ih _ (fun z hz=>a1 z (List.mem_cons_of_mem _ hz))]
   obtain⟨q1,q2⟩:=a1 y List.mem_cons_self
   unfold Gy
   rw[if_pos q1]
   split
   ·rfl
   ·rw[q2];rfl
 have hP:=Tr a5 a0
 rw[Uu hP]
 have hV:=Nk (l:=l) (data:=s.data) (fuel:=fuel) a5 a6 a0 (fun y hy=>(a2 y hy).2) (Zd l s.details 3 fuel).es.length (Nat.le_refl _)
 rw[List.take_of_length_le (by rw[List.length_map];exact Nat.le_refl _)] at hV
 have b0:Vc l s.data fuel (Zd l s.details 3 fuel).es (Zd l s.top 1 fuel).es ((Zd l s.details 3 fuel).es.map Prod.fst)=[]:=by
  unfold Vc
  rw[List.flatMap_eq_nil_iff]
  intro id b1
  obtain⟨x,hx,rfl⟩:=List.mem_map.1 b1
  obtain⟨i,hi,rfl⟩:=List.mem_iff_getElem.1 hx
  have e:(Zd l s.details 3 fuel).es[i]=(Zd l s.details 3 fuel).es.getD i Zg:=by simp[List.getD,hi]
  obtain⟨a8,b2⟩:=Zd8 a0 hi
  have q:=hz i hi
  have ho:=Ss (a2 _ (Nf (l:=(Zd l s.top 1 fuel).es) (d:=Zg) a8)).2
  rw[e]
  refine Zeb (Ur a5 hi) (by rw[b2];exact Ur a6 a8) ?_
  have:=q.2.2.2.2.1
  rw[ho.2] at this
  omega
 have a9:¬ (4096<(Uh l s.data fuel (Zd l s.details 3 fuel).es (Zd l s.top 1 fuel).es ((Zd l s.details 3 fuel).es.map Prod.fst)).length∨16384<Pn (Uh l s.data fuel (Zd l s.details 3 fuel).es (Zd l s.top 1 fuel).es ((Zd l s.details 3 fuel).es.map Prod.fst))):=by
  rw[hV,As,Nn]
  rintro(q|q)
  ·exact hm q
  ·by_cases h0:(Zd l s.details 3 fuel).es.length=0
   ·rw[h0] at q;change 16384<0 at q;omega
   ·have h1:=(hz ((Zd l s.details 3 fuel).es.length-1) (by omega)).2.2.2.2.2
    have e2:Ie l (Zd l s.top 1 fuel).es s.data fuel (Zd l s.details 3 fuel).es.length=Ie l (Zd l s.top 1 fuel).es s.data fuel ((Zd l s.details 3 fuel).es.length-1)+(Qf l ((Zd l s.top 1 fuel).es.getD ((Zd l s.details 3 fuel).es.length-1) Zg) s.data fuel).2.2.length:=by
     obtain⟨n,hn⟩:∃ n,(Zd l s.details 3 fuel).es.length=n+1:=⟨(Zd l s.details 3 fuel).es.length-1,by omega⟩
     rw[hn];rfl
    omega
 rw[Sb b3 b0 a9]
theorem Dm(a b:O0)(ca cb:Nat)(L:List Mp)(w:World)(ha:Sts Kh w (.slice a L.length ca) L)(hb:Sts Kh w (.slice b L.length cb) L) :
 C0 130 #[.slice a L.length ca,.slice b L.length cb] w (Ret (.bool true) w):=by
 have a5:=Sl.len ha
 refine zin 26 Tryz.func130 ?_
 refine xk 15 (show(((L.length:Int) != (L.length:Int)):Bool)=false from by simp) ?_
 have hB:=Below.refl w.heap.size w
 refine zl 11 26 (fun zm a3 V=>∃ (i:Nat),a3=[(0,.slice a L.length ca),(1,.slice b L.length cb),(12,V0 (L.length:Int)),(13,V0 (i:Int))]∧zm=L.length-((i:Int)).toNat∧B0 w V∧i≤L.length) ⟨0,rfl,rfl,hB,Nat.zero_le _⟩ ?_
 rintro _ _ W1 ⟨i,rfl,rfl,a1,hi⟩ J1 a2 r1
 refine xid 6 ((i:Int)<(L.length:Int)) (fun a4=>?_) (fun a4=>?_)
 ·refine xd 11 .z ?_
  refine xx (.e [0,1] 2) _ L.length i 3 (Sts.cell ha Ph mpD (k:=i) (i:=0) (by omega) rfl).1 ?_
  have a0:=bln a1 (Za W1)
  refine xlv (.e [] 3) (Sts.rp (k:=i) (ha.below a0) Ph mpD (by omega) (by decide)) ?_
  refine xx (.e [4,5] 6) _ L.length i 3 (Sts.cell hb Ph mpD (k:=i) (i:=0) (by omega) rfl).1 ?_
  refine xlv (.e [] 7) (Sts.rp (k:=i) (hb.below a0) Ph mpD (by omega) (by decide)) ?_
  refine xbo (.e [] 8) (t:=164) (t2:=164) (fun _ _ _ _ zo zx zy V hV=>Zel (L.getD i mpD) zo zx zy V) ?_
  refine xwm 7 ((i:Int)+1) (↑(i+1):Int) ?_
  exact ze 2 (a2 _ _ _ ⟨i+1,rfl,rfl,a0,by omega⟩ (by omega))
 exact xe 11 (.bool true) ⟨rfl,a1⟩
theorem Zbe(a b:O0)(ca cb:Nat)(d:Dv)(w:World)(ha:Sts Kh w (.slice a d.2.length ca) d.2)(hb:Sts Kh w (.slice b d.2.length cb) d.2) :
 C0 64 #[.agg #[V0 d.1.1,V0 d.1.2.1,V0 d.1.2.2.1,V0 d.1.2.2.2,.slice a d.2.length ca],.agg #[V0 d.1.1,V0 d.1.2.1,V0 d.1.2.2.1,V0 d.1.2.2.2,.slice b d.2.length cb]] w (Ret (.bool true) w):=by
 refine zin 38 Tryz.func64 ?_
 refine xa 2 [V0 d.1.1,V0 d.1.2.1,V0 d.1.2.2.1,V0 d.1.2.2.2,.slice a d.2.length ca] 61 fun b1 W1 n1=>?_
 refine xa 0 [V0 d.1.1,V0 d.1.2.1,V0 d.1.2.2.1,V0 d.1.2.2.2,.slice b d.2.length cb] 61 fun b2 W2 n2=>?_
 have a2:=n2.ne n1.blk
 have a0:=n1.blk.below n2.below
 refine xb 6 0 a0 ?_
 refine xb 1 0 n2.blk ?_
 refine xgk 2 [9,10] (show((d.1.1==d.1.1):Bool)=true from by simp) ?_
 refine xb 1 1 a0 ?_
 refine xb 1 1 n2.blk ?_
 refine xgk 3 [15,16,17] (show((d.1.2.1==d.1.2.1):Bool)=true from by simp) ?_
 refine xb 1 2 a0 ?_
 refine xb 1 2 n2.blk ?_
 refine xgk 3 [22,23,24] (show((d.1.2.2.1==d.1.2.2.1):Bool)=true from by simp) ?_
 refine xb 1 3 a0 ?_
 refine xb 1 3 n2.blk ?_
 refine xgk 3 [29,30,31] (show((d.1.2.2.2==d.1.2.2.2):Bool)=true from by simp) ?_
 refine xb 1 4 a0 ?_
 refine xb 1 4 n2.blk ?_
 have hB:=bln n1.below n2.below
 refine xr 0 (args:=#[.slice a d.2.length ca,.slice b d.2.length cb]) (Dm a b ca cb d.2 _ (ha.below hB) (hb.below hB)) fun W7 a3=>?_
 have a1:=bln hB a3
 exact xe 5 (.bool true) ⟨rfl,a1⟩
theorem Rt(a b:O0)(ca cb:Nat)(d e:Dv)(w:World)(h:d=e)(ha:Sts Kh w (.slice a d.2.length ca) d.2)(hb:Sts Kh w (.slice b e.2.length cb) e.2) :
 C0 64 #[.agg #[V0 d.1.1,V0 d.1.2.1,V0 d.1.2.2.1,V0 d.1.2.2.2,.slice a d.2.length ca],.agg #[V0 e.1.1,V0 e.1.2.1,V0 e.1.2.2.1,V0 e.1.2.2.2,.slice b e.2.length cb]] w (Ret (.bool true) w):=by
 subst h;exact Zbe a b ca cb d w ha hb
theorem On(p q:O0)(c d n:Nat)(Z Y:List Zv)(w:World)(hZ:Z.length=n)(hY:Y.length=n)(hZY:∀ i,i<n→(Z.getD i zvD).1=(Y.getD i zvD).1)(hP:DevsR w p c Z)(hQ:DevsR w q d Y) :
 C0 63 #[.slice p n c,.slice q n d,.func (.func 64) #[] #[]] w (Ret (.bool true) w):=by
 have b0:=Sl.len (hP.rowN hZ)
 refine zin 32 Tryz.func63 ?_
 refine xk 15 (show(((n:Int) != (n:Int)):Bool)=false from by simp) ?_
 have hB:=Below.refl w.heap.size w
 refine zl 11 32 (fun zm a8 V=>∃ (i:Nat),a8=[(1,.slice q n d),(2,.func (.func 64) #[] #[]),(15,.slice p n c),(16,V0 (n:Int)),(17,V0 (i:Int))]∧zm=n-((i:Int)).toNat∧B0 w V∧i≤n) ⟨0,rfl,rfl,hB,Nat.zero_le _⟩ ?_
 rintro _ _ W1 ⟨i,rfl,rfl,a0,hi⟩ J1 a6 r1
 refine xid 6 ((i:Int)<(n:Int)) (fun a9=>?_) (fun a9=>?_)
 ·refine xx 7 _ n i 5 (hP.someN hZ (i:=i) (by omega)) ?_
  refine xlv 0 (Sts.rp (k:=i) (hP.below a0).row Pf zvD (by omega) (by decide)) ?_
  refine xa 0 [V0 0,V0 0,V0 0,V0 0,S0] 61 fun b3 W3 n3=>?_
  have g3:=n3.ge a0
  refine xsv 1 n3.blk [V0 ((Z.getD i zvD).1.1.1),V0 ((Z.getD i zvD).1.1.2.1),V0 ((Z.getD i zvD).1.1.2.2.1),V0 ((Z.getD i zvD).1.1.2.2.2),.slice ((Z.getD i zvD).2.1) ((Z.getD i zvD).1.2.length) ((Z.getD i zvD).2.2)] fun W4 u4 k4=>?_
  refine xx 6 _ n i 5 (hQ.someN hY (i:=i) (by omega)) ?_
  have a1:=u4.below (bln a0 n3.below) g3
  refine xlv 0 (Sts.rp (k:=i) (hQ.below a1).row Pf zvD (by omega) (by decide)) ?_
  refine xa 0 [V0 0,V0 0,V0 0,V0 0,S0] 61 fun b5 W5 n5=>?_
  have a3:=n5.ne k4
  have g5:=n5.ge a1
  refine xsv 0 n5.blk [V0 ((Y.getD i zvD).1.1.1),V0 ((Y.getD i zvD).1.1.2.1),V0 ((Y.getD i zvD).1.1.2.2.1),V0 ((Y.getD i zvD).1.1.2.2.2),.slice ((Y.getD i zvD).2.1) ((Y.getD i zvD).1.2.length) ((Y.getD i zvD).2.2)] fun W6 u6 k6=>?_
  have a4:=u6.blk (k4.below n5.below) (Ne.symm (Ne.symm a3))
  refine xlv 5 a4.rp ?_
  refine xlv 0 k6.rp ?_
  have a2:=u6.below (bln a1 n5.below) g5
  refine xr 0 (args:=#[.agg #[V0 ((Z.getD i zvD).1.1.1),V0 ((Z.getD i zvD).1.1.2.1),V0 ((Z.getD i zvD).1.1.2.2.1),V0 ((Z.getD i zvD).1.1.2.2.2),.slice ((Z.getD i zvD).2.1) ((Z.getD i zvD).1.2.length) ((Z.getD i zvD).2.2)],.agg #[V0 ((Y.getD i zvD).1.1.1),V0 ((Y.getD i zvD).1.1.2.1),V0 ((Y.getD i zvD).1.1.2.2.1),V0 ((Y.getD i zvD).1.1.2.2.2),.slice ((Y.getD i zvD).2.1) ((Y.getD i zvD).1.2.length) ((Y.getD i zvD).2.2)]]) (Rt (Z.getD i zvD).2.1 (Y.getD i zvD).2.1 (Z.getD i zvD).2.2 (Y.getD i zvD).2.2 (Z.getD i zvD).1 (Y.getD i zvD).1 _ (hZY i (by omega)) ((hP.below a2).each i (by omega)) ((hQ.below a2).each i (by omega))) fun W7 a7=>?_
  refine xwm 8 ((i:Int)+1) (↑(i+1):Int) ?_
  have a5:=bln a2 a7
  exact ze 2 (a6 _ _ _ ⟨i+1,rfl,rfl,a5,by omega⟩ (by omega))
 exact xe 11 (.bool true) ⟨rfl,a0⟩
theorem Zc6(p q:O0)(c d n:Nat)(t u v x:Int)(Z Y:List Zv)(w:World)(hZ:Z.length=n)(hY:Y.length=n)(hZY:∀ i,i<n→(Z.getD i zvD).1=(Y.getD i zvD).1)(hP:DevsR w p c Z)(hQ:DevsR w q d Y) :
 C0 24 #[.agg #[V0 t,V0 u,V0 v,V0 x,.slice p n c],.agg #[V0 t,V0 u,V0 v,V0 x,.slice q n d]] w (Ret (.bool true) w):=by
 refine zin 38 Tryz.func24 ?_
 refine xa 2 [V0 t,V0 u,V0 v,V0 x,.slice p n c] 24 fun b1 W1 n1=>?_
 refine xa 0 [V0 t,V0 u,V0 v,V0 x,.slice q n d] 24 fun b2 W2 n2=>?_
 have a2:=n2.ne n1.blk
 have a0:=n1.blk.below n2.below
 refine xb 6 0 a0 ?_
 refine xb 1 0 n2.blk ?_
 refine xgk 2 [9,10] (show((t==t):Bool)=true from by simp) ?_
 refine xb 1 1 a0 ?_
 refine xb 1 1 n2.blk ?_
 refine xgk 3 [15,16,17] (show((u==u):Bool)=true from by simp) ?_
 refine xb 1 2 a0 ?_
 refine xb 1 2 n2.blk ?_
 refine xgk 3 [22,23,24] (show((v==v):Bool)=true from by simp) ?_
 refine xb 1 3 a0 ?_
 refine xb 1 3 n2.blk ?_
 refine xgk 3 [29,30,31] (show((x==x):Bool)=true from by simp) ?_
 refine xb 1 4 a0 ?_
 refine xb 1 4 n2.blk ?_
 have hB:=bln n1.below n2.below
 refine xr 0 (args:=#[.slice p n c,.slice q n d,.func (.func 64) #[] #[]]) (On p q c d n Z Y _ hZ hY hZY (hP.below hB) (hQ.below hB)) fun W7 a3=>?_
 have a1:=bln hB a3
 exact xe 5 (.bool true) ⟨rfl,a1⟩
theorem devsQ_to{O O':List Int×Int×List Dv}{V:World}{p:O0}{c:Nat}{Z:List Zv}(h:Ka O V p c Z)(e:O.2.2=O'.2.2):Ka O' V p c Z:=by
 unfold Ka at h ⊢
 rw[←e];exact h
theorem Ch(O:List Int×Int×List Dv)(p q:O0)(c d n:Nat)(t u v x:Int)(Z Y:List Zv)(w:World)(hn:O.2.2.length=n)(hP:Ka O w p c Z)(hQ:Ka O w q d Y) :
 C0 24 #[.agg #[V0 t,V0 u,V0 v,V0 x,.slice p n c],.agg #[V0 t,V0 u,V0 v,V0 x,.slice q n d]] w (Ret (.bool true) w) :=
 Zc6 p q c d n t u v x Z Y w (hP.1.trans hn) (hQ.1.trans hn) (fun i hi=>dq_fst hP hQ i (by rw[hn];exact hi)) hP.read hQ.read
theorem ldev_B{O:List Int×Int×List Dv}{f:FuncId}{args:Array Value}{w:World}(h:O.2.1≠0)(hc:C0 f args w (fun e w'=>(O.2.1≠0∧∃ ty v,e=.returned (.tuple #[S0,.iface ty v])∧B0 w w'∧Yu w' (O.1.map some) (some O.2.1) (.iface ty v))∨(O.2.1=0∧∃ p c Z,e=.returned (.tuple #[.slice p O.2.2.length c,.nilIface])∧B0 w w'∧Ka O w' p c Z))):C0 f args w (Jl (fun w' r=>∃ ty v,r=.tuple #[S0,.iface ty v]) w):=hc.mono (by
 rintro e W q
 rcases q with ⟨_,ty,v,rfl,hb,_⟩|⟨h2,_⟩
 ·exact⟨_,rfl,hb,ty,v,rfl⟩
 ·exact absurd h2 h)
theorem ldev_G{O:List Int×Int×List Dv}{f:FuncId}{args:Array Value}{w:World}(h:O.2.1=0)(hc:C0 f args w (fun e w'=>(O.2.1≠0∧∃ ty v,e=.returned (.tuple #[S0,.iface ty v])∧B0 w w'∧Yu w' (O.1.map some) (some O.2.1) (.iface ty v))∨(O.2.1=0∧∃ p c Z,e=.returned (.tuple #[.slice p O.2.2.length c,.nilIface])∧B0 w w'∧Ka O w' p c Z))):C0 f args w (Jl (fun w' r=>∃ p c Z,r=.tuple #[.slice p O.2.2.length c,.nilIface]∧Ka O w' p c Z) w):=hc.mono (by
 rintro e W q
 rcases q with ⟨h2,_⟩|⟨_,p,c,Z,rfl,hb,hD⟩
 ·exact absurd h h2
 ·exact⟨_,rfl,hb,p,c,Z,rfl,hD⟩)
theorem Nv(a:O0)(c:Nat)(l:Bl)(s:Sup)(fuel:Int)(w:World)(h:Bys w (.slice a l.length c) l)(hg:Dz w) :
 C0 5 #[.slice a l.length c,.agg #[V0 s.tx,V0 s.time,V0 s.unit,V0 s.data,V0 s.blocks,V0 s.top,V0 s.details,V0 s.dslots,V0 s.dover,V0 s.mindex,V0 s.mover],V0 fuel] w (Ret (.bool true) w):=by
 have d1:=h.cap rfl
 obtain⟨f2,f7,h4⟩:∃ x,(if(200:Int)<fuel then(200:Int) else fuel)=x∧x≤200:=⟨_,rfl,by split<;>omega⟩
 refine zin 65 Tryz.func5 ?_
 refine xa 2 [V0 s.tx,V0 s.time,V0 s.unit,V0 s.data,V0 s.blocks,V0 s.top,V0 s.details,V0 s.dslots,V0 s.dover,V0 s.mindex,V0 s.mover] 44 fun b1 W1 n1=>?_
 refine xid 11 ((l.length:Int)>(12000:Int)) (fun f5=>?_) (fun f5=>?_)
 ·refine xr 2 (args:=#[]) (Sq _ (hg.below n1.below)) fun W3 f1=>?_
  have d5:=bln n1.below f1
  exact xe 5 (.bool true) ⟨rfl,d5⟩
 refine xq 5 (congrArg V0 (show(if(200:Int)<fuel then(200:Int) else fuel:Int)=f2 from f7)) ?_
 refine xc 6 (args:=#[.slice a l.length c]) (Zd7 a c l.length ((l.length/256)*256) l _ rfl (by omega) (h.below n1.below) (by omega) d1) ?_
 rintro _ W4 ⟨_,rfl,e0,bi,pi,ci,rfl,_,hI⟩
 have k1:=n1.blk.below e0
 refine xlv 6 k1.rp ?_
 have a8:=bln n1.below e0
 refine xc 1 (args:=#[P0 bi,.agg #[V0 s.tx,V0 s.time,V0 s.unit,V0 s.data,V0 s.blocks,V0 s.top,V0 s.details,V0 s.dslots,V0 s.dover,V0 s.mindex,V0 s.mover],V0 f2]) (It _ bi pi _ ci (l.take ((l.length/256)*256)) s f2 _ hI (by omega) (hg.below a8)) ?_
 rintro e W5 f6
 rcases f6 with ⟨c7,q3,d3,rfl,a9,h6⟩|⟨c7,p9,c9,Z9,rfl,a9,f3⟩
 ·have g7:=(bln n1.below e0).size
  refine xa 3 [V0 0,V0 0,V0 0,V0 0,S0] 24 fun b6 W6 n6=>?_
  have b3:=bln a8 a9
  have g6:=n6.ge b3
  refine xsv 0 n6.blk [V0 0,V0 0,V0 0,V0 0,S0] fun W7 u7 k7=>?_
  have a7:=u7.blkT ((k1.below a9).below n6.below) n6.blk (by decide)
  refine xb 7 5 a7 ?_
  refine xb 1 6 a7 ?_
  refine xb 1 3 a7 ?_
  have e2:(Qp (l.take ((l.length/256)*256)) s.top s.details s.data f2).2.1≠0:=fun q=>c7 (agree2 q)
  have e3:=((hI.below a9).below n6.below).only (Ze.of_upd (T:=[24]) u7 n6.blk (by decide)) (by decide)
  refine xc 1 (args:=#[P0 bi,V0 s.top,V0 s.details,V0 s.data,V0 f2]) (ldev_B e2 (Gi _ bi pi _ ci (l.take ((l.length/256)*256)) s.top s.details s.data f2 _ e3 (by omega))) ?_
  rintro _ W8 ⟨_,rfl,e9,h9,v9,rfl⟩
  refine xk 18 (show((((↑((audX (l.take ((l.length/256)*256)) s f2).1.length):Int)==(0:Int)) != false):Bool)=false from(by rw[beq_false_of_ne (fun q=>c7 (List.eq_nil_of_length_eq_zero (by omega)))];rfl)) ?_
  refine xa 5 [V0 0,V0 0,V0 0,V0 0,S0] 24 fun b9 W9 n9=>?_
  have c4:=k7.below e9
  have c2:=n9.ne c4
  have c0:=bln (u7.below (bln b3 n6.below) g6) e9
  have g9:=n9.ge c0
  refine xsv 0 n9.blk [V0 0,V0 0,V0 0,V0 0,S0] fun g4 e8 f8=>?_
  have d6:=e8.blk (c4.below n9.below) (Ne.symm (Ne.symm c2))
  refine xlv 14 d6.rp ?_
  refine xlv 0 f8.rp ?_
  refine xr 0 (args:=#[.agg #[V0 0,V0 0,V0 0,V0 0,S0],.agg #[V0 0,V0 0,V0 0,V0 0,S0]]) (Ch ([],0,[]) none none 0 0 0 0 0 0 0 [] [] _ rfl (Fd _ rfl) (Fd _ rfl)) fun h0 d2=>?_
  have c1:=bln (e8.below (bln c0 n9.below) g9) d2
  refine xr 1 (args:=#[]) (Sq _ (hg.below c1)) fun g8 e6=>?_
  have e5:=bln c1 e6
  exact xe 5 (.bool true) ⟨rfl,e5⟩
 refine xa 3 [V0 0,V0 0,V0 0,V0 0,S0] 24 fun g2 g1 a3=>?_
 have b4:=bln a8 a9
 have f4:=a3.ge b4
 refine xsv 0 a3.blk [V0 s.tx,V0 s.time,V0 s.unit,V0 s.data,.slice p9 ((audX (l.take ((l.length/256)*256)) s f2).2.length) c9] fun h3 c6 f9=>?_
 have a4:=c6.blkT ((k1.below a9).below a3.below) a3.blk (by decide)
 refine xb 7 5 a4 ?_
 refine xb 1 6 a4 ?_
 refine xb 1 3 a4 ?_
 have d8:=agree1 c7
 have e2:(Qp (l.take ((l.length/256)*256)) s.top s.details s.data f2).2.1=0:=by rw[d8]
 have e4:=((hI.below a9).below a3.below).only (Ze.of_upd (T:=[24]) c6 a3.blk (by decide)) (by decide)
 refine xc 1 (args:=#[P0 bi,V0 s.top,V0 s.details,V0 s.data,V0 f2]) (ldev_G e2 (Gi _ bi pi _ ci (l.take ((l.length/256)*256)) s.top s.details s.data f2 _ e4 (by omega))) ?_
 rintro _ g3 ⟨_,rfl,a5,p8,c8,Z8,rfl,d9⟩
 replace d9:=devsQ_to (O':=([],0,(audX (l.take ((l.length/256)*256)) s f2).2)) d9 (by rw[d8])
 have e7:(Qp (l.take ((l.length/256)*256)) s.top s.details s.data f2).2.2.length=(audX (l.take ((l.length/256)*256)) s f2).2.length:=by rw[d8]
 refine xv1 9 10 (show(.slice p8 ((Qp (l.take ((l.length/256)*256)) s.top s.details s.data f2).2.2.length) c8:Value)=.slice p8 ((audX (l.take ((l.length/256)*256)) s f2).2.length) c8 from(by rw[e7])) ?_
 refine xv1 0 38 (show(.slice p8 ((Qp (l.take ((l.length/256)*256)) s.top s.details s.data f2).2.2.length) c8:Value)=.slice p8 ((audX (l.take ((l.length/256)*256)) s f2).2.length) c8 from(by rw[e7])) ?_
 refine xa 15 [V0 0,V0 0,V0 0,V0 0,S0] 24 fun h1 h8 a1=>?_
 have a6:=f9.below a5
 have a0:=a1.ne a6
 have b5:=bln (c6.below (bln b4 a3.below) f4) a5
 have f0:=a1.ge b5
 refine xsv 0 a1.blk [V0 0,V0 0,V0 0,V0 0,S0] fun h2 b8 d7=>?_
 have a2:=b8.blkT ((a4.below a5).below a1.below) a1.blk (by decide)
 refine xb 12 0 a2 ?_
 refine xb 1 1 a2 ?_
 refine xb 1 2 a2 ?_
 refine xb 1 3 a2 ?_
 refine xsv 2 d7 [V0 s.tx,V0 s.time,V0 s.unit,V0 s.data,.slice p8 ((audX (l.take ((l.length/256)*256)) s f2).2.length) c8] fun h7 d0 g0=>?_
 have b2:=d0.blk (b8.blk (a6.below a1.below) (Ne.symm (Ne.symm a0))) (Ne.symm (Ne.symm a0))
 refine xlv 4 b2.rp ?_
 refine xlv 0 g0.rp ?_
 have b0:=(((((f3.below a3.below).only (Ze.of_upd (T:=[24]) c6 a3.blk (by decide)) (by decide)).below a5).below a1.below).only (Ze.of_upd (T:=[24]) b8 a1.blk (by decide)) (by decide)).only (Ze.of_upd (T:=[24]) d0 d7 (by decide)) (by decide)
 have b7:=((d9.below a1.below).only (Ze.of_upd (T:=[24]) b8 a1.blk (by decide)) (by decide)).only (Ze.of_upd (T:=[24]) d0 d7 (by decide)) (by decide)
 refine xr 0 (args:=#[.agg #[V0 s.tx,V0 s.time,V0 s.unit,V0 s.data,.slice p9 ((audX (l.take ((l.length/256)*256)) s f2).2.length) c9],.agg #[V0 s.tx,V0 s.time,V0 s.unit,V0 s.data,.slice p8 ((audX (l.take ((l.length/256)*256)) s f2).2.length) c8]]) (Ch ([],0,(audX (l.take ((l.length/256)*256)) s f2).2) p9 p8 c9 c8 _ s.tx s.time s.unit s.data Z9 Z8 _ rfl b0 b7) fun g5 d4=>?_
 have c3:=bln (d0.below (b8.below (bln b5 a1.below) f0) f0) d4
 refine xr 1 (args:=#[]) (Sq _ (hg.below c3)) fun h5 e1=>?_
 have c5:=bln c3 e1
 exact xe 5 (.bool true) ⟨rfl,c5⟩
end Go.Proofs.YtegcamkgeacjfaaGreatDoor
namespace Go.Proofs.YtegcamkgeacjfaaGreatDoor
set_option maxHeartbeats 8000000
set_option maxRecDepth 100000
open Go.ChangeShapes Go.WideShapes Go.ChangeAt Go.RowKit Go.Joins
set_option linter.unusedVariables false
theorem Om{H:Type}{enc:TypeId×Value→H}{P:Program}{W:World}{r:Reach}{b0:Nat}{t e:TypeId}{v:Value}{d:DataW H}{p:List MemPlace}(ht:P.underlying t=some (.slice e))(he:P.underlying e=some (.int .u8))(hC:P.cellsOf e=1)
 (hv:Value.okWide P W r b0 t v) (h:DataW.Trod enc P W 0 (fun _=>true) true t v d p):∃ l,Bys W v l:=by
 obtain⟨a,a2,a7,rfl⟩:=okWide_slice ht hv
 obtain⟨b2,hf⟩:=h
 rcases open_ints ht he hC hf with ⟨a3,_⟩|⟨x,l,c,zs,a3,_,hl,hm,hz,_,a0,a9⟩
 ·simp[Value.cells] at a3
  obtain⟨rfl,rfl,rfl⟩:=a3
  exact⟨[],.inl ⟨_,_,rfl,rfl,rfl⟩⟩
 ·simp[Value.cells] at a3
  obtain⟨rfl,rfl,rfl⟩:=a3
  have b3:zs.length=a7:=by simpa using hz
  by_cases h0:a2=0
  ·subst h0
   exact⟨[],.inl ⟨_,_,rfl,rfl,rfl⟩⟩
  ·obtain⟨b,b1,a4⟩:=x
   have hc:=a0 0 (by omega)
   have a1:a4=none:=by simpa [Addr.add] using World.cell?_spot hc
   subst a1
   have a5:((zs.take a2).map fun n=>UInt8.ofNat n.toNat).length=a2:=by simp;omega
   refine⟨(zs.take a2).map fun n=>UInt8.ofNat n.toNat,.inr ⟨b,b1,a7,by rw[a5],by omega,hm,fun j x hj=>?_⟩⟩
   have a8:j<a2:=by have:=(List.getElem?_eq_some_iff.1 hj).1;simp at this;omega
   have e1:zs[j]? = some zs[j]:=List.getElem?_eq_getElem (by omega)
   have hw:=a9 zs[j] (List.getElem_mem _)
   have a6:=a0 j (by omega)
   have e2:zs.getD j 0=zs[j]:=by simp[List.getD,e1]
   rw[e2] at a6
   have hx:x=.int .u8 zs[j]:=by
    rw[List.getElem?_map,List.getElem?_map,List.getElem?_take_of_lt a8,e1] at hj
    simp only[Option.map_some,Option.some.injEq] at hj
    rw[←hj]
    have hb:0≤zs[j]∧zs[j]≤255:=by simpa [Lit.wf,IntKind.min,IntKind.max,IntKind.signed,IntKind.bits] using hw
    have h3:(zs[j].toNat%256:Nat)=zs[j].toNat:=Nat.mod_eq_of_lt (by omega)
    simp only[bv,UInt8.toNat_ofNat']
    rw[show(2 ^ 8:Nat)=256 from rfl,h3,Int.toNat_of_nonneg hb.1]
   subst hx
   by_cases hj0:j=0
   ·subst hj0;simpa [Addr.add] using a6
   ·simpa [Addr.add,hj0] using a6
end Go.Proofs.YtegcamkgeacjfaaGreatDoor
namespace Go.Proofs.YtegcamkgeacjfaaGreatDoor
set_option maxHeartbeats 8000000
set_option maxRecDepth 100000
open Go.ChangeShapes Go.WideShapes Go.ChangeAt Go.RowKit Go.Joins Go.Deep
set_option linter.unusedVariables false
def intOfS:Value→Int
 | .int _ z=>z
 | _=>0
theorem Sr{H:Type}{enc:TypeId×Value→H}{P:Program}{W:World}{r:Reach}{b0:Nat}{t ti:TypeId}{fs:Array Field}{v:Value}{d:DataW H}{p:List MemPlace}(hs:P.underlying t=some (.struct fs))(hone:oneCellFields P fs=true)(hC:P.cellsOf t=fs.size)
 (hf:fs.toList.all (fun f=>f.type==ti)=true) (hti:P.underlying ti=some (.int .i64)) (hv:Value.okWide P W r b0 t v) (h:DataW.Trod enc P W 0 (fun _=>true) true t v d p) :
 ∃ N:List Int,N.length=fs.size∧v=.agg (N.map V0).toArray:=by
 obtain⟨cs,rfl,a8⟩:=okWide_struct hs hv
 obtain⟨a7,hx⟩:=h
 obtain⟨xs,n,_,_,hl,a6,a4⟩:=DataW.trod_struct hs hx
 have a5:∀ i,i<fs.size→∃ z:Int,cs[i]? = some (V0 z):=by
  intro i hi
  have a3:fs[i]? = some fs[i]:=by simp[hi]
  obtain⟨o0,k0⟩:=hone_of hone i fs[i] a3
  have a0:fs[i].type=ti:=by
   have:=List.all_eq_true.1 hf fs[i] (by simp)
   simpa using this
  have hq:=a4 i fs[i] a3
  have a2:i<cs.size:=by omega
  have e:((Value.agg cs).cells.toList.drop fs[i].offset).take (P.cellsOf fs[i].type)=[cs[i]]:=by
   rw[o0,k0]
   simp[Value.cells,List.drop_eq_getElem_cons,a2]
  rw[e,a0,List.getElem?_eq_getElem (show i<xs.length by omega)] at hq
  obtain⟨z,hz,_⟩:=DataW.trod_int hti hq
  simp only[List.cons.injEq,and_true] at hz
  exact⟨z,by simp[a2,hz]⟩
 refine⟨cs.toList.map intOfS,by simp;omega,?_⟩
 congr 1
 apply Array.ext'
 rw[List.toList_toArray]
 apply List.ext_getElem?
 intro i
 by_cases hi:i<fs.size
 ·obtain⟨z,hz⟩:=a5 i hi
  have a1:cs.toList[i]? = some (V0 z):=by simpa using hz
  rw[a1,List.getElem?_map,List.getElem?_map,a1];rfl
 ·rw[List.getElem?_eq_none (by simp;omega),List.getElem?_eq_none (by simp;omega)]
theorem sup_open{H:Type}{enc:TypeId×Value→H}{P:Program}{W:World}{r:Reach}{b0:Nat}{t ti:TypeId}{fs:Array Field}{v:Value}{d:DataW H}{p:List MemPlace}(hs:P.underlying t=some (.struct fs))(hone:oneCellFields P fs=true)(hC:P.cellsOf t=fs.size)(h11:fs.size=11)
 (hf:fs.toList.all (fun f=>f.type==ti)=true) (hti:P.underlying ti=some (.int .i64)) (hv:Value.okWide P W r b0 t v) (h:DataW.Trod enc P W 0 (fun _=>true) true t v d p) :
 ∃ s:Sup,v=.agg (supC s).toArray:=by
 obtain⟨N,hN,rfl⟩:=Sr hs hone hC hf hti hv h
 rw[h11] at hN
 match N,hN with
 | [a,b,c,d,e,f,g,h,i,j,k],_=>exact⟨⟨a,b,c,d,e,f,g,h,i,j,k⟩,rfl⟩
end Go.Proofs.YtegcamkgeacjfaaGreatDoor
