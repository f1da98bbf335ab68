/- Package load: Devices. -/
import Derived.Test.YtceeiinepijokaaGreatMg5
namespace Go.Proofs.YtceeiinepijokaaGreat
set_option maxHeartbeats 8000000
set_option maxRecDepth 100000
open Go.RowKit Go.Extern.Stop Go.Stop Go.Extern
set_option linter.unusedVariables false
attribute [local irreducible] wpList wpAnyH Code.wp Oper.wp Go
def LDevsP(O:List Int×Int×List Dv)(w:World)(e:Ending)(w':World):Prop :=
 (O.2.1≠0∧∃ ty v,e=.returned (.tuple #[S0,.iface ty v])∧B3 w w'∧Va w' (O.1.map some) (some O.2.1) (.iface ty v)) ∨
 (O.2.1=0∧∃ p c Z,e=.returned (.tuple #[.slice p O.2.2.length c,.nilIface])∧B3 w w'∧Z.map Prod.fst=O.2.2∧Xy w.heap.size w' Z∧w'.ownsRow w.heap.size 42 5 (.slice p O.2.2.length c) O.2.2.length (Z.flatMap Zdn))
theorem Wo{O:List Int×Int×List Dv}{bl:List Int}{er:Int}{w W:World}{ty:TypeId}{v:Value}(h:O=(bl,er,[]))(her:er≠0)(hb:B3 w W)(hv:Va W (bl.map some) (some er) (.iface ty v)):LDevsP O w (.returned (.tuple #[S0,.iface ty v])) W:=by
 subst h;exact .inl ⟨her,ty,v,rfl,hb,hv⟩
theorem ldevs_ok{O:List Int×Int×List Dv}{L:List Dv}{Z:List Zv}{n c:Nat}{w W:World}{p:O0}(h:O=([],0,L))(hn:Z.length=n)(hZ:Z.map Prod.fst=L)(hb:B3 w W)(hM:Xy w.heap.size W Z)(ho:W.ownsRow w.heap.size 42 5 (.slice p n c) n (Z.flatMap Zdn)):LDevsP O w (.returned (.tuple #[.slice p n c,.nilIface])) W:=by
 subst h
 have hl:L.length=n:=by rw[←hZ,List.length_map,hn]
 subst hl
 exact .inr ⟨rfl,p,c,Z,rfl,hb,hZ,hM,ho⟩
theorem Xy.mono{B B':Nat}{w:World}{Z:List Zv}(h:Xy B' w Z)(hB:B≤B'):Xy B w Z:=fun i hi=>Zh (h i hi) hB
theorem Xy.ab{q:Nat→Prop}{A C:World}{row:Option Nat}{B m:Nat}{Z:List Zv}(h:Xy B A Z)(hg:A.grownBy C row)(hr:Turns q m A row)(hq:∀ r,q r→r<B):Xy B C Z:=fun i hi=>own_ab (h i hi) hg hr hq
theorem Xy.pt{D B:Nat}{w:World}{Z:List Zv}(h:Xy B w Z)(hK:Dfr D w)(o:Obj):Xy B (w.putObj D o) Z:=fun i hi=>own_pt (h i hi) hK o
theorem resLD{B1 B2:Nat}{a:O0}{n c:Nat}{y:Value}{t t':TypeId}(hy:y=.nilIface∨∃ ty v,y=.iface ty v){tmps:Array Value}(e:tmps.getD 10 undef=P0 B1)(e2:tmps.getD 11 undef=P0 B2) :
 ∀ U,Blk U B1 [.slice a n c] t→Blk U B2 [y] t'→(results Tryz.f20 tmps).run Tryz.prog U=.ok (.tuple #[.slice a n c,y]) U:=by
 intro U h h2
 have c0:=h.cell (i:=0) rfl
 have c1:=h2.cell (i:=0) rfl
 have e':tmps[10]?.getD undef=P0 B1:=by simpa using e
 have a0:tmps[11]?.getD undef=P0 B2:=by simpa using e2
 rcases hy with rfl|⟨ty,v,rfl⟩<;>simp[results,Tryz.results20,go_sem,c0,c1,e',a0]
def BadAt(O:List Int×Int×List Dv)(w:World)(b10 b11:Nat)(V:World):Prop :=
 ∃ ty v bl er,O=(bl,er,[])∧er≠0∧Blk V b10 [S0] 26∧Blk V b11 [.iface ty v] 32∧Va V (bl.map some) (some er) (.iface ty v)∧B3 w V
theorem BadAt.ab{q:Nat→Prop}{O:List Int×Int×List Dv}{w A B:World}{row:Option Nat}{b10 b11 m:Nat}(h:BadAt O w b10 b11 A)(hg:A.grownBy B row)(hr:∀ r,row=some r→m≤r∧∃ o:Obj,A.heap[r]? = some o∧o.isCells=false)(hm:w.heap.size≤m):BadAt O w b10 b11 B:=by
 obtain⟨ty,v,bl,er,h1,h2,k1,k2,hv,hb⟩:=h
 have ht:∀ r,row=some r→∃ o:Obj,A.heap[r]? = some o∧o.isCells=false:=fun r e=>(hr r e).2
 exact⟨ty,v,bl,er,h1,h2,k1.turn hg ht,k2.turn hg ht,hv.turn hg ht,hb.grown hg hb.size (fun r e=>Nat.le_trans hm (hr r e).1)⟩
theorem Tt{A E:List Ent}(h:(Xn 0 0 A E).all Zdc=true):(Xn 0 0 A E).length=A.length∧∀ k x,(Xn 0 0 A E)[k]? = some x→k<A.length∧x=(some k,some k):=by
 obtain⟨_,h2⟩:=Fo A E 0 0 h
 rw[h2]
 refine⟨by simp,fun k x hx=>?_⟩
 rw[List.getElem?_map] at hx
 by_cases hk:k<A.length
 ·rw[List.getElem?_range hk] at hx
  simp only[Option.map_some,Option.some.injEq,Nat.zero_add] at hx
  exact⟨hk,hx.symm⟩
 ·rw[List.getElem?_eq_none (by simp;omega)] at hx;cases hx
theorem Oq{α:Type}{L:List α}{p:α→Bool}{k:Nat}{x:α}(h:(L.take k).all p=true)(hx:L[k]? = some x)(hp:p x=true):(L.take (k+1)).all p=true:=by
 obtain⟨hk,rfl⟩:=List.getElem?_eq_some_iff.1 hx
 rw[List.take_succ_eq_append_getElem hk,List.all_append,h];simpa using hp
theorem dev_sum{l:Bl}{x y:Ent}{data fuel:Int}{sum:Nat}(h:(Di l x y data fuel sum).2=0):sum+(Kz l y data fuel).2.2.length≤16384:=by
 unfold Di at h
 repeat' split at h
 all_goals first|omega|(simp at h;done)|(exact absurd h (by assumption))
theorem Zhf{ga oa i:Nat}{p:O0}(h:p=some ⟨ga,oa,none⟩):Fb ga oa (some i)=.pointer (some (Zo p (i*3))):=by
 subst h
 show Value.pointer (some ⟨ga,oa+3*i,none⟩)=_
 simp[Zo,Addr.add_mid,Nat.mul_comm]
theorem Zbj(Bi b:Nat)(pi:O0)(ni ci:Nat)(l:Bl)(top details data fuel:Int)(w:World)(hI:ImgR Bi b pi ni ci l w)(hfu:fuel≤1000000) :
 C0 20 #[P0 b,V0 top,V0 details,V0 data,V0 fuel] w (LDevsP (Vg l top details data fuel) w):=by
 have jx:=(Uf l details 3 fuel hfu).1
 have ix:=(Uf l top 1 fuel hfu).1
 refine Qr Tryz.func20 rfl ?_
 refine Zet ⟨#[P0 b,V0 top,V0 details,V0 data,V0 fuel,undef,undef,undef,undef,undef,undef,undef,undef,undef,undef,undef,undef,undef,undef,undef,undef,undef,undef,undef,undef,undef,undef,undef,undef,undef,undef,undef,undef,undef,undef,undef,undef,undef,undef,undef,undef,undef,undef,undef,undef,undef,undef,undef,undef,undef,undef,undef,undef,undef,undef,undef,undef,undef,undef,undef,undef,undef,undef,undef,undef,undef,undef,undef,undef,undef,undef,undef,undef,undef,undef,undef,undef,undef,undef,undef,undef,undef,undef,undef,undef,undef,undef,undef,undef,undef,undef,undef,undef,undef,undef,undef,undef],[]⟩ (by kernel_rfl) ?_
 refine wp_seq ?_
 refine wp_region_lit ?_
 refine Xx (by kernel_rfl) (Dj [V0 top] rfl (by kernel_rfl) ?_)
 intro b1 W1 n1
 have g1:=n1.ge (B4 w)
 have hB:=n1.below
 have k1:=n1.blk
 refine Xx (by kernel_rfl) (Dj [V0 details] rfl (by kernel_rfl) ?_)
 intro b2 W2 n2
 have jh:=n2.ne k1
 have g2:=n2.ge hB
 replace hB:=bln hB n2.below
 replace k1:=k1.below n2.below
 have k2:=n2.blk
 refine Xx (by kernel_rfl) (Yt [S0] rfl (by kernel_rfl) ?_)
 intro b3 W3 n3
 have j4:=n3.ne k1
 have j9:=n3.ne k2
 have g3:=n3.ge hB
 replace hB:=bln hB n3.below
 replace k1:=k1.below n3.below
 replace k2:=k2.below n3.below
 have k3:=n3.blk
 refine Xx (by kernel_rfl) (Yt [.nilIface] rfl (by kernel_rfl) ?_)
 intro b4 W4 n4
 have j7:=n4.ne k1
 have k0:=n4.ne k2
 have c8:=n4.ne k3
 have g4:=n4.ge hB
 replace hB:=bln hB n4.below
 replace k1:=k1.below n4.below
 replace k2:=k2.below n4.below
 replace k3:=k3.below n4.below
 have k4:=n4.blk
 refine wpList_nil ?_
 refine wp_seq ?_
 refine wp_region_lit ?_
 refine Yy 1 [(24,P0 b)] (by kernel_rfl) ?_
 refine Xx (by kernel_rfl) (Xr ⟨b2,0,none⟩ (V0 details) rfl (by kernel_rfl) (by kernel_rfl) (k2.cell (i:=0) rfl) ?_)
 refine Yy 1 [(26,V0 fuel)] (by kernel_rfl) ?_
 have ke:w.heap.size≤(W4).heap.size:=hB.size
 refine Xx (by kernel_rfl) (Yd (lb:=#[]) 43 #[P0 b,V0 details,V0 3,V0 fuel] rfl (by kernel_rfl) (fun _ _=>by kernel_rfl) (by kernel_rfl) ((Up Bi b pi ni ci l details 3 fuel _ hfu (hI.below hB)).mono ?_))
 rintro e W5 kr
 rcases kr with ⟨v2,pe,ce,pb,cb,pf,cf,p6,vw,rfl,v5,e2⟩|⟨v2,pd,cd,d8,e5,e4,e1,d9,e0,e3,rfl,v5,hd⟩
 ·refine⟨_,rfl,?_⟩
  replace hB:=bln hB v5
  replace k1:=k1.below v5
  replace k2:=k2.below v5
  replace k3:=k3.below v5
  replace k4:=k4.below v5
  refine Yy 3 [(23,.tuple #[.agg #[.slice pe 0 ce,.slice pb 0 cb,V0 0,V0 0,.slice pf 0 cf],.iface p6 (vw)]),(28,.agg #[.slice pe 0 ce,.slice pb 0 cb,V0 0,V0 0,.slice pf 0 cf]),(29,.iface p6 (vw))] (by kernel_rfl) ?_
  refine Xx (by kernel_rfl) (Yt [S0,S0,V0 0,V0 0,S0] rfl (by kernel_rfl) ?_)
  intro b6 W6 n6
  have ir:=n6.ne k1
  have io:=n6.ne k2
  have dq:=n6.ne k3
  have dk:=n6.ne k4
  have g6:=n6.ge hB
  replace hB:=bln hB n6.below
  replace k3:=k3.below n6.below
  replace k4:=k4.below n6.below
  replace e2:=e2.below n6.below
  have k6:=n6.blk
  refine Xx (by kernel_rfl) (Vu (b:=b6) (off:=0) [.slice pe 0 ce,.slice pb 0 cb,V0 0,V0 0,.slice pf 0 cf] rfl (by kernel_rfl) (by kernel_rfl) (by kernel_rfl) (by first|decide|simp[Value.oneCell']) k6 (by first|decide|simp) ?_)
  intro W7 u7 k7
  change Blk _ _ [.slice pe 0 ce,.slice pb 0 cb,V0 0,V0 0,.slice pf 0 cf] _ at k7
  replace hB:=u7.below hB g6
  replace k3:=u7.blk k3 (Ne.symm (Ne.symm dq))
  replace k4:=u7.blk k4 (Ne.symm (Ne.symm dk))
  replace e2:=e2.only (Zd.of_upd (T:=[108]) u7 k6 (by decide)) (by decide)
  refine Yy 1 [(13,.iface p6 (vw))] (by kernel_rfl) ?_
  refine wpList_nil ?_
  refine wp_seq ?_
  refine wp_seq ?_
  refine wp_region_lit ?_
  refine Yy 2 [(30,.iface p6 (vw)),(31,.bool true)] (by kernel_rfl) ?_
  refine wpList_nil ?_
  refine wp_cond_true (by kernel_rfl) ?_
  refine wp_seq ?_
  refine wp_region_lit ?_
  refine Yy 1 [(32,.iface p6 (vw))] (by kernel_rfl) ?_
  refine Xx (by kernel_rfl) (Xf (v:=S0) (b:=b3) (off:=0) rfl (by kernel_rfl) (by kernel_rfl) (by kernel_rfl) rfl k3 (by first|decide|simp) ?_)
  intro W8 u8 k8
  change Blk _ _ [S0] _ at k8
  replace hB:=u8.below hB g3
  replace k4:=u8.blk k4 (Ne.symm c8)
  replace e2:=e2.only (Zd.of_upd (T:=[26]) u8 k3 (by decide)) (by decide)
  refine Xx (by kernel_rfl) (Xf (v:=.iface p6 (vw)) (b:=b4) (off:=0) rfl (by kernel_rfl) (by kernel_rfl) (by kernel_rfl) rfl k4 (by first|decide|simp) ?_)
  intro W9 u9 k9
  change Blk _ _ [.iface p6 (vw)] _ at k9
  replace hB:=u9.below hB g4
  replace k8:=u9.blk k8 (Ne.symm (Ne.symm c8))
  replace e2:=e2.only (Zd.of_upd (T:=[32]) u9 k4 (by decide)) (by decide)
  refine wpList_nil ?_
  exact wp_ret (ret0 k8 k9 (resLD (.inr ⟨_,_,rfl⟩) (by kernel_rfl) (by kernel_rfl)) rfl (Wo (devsO_d v2) (Bn v2) hB e2))
 ·refine⟨_,rfl,?_⟩
  replace hB:=bln hB v5
  replace k1:=k1.below v5
  replace k2:=k2.below v5
  replace k3:=k3.below v5
  replace k4:=k4.below v5
  replace hd:=Zh hd ke
  refine Yy 3 [(23,.tuple #[.agg #[.slice pd ((Ze l details 3 fuel).es.length) cd,.slice d8 e5 e4,V0 e1,V0 d9,.slice e0 0 e3],.nilIface]),(28,.agg #[.slice pd ((Ze l details 3 fuel).es.length) cd,.slice d8 e5 e4,V0 e1,V0 d9,.slice e0 0 e3]),(29,.nilIface)] (by kernel_rfl) ?_
  refine Xx (by kernel_rfl) (Yt [S0,S0,V0 0,V0 0,S0] rfl (by kernel_rfl) ?_)
  intro d5 mm s7
  have av:=s7.ne k1
  have bq:=s7.ne k2
  have f1:=s7.ne k3
  have f2:=s7.ne k4
  have kk:=s7.ge hB
  replace hB:=bln hB s7.below
  replace k1:=k1.below s7.below
  replace k2:=k2.below s7.below
  replace k3:=k3.below s7.below
  replace k4:=k4.below s7.below
  replace hd:=Zb hd s7.below
  have bx:=s7.blk
  refine Xx (by kernel_rfl) (Vu (b:=d5) (off:=0) [.slice pd ((Ze l details 3 fuel).es.length) cd,.slice d8 e5 e4,V0 e1,V0 d9,.slice e0 0 e3] rfl (by kernel_rfl) (by kernel_rfl) (by kernel_rfl) (by first|decide|simp[Value.oneCell']) bx (by first|decide|simp) ?_)
  intro ky bz j3
  change Blk _ _ [.slice pd ((Ze l details 3 fuel).es.length) cd,.slice d8 e5 e4,V0 e1,V0 d9,.slice e0 0 e3] _ at j3
  replace hB:=bz.below hB kk
  replace k1:=bz.blk k1 (Ne.symm (Ne.symm av))
  replace k2:=bz.blk k2 (Ne.symm (Ne.symm bq))
  replace k3:=bz.blk k3 (Ne.symm (Ne.symm f1))
  replace k4:=bz.blk k4 (Ne.symm (Ne.symm f2))
  replace hd:=bz.own2 hd bx (by decide)
  refine Yy 1 [(13,.nilIface)] (by kernel_rfl) ?_
  refine wpList_nil ?_
  refine wp_seq ?_
  refine wp_seq ?_
  refine wp_region_lit ?_
  refine Yy 2 [(30,.nilIface),(31,.bool false)] (by kernel_rfl) ?_
  refine wpList_nil ?_
  refine wp_cond_false (by kernel_rfl) ?_
  refine wp_skip ?_
  refine wp_seq ?_
  refine wp_region_lit ?_
  refine Yy 1 [(34,P0 b)] (by kernel_rfl) ?_
  refine Xx (by kernel_rfl) (Xr ⟨b1,0,none⟩ (V0 top) rfl (by kernel_rfl) (by kernel_rfl) (k1.cell (i:=0) rfl) ?_)
  refine Yy 1 [(36,V0 fuel)] (by kernel_rfl) ?_
  have gv:w.heap.size≤(ky).heap.size:=hB.size
  refine Xx (by kernel_rfl) (Yd (lb:=#[]) 43 #[P0 b,V0 top,V0 1,V0 fuel] rfl (by kernel_rfl) (fun _ _=>by kernel_rfl) (by kernel_rfl) ((Up Bi b pi ni ci l top 1 fuel _ hfu (hI.below hB)).mono ?_))
  rintro e ms gb
  rcases gb with ⟨w3,pe,ce,pb,cb,pf,cf,p6,vw,rfl,f8,e2⟩|⟨w3,pt,ct,b8,b9,a9,c0,b7,b0,b5,rfl,f8,ht⟩
  ·refine⟨_,rfl,?_⟩
   replace hB:=bln hB f8
   replace k1:=k1.below f8
   replace k2:=k2.below f8
   replace k3:=k3.below f8
   replace k4:=k4.below f8
   replace j3:=j3.below f8
   refine Yy 3 [(33,.tuple #[.agg #[.slice pe 0 ce,.slice pb 0 cb,V0 0,V0 0,.slice pf 0 cf],.iface p6 (vw)]),(38,.agg #[.slice pe 0 ce,.slice pb 0 cb,V0 0,V0 0,.slice pf 0 cf]),(39,.iface p6 (vw))] (by kernel_rfl) ?_
   refine Xx (by kernel_rfl) (Yt [S0,S0,V0 0,V0 0,S0] rfl (by kernel_rfl) ?_)
   intro kb ly v6
   have gt:=v6.ne k1
   have gc:=v6.ne k2
   have aw:=v6.ne k3
   have bc:=v6.ne k4
   have el:=v6.ne j3
   have kv:=v6.ge hB
   replace hB:=bln hB v6.below
   replace k3:=k3.below v6.below
   replace k4:=k4.below v6.below
   replace e2:=e2.below v6.below
   have ip:=v6.blk
   refine Xx (by kernel_rfl) (Vu (b:=kb) (off:=0) [.slice pe 0 ce,.slice pb 0 cb,V0 0,V0 0,.slice pf 0 cf] rfl (by kernel_rfl) (by kernel_rfl) (by kernel_rfl) (by first|decide|simp[Value.oneCell']) ip (by first|decide|simp) ?_)
   intro li fi kp
   change Blk _ _ [.slice pe 0 ce,.slice pb 0 cb,V0 0,V0 0,.slice pf 0 cf] _ at kp
   replace hB:=fi.below hB kv
   replace k3:=fi.blk k3 (Ne.symm (Ne.symm aw))
   replace k4:=fi.blk k4 (Ne.symm (Ne.symm bc))
   replace e2:=e2.only (Zd.of_upd (T:=[108]) fi ip (by decide)) (by decide)
   refine Yy 1 [(13,.iface p6 (vw))] (by kernel_rfl) ?_
   refine wpList_nil ?_
   refine wp_seq ?_
   refine wp_seq ?_
   refine wp_region_lit ?_
   refine Yy 2 [(40,.iface p6 (vw)),(41,.bool true)] (by kernel_rfl) ?_
   refine wpList_nil ?_
   refine wp_cond_true (by kernel_rfl) ?_
   refine wp_seq ?_
   refine wp_region_lit ?_
   refine Yy 1 [(42,.iface p6 (vw))] (by kernel_rfl) ?_
   refine Xx (by kernel_rfl) (Xf (v:=S0) (b:=b3) (off:=0) rfl (by kernel_rfl) (by kernel_rfl) (by kernel_rfl) rfl k3 (by first|decide|simp) ?_)
   intro mw hi dy
   change Blk _ _ [S0] _ at dy
   replace hB:=hi.below hB g3
   replace k4:=hi.blk k4 (Ne.symm c8)
   replace e2:=e2.only (Zd.of_upd (T:=[26]) hi k3 (by decide)) (by decide)
   refine Xx (by kernel_rfl) (Xf (v:=.iface p6 (vw)) (b:=b4) (off:=0) rfl (by kernel_rfl) (by kernel_rfl) (by kernel_rfl) rfl k4 (by first|decide|simp) ?_)
   intro lg gh jc
   change Blk _ _ [.iface p6 (vw)] _ at jc
   replace hB:=gh.below hB g4
   replace dy:=gh.blk dy (Ne.symm (Ne.symm c8))
   replace e2:=e2.only (Zd.of_upd (T:=[32]) gh k4 (by decide)) (by decide)
   refine wpList_nil ?_
   exact wp_ret (ret0 dy jc (resLD (.inr ⟨_,_,rfl⟩) (by kernel_rfl) (by kernel_rfl)) rfl (Wo (devsO_t v2 w3) (Bn w3) hB e2))
  ·refine⟨_,rfl,?_⟩
   replace hB:=bln hB f8
   replace k1:=k1.below f8
   replace k2:=k2.below f8
   replace k3:=k3.below f8
   replace k4:=k4.below f8
   replace j3:=j3.below f8
   replace hd:=Zb hd f8
   replace ht:=Zh ht gv
   refine Yy 3 [(33,.tuple #[.agg #[.slice pt ((Ze l top 1 fuel).es.length) ct,.slice b8 b9 a9,V0 c0,V0 b7,.slice b0 0 b5],.nilIface]),(38,.agg #[.slice pt ((Ze l top 1 fuel).es.length) ct,.slice b8 b9 a9,V0 c0,V0 b7,.slice b0 0 b5]),(39,.nilIface)] (by kernel_rfl) ?_
   refine Xx (by kernel_rfl) (Yt [S0,S0,V0 0,V0 0,S0] rfl (by kernel_rfl) ?_)
   intro e6 ma p9
   have ac:=p9.ne k1
   have al:=p9.ne k2
   have e9:=p9.ne k3
   have f3:=p9.ne k4
   have y0:=p9.ne j3
   have kz:=p9.ge hB
   replace hB:=bln hB p9.below
   replace k1:=k1.below p9.below
   replace k2:=k2.below p9.below
   replace k3:=k3.below p9.below
   replace k4:=k4.below p9.below
   replace j3:=j3.below p9.below
   replace hd:=Zb hd p9.below
   replace ht:=Zb ht p9.below
   have gn:=p9.blk
   refine Xx (by kernel_rfl) (Vu (b:=e6) (off:=0) [.slice pt ((Ze l top 1 fuel).es.length) ct,.slice b8 b9 a9,V0 c0,V0 b7,.slice b0 0 b5] rfl (by kernel_rfl) (by kernel_rfl) (by kernel_rfl) (by first|decide|simp[Value.oneCell']) gn (by first|decide|simp) ?_)
   intro lc z9 cj
   change Blk _ _ [.slice pt ((Ze l top 1 fuel).es.length) ct,.slice b8 b9 a9,V0 c0,V0 b7,.slice b0 0 b5] _ at cj
   replace hB:=z9.below hB kz
   replace k1:=z9.blk k1 (Ne.symm (Ne.symm ac))
   replace k2:=z9.blk k2 (Ne.symm (Ne.symm al))
   replace k3:=z9.blk k3 (Ne.symm (Ne.symm e9))
   replace k4:=z9.blk k4 (Ne.symm (Ne.symm f3))
   replace j3:=z9.blk j3 (Ne.symm (Ne.symm y0))
   replace hd:=z9.own2 hd gn (by decide)
   replace ht:=z9.own2 ht gn (by decide)
   refine Yy 1 [(13,.nilIface)] (by kernel_rfl) ?_
   refine wpList_nil ?_
   refine wp_seq ?_
   refine wp_seq ?_
   refine wp_region_lit ?_
   refine Yy 2 [(40,.nilIface),(41,.bool false)] (by kernel_rfl) ?_
   refine wpList_nil ?_
   refine wp_cond_false (by kernel_rfl) ?_
   refine wp_skip ?_
   refine wp_seq ?_
   refine wp_seq ?_
   refine wp_region_lit ?_
   refine Yy 1 [(43,P0 d5)] (by kernel_rfl) ?_
   refine Xx (by kernel_rfl) (Xr ⟨d5,0,none⟩ (.slice pd ((Ze l details 3 fuel).es.length) cd) rfl (by kernel_rfl) (by kernel_rfl) (j3.cell (i:=0) rfl) ?_)
   refine Yy 2 [(45,V0 (↑((Ze l details 3 fuel).es.length):Int)),(46,.bool (decide ((↑((Ze l details 3 fuel).es.length):Int)>(4096:Int))))] (by kernel_rfl) ?_
   refine wpList_nil ?_
   refine wp_cond_split (t:=decide ((↑((Ze l details 3 fuel).es.length):Int)>(4096:Int))) (by kernel_rfl) (fun t8=>?_) (fun t8=>?_)
   ·have t8:=of_decide_eq_true t8
    refine wp_seq ?_
    refine wp_region_lit ?_
    refine Xx (by kernel_rfl) (Xr ⟨b2,0,none⟩ (V0 details) rfl (by kernel_rfl) (by kernel_rfl) (k2.cell (i:=0) rfl) ?_)
    refine Xx (by kernel_rfl) (Yd (lb:=#[]) 44 #[V0 details,V0 2] rfl (by kernel_rfl) (fun _ _=>by kernel_rfl) (by kernel_rfl) ((Jp details 2 _ (by omega)).mono ?_))
    rintro e lu ⟨cw,iy,rfl,ai,i7⟩
    refine⟨_,rfl,?_⟩
    replace hB:=bln hB ai
    replace k3:=k3.below ai
    replace k4:=k4.below ai
    refine Xx (by kernel_rfl) (Xf (v:=S0) (b:=b3) (off:=0) rfl (by kernel_rfl) (by kernel_rfl) (by kernel_rfl) rfl k3 (by first|decide|simp) ?_)
    intro mg gy eu
    change Blk _ _ [S0] _ at eu
    replace hB:=gy.below hB g3
    replace k4:=gy.blk k4 (Ne.symm c8)
    replace i7:=i7.only (Zd.of_upd (T:=[26]) gy k3 (by decide)) (by decide)
    refine Xx (by kernel_rfl) (Xf (v:=.iface cw (iy)) (b:=b4) (off:=0) rfl (by kernel_rfl) (by kernel_rfl) (by kernel_rfl) rfl k4 (by first|decide|simp) ?_)
    intro mt ha jn
    change Blk _ _ [.iface cw (iy)] _ at jn
    replace hB:=ha.below hB g4
    replace eu:=ha.blk eu (Ne.symm (Ne.symm c8))
    replace i7:=i7.only (Zd.of_upd (T:=[32]) ha k4 (by decide)) (by decide)
    refine wpList_nil ?_
    exact wp_ret (ret0 eu jn (resLD (.inr ⟨_,_,rfl⟩) (by kernel_rfl) (by kernel_rfl)) rfl (Wo (devsO_many v2 w3 (by omega)) (by decide) hB i7))
   ·have t8:=of_decide_eq_false t8
    refine wp_skip ?_
    refine wp_seq ?_
    refine wp_seq ?_
    refine wp_region_lit ?_
    refine Yy 1 [(49,P0 d5)] (by kernel_rfl) ?_
    refine Xx (by kernel_rfl) (Xr ⟨d5,0,none⟩ (.slice pd ((Ze l details 3 fuel).es.length) cd) rfl (by kernel_rfl) (by kernel_rfl) (j3.cell (i:=0) rfl) ?_)
    refine Yy 1 [(51,P0 e6)] (by kernel_rfl) ?_
    refine Xx (by kernel_rfl) (Xr ⟨e6,0,none⟩ (.slice pt ((Ze l top 1 fuel).es.length) ct) rfl (by kernel_rfl) (by kernel_rfl) (cj.cell (i:=0) rfl) ?_)
    have ib:=Zf hd
    have fx:=Zf ht
    have cv:=hB.size
    have ga:=k1.lt
    have gl:=k2.lt
    have gd:=k3.lt
    have hw:=k4.lt
    have dv:=j3.lt
    have fk:=cj.lt
    refine Xx (by kernel_rfl) (Yd (lb:=#[]) 45 #[.slice pd ((Ze l details 3 fuel).es.length) cd,.slice pt ((Ze l top 1 fuel).es.length) ct] rfl (by kernel_rfl) (fun _ _=>by kernel_rfl) (by kernel_rfl) ((Rj pd (Ze l details 3 fuel).es.length cd pt (Ze l top 1 fuel).es.length ct _).mono ?_))
    rintro e bn ⟨p1,q1,rfl,j1,cy,cn,hu,bf,bh⟩
    refine⟨_,rfl,?_⟩
    replace hB:=bln hB j1
    replace k1:=k1.below j1
    replace k2:=k2.below j1
    replace k3:=k3.below j1
    replace k4:=k4.below j1
    replace j3:=j3.below j1
    replace cj:=cj.below j1
    replace hd:=Zb hd j1
    replace ht:=Zb ht j1
    refine wpList_nil ?_
    refine wp_block ?_
    obtain⟨s3,w0,s5,y2,hs,au,bo⟩:=Zc0 (A:=(Ze l details 3 fuel).es) (E:=(Ze l top 1 fuel).es) rfl rfl (by omega) (by omega) ib fx j1 cy cn hu bf bh
    have l2:w.heap.size≤bn.heap.size:=hB.size
    have kh:w.heap.size≤p1:=Nat.le_trans cv cy
    have jw:w.heap.size≤q1:=Nat.le_trans cv cn
    have co:=bf.lt
    have dh:=bh.lt
    have hp:=hB
    have n0:=k1
    have n8:=k2
    have i9:=k3
    have i5:=k4
    have i1:=j3
    have i8:=cj
    have z4:=bf
    have y6:=bh
    have ca:=hd
    have cc:=ht
    have gz:∀ d,(fun d=>d=p1∨d=q1∨((Ze l details 3 fuel).es.length≠0∧d=s3)∨((Ze l top 1 fuel).es.length≠0∧d=s5)) d→d<bn.heap.size:=by
     rintro d (rfl|rfl|⟨h,rfl⟩|⟨h,rfl⟩)
     ·exact co
     ·exact dh
     ·exact(ca.lt _ (by rw[au h];rfl)).2
     ·exact(cc.lt _ (by rw[bo h];rfl)).2
    have jy:∀ d,(fun d=>d=p1∨d=q1∨((Ze l details 3 fuel).es.length≠0∧d=s3)∨((Ze l top 1 fuel).es.length≠0∧d=s5)) d→d∉[b3,b4]:=by
     rintro d (rfl|rfl|⟨h,rfl⟩|⟨h,rfl⟩)<;>simp only[List.mem_cons,List.not_mem_nil,or_false]
     ·omega
     ·omega
     ·rintro(h9|h9)
      ·exact Xh ca i9 (by decide) _ (by rw[au h];rfl) h9
      ·exact Xh ca i5 (by decide) _ (by rw[au h];rfl) h9
     ·rintro(h9|h9)
      ·exact Xh cc i9 (by decide) _ (by rw[bo h];rfl) h9
      ·exact Xh cc i5 (by decide) _ (by rw[bo h];rfl) h9
    refine Zet ⟨#[P0 b,V0 top,V0 details,V0 data,V0 fuel,undef,P0 b1,P0 b2,undef,undef,P0 b3,P0 b4,P0 d5,.nilIface,P0 e6,undef,undef,undef,undef,undef,undef,undef,undef,.tuple #[.agg #[.slice pd ((Ze l details 3 fuel).es.length) cd,.slice d8 e5 e4,V0 e1,V0 d9,.slice e0 0 e3],.nilIface],P0 b,V0 details,V0 fuel,.tuple #[.agg #[.slice pd ((Ze l details 3 fuel).es.length) cd,.slice d8 e5 e4,V0 e1,V0 d9,.slice e0 0 e3],.nilIface],.agg #[.slice pd ((Ze l details 3 fuel).es.length) cd,.slice d8 e5 e4,V0 e1,V0 d9,.slice e0 0 e3],.nilIface,.nilIface,.bool false,undef,.tuple #[.agg #[.slice pt ((Ze l top 1 fuel).es.length) ct,.slice b8 b9 a9,V0 c0,V0 b7,.slice b0 0 b5],.nilIface],P0 b,V0 top,V0 fuel,.tuple #[.agg #[.slice pt ((Ze l top 1 fuel).es.length) ct,.slice b8 b9 a9,V0 c0,V0 b7,.slice b0 0 b5],.nilIface],.agg #[.slice pt ((Ze l top 1 fuel).es.length) ct,.slice b8 b9 a9,V0 c0,V0 b7,.slice b0 0 b5],.nilIface,.nilIface,.bool false,undef,P0 d5,.slice pd ((Ze l details 3 fuel).es.length) cd,V0 (↑((Ze l details 3 fuel).es.length):Int),.bool (decide ((↑((Ze l details 3 fuel).es.length):Int)>(4096:Int))),undef,undef,P0 d5,.slice pd ((Ze l details 3 fuel).es.length) cd,P0 e6,.slice pt ((Ze l top 1 fuel).es.length) ct,.func (.func 83) #[] #[P0 p1,P0 q1],undef,undef,undef,undef,undef,undef,undef,undef,undef,undef,undef,undef,undef,undef,undef,undef,undef,undef,undef,undef,undef,undef,undef,undef,undef,undef,undef,undef,undef,undef,undef,undef,undef,undef,undef,undef,undef,undef,undef,undef,undef,undef,undef],[]⟩ (by kernel_rfl) ?_
    refine Zby (g:=.tmp 53) (gf:=83) (lb:=#[P0 p1,P0 q1]) rfl (enters_of Tryz.func83 (by kernel_rfl) rfl) (fun d=>d=p1∨d=q1∨((Ze l details 3 fuel).es.length≠0∧d=s3)∨((Ze l top 1 fuel).es.length≠0∧d=s5)) (fun d=>d=p1∨d=q1) gz (fun d h=>h.elim (fun q=>q▸co) (fun q=>q▸dh)) hs (fun _=>rfl)
     (fun i V=>B3 w V∧Fr [p1,q1] bn V∧((Xn 0 0 (Ze l details 3 fuel).es (Ze l top 1 fuel).es).take i).all Zdc=true)
     (fun c i V=>c=.ret∧BadAt (Vg l top details data fuel) w b3 b4 V) ?own (fun c k A B gi h hg hr=>⟨h.1,h.2.ab (q:=fun _=>False) hg hr l2⟩) ?start
     (fun x=>{ tmps:=#[P0 b,V0 top,V0 details,V0 data,V0 fuel,undef,P0 b1,P0 b2,undef,undef,P0 b3,P0 b4,P0 d5,.nilIface,P0 e6,(Fb s3 w0 x.1),(Fb s5 y2 x.2),undef,undef,undef,undef,undef,undef,.tuple #[.agg #[.slice pd ((Ze l details 3 fuel).es.length) cd,.slice d8 e5 e4,V0 e1,V0 d9,.slice e0 0 e3],.nilIface],P0 b,V0 details,V0 fuel,.tuple #[.agg #[.slice pd ((Ze l details 3 fuel).es.length) cd,.slice d8 e5 e4,V0 e1,V0 d9,.slice e0 0 e3],.nilIface],.agg #[.slice pd ((Ze l details 3 fuel).es.length) cd,.slice d8 e5 e4,V0 e1,V0 d9,.slice e0 0 e3],.nilIface,.nilIface,.bool false,undef,.tuple #[.agg #[.slice pt ((Ze l top 1 fuel).es.length) ct,.slice b8 b9 a9,V0 c0,V0 b7,.slice b0 0 b5],.nilIface],P0 b,V0 top,V0 fuel,.tuple #[.agg #[.slice pt ((Ze l top 1 fuel).es.length) ct,.slice b8 b9 a9,V0 c0,V0 b7,.slice b0 0 b5],.nilIface],.agg #[.slice pt ((Ze l top 1 fuel).es.length) ct,.slice b8 b9 a9,V0 c0,V0 b7,.slice b0 0 b5],.nilIface,.nilIface,.bool false,undef,P0 d5,.slice pd ((Ze l details 3 fuel).es.length) cd,V0 (↑((Ze l details 3 fuel).es.length):Int),.bool (decide ((↑((Ze l details 3 fuel).es.length):Int)>(4096:Int))),undef,undef,P0 d5,.slice pd ((Ze l details 3 fuel).es.length) cd,P0 e6,.slice pt ((Ze l top 1 fuel).es.length) ct,.func (.func 83) #[] #[P0 p1,P0 q1],(Fb s3 w0 x.1),(Fb s5 y2 x.2),undef,undef,undef,undef,undef,undef,undef,undef,undef,undef,undef,undef,undef,undef,undef,undef,undef,undef,undef,undef,undef,undef,undef,undef,undef,undef,undef,undef,undef,undef,undef,undef,undef,undef,undef,undef,undef,undef,undef,undef,undef],defers:=[] }) ?assign ?body ?done ?stop
    case own =>
     exact fun k A B gi h hg hr=>⟨Iy h.1 hg hr (Nat.le_refl _) l2 (fun r q=>by rcases q with rfl|rfl;exact kh;exact jw),fr_ab h.2.1 hg hr (fun r h=>by rcases h with rfl|rfl<;>simp),h.2.2⟩
    case start =>
     exact⟨hp,Fr.refl _ _,by simp⟩
    case assign =>
     intro lr i x W K hx hK
     refine Zca { tmps:=#[P0 b,V0 top,V0 details,V0 data,V0 fuel,undef,P0 b1,P0 b2,undef,undef,P0 b3,P0 b4,P0 d5,.nilIface,P0 e6,undef,undef,undef,undef,undef,undef,undef,undef,.tuple #[.agg #[.slice pd ((Ze l details 3 fuel).es.length) cd,.slice d8 e5 e4,V0 e1,V0 d9,.slice e0 0 e3],.nilIface],P0 b,V0 details,V0 fuel,.tuple #[.agg #[.slice pd ((Ze l details 3 fuel).es.length) cd,.slice d8 e5 e4,V0 e1,V0 d9,.slice e0 0 e3],.nilIface],.agg #[.slice pd ((Ze l details 3 fuel).es.length) cd,.slice d8 e5 e4,V0 e1,V0 d9,.slice e0 0 e3],.nilIface,.nilIface,.bool false,undef,.tuple #[.agg #[.slice pt ((Ze l top 1 fuel).es.length) ct,.slice b8 b9 a9,V0 c0,V0 b7,.slice b0 0 b5],.nilIface],P0 b,V0 top,V0 fuel,.tuple #[.agg #[.slice pt ((Ze l top 1 fuel).es.length) ct,.slice b8 b9 a9,V0 c0,V0 b7,.slice b0 0 b5],.nilIface],.agg #[.slice pt ((Ze l top 1 fuel).es.length) ct,.slice b8 b9 a9,V0 c0,V0 b7,.slice b0 0 b5],.nilIface,.nilIface,.bool false,undef,P0 d5,.slice pd ((Ze l details 3 fuel).es.length) cd,V0 (↑((Ze l details 3 fuel).es.length):Int),.bool (decide ((↑((Ze l details 3 fuel).es.length):Int)>(4096:Int))),undef,undef,P0 d5,.slice pd ((Ze l details 3 fuel).es.length) cd,P0 e6,.slice pt ((Ze l top 1 fuel).es.length) ct,.func (.func 83) #[] #[P0 p1,P0 q1],(Fb s3 w0 x.1),(Fb s5 y2 x.2),undef,undef,undef,undef,undef,undef,undef,undef,undef,undef,undef,undef,undef,undef,undef,undef,undef,undef,undef,undef,undef,undef,undef,undef,undef,undef,undef,undef,undef,undef,undef,undef,undef,undef,undef,undef,undef,undef,undef,undef,undef],defers:=[] } (by kernel_rfl) ?_
     refine wpIn_seq ?_
     refine Vf (fun⟨_,_,q⟩=>q) (by simp) ?_
     refine Yy 1 [(15,(Fb s3 w0 x.1))] (by kernel_rfl) ?_
     refine wpList_nil ?_
     refine Vf (fun⟨_,_,q⟩=>q) (by simp) ?_
     refine Yy 1 [(16,(Fb s5 y2 x.2))] (by kernel_rfl) ?_
     refine wpList_nil ?_
     exact hK
    case body =>
     rintro lr i x W ki hx ⟨o7,hF,fh⟩
     obtain⟨xa,xb⟩:=x
     rcases xa with _|ja<;>rcases xb with _|jb
     ·
      have g9:w.heap.size≤W.heap.size:=Nat.le_trans l2 hF.size
      have fd:=hI.below o7
      have hZ:RdS bn [b3,b4] W W:=RdS.refl _ hF.size
      have c3:=n0.fr hF (by simp only[List.mem_cons,List.not_mem_nil,or_false];omega)
      have c2:=n8.fr hF (by simp only[List.mem_cons,List.not_mem_nil,or_false];omega)
      have c7:=i9.fr hF (by simp only[List.mem_cons,List.not_mem_nil,or_false];omega)
      have c1:=i5.fr hF (by simp only[List.mem_cons,List.not_mem_nil,or_false];omega)
      have a8:=i1.fr hF (by simp only[List.mem_cons,List.not_mem_nil,or_false];omega)
      have a7:=i8.fr hF (by simp only[List.mem_cons,List.not_mem_nil,or_false];omega)
      refine Zca { tmps:=#[P0 b,V0 top,V0 details,V0 data,V0 fuel,undef,P0 b1,P0 b2,undef,undef,P0 b3,P0 b4,P0 d5,.nilIface,P0 e6,.pointer none,.pointer none,undef,undef,undef,undef,undef,undef,.tuple #[.agg #[.slice pd ((Ze l details 3 fuel).es.length) cd,.slice d8 e5 e4,V0 e1,V0 d9,.slice e0 0 e3],.nilIface],P0 b,V0 details,V0 fuel,.tuple #[.agg #[.slice pd ((Ze l details 3 fuel).es.length) cd,.slice d8 e5 e4,V0 e1,V0 d9,.slice e0 0 e3],.nilIface],.agg #[.slice pd ((Ze l details 3 fuel).es.length) cd,.slice d8 e5 e4,V0 e1,V0 d9,.slice e0 0 e3],.nilIface,.nilIface,.bool false,undef,.tuple #[.agg #[.slice pt ((Ze l top 1 fuel).es.length) ct,.slice b8 b9 a9,V0 c0,V0 b7,.slice b0 0 b5],.nilIface],P0 b,V0 top,V0 fuel,.tuple #[.agg #[.slice pt ((Ze l top 1 fuel).es.length) ct,.slice b8 b9 a9,V0 c0,V0 b7,.slice b0 0 b5],.nilIface],.agg #[.slice pt ((Ze l top 1 fuel).es.length) ct,.slice b8 b9 a9,V0 c0,V0 b7,.slice b0 0 b5],.nilIface,.nilIface,.bool false,undef,P0 d5,.slice pd ((Ze l details 3 fuel).es.length) cd,V0 (↑((Ze l details 3 fuel).es.length):Int),.bool (decide ((↑((Ze l details 3 fuel).es.length):Int)>(4096:Int))),undef,undef,P0 d5,.slice pd ((Ze l details 3 fuel).es.length) cd,P0 e6,.slice pt ((Ze l top 1 fuel).es.length) ct,.func (.func 83) #[] #[P0 p1,P0 q1],.pointer none,.pointer none,undef,undef,undef,undef,undef,undef,undef,undef,undef,undef,undef,undef,undef,undef,undef,undef,undef,undef,undef,undef,undef,undef,undef,undef,undef,undef,undef,undef,undef,undef,undef,undef,undef,undef,undef,undef,undef,undef,undef,undef,undef],defers:=[] } rfl ?_
      refine wpIn_block ?_
      refine wpIn_block ?_
      refine wpIn_seq ?_
      refine Vf (fun⟨_,_,q⟩=>q) (by simp) ?_
      refine Yy 3 [(57,.pointer none),(58,.bool true),(56,.bool true)] (by kernel_rfl) ?_
      refine wpList_nil ?_
      refine wpIn_cond_true (by kernel_rfl) ?_
      refine wpIn_seq ?_
      refine Vf (fun⟨_,_,q⟩=>q) (by simp) ?_
      refine Xx (by kernel_rfl) (Xr ⟨b2,0,none⟩ (V0 details) rfl (by kernel_rfl) (by kernel_rfl) (c2.cell (i:=0) rfl) ?_)
      refine Xx (by kernel_rfl) (Yd (lb:=#[]) 44 #[V0 details,V0 18] rfl (by kernel_rfl) (fun _ _=>by kernel_rfl) (by kernel_rfl) ((Jp details 18 _ (by omega)).mono ?_))
      rintro e mf ⟨da,im,rfl,o0,i7⟩
      refine⟨_,rfl,?_⟩
      have hB:=blB (Below.refl w.heap.size W) g9 o0
      replace c3:=c3.below o0
      replace c2:=c2.below o0
      replace c7:=c7.below o0
      replace c1:=c1.below o0
      replace a8:=a8.below o0
      replace a7:=a7.below o0
      replace hZ:=hZ.below o0
      refine Xx (by kernel_rfl) (Xf (v:=S0) (b:=b3) (off:=0) rfl (by kernel_rfl) (by kernel_rfl) (by kernel_rfl) rfl c7 (by first|decide|simp) ?_)
      intro mu y8 eq
      change Blk _ _ [S0] _ at eq
      replace hB:=y8.below hB g3
      replace c3:=y8.blk c3 (Ne.symm (Ne.symm j4))
      replace c2:=y8.blk c2 (Ne.symm (Ne.symm j9))
      replace c1:=y8.blk c1 (Ne.symm c8)
      replace a8:=y8.blk a8 (Ne.symm f1)
      replace a7:=y8.blk a7 (Ne.symm e9)
      replace hZ:=hZ.upd y8 c7 (.inl (by simp))
      replace i7:=i7.only (Zd.of_upd (T:=[26]) y8 c7 (by decide)) (by decide)
      refine Xx (by kernel_rfl) (Xf (v:=.iface da (im)) (b:=b4) (off:=0) rfl (by kernel_rfl) (by kernel_rfl) (by kernel_rfl) rfl c1 (by first|decide|simp) ?_)
      intro mn y9 ig
      change Blk _ _ [.iface da (im)] _ at ig
      replace hB:=y9.below hB g4
      replace c3:=y9.blk c3 (Ne.symm (Ne.symm j7))
      replace c2:=y9.blk c2 (Ne.symm (Ne.symm k0))
      replace eq:=y9.blk eq (Ne.symm (Ne.symm c8))
      replace a8:=y9.blk a8 (Ne.symm f2)
      replace a7:=y9.blk a7 (Ne.symm f3)
      replace hZ:=hZ.upd y9 c1 (.inl (by simp))
      replace i7:=i7.only (Zd.of_upd (T:=[32]) y9 c1 (by decide)) (by decide)
      refine wpList_nil ?_
      refine wpIn_ret (Xz (Xz ?_))
      exact⟨hZ.ko.from _,rfl,_,_,_,_,(Zgy v2 w3 (by omega) ((Uo _ _ 0 0 i _ fh hx rfl).trans rfl)),(by decide),eq,ig,i7,o7.trans hB⟩
     ·
      have g9:w.heap.size≤W.heap.size:=Nat.le_trans l2 hF.size
      have fd:=hI.below o7
      have hZ:RdS bn [b3,b4] W W:=RdS.refl _ hF.size
      have c3:=n0.fr hF (by simp only[List.mem_cons,List.not_mem_nil,or_false];omega)
      have c2:=n8.fr hF (by simp only[List.mem_cons,List.not_mem_nil,or_false];omega)
      have c7:=i9.fr hF (by simp only[List.mem_cons,List.not_mem_nil,or_false];omega)
      have c1:=i5.fr hF (by simp only[List.mem_cons,List.not_mem_nil,or_false];omega)
      have a8:=i1.fr hF (by simp only[List.mem_cons,List.not_mem_nil,or_false];omega)
      have a7:=i8.fr hF (by simp only[List.mem_cons,List.not_mem_nil,or_false];omega)
      refine Zca { tmps:=#[P0 b,V0 top,V0 details,V0 data,V0 fuel,undef,P0 b1,P0 b2,undef,undef,P0 b3,P0 b4,P0 d5,.nilIface,P0 e6,.pointer none,.pointer (some ⟨s5,y2+3*jb,none⟩),undef,undef,undef,undef,undef,undef,.tuple #[.agg #[.slice pd ((Ze l details 3 fuel).es.length) cd,.slice d8 e5 e4,V0 e1,V0 d9,.slice e0 0 e3],.nilIface],P0 b,V0 details,V0 fuel,.tuple #[.agg #[.slice pd ((Ze l details 3 fuel).es.length) cd,.slice d8 e5 e4,V0 e1,V0 d9,.slice e0 0 e3],.nilIface],.agg #[.slice pd ((Ze l details 3 fuel).es.length) cd,.slice d8 e5 e4,V0 e1,V0 d9,.slice e0 0 e3],.nilIface,.nilIface,.bool false,undef,.tuple #[.agg #[.slice pt ((Ze l top 1 fuel).es.length) ct,.slice b8 b9 a9,V0 c0,V0 b7,.slice b0 0 b5],.nilIface],P0 b,V0 top,V0 fuel,.tuple #[.agg #[.slice pt ((Ze l top 1 fuel).es.length) ct,.slice b8 b9 a9,V0 c0,V0 b7,.slice b0 0 b5],.nilIface],.agg #[.slice pt ((Ze l top 1 fuel).es.length) ct,.slice b8 b9 a9,V0 c0,V0 b7,.slice b0 0 b5],.nilIface,.nilIface,.bool false,undef,P0 d5,.slice pd ((Ze l details 3 fuel).es.length) cd,V0 (↑((Ze l details 3 fuel).es.length):Int),.bool (decide ((↑((Ze l details 3 fuel).es.length):Int)>(4096:Int))),undef,undef,P0 d5,.slice pd ((Ze l details 3 fuel).es.length) cd,P0 e6,.slice pt ((Ze l top 1 fuel).es.length) ct,.func (.func 83) #[] #[P0 p1,P0 q1],.pointer none,.pointer (some ⟨s5,y2+3*jb,none⟩),undef,undef,undef,undef,undef,undef,undef,undef,undef,undef,undef,undef,undef,undef,undef,undef,undef,undef,undef,undef,undef,undef,undef,undef,undef,undef,undef,undef,undef,undef,undef,undef,undef,undef,undef,undef,undef,undef,undef,undef,undef],defers:=[] } rfl ?_
      refine wpIn_block ?_
      refine wpIn_block ?_
      refine wpIn_seq ?_
      refine Vf (fun⟨_,_,q⟩=>q) (by simp) ?_
      refine Yy 3 [(57,.pointer none),(58,.bool true),(56,.bool true)] (by kernel_rfl) ?_
      refine wpList_nil ?_
      refine wpIn_cond_true (by kernel_rfl) ?_
      refine wpIn_seq ?_
      refine Vf (fun⟨_,_,q⟩=>q) (by simp) ?_
      refine Xx (by kernel_rfl) (Xr ⟨b2,0,none⟩ (V0 details) rfl (by kernel_rfl) (by kernel_rfl) (c2.cell (i:=0) rfl) ?_)
      refine Xx (by kernel_rfl) (Yd (lb:=#[]) 44 #[V0 details,V0 18] rfl (by kernel_rfl) (fun _ _=>by kernel_rfl) (by kernel_rfl) ((Jp details 18 _ (by omega)).mono ?_))
      rintro e ls ⟨dd,iu,rfl,m6,i7⟩
      refine⟨_,rfl,?_⟩
      have hB:=blB (Below.refl w.heap.size W) g9 m6
      replace c3:=c3.below m6
      replace c2:=c2.below m6
      replace c7:=c7.below m6
      replace c1:=c1.below m6
      replace a8:=a8.below m6
      replace a7:=a7.below m6
      replace hZ:=hZ.below m6
      refine Xx (by kernel_rfl) (Xf (v:=S0) (b:=b3) (off:=0) rfl (by kernel_rfl) (by kernel_rfl) (by kernel_rfl) rfl c7 (by first|decide|simp) ?_)
      intro mb aa fg
      change Blk _ _ [S0] _ at fg
      replace hB:=aa.below hB g3
      replace c3:=aa.blk c3 (Ne.symm (Ne.symm j4))
      replace c2:=aa.blk c2 (Ne.symm (Ne.symm j9))
      replace c1:=aa.blk c1 (Ne.symm c8)
      replace a8:=aa.blk a8 (Ne.symm f1)
      replace a7:=aa.blk a7 (Ne.symm e9)
      replace hZ:=hZ.upd aa c7 (.inl (by simp))
      replace i7:=i7.only (Zd.of_upd (T:=[26]) aa c7 (by decide)) (by decide)
      refine Xx (by kernel_rfl) (Xf (v:=.iface dd (iu)) (b:=b4) (off:=0) rfl (by kernel_rfl) (by kernel_rfl) (by kernel_rfl) rfl c1 (by first|decide|simp) ?_)
      intro mc z1 jl
      change Blk _ _ [.iface dd (iu)] _ at jl
      replace hB:=z1.below hB g4
      replace c3:=z1.blk c3 (Ne.symm (Ne.symm j7))
      replace c2:=z1.blk c2 (Ne.symm (Ne.symm k0))
      replace fg:=z1.blk fg (Ne.symm (Ne.symm c8))
      replace a8:=z1.blk a8 (Ne.symm f2)
      replace a7:=z1.blk a7 (Ne.symm f3)
      replace hZ:=hZ.upd z1 c1 (.inl (by simp))
      replace i7:=i7.only (Zd.of_upd (T:=[32]) z1 c1 (by decide)) (by decide)
      refine wpList_nil ?_
      refine wpIn_ret (Xz (Xz ?_))
      exact⟨hZ.ko.from _,rfl,_,_,_,_,(Zgy v2 w3 (by omega) ((Uo _ _ 0 0 i _ fh hx rfl).trans rfl)),(by decide),fg,jl,i7,o7.trans hB⟩
     ·
      have g9:w.heap.size≤W.heap.size:=Nat.le_trans l2 hF.size
      have fd:=hI.below o7
      have hZ:RdS bn [b3,b4] W W:=RdS.refl _ hF.size
      have c3:=n0.fr hF (by simp only[List.mem_cons,List.not_mem_nil,or_false];omega)
      have c2:=n8.fr hF (by simp only[List.mem_cons,List.not_mem_nil,or_false];omega)
      have c7:=i9.fr hF (by simp only[List.mem_cons,List.not_mem_nil,or_false];omega)
      have c1:=i5.fr hF (by simp only[List.mem_cons,List.not_mem_nil,or_false];omega)
      have a8:=i1.fr hF (by simp only[List.mem_cons,List.not_mem_nil,or_false];omega)
      have a7:=i8.fr hF (by simp only[List.mem_cons,List.not_mem_nil,or_false];omega)
      refine Zca { tmps:=#[P0 b,V0 top,V0 details,V0 data,V0 fuel,undef,P0 b1,P0 b2,undef,undef,P0 b3,P0 b4,P0 d5,.nilIface,P0 e6,.pointer (some ⟨s3,w0+3*ja,none⟩),.pointer none,undef,undef,undef,undef,undef,undef,.tuple #[.agg #[.slice pd ((Ze l details 3 fuel).es.length) cd,.slice d8 e5 e4,V0 e1,V0 d9,.slice e0 0 e3],.nilIface],P0 b,V0 details,V0 fuel,.tuple #[.agg #[.slice pd ((Ze l details 3 fuel).es.length) cd,.slice d8 e5 e4,V0 e1,V0 d9,.slice e0 0 e3],.nilIface],.agg #[.slice pd ((Ze l details 3 fuel).es.length) cd,.slice d8 e5 e4,V0 e1,V0 d9,.slice e0 0 e3],.nilIface,.nilIface,.bool false,undef,.tuple #[.agg #[.slice pt ((Ze l top 1 fuel).es.length) ct,.slice b8 b9 a9,V0 c0,V0 b7,.slice b0 0 b5],.nilIface],P0 b,V0 top,V0 fuel,.tuple #[.agg #[.slice pt ((Ze l top 1 fuel).es.length) ct,.slice b8 b9 a9,V0 c0,V0 b7,.slice b0 0 b5],.nilIface],.agg #[.slice pt ((Ze l top 1 fuel).es.length) ct,.slice b8 b9 a9,V0 c0,V0 b7,.slice b0 0 b5],.nilIface,.nilIface,.bool false,undef,P0 d5,.slice pd ((Ze l details 3 fuel).es.length) cd,V0 (↑((Ze l details 3 fuel).es.length):Int),.bool (decide ((↑((Ze l details 3 fuel).es.length):Int)>(4096:Int))),undef,undef,P0 d5,.slice pd ((Ze l details 3 fuel).es.length) cd,P0 e6,.slice pt ((Ze l top 1 fuel).es.length) ct,.func (.func 83) #[] #[P0 p1,P0 q1],.pointer (some ⟨s3,w0+3*ja,none⟩),.pointer none,undef,undef,undef,undef,undef,undef,undef,undef,undef,undef,undef,undef,undef,undef,undef,undef,undef,undef,undef,undef,undef,undef,undef,undef,undef,undef,undef,undef,undef,undef,undef,undef,undef,undef,undef,undef,undef,undef,undef,undef,undef],defers:=[] } rfl ?_
      refine wpIn_block ?_
      refine wpIn_block ?_
      refine wpIn_seq ?_
      refine Vf (fun⟨_,_,q⟩=>q) (by simp) ?_
      refine Yy 3 [(57,.pointer (some ⟨s3,w0+3*ja,none⟩)),(58,.bool false),(56,.bool false)] (by kernel_rfl) ?_
      refine wpList_nil ?_
      refine wpIn_cond_false (by kernel_rfl) ?_
      refine wpIn_seq ?_
      refine Vf (fun⟨_,_,q⟩=>q) (by simp) ?_
      refine Yy 3 [(62,.pointer none),(63,.bool true),(61,.bool true)] (by kernel_rfl) ?_
      refine wpList_nil ?_
      refine wpIn_cond_true (by kernel_rfl) ?_
      refine wpIn_seq ?_
      refine Vf (fun⟨_,_,q⟩=>q) (by simp) ?_
      refine Xx (by kernel_rfl) (Xr ⟨b1,0,none⟩ (V0 top) rfl (by kernel_rfl) (by kernel_rfl) (c3.cell (i:=0) rfl) ?_)
      refine Xx (by kernel_rfl) (Yd (lb:=#[]) 44 #[V0 top,V0 18] rfl (by kernel_rfl) (fun _ _=>by kernel_rfl) (by kernel_rfl) ((Jp top 18 _ (by omega)).mono ?_))
      rintro e mp ⟨cz,ii,rfl,o3,i7⟩
      refine⟨_,rfl,?_⟩
      have hB:=blB (Below.refl w.heap.size W) g9 o3
      replace c3:=c3.below o3
      replace c2:=c2.below o3
      replace c7:=c7.below o3
      replace c1:=c1.below o3
      replace a8:=a8.below o3
      replace a7:=a7.below o3
      replace hZ:=hZ.below o3
      refine Xx (by kernel_rfl) (Xf (v:=S0) (b:=b3) (off:=0) rfl (by kernel_rfl) (by kernel_rfl) (by kernel_rfl) rfl c7 (by first|decide|simp) ?_)
      intro mi z3 eh
      change Blk _ _ [S0] _ at eh
      replace hB:=z3.below hB g3
      replace c3:=z3.blk c3 (Ne.symm (Ne.symm j4))
      replace c2:=z3.blk c2 (Ne.symm (Ne.symm j9))
      replace c1:=z3.blk c1 (Ne.symm c8)
      replace a8:=z3.blk a8 (Ne.symm f1)
      replace a7:=z3.blk a7 (Ne.symm e9)
      replace hZ:=hZ.upd z3 c7 (.inl (by simp))
      replace i7:=i7.only (Zd.of_upd (T:=[26]) z3 c7 (by decide)) (by decide)
      refine Xx (by kernel_rfl) (Xf (v:=.iface cz (ii)) (b:=b4) (off:=0) rfl (by kernel_rfl) (by kernel_rfl) (by kernel_rfl) rfl c1 (by first|decide|simp) ?_)
      intro mr z8 jd
      change Blk _ _ [.iface cz (ii)] _ at jd
      replace hB:=z8.below hB g4
      replace c3:=z8.blk c3 (Ne.symm (Ne.symm j7))
      replace c2:=z8.blk c2 (Ne.symm (Ne.symm k0))
      replace eh:=z8.blk eh (Ne.symm (Ne.symm c8))
      replace a8:=z8.blk a8 (Ne.symm f2)
      replace a7:=z8.blk a7 (Ne.symm f3)
      replace hZ:=hZ.upd z8 c1 (.inl (by simp))
      replace i7:=i7.only (Zd.of_upd (T:=[32]) z8 c1 (by decide)) (by decide)
      refine wpList_nil ?_
      refine wpIn_ret (Xz (Xz ?_))
      exact⟨hZ.ko.from _,rfl,_,_,_,_,(devsO_p2 v2 w3 (by omega) ((Uo _ _ 0 0 i _ fh hx rfl).trans rfl)),(by decide),eh,jd,i7,o7.trans hB⟩
     ·
      have g9:w.heap.size≤W.heap.size:=Nat.le_trans l2 hF.size
      have fd:=hI.below o7
      have hZ:RdS bn [b3,b4] W W:=RdS.refl _ hF.size
      have c3:=n0.fr hF (by simp only[List.mem_cons,List.not_mem_nil,or_false];omega)
      have c2:=n8.fr hF (by simp only[List.mem_cons,List.not_mem_nil,or_false];omega)
      have c7:=i9.fr hF (by simp only[List.mem_cons,List.not_mem_nil,or_false];omega)
      have c1:=i5.fr hF (by simp only[List.mem_cons,List.not_mem_nil,or_false];omega)
      have a8:=i1.fr hF (by simp only[List.mem_cons,List.not_mem_nil,or_false];omega)
      have a7:=i8.fr hF (by simp only[List.mem_cons,List.not_mem_nil,or_false];omega)
      refine Zca { tmps:=#[P0 b,V0 top,V0 details,V0 data,V0 fuel,undef,P0 b1,P0 b2,undef,undef,P0 b3,P0 b4,P0 d5,.nilIface,P0 e6,.pointer (some ⟨s3,w0+3*ja,none⟩),.pointer (some ⟨s5,y2+3*jb,none⟩),undef,undef,undef,undef,undef,undef,.tuple #[.agg #[.slice pd ((Ze l details 3 fuel).es.length) cd,.slice d8 e5 e4,V0 e1,V0 d9,.slice e0 0 e3],.nilIface],P0 b,V0 details,V0 fuel,.tuple #[.agg #[.slice pd ((Ze l details 3 fuel).es.length) cd,.slice d8 e5 e4,V0 e1,V0 d9,.slice e0 0 e3],.nilIface],.agg #[.slice pd ((Ze l details 3 fuel).es.length) cd,.slice d8 e5 e4,V0 e1,V0 d9,.slice e0 0 e3],.nilIface,.nilIface,.bool false,undef,.tuple #[.agg #[.slice pt ((Ze l top 1 fuel).es.length) ct,.slice b8 b9 a9,V0 c0,V0 b7,.slice b0 0 b5],.nilIface],P0 b,V0 top,V0 fuel,.tuple #[.agg #[.slice pt ((Ze l top 1 fuel).es.length) ct,.slice b8 b9 a9,V0 c0,V0 b7,.slice b0 0 b5],.nilIface],.agg #[.slice pt ((Ze l top 1 fuel).es.length) ct,.slice b8 b9 a9,V0 c0,V0 b7,.slice b0 0 b5],.nilIface,.nilIface,.bool false,undef,P0 d5,.slice pd ((Ze l details 3 fuel).es.length) cd,V0 (↑((Ze l details 3 fuel).es.length):Int),.bool (decide ((↑((Ze l details 3 fuel).es.length):Int)>(4096:Int))),undef,undef,P0 d5,.slice pd ((Ze l details 3 fuel).es.length) cd,P0 e6,.slice pt ((Ze l top 1 fuel).es.length) ct,.func (.func 83) #[] #[P0 p1,P0 q1],.pointer (some ⟨s3,w0+3*ja,none⟩),.pointer (some ⟨s5,y2+3*jb,none⟩),undef,undef,undef,undef,undef,undef,undef,undef,undef,undef,undef,undef,undef,undef,undef,undef,undef,undef,undef,undef,undef,undef,undef,undef,undef,undef,undef,undef,undef,undef,undef,undef,undef,undef,undef,undef,undef,undef,undef,undef,undef],defers:=[] } rfl ?_
      refine wpIn_block ?_
      refine wpIn_block ?_
      refine wpIn_seq ?_
      refine Vf (fun⟨_,_,q⟩=>q) (by simp) ?_
      refine Yy 3 [(57,.pointer (some ⟨s3,w0+3*ja,none⟩)),(58,.bool false),(56,.bool false)] (by kernel_rfl) ?_
      refine wpList_nil ?_
      refine wpIn_cond_false (by kernel_rfl) ?_
      refine wpIn_seq ?_
      refine Vf (fun⟨_,_,q⟩=>q) (by simp) ?_
      refine Yy 3 [(62,.pointer (some ⟨s5,y2+3*jb,none⟩)),(63,.bool false),(61,.bool false)] (by kernel_rfl) ?_
      refine wpList_nil ?_
      refine wpIn_cond_false (by kernel_rfl) ?_
      refine wpIn_skip ?_
      exact⟨KeepsFrom.refl _ _,Keeps.refl _ _,o7,hF,Oq fh hx rfl⟩
    case stop =>
     rintro D c k V hD hk ⟨rfl,ty,v,bl,er,hO,fz,bx,j3,hv,hb⟩ x2
     have hK:Dfr D V:=x2
     refine wp_ret (Xz (Kb ?_))
     exact ret1 bx j3 hK (resLD (.inr ⟨_,_,rfl⟩) (by kernel_rfl) (by kernel_rfl)) rfl (Wo hO fz (Ly hb hb.size (Nat.le_trans l2 hD) _) (hv.pt hK _))
    case done =>
     rintro D1 W9 jq ⟨kx,y7,ax⟩ x2
     have hK:Dfr D1 W9:=x2;clear x2
     rw[List.take_length] at ax
     have dn:=ax
     have fa:=(Fo _ _ 0 0 ax).1
     have kj:=(pairE_zero fa).1
     have d1:=n0.fr y7 (by simp only[List.mem_cons,List.not_mem_nil,or_false];omega)
     have d3:=n8.fr y7 (by simp only[List.mem_cons,List.not_mem_nil,or_false];omega)
     have d4:=i9.fr y7 (by simp only[List.mem_cons,List.not_mem_nil,or_false];omega)
     have d2:=i5.fr y7 (by simp only[List.mem_cons,List.not_mem_nil,or_false];omega)
     have c4:=i1.fr y7 (by simp only[List.mem_cons,List.not_mem_nil,or_false];omega)
     have c5:=i8.fr y7 (by simp only[List.mem_cons,List.not_mem_nil,or_false];omega)
     have s8:=Sz ca y7 (fun d hd=>by simp only[List.mem_cons,List.not_mem_nil,or_false];rintro(h|h);exact Xh ca z4 (by decide) d hd h;exact Xh ca y6 (by decide) d hd h)
     have s6:=Sz cc y7 (fun d hd=>by simp only[List.mem_cons,List.not_mem_nil,or_false];rintro(h|h);exact Xh cc z4 (by decide) d hd h;exact Xh cc y6 (by decide) d hd h)
     replace hB:=kx
     refine wp_seq ?_
     refine wp_region_lit ?_
     refine Yy 4 [(66,P0 b),(67,V0 data),(68,V0 fuel),(69,.agg #[P0 b,V0 data,V0 fuel,V0 0])] (by kernel_rfl) ?_
     refine Xx (by kernel_rfl) (Dj [P0 b,V0 data,V0 fuel,V0 0] rfl (by kernel_rfl) ?_)
     intro g8 ln m3
     have ak:=m3.ne d1
     have bd:=m3.ne d3
     have bg:=m3.ne d4
     have bu:=m3.ne d2
     have w4:=m3.ne c4
     have y3:=m3.ne c5
     have ka:=m3.ge hB
     replace hB:=bln hB m3.below
     replace d1:=d1.below m3.below
     replace d3:=d3.below m3.below
     replace d4:=d4.below m3.below
     replace d2:=d2.below m3.below
     replace c4:=c4.below m3.below
     replace c5:=c5.below m3.below
     replace s8:=Zb s8 m3.below
     replace s6:=Zb s6 m3.below
     replace hK:=hK.below m3.below
     have s2:=m3.blk
     refine Xx (by kernel_rfl) (Yt [.pointer none] rfl (by kernel_rfl) ?_)
     intro z5 mv j8
     have ba:=j8.ne d1
     have bb:=j8.ne d3
     have l7:=j8.ne d4
     have l8:=j8.ne d2
     have x6:=j8.ne c4
     have x0:=j8.ne c5
     have r9:=j8.ne s2
     have kd:=j8.ge hB
     replace hB:=bln hB j8.below
     replace d1:=d1.below j8.below
     replace d3:=d3.below j8.below
     replace d4:=d4.below j8.below
     replace d2:=d2.below j8.below
     replace c4:=c4.below j8.below
     replace c5:=c5.below j8.below
     replace s2:=s2.below j8.below
     replace s8:=Zb s8 j8.below
     replace s6:=Zb s6 j8.below
     replace hK:=hK.below j8.below
     have ev:=j8.blk
     refine Xx (by kernel_rfl) (Xf (v:=P0 g8) (b:=z5) (off:=0) rfl (by kernel_rfl) (by kernel_rfl) (by kernel_rfl) rfl ev (by first|decide|simp) ?_)
     intro lx u6 z2
     change Blk _ _ [P0 g8] _ at z2
     replace hB:=u6.below hB kd
     replace d1:=u6.blk d1 (Ne.symm (Ne.symm ba))
     replace d3:=u6.blk d3 (Ne.symm (Ne.symm bb))
     replace d4:=u6.blk d4 (Ne.symm (Ne.symm l7))
     replace d2:=u6.blk d2 (Ne.symm (Ne.symm l8))
     replace c4:=u6.blk c4 (Ne.symm (Ne.symm x6))
     replace c5:=u6.blk c5 (Ne.symm (Ne.symm x0))
     replace s2:=u6.blk s2 (Ne.symm (Ne.symm r9))
     replace s8:=u6.own2 s8 ev (by decide)
     replace s6:=u6.own2 s6 ev (by decide)
     replace hK:=hK.upd u6 ev
     refine wpList_nil ?_
     refine wp_seq ?_
     refine wp_region_lit ?_
     refine Xx (by kernel_rfl) (Yt [S0] rfl (by kernel_rfl) ?_)
     intro i6 mq j0
     have p0:=j0.ne d1
     have p8:=j0.ne d3
     have g0:=j0.ne d4
     have g5:=j0.ne d2
     have l3:=j0.ne c4
     have l6:=j0.ne c5
     have r2:=j0.ne s2
     have l9:=j0.ne z2
     have jk:=j0.ge hB
     replace hB:=bln hB j0.below
     replace d1:=d1.below j0.below
     replace d3:=d3.below j0.below
     replace d4:=d4.below j0.below
     replace d2:=d2.below j0.below
     replace c4:=c4.below j0.below
     replace c5:=c5.below j0.below
     replace s2:=s2.below j0.below
     replace z2:=z2.below j0.below
     replace s8:=Zb s8 j0.below
     replace s6:=Zb s6 j0.below
     replace hK:=hK.below j0.below
     have dr:=j0.blk
     refine wpList_nil ?_
     refine wp_seq ?_
     refine wp_seq ?_
     refine wp_region_lit ?_
     refine Yy 1 [(71,P0 d5)] (by kernel_rfl) ?_
     refine Xx (by kernel_rfl) (Xr ⟨d5,0,none⟩ (.slice pd ((Ze l details 3 fuel).es.length) cd) rfl (by kernel_rfl) (by kernel_rfl) (c4.cell (i:=0) rfl) ?_)
     refine Yy 1 [(73,P0 e6)] (by kernel_rfl) ?_
     refine Xx (by kernel_rfl) (Xr ⟨e6,0,none⟩ (.slice pt ((Ze l top 1 fuel).es.length) ct) rfl (by kernel_rfl) (by kernel_rfl) (c5.cell (i:=0) rfl) ?_)
     have gs:=Zf s8
     have hy:=Zf s6
     have cs:=hB.size
     have fp:=d1.lt
     have gm:=d3.lt
     have gj:=d4.lt
     have gp:=d2.lt
     have dt:=c4.lt
     have ek:=c5.lt
     have en:=s2.lt
     have em:=z2.lt
     have ed:=dr.lt
     refine Xx (by kernel_rfl) (Yd (lb:=#[]) 45 #[.slice pd ((Ze l details 3 fuel).es.length) cd,.slice pt ((Ze l top 1 fuel).es.length) ct] rfl (by kernel_rfl) (fun _ _=>by kernel_rfl) (by kernel_rfl) ((Rj pd (Ze l details 3 fuel).es.length cd pt (Ze l top 1 fuel).es.length ct _).mono ?_))
     rintro e bj ⟨p2,q2,rfl,f7,cu,dm,hq,bw,bk⟩
     refine⟨_,rfl,?_⟩
     replace hB:=bln hB f7
     replace d1:=d1.below f7
     replace d3:=d3.below f7
     replace d4:=d4.below f7
     replace d2:=d2.below f7
     replace c4:=c4.below f7
     replace c5:=c5.below f7
     replace s2:=s2.below f7
     replace z2:=z2.below f7
     replace dr:=dr.below f7
     replace s8:=Zb s8 f7
     replace s6:=Zb s6 f7
     replace hK:=hK.below f7
     refine wpList_nil ?_
     refine wp_block ?_
     obtain⟨aj,du,bp,ds,hn,s0,s1⟩:=Zc0 (A:=(Ze l details 3 fuel).es) (E:=(Ze l top 1 fuel).es) rfl rfl (by omega) (by omega) gs hy f7 cu dm hq bw bk
     have m1:w.heap.size≤bj.heap.size:=hB.size
     have km:w.heap.size≤p2:=Nat.le_trans cs cu
     have kf:w.heap.size≤q2:=Nat.le_trans cs dm
     have w6:=bw.lt
     have w7:=bk.lt
     have hl:=hB
     have z7:=d1
     have z0:=d3
     have j6:=d4
     have j5:=d2
     have u0:=c4
     have t5:=c5
     have i3:=s2
     have u5:=z2
     have i2:=dr
     have t3:=bw
     have v0:=bk
     have v9:=s8
     have w1:=s6
     have il:w.heap.size≤g8:=ka
     have q6:b1≠g8:=(Ne.symm (Ne.symm ak))
     have r5:b1≠i6:=(Ne.symm (Ne.symm p0))
     have r8:b2≠g8:=(Ne.symm (Ne.symm bd))
     have r7:b2≠i6:=(Ne.symm (Ne.symm p8))
     have q4:b3≠g8:=(Ne.symm (Ne.symm bg))
     have r1:b3≠i6:=(Ne.symm (Ne.symm g0))
     have q5:b4≠g8:=(Ne.symm (Ne.symm bu))
     have q7:b4≠i6:=(Ne.symm (Ne.symm g5))
     have m5:d5≠g8:=(Ne.symm (Ne.symm w4))
     have m8:d5≠i6:=(Ne.symm (Ne.symm l3))
     have m9:e6≠g8:=(Ne.symm (Ne.symm y3))
     have n5:e6≠i6:=(Ne.symm (Ne.symm l6))
     have o2:z5≠g8:=(Ne.symm r9)
     have o1:z5≠i6:=(Ne.symm (Ne.symm l9))
     have kt:g8≠p2:=by omega
     have kn:g8≠q2:=by omega
     have kq:i6≠p2:=by omega
     have kw:i6≠q2:=by omega
     have bi:∀ d,(fun d=>d=p2∨d=q2∨((Ze l details 3 fuel).es.length≠0∧d=aj)∨((Ze l top 1 fuel).es.length≠0∧d=bp)) d→d<bj.heap.size:=by
      rintro d (rfl|rfl|⟨h,rfl⟩|⟨h,rfl⟩)
      ·exact w6
      ·exact w7
      ·exact(v9.lt _ (by rw[s0 h];rfl)).2
      ·exact(w1.lt _ (by rw[s1 h];rfl)).2
     have dp:∀ d,(fun d=>d=p2∨d=q2∨((Ze l details 3 fuel).es.length≠0∧d=aj)∨((Ze l top 1 fuel).es.length≠0∧d=bp)) d→d∉[b3,b4,g8,i6]:=by
      rintro d (rfl|rfl|⟨h,rfl⟩|⟨h,rfl⟩)<;>simp only[List.mem_cons,List.not_mem_nil,or_false]
      ·omega
      ·omega
      ·rintro(h9|h9|h9|h9)
       ·exact Xh v9 j6 (by decide) _ (by rw[s0 h];rfl) h9
       ·exact Xh v9 j5 (by decide) _ (by rw[s0 h];rfl) h9
       ·exact Xh v9 i3 (by decide) _ (by rw[s0 h];rfl) h9
       ·exact Xh v9 i2 (by decide) _ (by rw[s0 h];rfl) h9
      ·rintro(h9|h9|h9|h9)
       ·exact Xh w1 j6 (by decide) _ (by rw[s1 h];rfl) h9
       ·exact Xh w1 j5 (by decide) _ (by rw[s1 h];rfl) h9
       ·exact Xh w1 i3 (by decide) _ (by rw[s1 h];rfl) h9
       ·exact Xh w1 i2 (by decide) _ (by rw[s1 h];rfl) h9
     have ar:D1<bj.heap.size:=(Array.getElem?_eq_some_iff.1 hK).1
     have fy:D1∉[p2,q2,g8,i6]:=by simp only[List.mem_cons,List.not_mem_nil,or_false];rintro(h9|h9|h9|h9);exact(hK.ne t3) h9.symm;exact(hK.ne v0) h9.symm;exact(hK.ne i3) h9.symm;exact(hK.ne i2) h9.symm
     have gu:=hK
     refine Zet ⟨#[P0 b,V0 top,V0 details,V0 data,V0 fuel,undef,P0 b1,P0 b2,undef,undef,P0 b3,P0 b4,P0 d5,.nilIface,P0 e6,undef,undef,P0 z5,P0 i6,undef,undef,undef,undef,.tuple #[.agg #[.slice pd ((Ze l details 3 fuel).es.length) cd,.slice d8 e5 e4,V0 e1,V0 d9,.slice e0 0 e3],.nilIface],P0 b,V0 details,V0 fuel,.tuple #[.agg #[.slice pd ((Ze l details 3 fuel).es.length) cd,.slice d8 e5 e4,V0 e1,V0 d9,.slice e0 0 e3],.nilIface],.agg #[.slice pd ((Ze l details 3 fuel).es.length) cd,.slice d8 e5 e4,V0 e1,V0 d9,.slice e0 0 e3],.nilIface,.nilIface,.bool false,undef,.tuple #[.agg #[.slice pt ((Ze l top 1 fuel).es.length) ct,.slice b8 b9 a9,V0 c0,V0 b7,.slice b0 0 b5],.nilIface],P0 b,V0 top,V0 fuel,.tuple #[.agg #[.slice pt ((Ze l top 1 fuel).es.length) ct,.slice b8 b9 a9,V0 c0,V0 b7,.slice b0 0 b5],.nilIface],.agg #[.slice pt ((Ze l top 1 fuel).es.length) ct,.slice b8 b9 a9,V0 c0,V0 b7,.slice b0 0 b5],.nilIface,.nilIface,.bool false,undef,P0 d5,.slice pd ((Ze l details 3 fuel).es.length) cd,V0 (↑((Ze l details 3 fuel).es.length):Int),.bool (decide ((↑((Ze l details 3 fuel).es.length):Int)>(4096:Int))),undef,undef,P0 d5,.slice pd ((Ze l details 3 fuel).es.length) cd,P0 e6,.slice pt ((Ze l top 1 fuel).es.length) ct,.func (.func 83) #[] #[P0 p1,P0 q1],undef,undef,undef,undef,undef,undef,undef,undef,undef,undef,undef,undef,P0 b,V0 data,V0 fuel,.agg #[P0 b,V0 data,V0 fuel,V0 0],P0 g8,P0 d5,.slice pd ((Ze l details 3 fuel).es.length) cd,P0 e6,.slice pt ((Ze l top 1 fuel).es.length) ct,.func (.func 83) #[] #[P0 p2,P0 q2],undef,undef,undef,undef,undef,undef,undef,undef,undef,undef,undef,undef,undef,undef,undef,undef,undef,undef,undef,undef,undef],[{ target:=.collected D1,args:=#[] }]⟩ (by kernel_rfl) ?_
     refine Zby (g:=.tmp 75) (gf:=83) (lb:=#[P0 p2,P0 q2]) rfl (enters_of Tryz.func83 (by kernel_rfl) rfl) (fun d=>d=p2∨d=q2∨((Ze l details 3 fuel).es.length≠0∧d=aj)∨((Ze l top 1 fuel).es.length≠0∧d=bp)) (fun d=>d=p2∨d=q2) bi (fun d h=>h.elim (fun q=>q▸w6) (fun q=>q▸w7)) hn (fun _=>rfl)
      (fun i V=>B3 w V∧Fr [p2,q2,g8,i6] bj V∧Blk V g8 [P0 b,V0 data,V0 fuel,V0 (↑(sumL l (Ze l top 1 fuel).es data fuel i):Int)] 118∧(sumL l (Ze l top 1 fuel).es data fuel i)≤16384∧devK l (Ze l details 3 fuel).es (Ze l top 1 fuel).es data fuel i∧∃ (p:O0) (c:Nat) (Z:List Zv),Blk V i6 [.slice p i c] 26∧V.ownsRow bj.heap.size 42 5 (.slice p i c) i (Z.flatMap Zdn)∧Xy bj.heap.size V Z∧Z.length=i∧Z.map Prod.fst=devL l (Ze l details 3 fuel).es (Ze l top 1 fuel).es data fuel i)
      (fun c i V=>c=.ret∧Dfr D1 V∧BadAt (Vg l top details data fuel) w b3 b4 V) ?own (fun c k A B gi h hg hr=>⟨h.1,(hg.block D1 (Array.getElem?_eq_some_iff.1 h.2.1).1 (fun e=>by have:=(hr _ e.symm).1;omega)).trans h.2.1,h.2.2.ab (q:=fun _=>False) hg hr m1⟩) ?start
      (fun x=>{ tmps:=#[P0 b,V0 top,V0 details,V0 data,V0 fuel,undef,P0 b1,P0 b2,undef,undef,P0 b3,P0 b4,P0 d5,.nilIface,P0 e6,undef,undef,P0 z5,P0 i6,(Fb aj du x.1),(Fb bp ds x.2),undef,undef,.tuple #[.agg #[.slice pd ((Ze l details 3 fuel).es.length) cd,.slice d8 e5 e4,V0 e1,V0 d9,.slice e0 0 e3],.nilIface],P0 b,V0 details,V0 fuel,.tuple #[.agg #[.slice pd ((Ze l details 3 fuel).es.length) cd,.slice d8 e5 e4,V0 e1,V0 d9,.slice e0 0 e3],.nilIface],.agg #[.slice pd ((Ze l details 3 fuel).es.length) cd,.slice d8 e5 e4,V0 e1,V0 d9,.slice e0 0 e3],.nilIface,.nilIface,.bool false,undef,.tuple #[.agg #[.slice pt ((Ze l top 1 fuel).es.length) ct,.slice b8 b9 a9,V0 c0,V0 b7,.slice b0 0 b5],.nilIface],P0 b,V0 top,V0 fuel,.tuple #[.agg #[.slice pt ((Ze l top 1 fuel).es.length) ct,.slice b8 b9 a9,V0 c0,V0 b7,.slice b0 0 b5],.nilIface],.agg #[.slice pt ((Ze l top 1 fuel).es.length) ct,.slice b8 b9 a9,V0 c0,V0 b7,.slice b0 0 b5],.nilIface,.nilIface,.bool false,undef,P0 d5,.slice pd ((Ze l details 3 fuel).es.length) cd,V0 (↑((Ze l details 3 fuel).es.length):Int),.bool (decide ((↑((Ze l details 3 fuel).es.length):Int)>(4096:Int))),undef,undef,P0 d5,.slice pd ((Ze l details 3 fuel).es.length) cd,P0 e6,.slice pt ((Ze l top 1 fuel).es.length) ct,.func (.func 83) #[] #[P0 p1,P0 q1],undef,undef,undef,undef,undef,undef,undef,undef,undef,undef,undef,undef,P0 b,V0 data,V0 fuel,.agg #[P0 b,V0 data,V0 fuel,V0 0],P0 g8,P0 d5,.slice pd ((Ze l details 3 fuel).es.length) cd,P0 e6,.slice pt ((Ze l top 1 fuel).es.length) ct,.func (.func 83) #[] #[P0 p2,P0 q2],(Fb aj du x.1),(Fb bp ds x.2),undef,undef,undef,undef,undef,undef,undef,undef,undef,undef,undef,undef,undef,undef,undef,undef,undef,undef,undef],defers:=[] }) ?assign ?body ?done ?stop
     case own =>
      rintro k A B gi ⟨h1,h2,h3,h4,h5,p,c,Z,h6,h7,h8,h9,kg⟩ hg hr
      exact⟨Iy h1 hg hr (Nat.le_refl _) m1 (fun r q=>by rcases q with rfl|rfl;exact km;exact kf),fr_ab h2 hg hr (fun r h=>by rcases h with rfl|rfl<;>simp),Zbn h3 hg hr (fun r q=>by rcases q with rfl|rfl;exact kt;exact kn),h4,h5,p,c,Z,Zbn h6 hg hr (fun r q=>by rcases q with rfl|rfl;exact kq;exact kw),own_ab h7 hg hr (fun r q=>by rcases q with rfl|rfl;exact w6;exact w7),h8.ab hg hr (fun r q=>by rcases q with rfl|rfl;exact w6;exact w7),h9,kg⟩
     case start =>
      exact⟨hl,Fr.refl _ _,s2,Nat.zero_le _,fun j hj=>absurd hj (by omega),none,0,[],dr,World.ownsRow_nil _ _ _ _,Xy.nil _ _,rfl,rfl⟩
     case assign =>
      intro lr i x W K hx hK
      refine Zca { tmps:=#[P0 b,V0 top,V0 details,V0 data,V0 fuel,undef,P0 b1,P0 b2,undef,undef,P0 b3,P0 b4,P0 d5,.nilIface,P0 e6,undef,undef,P0 z5,P0 i6,undef,undef,undef,undef,.tuple #[.agg #[.slice pd ((Ze l details 3 fuel).es.length) cd,.slice d8 e5 e4,V0 e1,V0 d9,.slice e0 0 e3],.nilIface],P0 b,V0 details,V0 fuel,.tuple #[.agg #[.slice pd ((Ze l details 3 fuel).es.length) cd,.slice d8 e5 e4,V0 e1,V0 d9,.slice e0 0 e3],.nilIface],.agg #[.slice pd ((Ze l details 3 fuel).es.length) cd,.slice d8 e5 e4,V0 e1,V0 d9,.slice e0 0 e3],.nilIface,.nilIface,.bool false,undef,.tuple #[.agg #[.slice pt ((Ze l top 1 fuel).es.length) ct,.slice b8 b9 a9,V0 c0,V0 b7,.slice b0 0 b5],.nilIface],P0 b,V0 top,V0 fuel,.tuple #[.agg #[.slice pt ((Ze l top 1 fuel).es.length) ct,.slice b8 b9 a9,V0 c0,V0 b7,.slice b0 0 b5],.nilIface],.agg #[.slice pt ((Ze l top 1 fuel).es.length) ct,.slice b8 b9 a9,V0 c0,V0 b7,.slice b0 0 b5],.nilIface,.nilIface,.bool false,undef,P0 d5,.slice pd ((Ze l details 3 fuel).es.length) cd,V0 (↑((Ze l details 3 fuel).es.length):Int),.bool (decide ((↑((Ze l details 3 fuel).es.length):Int)>(4096:Int))),undef,undef,P0 d5,.slice pd ((Ze l details 3 fuel).es.length) cd,P0 e6,.slice pt ((Ze l top 1 fuel).es.length) ct,.func (.func 83) #[] #[P0 p1,P0 q1],undef,undef,undef,undef,undef,undef,undef,undef,undef,undef,undef,undef,P0 b,V0 data,V0 fuel,.agg #[P0 b,V0 data,V0 fuel,V0 0],P0 g8,P0 d5,.slice pd ((Ze l details 3 fuel).es.length) cd,P0 e6,.slice pt ((Ze l top 1 fuel).es.length) ct,.func (.func 83) #[] #[P0 p2,P0 q2],(Fb aj du x.1),(Fb bp ds x.2),undef,undef,undef,undef,undef,undef,undef,undef,undef,undef,undef,undef,undef,undef,undef,undef,undef,undef,undef],defers:=[] } (by kernel_rfl) ?_
      refine wpIn_seq ?_
      refine Vf (fun⟨_,_,q⟩=>q) (by simp) ?_
      refine Yy 1 [(19,(Fb aj du x.1))] (by kernel_rfl) ?_
      refine wpList_nil ?_
      refine Vf (fun⟨_,_,q⟩=>q) (by simp) ?_
      refine Yy 1 [(20,(Fb bp ds x.2))] (by kernel_rfl) ?_
      refine wpList_nil ?_
      exact hK
     case body =>
      rintro lr i x W ki hx ⟨o7,hF,kl,gg,ad,p,cp,Z,k8,ho,d0,cq,cl⟩
      obtain⟨mj,rfl⟩:=(Tt dn).2 _ _ hx
      have ml:(Ze l details 3 fuel).es.length=(Ze l top 1 fuel).es.length:=kj
      have g9:w.heap.size≤W.heap.size:=Nat.le_trans m1 hF.size
      have fd:=hI.below o7
      have hZ:RdS bj [b3,b4,g8,i6] W W:=RdS.refl _ hF.size
      have a5:=z7.fr hF (by simp only[List.mem_cons,List.not_mem_nil,or_false];rintro(h|h|h|h);omega;omega;exact q6 h;exact r5 h)
      have a6:=z0.fr hF (by simp only[List.mem_cons,List.not_mem_nil,or_false];rintro(h|h|h|h);omega;omega;exact r8 h;exact r7 h)
      have a4:=j6.fr hF (by simp only[List.mem_cons,List.not_mem_nil,or_false];rintro(h|h|h|h);omega;omega;exact q4 h;exact r1 h)
      have a3:=j5.fr hF (by simp only[List.mem_cons,List.not_mem_nil,or_false];rintro(h|h|h|h);omega;omega;exact q5 h;exact q7 h)
      have a2:=u0.fr hF (by simp only[List.mem_cons,List.not_mem_nil,or_false];rintro(h|h|h|h);omega;omega;exact m5 h;exact m8 h)
      have a1:=t5.fr hF (by simp only[List.mem_cons,List.not_mem_nil,or_false];rintro(h|h|h|h);omega;omega;exact m9 h;exact n5 h)
      have a0:=u5.fr hF (by simp only[List.mem_cons,List.not_mem_nil,or_false];rintro(h|h|h|h);omega;omega;exact o2 h;exact o1 h)
      have ea:=Zhf (i:=i) (s0 (by omega))
      have eb:=Zhf (i:=i) (s1 (by omega))
      refine Zca { tmps:=#[P0 b,V0 top,V0 details,V0 data,V0 fuel,undef,P0 b1,P0 b2,undef,undef,P0 b3,P0 b4,P0 d5,.nilIface,P0 e6,undef,undef,P0 z5,P0 i6,.pointer (some (Zo pd (i*3))),.pointer (some (Zo pt (i*3))),undef,undef,.tuple #[.agg #[.slice pd ((Ze l details 3 fuel).es.length) cd,.slice d8 e5 e4,V0 e1,V0 d9,.slice e0 0 e3],.nilIface],P0 b,V0 details,V0 fuel,.tuple #[.agg #[.slice pd ((Ze l details 3 fuel).es.length) cd,.slice d8 e5 e4,V0 e1,V0 d9,.slice e0 0 e3],.nilIface],.agg #[.slice pd ((Ze l details 3 fuel).es.length) cd,.slice d8 e5 e4,V0 e1,V0 d9,.slice e0 0 e3],.nilIface,.nilIface,.bool false,undef,.tuple #[.agg #[.slice pt ((Ze l top 1 fuel).es.length) ct,.slice b8 b9 a9,V0 c0,V0 b7,.slice b0 0 b5],.nilIface],P0 b,V0 top,V0 fuel,.tuple #[.agg #[.slice pt ((Ze l top 1 fuel).es.length) ct,.slice b8 b9 a9,V0 c0,V0 b7,.slice b0 0 b5],.nilIface],.agg #[.slice pt ((Ze l top 1 fuel).es.length) ct,.slice b8 b9 a9,V0 c0,V0 b7,.slice b0 0 b5],.nilIface,.nilIface,.bool false,undef,P0 d5,.slice pd ((Ze l details 3 fuel).es.length) cd,V0 (↑((Ze l details 3 fuel).es.length):Int),.bool (decide ((↑((Ze l details 3 fuel).es.length):Int)>(4096:Int))),undef,undef,P0 d5,.slice pd ((Ze l details 3 fuel).es.length) cd,P0 e6,.slice pt ((Ze l top 1 fuel).es.length) ct,.func (.func 83) #[] #[P0 p1,P0 q1],undef,undef,undef,undef,undef,undef,undef,undef,undef,undef,undef,undef,P0 b,V0 data,V0 fuel,.agg #[P0 b,V0 data,V0 fuel,V0 0],P0 g8,P0 d5,.slice pd ((Ze l details 3 fuel).es.length) cd,P0 e6,.slice pt ((Ze l top 1 fuel).es.length) ct,.func (.func 83) #[] #[P0 p2,P0 q2],.pointer (some (Zo pd (i*3))),.pointer (some (Zo pt (i*3))),undef,undef,undef,undef,undef,undef,undef,undef,undef,undef,undef,undef,undef,undef,undef,undef,undef,undef,undef],defers:=[] } (by simp only[ea,eb]) ?_
      have d7:=Sz v9 hF (fun d hd=>by simp only[List.mem_cons,List.not_mem_nil,or_false];rintro(h|h|h|h);exact Xh v9 t3 (by decide) d hd h;exact Xh v9 v0 (by decide) d hd h;exact Xh v9 i3 (by decide) d hd h;exact Xh v9 i2 (by decide) d hd h)
      have d6:=Sz w1 hF (fun d hd=>by simp only[List.mem_cons,List.not_mem_nil,or_false];rintro(h|h|h|h);exact Xh w1 t3 (by decide) d hd h;exact Xh w1 v0 (by decide) d hd h;exact Xh w1 i3 (by decide) d hd h;exact Xh w1 i2 (by decide) d hd h)
      refine wpIn_block ?_
      refine wpIn_seq ?_
      have hB:=blB (Below.refl w.heap.size W) g9 (Za W)
      replace a5:=a5.below (Za W)
      replace a6:=a6.below (Za W)
      replace a4:=a4.below (Za W)
      replace a3:=a3.below (Za W)
      replace a2:=a2.below (Za W)
      replace a1:=a1.below (Za W)
      replace kl:=kl.below (Za W)
      replace a0:=a0.below (Za W)
      replace k8:=k8.below (Za W)
      replace hZ:=hZ.below (Za W)
      replace d7:=Zb d7 (Za W)
      replace d6:=Zb d6 (Za W)
      replace ho:=Zb ho (Za W)
      replace d0:=d0.below (Za W)
      refine h_regIn (fun V=>Below w.heap.size (W.drew) V∧Zd [118] (W.drew) V) 14 rfl #[false,false,false,false,false,false,false,false,false,false,false,false,false,false] rfl (by kernel_rfl) (fun⟨_,_,q⟩=>q) (by simp) ⟨Below.refl _ _,Zd.refl _ _⟩ ?_
      intro i0
      have t4:=hB
      have fo:=a5
      have fj:=a6
      have ew:=a4
      have dz:=a3
      have dl:=a2
      have ck:=a1
      have dc:=kl
      have v3:=a0
      have df:=k8
      have ah:=d7
      have ay:=d6
      have jr:=ho
      refine h_load 0 13 rfl ⟨z5,0,none⟩ (P0 g8) rfl (by kernel_rfl) (by kernel_rfl) (by kernel_rfl) (fun _ _ _ _ _ h=>h) (by kernel_rfl) rfl (by kernel_rfl) (by kernel_rfl) (fun V hV=>((v3.only hV.2 (by decide)).cell (i:=0) rfl)) i0 ?_
      refine Ze7 [1,2] 11 rfl #[true,true,true,false,false,false,false,false,false,false,false,false,false,false] [(80,.pointer (some (Zo pd (i*3)))),(81,.pointer (some (Zo pd (i*3))))] (by kernel_rfl) (fun _ _ _ _ _ h=>h) (by kernel_rfl) i0 ?_
      refine h_val 3 10 rfl (.agg #[V0 (((Ze l details 3 fuel).es.getD i Zn).1),.string ⟨(((Ze l details 3 fuel).es.getD i Zn).2.1).toArray⟩,V0 (((Ze l details 3 fuel).es.getD i Zn).2.2)]) rfl (by kernel_rfl) (by kernel_rfl) (by kernel_rfl) (fun _ _ _ _ _ h=>h) (by kernel_rfl) (fun V hV=>Ae (k:=i) Qk Zn _ rfl (by kernel_rfl) (Zf (Zi ah hV.2 (by decide))) (by omega) (by decide) Tryz.underlying122 rfl (by kernel_rfl)) i0 ?_
      refine Ze7 [4,5] 8 rfl #[true,true,true,true,true,true,false,false,false,false,false,false,false,false] [(83,.pointer (some (Zo pt (i*3)))),(84,.pointer (some (Zo pt (i*3))))] (by kernel_rfl) (fun _ _ _ _ _ h=>h) (by kernel_rfl) i0 ?_
      refine h_val 6 7 rfl (.agg #[V0 (((Ze l top 1 fuel).es.getD i Zn).1),.string ⟨(((Ze l top 1 fuel).es.getD i Zn).2.1).toArray⟩,V0 (((Ze l top 1 fuel).es.getD i Zn).2.2)]) rfl (by kernel_rfl) (by kernel_rfl) (by kernel_rfl) (fun _ _ _ _ _ h=>h) (by kernel_rfl) (fun V hV=>Ae (k:=i) Qk Zn _ rfl (by kernel_rfl) (Zf (Zi ay hV.2 (by decide))) (by omega) (by decide) Tryz.underlying122 rfl (by kernel_rfl)) i0 ?_
      refine h_two 7 11 6 rfl (by kernel_rfl) rfl rfl (by kernel_rfl) (by kernel_rfl) ?_ ?_
      ·have dg:=kl
       have gq:=Nat.le_trans hF.size hZ.le
       refine Yd (lb:=#[]) 46 #[P0 g8,.agg #[V0 (((Ze l details 3 fuel).es.getD i Zn).1),.string ⟨(((Ze l details 3 fuel).es.getD i Zn).2.1).toArray⟩,V0 (((Ze l details 3 fuel).es.getD i Zn).2.2)],.agg #[V0 (((Ze l top 1 fuel).es.getD i Zn).1),.string ⟨(((Ze l top 1 fuel).es.getD i Zn).2.1).toArray⟩,V0 (((Ze l top 1 fuel).es.getD i Zn).2.2)]] rfl (by kernel_rfl) (fun _ _=>by kernel_rfl) (by kernel_rfl) ((Sx w.heap.size Bi g8 b pi ni ci l data fuel (sumL l (Ze l top 1 fuel).es data fuel i) ((Ze l details 3 fuel).es.getD i Zn) ((Ze l top 1 fuel).es.getD i Zn) _ (hI.below (o7.trans hB)) kl hfu (Hk _ _ _ _ i (by omega)) (Hk _ _ _ _ i (by omega)) gg il (Nat.le_trans g9 hB.size)).mono ?_)
       rintro e ep ia
       rcases ia with ⟨t9,p3,vd,rfl,t7,c9,br,e2⟩|⟨t9,pm,cm,rfl,t7,c9,br,g7,h0⟩
       ·refine⟨_,rfl,?_⟩
        replace hB:=hB.trans t7
        replace a5:=a5.only c9 (by decide)
        replace a6:=a6.only c9 (by decide)
        replace a4:=a4.only c9 (by decide)
        replace a3:=a3.only c9 (by decide)
        replace a2:=a2.only c9 (by decide)
        replace a1:=a1.only c9 (by decide)
        replace a0:=a0.only c9 (by decide)
        replace k8:=k8.only c9 (by decide)
        replace hZ:=hZ.frm br dg (by simp)
        replace d7:=Zi d7 c9 (by decide)
        replace d6:=Zi d6 c9 (by decide)
        replace ho:=Zi ho c9 (by decide)
        replace d0:=d0.only c9 (by decide)
        have v4:Below w.heap.size (W.drew) (ep)∧Zd [118] (W.drew) (ep):=⟨i0.1.trans t7,i0.2.trans c9⟩
        refine⟨v4,?_⟩
        refine Ze7 [8,9,10] 3 rfl #[true,true,true,true,true,true,true,true,true,true,true,false,false,false] [(78,.tuple #[.agg #[V0 0,V0 0,V0 0,V0 0,S0],.iface p3 (vd)]),(87,.agg #[V0 0,V0 0,V0 0,V0 0,S0]),(88,.iface p3 (vd))] (by kernel_rfl) (fun _ _ _ _ _ h=>h) (by kernel_rfl) v4 ?_
        refine Kt 11 2 rfl (by kernel_rfl) rfl (by kernel_rfl) (Yt [V0 0,V0 0,V0 0,V0 0,S0] rfl (by kernel_rfl) ?_)
        intro iq je f9
        have ap:=f9.ne a5
        have bt:=f9.ne a6
        have v1:=f9.ne a4
        have v7:=f9.ne a3
        have x5:=f9.ne a2
        have y4:=f9.ne a1
        have y1:=f9.ne a0
        have y5:=f9.ne k8
        have js:=f9.ge0 hB
        have ae:=Zu ho f9
        have u3:(W.drew).heap.size≤iq:=by have:=v4.1.size;have:=f9.at_;omega
        replace hB:=blB hB g9 f9.below
        replace a5:=a5.below f9.below
        replace a6:=a6.below f9.below
        replace a4:=a4.below f9.below
        replace a3:=a3.below f9.below
        replace a2:=a2.below f9.below
        replace a1:=a1.below f9.below
        replace a0:=a0.below f9.below
        replace k8:=k8.below f9.below
        replace hZ:=hZ.below f9.below
        replace d7:=Zb d7 f9.below
        replace d6:=Zb d6 f9.below
        replace ho:=Zb ho f9.below
        replace d0:=d0.below f9.below
        replace e2:=e2.below f9.below
        have ch:=f9.blk
        have ag:Below w.heap.size (W.drew) (je)∧Zd [118] (W.drew) (je):=⟨blB v4.1 (Nat.le_trans g9 t4.size) f9.below,v4.2.trans (Zd.of_below f9.below)⟩
        refine⟨ag,?_⟩
        refine Kt 12 1 rfl (by kernel_rfl) rfl (by kernel_rfl) (Vu (b:=iq) (off:=0) [V0 0,V0 0,V0 0,V0 0,S0] rfl (by kernel_rfl) (by kernel_rfl) (by kernel_rfl) (by first|decide|simp[Value.oneCell']) ch (by first|decide|simp) ?_)
        intro ju m7 de
        change Blk _ _ [V0 0,V0 0,V0 0,V0 0,S0] _ at de
        replace hB:=m7.below hB (Nat.le_trans g9 js)
        replace a5:=m7.blk a5 (Ne.symm (Ne.symm ap))
        replace a6:=m7.blk a6 (Ne.symm (Ne.symm bt))
        replace a4:=m7.blk a4 (Ne.symm (Ne.symm v1))
        replace a3:=m7.blk a3 (Ne.symm (Ne.symm v7))
        replace a2:=m7.blk a2 (Ne.symm (Ne.symm x5))
        replace a1:=m7.blk a1 (Ne.symm (Ne.symm y4))
        replace a0:=m7.blk a0 (Ne.symm (Ne.symm y1))
        replace k8:=m7.blk k8 (Ne.symm (Ne.symm y5))
        replace hZ:=hZ.upd m7 ch (.inr (Nat.le_trans hF.size u3))
        replace d7:=m7.own2 d7 ch (by decide)
        replace d6:=m7.own2 d6 ch (by decide)
        replace ho:=m7.own3 ho ae
        replace d0:=d0.only (Zd.of_upd (T:=[42]) m7 ch (by decide)) (by decide)
        replace e2:=e2.only (Zd.of_upd (T:=[42]) m7 ch (by decide)) (by decide)
        have cx:Below w.heap.size (W.drew) (ju)∧Zd [118] (W.drew) (ju):=⟨m7.below ag.1 (Nat.le_trans g9 js),Zd.upd_new ag.2 m7 u3⟩
        refine⟨cx,?_⟩
        refine Ze7 [13] 0 rfl #[true,true,true,true,true,true,true,true,true,true,true,true,true,true] [(22,.iface p3 (vd))] (by kernel_rfl) (fun _ _ _ _ _ h=>h) (by kernel_rfl) cx ?_
        refine Nq _ (by kernel_rfl) ?_
        refine wpIn_seq ?_
        refine wpIn_seq ?_
        refine Vf (fun⟨_,_,q⟩=>q) (by simp) ?_
        refine Yy 2 [(89,.iface p3 (vd)),(90,.bool true)] (by kernel_rfl) ?_
        refine wpList_nil ?_
        refine wpIn_cond_true (by kernel_rfl) ?_
        refine wpIn_seq ?_
        refine Vf (fun⟨_,_,q⟩=>q) (by simp) ?_
        refine Yy 1 [(91,.iface p3 (vd))] (by kernel_rfl) ?_
        refine Xx (by kernel_rfl) (Xf (v:=S0) (b:=b3) (off:=0) rfl (by kernel_rfl) (by kernel_rfl) (by kernel_rfl) rfl a4 (by first|decide|simp) ?_)
        intro lv o8 eg
        change Blk _ _ [S0] _ at eg
        replace hB:=o8.below hB g3
        replace a5:=o8.blk a5 (Ne.symm (Ne.symm j4))
        replace a6:=o8.blk a6 (Ne.symm (Ne.symm j9))
        replace a3:=o8.blk a3 (Ne.symm c8)
        replace a2:=o8.blk a2 (Ne.symm f1)
        replace a1:=o8.blk a1 (Ne.symm e9)
        replace a0:=o8.blk a0 (Ne.symm l7)
        replace k8:=o8.blk k8 (Ne.symm g0)
        replace de:=o8.blk de (Ne.symm v1)
        replace hZ:=hZ.upd o8 a4 (.inl (by simp))
        replace d7:=o8.own2 d7 a4 (by decide)
        replace d6:=o8.own2 d6 a4 (by decide)
        replace ho:=o8.own2 ho a4 (by decide)
        replace d0:=d0.only (Zd.of_upd (T:=[26]) o8 a4 (by decide)) (by decide)
        replace e2:=e2.only (Zd.of_upd (T:=[26]) o8 a4 (by decide)) (by decide)
        refine Xx (by kernel_rfl) (Xf (v:=.iface p3 (vd)) (b:=b4) (off:=0) rfl (by kernel_rfl) (by kernel_rfl) (by kernel_rfl) rfl a3 (by first|decide|simp) ?_)
        intro md p4 ij
        change Blk _ _ [.iface p3 (vd)] _ at ij
        replace hB:=p4.below hB g4
        replace a5:=p4.blk a5 (Ne.symm (Ne.symm j7))
        replace a6:=p4.blk a6 (Ne.symm (Ne.symm k0))
        replace eg:=p4.blk eg (Ne.symm (Ne.symm c8))
        replace a2:=p4.blk a2 (Ne.symm f2)
        replace a1:=p4.blk a1 (Ne.symm f3)
        replace a0:=p4.blk a0 (Ne.symm l8)
        replace k8:=p4.blk k8 (Ne.symm g5)
        replace de:=p4.blk de (Ne.symm v7)
        replace hZ:=hZ.upd p4 a3 (.inl (by simp))
        replace d7:=p4.own2 d7 a3 (by decide)
        replace d6:=p4.own2 d6 a3 (by decide)
        replace ho:=p4.own2 ho a3 (by decide)
        replace d0:=d0.only (Zd.of_upd (T:=[32]) p4 a3 (by decide)) (by decide)
        replace e2:=e2.only (Zd.of_upd (T:=[32]) p4 a3 (by decide)) (by decide)
        refine wpList_nil ?_
        refine wpIn_ret (Kb (Xz ?_))
        exact⟨hZ.ko.from _,rfl,hZ.ko.same D1 _ ((hF.block D1 ar fy).trans gu) rfl,_,_,_,_,((Rd v2 w3 (by omega) fa).trans (Fz (i:=i) (by omega) ad t9)),t9,eg,ij,e2,o7.trans hB⟩
       ·refine⟨_,rfl,?_⟩
        replace hB:=hB.trans t7
        replace a5:=a5.only c9 (by decide)
        replace a6:=a6.only c9 (by decide)
        replace a4:=a4.only c9 (by decide)
        replace a3:=a3.only c9 (by decide)
        replace a2:=a2.only c9 (by decide)
        replace a1:=a1.only c9 (by decide)
        replace a0:=a0.only c9 (by decide)
        replace k8:=k8.only c9 (by decide)
        replace hZ:=hZ.frm br dg (by simp)
        replace d7:=Zi d7 c9 (by decide)
        replace d6:=Zi d6 c9 (by decide)
        replace ho:=Zi ho c9 (by decide)
        replace d0:=d0.only c9 (by decide)
        replace h0:=Zh h0 gq
        have u4:Below w.heap.size (W.drew) (ep)∧Zd [118] (W.drew) (ep):=⟨i0.1.trans t7,i0.2.trans c9⟩
        refine⟨u4,?_⟩
        refine Ze7 [8,9,10] 3 rfl #[true,true,true,true,true,true,true,true,true,true,true,false,false,false] [(78,.tuple #[.agg #[V0 (((Ze l details 3 fuel).es.getD i Zn).1),V0 (↑(Qs ((Ze l details 3 fuel).es.getD i Zn).2.1 1):Int),V0 (↑(Qs ((Ze l details 3 fuel).es.getD i Zn).2.1 2):Int),V0 (↑(Qs ((Ze l details 3 fuel).es.getD i Zn).2.1 3):Int),.slice pm ((Kz l ((Ze l top 1 fuel).es.getD i Zn) data fuel).2.2.length) cm],.nilIface]),(87,.agg #[V0 (((Ze l details 3 fuel).es.getD i Zn).1),V0 (↑(Qs ((Ze l details 3 fuel).es.getD i Zn).2.1 1):Int),V0 (↑(Qs ((Ze l details 3 fuel).es.getD i Zn).2.1 2):Int),V0 (↑(Qs ((Ze l details 3 fuel).es.getD i Zn).2.1 3):Int),.slice pm ((Kz l ((Ze l top 1 fuel).es.getD i Zn) data fuel).2.2.length) cm]),(88,.nilIface)] (by kernel_rfl) (fun _ _ _ _ _ h=>h) (by kernel_rfl) u4 ?_
        refine Kt 11 2 rfl (by kernel_rfl) rfl (by kernel_rfl) (Yt [V0 0,V0 0,V0 0,V0 0,S0] rfl (by kernel_rfl) ?_)
        intro gw jv f0
        have bs:=f0.ne a5
        have az:=f0.ne a6
        have af:=f0.ne a4
        have aq:=f0.ne a3
        have x7:=f0.ne a2
        have w5:=f0.ne a1
        have w8:=f0.ne g7
        have x3:=f0.ne a0
        have r0:=f0.ne k8
        have ih:=f0.ge0 hB
        have u2:=Zu ho f0
        have t6:(W.drew).heap.size≤gw:=by have:=u4.1.size;have:=f0.at_;omega
        replace hB:=blB hB g9 f0.below
        replace a5:=a5.below f0.below
        replace a6:=a6.below f0.below
        replace a4:=a4.below f0.below
        replace a3:=a3.below f0.below
        replace a2:=a2.below f0.below
        replace a1:=a1.below f0.below
        replace g7:=g7.below f0.below
        replace a0:=a0.below f0.below
        replace k8:=k8.below f0.below
        replace hZ:=hZ.below f0.below
        replace d7:=Zb d7 f0.below
        replace d6:=Zb d6 f0.below
        replace ho:=Zb ho f0.below
        replace d0:=d0.below f0.below
        replace h0:=Zb h0 f0.below
        have cg:=f0.blk
        have ao:Below w.heap.size (W.drew) (jv)∧Zd [118] (W.drew) (jv):=⟨blB u4.1 (Nat.le_trans g9 t4.size) f0.below,u4.2.trans (Zd.of_below f0.below)⟩
        refine⟨ao,?_⟩
        refine Kt 12 1 rfl (by kernel_rfl) rfl (by kernel_rfl) (Vu (b:=gw) (off:=0) [V0 (((Ze l details 3 fuel).es.getD i Zn).1),V0 (↑(Qs ((Ze l details 3 fuel).es.getD i Zn).2.1 1):Int),V0 (↑(Qs ((Ze l details 3 fuel).es.getD i Zn).2.1 2):Int),V0 (↑(Qs ((Ze l details 3 fuel).es.getD i Zn).2.1 3):Int),.slice pm ((Kz l ((Ze l top 1 fuel).es.getD i Zn) data fuel).2.2.length) cm] rfl (by kernel_rfl) (by kernel_rfl) (by kernel_rfl) (by first|decide|simp[Value.oneCell']) cg (by first|decide|simp) ?_)
        intro jm m4 x4
        change Blk _ _ [V0 (((Ze l details 3 fuel).es.getD i Zn).1),V0 (↑(Qs ((Ze l details 3 fuel).es.getD i Zn).2.1 1):Int),V0 (↑(Qs ((Ze l details 3 fuel).es.getD i Zn).2.1 2):Int),V0 (↑(Qs ((Ze l details 3 fuel).es.getD i Zn).2.1 3):Int),.slice pm ((Kz l ((Ze l top 1 fuel).es.getD i Zn) data fuel).2.2.length) cm] _ at x4
        replace hB:=m4.below hB (Nat.le_trans g9 ih)
        replace a5:=m4.blk a5 (Ne.symm (Ne.symm bs))
        replace a6:=m4.blk a6 (Ne.symm (Ne.symm az))
        replace a4:=m4.blk a4 (Ne.symm (Ne.symm af))
        replace a3:=m4.blk a3 (Ne.symm (Ne.symm aq))
        replace a2:=m4.blk a2 (Ne.symm (Ne.symm x7))
        replace a1:=m4.blk a1 (Ne.symm (Ne.symm w5))
        replace g7:=m4.blk g7 (Ne.symm (Ne.symm w8))
        replace a0:=m4.blk a0 (Ne.symm (Ne.symm x3))
        replace k8:=m4.blk k8 (Ne.symm (Ne.symm r0))
        replace hZ:=hZ.upd m4 cg (.inr (Nat.le_trans hF.size t6))
        replace d7:=m4.own2 d7 cg (by decide)
        replace d6:=m4.own2 d6 cg (by decide)
        replace ho:=m4.own3 ho u2
        replace d0:=d0.only (Zd.of_upd (T:=[42]) m4 cg (by decide)) (by decide)
        replace h0:=m4.own2 h0 cg (by decide)
        have db:Below w.heap.size (W.drew) (jm)∧Zd [118] (W.drew) (jm):=⟨m4.below ao.1 (Nat.le_trans g9 ih),Zd.upd_new ao.2 m4 t6⟩
        refine⟨db,?_⟩
        refine Ze7 [13] 0 rfl #[true,true,true,true,true,true,true,true,true,true,true,true,true,true] [(22,.nilIface)] (by kernel_rfl) (fun _ _ _ _ _ h=>h) (by kernel_rfl) db ?_
        refine Nq _ (by kernel_rfl) ?_
        refine wpIn_seq ?_
        refine wpIn_seq ?_
        refine Vf (fun⟨_,_,q⟩=>q) (by simp) ?_
        refine Yy 2 [(89,.nilIface),(90,.bool false)] (by kernel_rfl) ?_
        refine wpList_nil ?_
        refine wpIn_cond_false (by kernel_rfl) ?_
        refine wpIn_skip ?_
        refine Vf (fun⟨_,_,q⟩=>q) (by simp) ?_
        refine Xx (by kernel_rfl) (Xr ⟨i6,0,none⟩ (.slice p i cp) rfl (by kernel_rfl) (by kernel_rfl) (k8.cell (i:=0) rfl) ?_)
        refine Xx (by kernel_rfl) (Ux (b:=gw) (off:=0) [V0 (((Ze l details 3 fuel).es.getD i Zn).1),V0 (↑(Qs ((Ze l details 3 fuel).es.getD i Zn).2.1 1):Int),V0 (↑(Qs ((Ze l details 3 fuel).es.getD i Zn).2.1 2):Int),V0 (↑(Qs ((Ze l details 3 fuel).es.getD i Zn).2.1 3):Int),.slice pm ((Kz l ((Ze l top 1 fuel).es.getD i Zn) data fuel).2.2.length) cm] _ rfl (by kernel_rfl) Tryz.underlying42 rfl (by kernel_rfl) x4.whole ?_)
        refine Xx (by kernel_rfl) (Yb 42 [V0 (((Ze l details 3 fuel).es.getD i Zn).1),V0 (↑(Qs ((Ze l details 3 fuel).es.getD i Zn).2.1 1):Int),V0 (↑(Qs ((Ze l details 3 fuel).es.getD i Zn).2.1 2):Int),V0 (↑(Qs ((Ze l details 3 fuel).es.getD i Zn).2.1 3):Int),.slice pm ((Kz l ((Ze l top 1 fuel).es.getD i Zn) data fuel).2.2.length) cm] rfl (by kernel_rfl) ?_)
        intro lq lf f5
        have gx:=f5.ne a5
        have ft:=f5.ne a6
        have hm:=f5.ne a4
        have gr:=f5.ne a3
        have dw:=f5.ne a2
        have fm:=f5.ne a1
        have ec:=f5.ne g7
        have ef:=f5.ne a0
        have ez:=f5.ne k8
        have ff:=f5.ne x4
        have lp:=f5.ge0 hB
        have hc:=Zu ho f5
        replace hB:=blB hB g9 f5.below
        replace a5:=a5.below f5.below
        replace a6:=a6.below f5.below
        replace a4:=a4.below f5.below
        replace a3:=a3.below f5.below
        replace a2:=a2.below f5.below
        replace a1:=a1.below f5.below
        replace g7:=g7.below f5.below
        replace a0:=a0.below f5.below
        replace k8:=k8.below f5.below
        replace x4:=x4.below f5.below
        replace hZ:=hZ.below f5.below
        replace d7:=Zb d7 f5.below
        replace d6:=Zb d6 f5.below
        replace ho:=Zb ho f5.below
        replace d0:=d0.below f5.below
        replace h0:=Zb h0 f5.below
        have kc:=f5.blk
        refine Xx (by kernel_rfl) (Xd (e:=42) (n:=i) (xs:=(Z.flatMap Zdn)) (m:=1) (news:=[V0 (((Ze l details 3 fuel).es.getD i Zn).1),V0 (↑(Qs ((Ze l details 3 fuel).es.getD i Zn).2.1 1):Int),V0 (↑(Qs ((Ze l details 3 fuel).es.getD i Zn).2.1 2):Int),V0 (↑(Qs ((Ze l details 3 fuel).es.getD i Zn).2.1 3):Int),.slice pm ((Kz l ((Ze l top 1 fuel).es.getD i Zn) data fuel).2.2.length) cm]) (.agg #[V0 0,V0 0,V0 0,V0 0,S0]) 5 56 (i+1) (((Z++[(devX l ((Ze l details 3 fuel).es.getD i Zn) ((Ze l top 1 fuel).es.getD i Zn) data fuel,pm,cm)]).flatMap Zdn)) rfl Tryz.underlying26 (by kernel_rfl) rfl (by decide) (by kernel_rfl) ho (by kernel_rfl) (kc.sl 1 1 (by decide) (by decide)) rfl (by simp[Value.oneCell']) (by unfold maxLen;omega) (by omega) (Nat.le_trans hZ.l0 hZ.le) (rfl) (by rw[List.flatMap_append];rfl) ?_)
        intro ie jf ll fq e8 hf
        replace a5:=a5.grown e8 ho (by decide)
        replace a6:=a6.grown e8 ho (by decide)
        replace a4:=a4.grown e8 ho (by decide)
        replace a3:=a3.grown e8 ho (by decide)
        replace a2:=a2.grown e8 ho (by decide)
        replace a1:=a1.grown e8 ho (by decide)
        replace g7:=g7.grown e8 ho (by decide)
        replace a0:=a0.grown e8 ho (by decide)
        replace k8:=k8.grown e8 ho (by decide)
        replace x4:=x4.grown3 e8 u2
        replace hZ:=hZ.grown e8 ho
        replace d7:=Zr d7 e8 ho (by decide)
        replace d6:=Zr d6 e8 ho (by decide)
        replace d0:=d0.only (Zd.of_grown (T:=[42]) e8 ho (by decide)) (by decide)
        replace h0:=Zr h0 e8 ho (by decide)
        replace hB:=hB.trans (hf.mono m1)
        refine Xx (by kernel_rfl) (Xf (v:=.slice ie (i+1) jf) (b:=i6) (off:=0) rfl (by kernel_rfl) (by kernel_rfl) (by kernel_rfl) rfl k8 (by first|decide|simp) ?_)
        intro lj o6 jp
        change Blk _ _ [.slice ie (i+1) jf] _ at jp
        replace hB:=o6.below hB jk
        replace a5:=o6.blk a5 (Ne.symm (Ne.symm p0))
        replace a6:=o6.blk a6 (Ne.symm (Ne.symm p8))
        replace a4:=o6.blk a4 (Ne.symm (Ne.symm g0))
        replace a3:=o6.blk a3 (Ne.symm (Ne.symm g5))
        replace a2:=o6.blk a2 (Ne.symm (Ne.symm l3))
        replace a1:=o6.blk a1 (Ne.symm (Ne.symm l6))
        replace g7:=o6.blk g7 (Ne.symm (Ne.symm r2))
        replace a0:=o6.blk a0 (Ne.symm (Ne.symm l9))
        replace x4:=o6.blk x4 (Ne.symm r0)
        replace hZ:=hZ.upd o6 k8 (.inl (by simp))
        replace d7:=o6.own2 d7 k8 (by decide)
        replace d6:=o6.own2 d6 k8 (by decide)
        replace d0:=d0.only (Zd.of_upd (T:=[26]) o6 k8 (by decide)) (by decide)
        replace h0:=o6.own2 h0 k8 (by decide)
        replace fq:=o6.own2 fq k8 (by decide)
        refine wpList_nil ?_
        exact⟨hZ.ko.from _,⟨hZ.le,fun d hd=>hZ.fr d (bi d hd) (dp d hd)⟩,o7.trans hB,fr_join hF hZ (fun k hk=>by simp only[List.mem_cons,List.not_mem_nil,or_false] at hk ⊢;rcases hk with rfl|rfl|rfl|rfl;exact .inr ((show _=_ from a4).trans (show _=_ from j6).symm);exact .inr ((show _=_ from a3).trans (show _=_ from j5).symm);exact .inl (by simp);exact .inl (by simp)),g7,dev_sum t9,Fp ad t9,_,_,_,jp,fq,(d0.snoc (d:=devX l ((Ze l details 3 fuel).es.getD i Zn) ((Ze l top 1 fuel).es.getD i Zn) data fuel) rfl h0),by simp[cq],by rw[List.map_append,cl,Ft];rfl⟩
      ·refine Yt [V0 0,V0 0,V0 0,V0 0,S0] rfl (by kernel_rfl) ?_
       intro ej iw f6
       have u1:=f6.ne a5
       have t1:=f6.ne a6
       have o9:=f6.ne a4
       have p5:=f6.ne a3
       have r6:=f6.ne a2
       have r3:=f6.ne a1
       have x8:=f6.ne kl
       have q8:=f6.ne a0
       have l5:=f6.ne k8
       have ey:=f6.ge0 hB
       have q3:=Zu ho f6
       have k5:(W.drew).heap.size≤ej:=by have:=i0.1.size;have:=f6.at_;omega
       replace hB:=blB hB g9 f6.below
       replace a5:=a5.below f6.below
       replace a6:=a6.below f6.below
       replace a4:=a4.below f6.below
       replace a3:=a3.below f6.below
       replace a2:=a2.below f6.below
       replace a1:=a1.below f6.below
       replace kl:=kl.below f6.below
       replace a0:=a0.below f6.below
       replace k8:=k8.below f6.below
       replace hZ:=hZ.below f6.below
       replace d7:=Zb d7 f6.below
       replace d6:=Zb d6 f6.below
       replace ho:=Zb ho f6.below
       replace d0:=d0.below f6.below
       have o5:=f6.blk
       have v8:Below w.heap.size (W.drew) (iw)∧Zd [118] (W.drew) (iw):=⟨blB i0.1 (Nat.le_trans g9 t4.size) f6.below,i0.2.trans (Zd.of_below f6.below)⟩
       refine⟨v8,?_⟩
       have dg:=kl
       have gq:=Nat.le_trans hF.size hZ.le
       refine Kt 7 5 rfl (by kernel_rfl) rfl (by kernel_rfl) (Yd (lb:=#[]) 46 #[P0 g8,.agg #[V0 (((Ze l details 3 fuel).es.getD i Zn).1),.string ⟨(((Ze l details 3 fuel).es.getD i Zn).2.1).toArray⟩,V0 (((Ze l details 3 fuel).es.getD i Zn).2.2)],.agg #[V0 (((Ze l top 1 fuel).es.getD i Zn).1),.string ⟨(((Ze l top 1 fuel).es.getD i Zn).2.1).toArray⟩,V0 (((Ze l top 1 fuel).es.getD i Zn).2.2)]] rfl (by kernel_rfl) (fun _ _=>by kernel_rfl) (by kernel_rfl) ((Sx w.heap.size Bi g8 b pi ni ci l data fuel (sumL l (Ze l top 1 fuel).es data fuel i) ((Ze l details 3 fuel).es.getD i Zn) ((Ze l top 1 fuel).es.getD i Zn) _ (hI.below (o7.trans hB)) kl hfu (Hk _ _ _ _ i (by omega)) (Hk _ _ _ _ i (by omega)) gg il (Nat.le_trans g9 hB.size)).mono ?_))
       rintro e fb fw
       rcases fw with ⟨t9,p3,vd,rfl,t2,c6,bm,e2⟩|⟨t9,pm,cm,rfl,t2,c6,bm,j2,h0⟩
       ·refine⟨_,rfl,?_⟩
        replace hB:=hB.trans t2
        replace a5:=a5.only c6 (by decide)
        replace a6:=a6.only c6 (by decide)
        replace a4:=a4.only c6 (by decide)
        replace a3:=a3.only c6 (by decide)
        replace a2:=a2.only c6 (by decide)
        replace a1:=a1.only c6 (by decide)
        replace a0:=a0.only c6 (by decide)
        replace k8:=k8.only c6 (by decide)
        replace o5:=o5.only c6 (by decide)
        replace hZ:=hZ.frm bm dg (by simp)
        replace d7:=Zi d7 c6 (by decide)
        replace d6:=Zi d6 c6 (by decide)
        replace ho:=Zi ho c6 (by decide)
        replace d0:=d0.only c6 (by decide)
        have x9:Below w.heap.size (W.drew) (fb)∧Zd [118] (W.drew) (fb):=⟨v8.1.trans t2,v8.2.trans c6⟩
        refine⟨x9,?_⟩
        refine Ze7 [8,9,10] 2 rfl #[true,true,true,true,true,true,true,true,true,true,true,true,false,false] [(78,.tuple #[.agg #[V0 0,V0 0,V0 0,V0 0,S0],.iface p3 (vd)]),(87,.agg #[V0 0,V0 0,V0 0,V0 0,S0]),(88,.iface p3 (vd))] (by kernel_rfl) (fun _ _ _ _ _ h=>h) (by kernel_rfl) x9 ?_
        refine Kt 12 1 rfl (by kernel_rfl) rfl (by kernel_rfl) (Vu (b:=ej) (off:=0) [V0 0,V0 0,V0 0,V0 0,S0] rfl (by kernel_rfl) (by kernel_rfl) (by kernel_rfl) (by first|decide|simp[Value.oneCell']) o5 (by first|decide|simp) ?_)
        intro jo n9 cr
        change Blk _ _ [V0 0,V0 0,V0 0,V0 0,S0] _ at cr
        replace hB:=n9.below hB (Nat.le_trans g9 ey)
        replace a5:=n9.blk a5 (Ne.symm (Ne.symm u1))
        replace a6:=n9.blk a6 (Ne.symm (Ne.symm t1))
        replace a4:=n9.blk a4 (Ne.symm (Ne.symm o9))
        replace a3:=n9.blk a3 (Ne.symm (Ne.symm p5))
        replace a2:=n9.blk a2 (Ne.symm (Ne.symm r6))
        replace a1:=n9.blk a1 (Ne.symm (Ne.symm r3))
        replace a0:=n9.blk a0 (Ne.symm (Ne.symm q8))
        replace k8:=n9.blk k8 (Ne.symm (Ne.symm l5))
        replace hZ:=hZ.upd n9 o5 (.inr (Nat.le_trans hF.size k5))
        replace d7:=n9.own2 d7 o5 (by decide)
        replace d6:=n9.own2 d6 o5 (by decide)
        replace ho:=n9.own3 ho q3
        replace d0:=d0.only (Zd.of_upd (T:=[42]) n9 o5 (by decide)) (by decide)
        replace e2:=e2.only (Zd.of_upd (T:=[42]) n9 o5 (by decide)) (by decide)
        have di:Below w.heap.size (W.drew) (jo)∧Zd [118] (W.drew) (jo):=⟨n9.below x9.1 (Nat.le_trans g9 ey),Zd.upd_new x9.2 n9 k5⟩
        refine⟨di,?_⟩
        refine Ze7 [13] 0 rfl #[true,true,true,true,true,true,true,true,true,true,true,true,true,true] [(22,.iface p3 (vd))] (by kernel_rfl) (fun _ _ _ _ _ h=>h) (by kernel_rfl) di ?_
        refine Nq _ (by kernel_rfl) ?_
        refine wpIn_seq ?_
        refine wpIn_seq ?_
        refine Vf (fun⟨_,_,q⟩=>q) (by simp) ?_
        refine Yy 2 [(89,.iface p3 (vd)),(90,.bool true)] (by kernel_rfl) ?_
        refine wpList_nil ?_
        refine wpIn_cond_true (by kernel_rfl) ?_
        refine wpIn_seq ?_
        refine Vf (fun⟨_,_,q⟩=>q) (by simp) ?_
        refine Yy 1 [(91,.iface p3 (vd))] (by kernel_rfl) ?_
        refine Xx (by kernel_rfl) (Xf (v:=S0) (b:=b3) (off:=0) rfl (by kernel_rfl) (by kernel_rfl) (by kernel_rfl) rfl a4 (by first|decide|simp) ?_)
        intro ld p7 et
        change Blk _ _ [S0] _ at et
        replace hB:=p7.below hB g3
        replace a5:=p7.blk a5 (Ne.symm (Ne.symm j4))
        replace a6:=p7.blk a6 (Ne.symm (Ne.symm j9))
        replace a3:=p7.blk a3 (Ne.symm c8)
        replace a2:=p7.blk a2 (Ne.symm f1)
        replace a1:=p7.blk a1 (Ne.symm e9)
        replace a0:=p7.blk a0 (Ne.symm l7)
        replace k8:=p7.blk k8 (Ne.symm g0)
        replace cr:=p7.blk cr (Ne.symm o9)
        replace hZ:=hZ.upd p7 a4 (.inl (by simp))
        replace d7:=p7.own2 d7 a4 (by decide)
        replace d6:=p7.own2 d6 a4 (by decide)
        replace ho:=p7.own2 ho a4 (by decide)
        replace d0:=d0.only (Zd.of_upd (T:=[26]) p7 a4 (by decide)) (by decide)
        replace e2:=e2.only (Zd.of_upd (T:=[26]) p7 a4 (by decide)) (by decide)
        refine Xx (by kernel_rfl) (Xf (v:=.iface p3 (vd)) (b:=b4) (off:=0) rfl (by kernel_rfl) (by kernel_rfl) (by kernel_rfl) rfl a3 (by first|decide|simp) ?_)
        intro lw q0 jg
        change Blk _ _ [.iface p3 (vd)] _ at jg
        replace hB:=q0.below hB g4
        replace a5:=q0.blk a5 (Ne.symm (Ne.symm j7))
        replace a6:=q0.blk a6 (Ne.symm (Ne.symm k0))
        replace et:=q0.blk et (Ne.symm (Ne.symm c8))
        replace a2:=q0.blk a2 (Ne.symm f2)
        replace a1:=q0.blk a1 (Ne.symm f3)
        replace a0:=q0.blk a0 (Ne.symm l8)
        replace k8:=q0.blk k8 (Ne.symm g5)
        replace cr:=q0.blk cr (Ne.symm p5)
        replace hZ:=hZ.upd q0 a3 (.inl (by simp))
        replace d7:=q0.own2 d7 a3 (by decide)
        replace d6:=q0.own2 d6 a3 (by decide)
        replace ho:=q0.own2 ho a3 (by decide)
        replace d0:=d0.only (Zd.of_upd (T:=[32]) q0 a3 (by decide)) (by decide)
        replace e2:=e2.only (Zd.of_upd (T:=[32]) q0 a3 (by decide)) (by decide)
        refine wpList_nil ?_
        refine wpIn_ret (Kb (Xz ?_))
        exact⟨hZ.ko.from _,rfl,hZ.ko.same D1 _ ((hF.block D1 ar fy).trans gu) rfl,_,_,_,_,((Rd v2 w3 (by omega) fa).trans (Fz (i:=i) (by omega) ad t9)),t9,et,jg,e2,o7.trans hB⟩
       ·refine⟨_,rfl,?_⟩
        replace hB:=hB.trans t2
        replace a5:=a5.only c6 (by decide)
        replace a6:=a6.only c6 (by decide)
        replace a4:=a4.only c6 (by decide)
        replace a3:=a3.only c6 (by decide)
        replace a2:=a2.only c6 (by decide)
        replace a1:=a1.only c6 (by decide)
        replace a0:=a0.only c6 (by decide)
        replace k8:=k8.only c6 (by decide)
        replace o5:=o5.only c6 (by decide)
        replace hZ:=hZ.frm bm dg (by simp)
        replace d7:=Zi d7 c6 (by decide)
        replace d6:=Zi d6 c6 (by decide)
        replace ho:=Zi ho c6 (by decide)
        replace d0:=d0.only c6 (by decide)
        replace h0:=Zh h0 gq
        have w9:Below w.heap.size (W.drew) (fb)∧Zd [118] (W.drew) (fb):=⟨v8.1.trans t2,v8.2.trans c6⟩
        refine⟨w9,?_⟩
        refine Ze7 [8,9,10] 2 rfl #[true,true,true,true,true,true,true,true,true,true,true,true,false,false] [(78,.tuple #[.agg #[V0 (((Ze l details 3 fuel).es.getD i Zn).1),V0 (↑(Qs ((Ze l details 3 fuel).es.getD i Zn).2.1 1):Int),V0 (↑(Qs ((Ze l details 3 fuel).es.getD i Zn).2.1 2):Int),V0 (↑(Qs ((Ze l details 3 fuel).es.getD i Zn).2.1 3):Int),.slice pm ((Kz l ((Ze l top 1 fuel).es.getD i Zn) data fuel).2.2.length) cm],.nilIface]),(87,.agg #[V0 (((Ze l details 3 fuel).es.getD i Zn).1),V0 (↑(Qs ((Ze l details 3 fuel).es.getD i Zn).2.1 1):Int),V0 (↑(Qs ((Ze l details 3 fuel).es.getD i Zn).2.1 2):Int),V0 (↑(Qs ((Ze l details 3 fuel).es.getD i Zn).2.1 3):Int),.slice pm ((Kz l ((Ze l top 1 fuel).es.getD i Zn) data fuel).2.2.length) cm]),(88,.nilIface)] (by kernel_rfl) (fun _ _ _ _ _ h=>h) (by kernel_rfl) w9 ?_
        refine Kt 12 1 rfl (by kernel_rfl) rfl (by kernel_rfl) (Vu (b:=ej) (off:=0) [V0 (((Ze l details 3 fuel).es.getD i Zn).1),V0 (↑(Qs ((Ze l details 3 fuel).es.getD i Zn).2.1 1):Int),V0 (↑(Qs ((Ze l details 3 fuel).es.getD i Zn).2.1 2):Int),V0 (↑(Qs ((Ze l details 3 fuel).es.getD i Zn).2.1 3):Int),.slice pm ((Kz l ((Ze l top 1 fuel).es.getD i Zn) data fuel).2.2.length) cm] rfl (by kernel_rfl) (by kernel_rfl) (by kernel_rfl) (by first|decide|simp[Value.oneCell']) o5 (by first|decide|simp) ?_)
        intro jj m2 x1
        change Blk _ _ [V0 (((Ze l details 3 fuel).es.getD i Zn).1),V0 (↑(Qs ((Ze l details 3 fuel).es.getD i Zn).2.1 1):Int),V0 (↑(Qs ((Ze l details 3 fuel).es.getD i Zn).2.1 2):Int),V0 (↑(Qs ((Ze l details 3 fuel).es.getD i Zn).2.1 3):Int),.slice pm ((Kz l ((Ze l top 1 fuel).es.getD i Zn) data fuel).2.2.length) cm] _ at x1
        replace hB:=m2.below hB (Nat.le_trans g9 ey)
        replace a5:=m2.blk a5 (Ne.symm (Ne.symm u1))
        replace a6:=m2.blk a6 (Ne.symm (Ne.symm t1))
        replace a4:=m2.blk a4 (Ne.symm (Ne.symm o9))
        replace a3:=m2.blk a3 (Ne.symm (Ne.symm p5))
        replace a2:=m2.blk a2 (Ne.symm (Ne.symm r6))
        replace a1:=m2.blk a1 (Ne.symm (Ne.symm r3))
        replace j2:=m2.blk j2 (Ne.symm (Ne.symm x8))
        replace a0:=m2.blk a0 (Ne.symm (Ne.symm q8))
        replace k8:=m2.blk k8 (Ne.symm (Ne.symm l5))
        replace hZ:=hZ.upd m2 o5 (.inr (Nat.le_trans hF.size k5))
        replace d7:=m2.own2 d7 o5 (by decide)
        replace d6:=m2.own2 d6 o5 (by decide)
        replace ho:=m2.own3 ho q3
        replace d0:=d0.only (Zd.of_upd (T:=[42]) m2 o5 (by decide)) (by decide)
        replace h0:=m2.own2 h0 o5 (by decide)
        have dj:Below w.heap.size (W.drew) (jj)∧Zd [118] (W.drew) (jj):=⟨m2.below w9.1 (Nat.le_trans g9 ey),Zd.upd_new w9.2 m2 k5⟩
        refine⟨dj,?_⟩
        refine Ze7 [13] 0 rfl #[true,true,true,true,true,true,true,true,true,true,true,true,true,true] [(22,.nilIface)] (by kernel_rfl) (fun _ _ _ _ _ h=>h) (by kernel_rfl) dj ?_
        refine Nq _ (by kernel_rfl) ?_
        refine wpIn_seq ?_
        refine wpIn_seq ?_
        refine Vf (fun⟨_,_,q⟩=>q) (by simp) ?_
        refine Yy 2 [(89,.nilIface),(90,.bool false)] (by kernel_rfl) ?_
        refine wpList_nil ?_
        refine wpIn_cond_false (by kernel_rfl) ?_
        refine wpIn_skip ?_
        refine Vf (fun⟨_,_,q⟩=>q) (by simp) ?_
        refine Xx (by kernel_rfl) (Xr ⟨i6,0,none⟩ (.slice p i cp) rfl (by kernel_rfl) (by kernel_rfl) (k8.cell (i:=0) rfl) ?_)
        refine Xx (by kernel_rfl) (Ux (b:=ej) (off:=0) [V0 (((Ze l details 3 fuel).es.getD i Zn).1),V0 (↑(Qs ((Ze l details 3 fuel).es.getD i Zn).2.1 1):Int),V0 (↑(Qs ((Ze l details 3 fuel).es.getD i Zn).2.1 2):Int),V0 (↑(Qs ((Ze l details 3 fuel).es.getD i Zn).2.1 3):Int),.slice pm ((Kz l ((Ze l top 1 fuel).es.getD i Zn) data fuel).2.2.length) cm] _ rfl (by kernel_rfl) Tryz.underlying42 rfl (by kernel_rfl) x1.whole ?_)
        refine Xx (by kernel_rfl) (Yb 42 [V0 (((Ze l details 3 fuel).es.getD i Zn).1),V0 (↑(Qs ((Ze l details 3 fuel).es.getD i Zn).2.1 1):Int),V0 (↑(Qs ((Ze l details 3 fuel).es.getD i Zn).2.1 2):Int),V0 (↑(Qs ((Ze l details 3 fuel).es.getD i Zn).2.1 3):Int),.slice pm ((Kz l ((Ze l top 1 fuel).es.getD i Zn) data fuel).2.2.length) cm] rfl (by kernel_rfl) ?_)
        intro lm lz f4
        have hh:=f4.ne a5
        have hz:=f4.ne a6
        have gk:=f4.ne a4
        have ic:=f4.ne a3
        have ee:=f4.ne a2
        have fe:=f4.ne a1
        have ei:=f4.ne j2
        have eo:=f4.ne a0
        have fc:=f4.ne k8
        have ex:=f4.ne x1
        have lk:=f4.ge0 hB
        have fu:=Zu ho f4
        replace hB:=blB hB g9 f4.below
        replace a5:=a5.below f4.below
        replace a6:=a6.below f4.below
        replace a4:=a4.below f4.below
        replace a3:=a3.below f4.below
        replace a2:=a2.below f4.below
        replace a1:=a1.below f4.below
        replace j2:=j2.below f4.below
        replace a0:=a0.below f4.below
        replace k8:=k8.below f4.below
        replace x1:=x1.below f4.below
        replace hZ:=hZ.below f4.below
        replace d7:=Zb d7 f4.below
        replace d6:=Zb d6 f4.below
        replace ho:=Zb ho f4.below
        replace d0:=d0.below f4.below
        replace h0:=Zb h0 f4.below
        have ku:=f4.blk
        refine Xx (by kernel_rfl) (Xd (e:=42) (n:=i) (xs:=(Z.flatMap Zdn)) (m:=1) (news:=[V0 (((Ze l details 3 fuel).es.getD i Zn).1),V0 (↑(Qs ((Ze l details 3 fuel).es.getD i Zn).2.1 1):Int),V0 (↑(Qs ((Ze l details 3 fuel).es.getD i Zn).2.1 2):Int),V0 (↑(Qs ((Ze l details 3 fuel).es.getD i Zn).2.1 3):Int),.slice pm ((Kz l ((Ze l top 1 fuel).es.getD i Zn) data fuel).2.2.length) cm]) (.agg #[V0 0,V0 0,V0 0,V0 0,S0]) 5 56 (i+1) (((Z++[(devX l ((Ze l details 3 fuel).es.getD i Zn) ((Ze l top 1 fuel).es.getD i Zn) data fuel,pm,cm)]).flatMap Zdn)) rfl Tryz.underlying26 (by kernel_rfl) rfl (by decide) (by kernel_rfl) ho (by kernel_rfl) (ku.sl 1 1 (by decide) (by decide)) rfl (by simp[Value.oneCell']) (by unfold maxLen;omega) (by omega) (Nat.le_trans hZ.l0 hZ.le) (rfl) (by rw[List.flatMap_append];rfl) ?_)
        intro jt ik lo fs e7 fv
        replace a5:=a5.grown e7 ho (by decide)
        replace a6:=a6.grown e7 ho (by decide)
        replace a4:=a4.grown e7 ho (by decide)
        replace a3:=a3.grown e7 ho (by decide)
        replace a2:=a2.grown e7 ho (by decide)
        replace a1:=a1.grown e7 ho (by decide)
        replace j2:=j2.grown e7 ho (by decide)
        replace a0:=a0.grown e7 ho (by decide)
        replace k8:=k8.grown e7 ho (by decide)
        replace x1:=x1.grown3 e7 q3
        replace hZ:=hZ.grown e7 ho
        replace d7:=Zr d7 e7 ho (by decide)
        replace d6:=Zr d6 e7 ho (by decide)
        replace d0:=d0.only (Zd.of_grown (T:=[42]) e7 ho (by decide)) (by decide)
        replace h0:=Zr h0 e7 ho (by decide)
        replace hB:=hB.trans (fv.mono m1)
        refine Xx (by kernel_rfl) (Xf (v:=.slice jt (i+1) ik) (b:=i6) (off:=0) rfl (by kernel_rfl) (by kernel_rfl) (by kernel_rfl) rfl k8 (by first|decide|simp) ?_)
        intro mh o4 ji
        change Blk _ _ [.slice jt (i+1) ik] _ at ji
        replace hB:=o4.below hB jk
        replace a5:=o4.blk a5 (Ne.symm (Ne.symm p0))
        replace a6:=o4.blk a6 (Ne.symm (Ne.symm p8))
        replace a4:=o4.blk a4 (Ne.symm (Ne.symm g0))
        replace a3:=o4.blk a3 (Ne.symm (Ne.symm g5))
        replace a2:=o4.blk a2 (Ne.symm (Ne.symm l3))
        replace a1:=o4.blk a1 (Ne.symm (Ne.symm l6))
        replace j2:=o4.blk j2 (Ne.symm (Ne.symm r2))
        replace a0:=o4.blk a0 (Ne.symm (Ne.symm l9))
        replace x1:=o4.blk x1 (Ne.symm l5)
        replace hZ:=hZ.upd o4 k8 (.inl (by simp))
        replace d7:=o4.own2 d7 k8 (by decide)
        replace d6:=o4.own2 d6 k8 (by decide)
        replace d0:=d0.only (Zd.of_upd (T:=[26]) o4 k8 (by decide)) (by decide)
        replace h0:=o4.own2 h0 k8 (by decide)
        replace fs:=o4.own2 fs k8 (by decide)
        refine wpList_nil ?_
        exact⟨hZ.ko.from _,⟨hZ.le,fun d hd=>hZ.fr d (bi d hd) (dp d hd)⟩,o7.trans hB,fr_join hF hZ (fun k hk=>by simp only[List.mem_cons,List.not_mem_nil,or_false] at hk ⊢;rcases hk with rfl|rfl|rfl|rfl;exact .inr ((show _=_ from a4).trans (show _=_ from j6).symm);exact .inr ((show _=_ from a3).trans (show _=_ from j5).symm);exact .inl (by simp);exact .inl (by simp)),j2,dev_sum t9,Fp ad t9,_,_,_,ji,fs,(d0.snoc (d:=devX l ((Ze l details 3 fuel).es.getD i Zn) ((Ze l top 1 fuel).es.getD i Zn) data fuel) rfl h0),by simp[cq],by rw[List.map_append,cl,Ft];rfl⟩
     case stop =>
      rintro D c k V hD hk ⟨rfl,hK,ty,v,bl,er,hO,fz,bx,j3,hv,hb⟩ x2
      have w2:Dfr D V:=x2
      have t0:D1≠D:=by omega
      refine wp_ret (Xz (Kb ?_))
      exact ret2 bx j3 hK w2 t0 (resLD (.inr ⟨_,_,rfl⟩) (by kernel_rfl) (by kernel_rfl)) rfl (Wo hO fz (Ly (Ly hb hb.size (Nat.le_trans m1 hD) _) (by simpa [World.putObj] using hb.size) (Nat.le_trans l2 jq) _) ((hv.pt w2 _).pt (hK.put t0 _) _))
     case done =>
      rintro D2 W8 ks ⟨jz,z6,lh,gg,ad,p,cp,Z,k8,ho,d0,cq,cl⟩ x2
      have w2:Dfr D2 W8:=x2;clear x2
      have hK:Dfr D1 W8:=(z6.block D1 ar fy).trans gu
      have t0:D1≠D2:=by omega
      rw[(Tt dn).1] at ad k8 ho cq cl
      have q9:=z7.fr z6 (by simp only[List.mem_cons,List.not_mem_nil,or_false];rintro(h|h|h|h);omega;omega;exact q6 h;exact r5 h)
      have r4:=z0.fr z6 (by simp only[List.mem_cons,List.not_mem_nil,or_false];rintro(h|h|h|h);omega;omega;exact r8 h;exact r7 h)
      have n7:=j6.fr z6 (by simp only[List.mem_cons,List.not_mem_nil,or_false];rintro(h|h|h|h);omega;omega;exact q4 h;exact r1 h)
      have i4:=j5.fr z6 (by simp only[List.mem_cons,List.not_mem_nil,or_false];rintro(h|h|h|h);omega;omega;exact q5 h;exact q7 h)
      have m0:=u0.fr z6 (by simp only[List.mem_cons,List.not_mem_nil,or_false];rintro(h|h|h|h);omega;omega;exact m5 h;exact m8 h)
      have l1:=t5.fr z6 (by simp only[List.mem_cons,List.not_mem_nil,or_false];rintro(h|h|h|h);omega;omega;exact m9 h;exact n5 h)
      have l4:=u5.fr z6 (by simp only[List.mem_cons,List.not_mem_nil,or_false];rintro(h|h|h|h);omega;omega;exact o2 h;exact o1 h)
      replace hB:=jz
      refine wp_seq ?_
      refine wp_region_lit ?_
      refine Xx (by kernel_rfl) (Xr ⟨i6,0,none⟩ (.slice p ((Ze l details 3 fuel).es.length) cp) rfl (by kernel_rfl) (by kernel_rfl) (k8.cell (i:=0) rfl) ?_)
      refine Xx (by kernel_rfl) (Xf (v:=.slice p ((Ze l details 3 fuel).es.length) cp) (b:=b3) (off:=0) rfl (by kernel_rfl) (by kernel_rfl) (by kernel_rfl) rfl n7 (by first|decide|simp) ?_)
      intro mo s9 fn
      change Blk _ _ [.slice p ((Ze l details 3 fuel).es.length) cp] _ at fn
      replace hB:=s9.below hB g3
      replace q9:=s9.blk q9 (Ne.symm (Ne.symm j4))
      replace r4:=s9.blk r4 (Ne.symm (Ne.symm j9))
      replace i4:=s9.blk i4 (Ne.symm c8)
      replace m0:=s9.blk m0 (Ne.symm f1)
      replace l1:=s9.blk l1 (Ne.symm e9)
      replace l4:=s9.blk l4 (Ne.symm l7)
      replace k8:=s9.blk k8 (Ne.symm g0)
      replace ho:=s9.own2 ho n7 (by decide)
      replace d0:=d0.only (Zd.of_upd (T:=[26]) s9 n7 (by decide)) (by decide)
      replace hK:=hK.upd s9 n7
      replace w2:=w2.upd s9 n7
      refine Xx (by kernel_rfl) (Xf (v:=.nilIface) (b:=b4) (off:=0) rfl (by kernel_rfl) (by kernel_rfl) (by kernel_rfl) rfl i4 (by first|decide|simp) ?_)
      intro la s4 iz
      change Blk _ _ [.nilIface] _ at iz
      replace hB:=s4.below hB g4
      replace q9:=s4.blk q9 (Ne.symm (Ne.symm j7))
      replace r4:=s4.blk r4 (Ne.symm (Ne.symm k0))
      replace fn:=s4.blk fn (Ne.symm (Ne.symm c8))
      replace m0:=s4.blk m0 (Ne.symm f2)
      replace l1:=s4.blk l1 (Ne.symm f3)
      replace l4:=s4.blk l4 (Ne.symm l8)
      replace k8:=s4.blk k8 (Ne.symm g5)
      replace ho:=s4.own2 ho i4 (by decide)
      replace d0:=d0.only (Zd.of_upd (T:=[32]) s4 i4 (by decide)) (by decide)
      replace hK:=hK.upd s4 i4
      replace w2:=w2.upd s4 i4
      refine wpList_nil ?_
      have iv:=hK.put t0 (.deferred none)
      refine wp_ret ?_
      refine ret2 fn iz hK w2 t0 (resLD (.inl rfl) (by kernel_rfl) (by kernel_rfl)) rfl ?_
      refine ldevs_ok ((Rd v2 w3 (by omega) fa).trans (Za2 ad)) cq cl (Ly (Ly hB hB.size (Nat.le_trans m1 ks) _) (by simpa [World.putObj] using hB.size) (Nat.le_trans l2 jq) _) ((((d0.mono m1).pt w2 _).pt iv _)) (own_pt (own_pt (Zh ho m1) w2 _) iv _)
theorem getD_app{P Q:Bl}{k i:Nat}(hk:P.length=k):(P++Q).getD (k+i) 0=Q.getD i 0:=by
 subst hk
 simp[List.getD,List.getElem?_append_right]
theorem getD_hd{P Q:Bl}{i:Nat}(hi:i<P.length):(P++Q).getD i 0=P.getD i 0:=by
 simp[List.getD,List.getElem?_append_left hi]
theorem Ky{P Q:Bl}{k w:Nat}{x:Int}(hk:P.length=k)(h0:0≤x)(hb:x.toNat<256 ^ w):(Zm (P++(leB x w++Q)) k w:Int)=x:=by
 rw[Pz w k x.toNat,Nat.mod_eq_of_lt hb]
 ·omega
 ·intro i hi
  rw[getD_app hk,getD_hd (by rw[Zj];exact hi)]
  simp[leB,Xa,List.getD,List.getElem?_range hi]
theorem Za4{P Q:Bl}{k:Nat}(hk:P.length=k):(P++Q).drop k=Q:=List.drop_left' hk
theorem Zb5(n m:Nat):Hc ((List.replicate n (0:UInt8)).take m)=true:=by
 unfold Hc;rw[List.all_eq_true]
 intro x hx
 have:=List.mem_of_mem_take hx
 rw[(List.mem_replicate.1 this).2];rfl
theorem Sb(K:List Int)(n j:Nat):∀ d,∃ X,Qi K n (j+d)=Qi K n j++X
 | 0=>⟨[],by simp⟩
 | d+1=>by
  obtain⟨X,hX⟩:=Sb K n j d
  exact⟨_,by rw[←Nat.add_assoc,Kc,hX,List.append_assoc]⟩
theorem Rh(Vs:List Bl)(j:Nat):∀ d,∃ X,Vq Vs (j+d)=Vq Vs j++X
 | 0=>⟨[],by simp⟩
 | d+1=>by
  obtain⟨X,hX⟩:=Rh Vs j d
  exact⟨_,by rw[←Nat.add_assoc,Us,hX,List.append_assoc]⟩
theorem Dq{l:Bl}:∀ {n:Nat},(∀ i,i<n→Ts l i=0)→Yg l n=0
 | 0,_=>rfl
 | n+1,h=>Pd (Dq fun i hi=>h i (by omega)) (h n (by omega))
theorem getD_ext{l l':List Int}(h:l.length=l'.length)(h2:∀ j,j<l.length→l.getD j 0=l'.getD j 0):l=l':=by
 apply List.ext_getElem h
 intro j h3 h4
 have:=h2 j h3
 simpa [List.getD,h3,h4] using this
theorem getD_extV{l l':List Bl}(h:l.length=l'.length)(h2:∀ j,j<l.length→l.getD j []=l'.getD j []):l=l':=by
 apply List.ext_getElem h
 intro j h3 h4
 have:=h2 j h3
 simpa [List.getD,h3,h4] using this
structure NodBack(b:List UInt8)(t:Int)(leaf:Bool)(n m v:Nat)(K:List Int)(Vs:List (List UInt8)):Prop where
 len:b.length=244
 e:Jm b=0
 t:Qm b=t
 l:Xp b=leaf
 c:Zt b=n
 k:Vt b n=K
 v:Hz b n=Vs
theorem Zhh{t:Int}{leaf:Bool}{n m v:Nat}{K:List Int}{Vs:List Bl}(N:NodeOk t leaf n m v K Vs):NodBack (Gc m v (Ko t leaf n m v) K Vs n) t leaf n m v K Vs:=by
 have a9:=Qv t leaf
 rw[N.hm] at a9
 have b0:=Fd t leaf
 rw[N.hv] at b0
 have a2:=fitN t leaf
 rw[N.hm,N.hv] at a2
 have a7:=N.ht1
 have a8:=N.ht2
 have a5:=N.hn
 have a0:=Il (H:=Ko t leaf n m v) (K:=K) (Vs:=Vs) (Kj _ _ _ _ _) a2 a5 (fun j hj=>N.hw j hj)
 have a3:=Ff (H:=Ko t leaf n m v) (K:=K) (Vs:=Vs) (Kj _ _ _ _ _) a2 a5 (fun j hj=>N.hw j hj)
 generalize Gc m v (Ko t leaf n m v) K Vs n=b at a0 a3
 obtain⟨R,hR⟩:∃ R,b=Ko t leaf n m v++R:=⟨_,by rw[a0,List.append_assoc,List.append_assoc]⟩
 have b1:=Og leaf
 have r0:(Zm b 0 1:Int)=Uv leaf:=by
  rw[hR,Ko];simp only[List.append_assoc]
  exact Ky (P:=[]) (k:=0) (w:=1) (x:=Uv leaf) rfl b1.1 (Nat.lt_of_le_of_lt (show(Uv leaf).toNat≤255 by omega) (by decide))
 have r1:(Zm b 1 1:Int)=t:=by
  rw[hR,Ko];simp only[List.append_assoc]
  exact Ky (P:=leB (Uv leaf) 1) (by rw[Zj]) (by omega) (by omega)
 have r2:(Zm b 2 2:Int)=(n:Int):=by
  rw[hR,Ko];simp only[List.append_assoc]
  rw[←List.append_assoc]
  exact Ky (P:=leB (Uv leaf) 1++leB t 1) (by simp[Zj]) (by omega) (by omega)
 have r4:(Zm b 4 2:Int)=(v:Int):=by
  rw[hR,Ko];simp only[List.append_assoc]
  rw[←List.append_assoc,←List.append_assoc]
  exact Ky (P:=leB (Uv leaf) 1++leB t 1++leB (n:Int) 2) (by simp[Zj]) (by omega) (by omega)
 have r6:(Zm b 6 2:Int)=(m:Int):=by
  rw[hR,Ko];simp only[List.append_assoc]
  rw[←List.append_assoc,←List.append_assoc,←List.append_assoc]
  exact Ky (P:=leB (Uv leaf) 1++leB t 1++leB (n:Int) 2++leB (v:Int) 2) (by simp[Zj]) (by omega) (by omega)
 have r8:(Zm b 8 4:Int)=0:=by
  rw[hR,Ko];simp only[List.append_assoc]
  rw[←List.append_assoc,←List.append_assoc,←List.append_assoc,←List.append_assoc]
  exact Ky (P:=leB (Uv leaf) 1++leB t 1++leB (n:Int) 2++leB (v:Int) 2++leB (m:Int) 2) (by simp[Zj]) (by omega) (by decide)
 have eT:Qm b=t:=r1
 have eL:Xp b=leaf:=by
  unfold Xp;rw[r0];cases leaf<;>rfl
 have eC:Zt b=n:=by unfold Zt;omega
 have eW:Vz b=v:=by unfold Vz;rw[eT,eL,widG,if_pos ⟨a7,a8⟩];exact N.hv
 have eM:Ku b=m:=by unfold Ku;rw[eT,eL,maxG,if_pos ⟨a7,a8⟩];exact N.hm
 have a1:∀ i,i<n→(Ir b i:Int)=K.getD i 0:=by
  intro i hi
  obtain⟨X,hX⟩:=Sb K n (i+1) (m-(i+1))
  rw[show i+1+(m-(i+1))=m by omega,Kc,if_pos hi] at hX
  unfold Ir
  rw[a0,hX]
  have hk:=N.hk0 i hi
  have:=Ky (P:=Ko t leaf n m v++Qi K n i) (Q:=X++(Vq Vs n++List.replicate (232-m*8-n*v) 0)) (k:=12+i*8) (w:=8) (x:=K.getD i 0) (by rw[List.length_append,Kj,Hj]) hk.1 (Nat.lt_of_le_of_lt (show(K.getD i 0).toNat≤281474976710655 by omega) (by decide))
  simp only[List.append_assoc] at this ⊢
  exact this
 have a4:∀ i,i<n→Zhn b i=Vs.getD i []:=by
  intro i hi
  obtain⟨X,hX⟩:=Rh Vs (i+1) (n-(i+1))
  rw[show i+1+(n-(i+1))=n by omega,Us] at hX
  have a6:(Vq Vs i).length=i*v:=Pu fun j hj=>N.hw j (by omega)
  unfold Zhn
  rw[eM,eW,a0,hX]
  have:=Za4 (P:=Ko t leaf n m v++Qi K n m++Vq Vs i) (Q:=Vs.getD i []++(X++List.replicate (232-m*8-n*v) 0)) (k:=12+m*8+i*v) (by rw[List.length_append,List.length_append,Kj,Hj,a6])
  simp only[List.append_assoc] at this ⊢
  rw[this]
  exact List.take_left' (N.hw i hi)
 have b2:n*v≤m*v:=Nat.mul_le_mul_right v a5
 refine⟨a3,?_,eT,eL,eC,?_,?_⟩
 ·have hs:Fk b=true:=by
   unfold Fk
   rw[eW,eM]
   refine decide_eq_true ⟨?_,by omega,by omega,by omega,by omega,by omega,?_⟩
   ·cases leaf<;>simp only[Uv] at r0<;>simp at r0<;>omega
   ·cases leaf with
    | true=>left;simp only[Uv] at r0;simp at r0;omega
    | false=>right;have:=N.hl rfl;omega
  have hz:Zel b=true:=by
   unfold Zel Ob node1 Za0
   rw[eC,eM,eW,Bool.and_eq_true]
   constructor
   ·have hk:=Hr K n (m-n)
    rw[show n+(m-n)=m by omega] at hk
    have:=Za4 (P:=Ko t leaf n m v++Qi K n n) (Q:=List.replicate ((m-n)*8) 0++(Vq Vs n++List.replicate (232-m*8-n*v) 0)) (k:=12+n*8) (by rw[List.length_append,Kj,Hj])
    rw[a0,hk]
    simp only[List.append_assoc] at this ⊢
    rw[this,List.take_append_of_le_length (by rw[List.length_replicate];omega)]
    exact Zb5 _ _
   ·have a6:(Vq Vs n).length=n*v:=Pu fun j hj=>N.hw j hj
    have:=Za4 (P:=Ko t leaf n m v++Qi K n m++Vq Vs n) (Q:=List.replicate (232-m*8-n*v) 0) (k:=12+m*8+n*v) (by rw[List.length_append,List.length_append,Kj,Hj,a6])
    rw[a0,this]
    exact Zb5 _ _
  unfold Jm
  rw[if_pos hs,if_pos hz,eC]
  refine Dq fun i hi=>?_
  have h1:=a1 i hi
  have h2:=N.hk0 i hi
  unfold Ts
  rw[if_neg (by omega),if_neg ?_]
  rintro⟨h3,h4⟩
  have h5:=a1 (i-1) (by omega)
  have h6:=N.hk1 (i-1) (by omega)
  rw[show i-1+1=i by omega] at h6
  omega
 ·exact getD_ext (by rw[Hx,N.hK]) fun j hj=>by rw[Hx] at hj;rw[Zb8 b hj];exact a1 j hj
 ·exact getD_extV (by rw[Rr,N.hV]) fun j hj=>by rw[Rr] at hj;rw[Zdb b hj];exact a4 j hj
theorem blk_back{t:Int}{leaf:Bool}{n m v:Nat}{K:List Int}{Vs:List Bl}(N:NodeOk t leaf n m v K Vs){l:Bl}{j len:Nat}(hl:l.length=len)(hj:j<len/256)(h4:j<14400)(hb:Km l j=Yf 2 (j:Int) (Gc m v (Ko t leaf n m v) K Vs n))(tree:Int)(ht:tree=0∨t=tree) :
 Xc l (j:Int) tree=0∧inB l (j:Int)=Gc m v (Ko t leaf n m v) K Vs n:=by
 have B:=Zhh N
 have a0:inB l (j:Int)=Gc m v (Ko t leaf n m v) K Vs n:=by
  rw[Zgc (no:=(j:Int)) (j:=j) rfl,hb,in_seal (by rw[B.len];decide)]
  unfold Zda;rw[B.len];simp
 refine⟨?_,a0⟩
 unfold Xc
 rw[Zgp (no:=(j:Int)) (j:=j) hl rfl hj,hb,if_pos (Zcd (by decide) (by decide) (by omega) (by omega) (by rw[B.len];decide)),a0]
 unfold Vn
 rw[if_pos B.e,if_pos (by rw[B.t];exact ht)]
theorem root_leB{q:Nat}(h1:1≤q)(h2:q≤14399):Xj (leB (q:Int) 4)=0∧(Xm (leB (q:Int) 4):Int)=(q:Int):=by
 have hr:(Zm (leB (q:Int) 4) 0 4:Int)=(q:Int):=by
  have:=Ky (P:=[]) (Q:=[]) (k:=0) (w:=4) (x:=(q:Int)) rfl (by omega) (Nat.lt_of_le_of_lt (show(q:Int).toNat≤14399 by omega) (by decide))
  simpa using this
 have he:Xj (leB (q:Int) 4)=0:=by
  unfold Xj;rw[if_pos (Zj _ _),if_pos (by omega)]
 exact⟨he,by unfold Xm;rw[if_pos he];exact hr⟩
theorem levB_succ{t:Int}{leaf:Bool}{m v:Nat}{l:List Ent}{q:Nat}{bs:Bl}(j:Nat):Zbq t leaf m v l q bs (j+1)=Kn (Zbq t leaf m v l q bs j) ((q+j)*256) (Yf 2 ((q+j:Nat):Int) (Zfh t leaf m v (Xq l m j))):=rfl
theorem Zc1{t:Int}{leaf:Bool}{m v:Nat}{l:List Ent}{q:Nat}{bs:Bl}(E:EntsOk v l)(h1:1≤t)(h2:t≤5)(hm:Qy t leaf=m)(hv:Ua t leaf=v)(hl:leaf=false→1≤l.length)(j:Nat) :
 j≤ovN l.length m→(q+j)*256≤bs.length→(Zbq t leaf m v l q bs j).length=bs.length∧(∀ i,i<j→Km (Zbq t leaf m v l q bs j) (q+i)=Yf 2 ((q+i:Nat):Int) (Zfh t leaf m v (Xq l m i)))∧(∀ x,x<q→Km (Zbq t leaf m v l q bs j) x=Km bs x):=by
 induction j with
 | zero=>exact fun _ _=>⟨rfl,fun i hi=>absurd hi (Nat.not_lt_zero i),fun x _=>rfl⟩
 | succ j ih =>
  intro hj hq
  obtain⟨a1,a2,a3⟩:=ih (by omega) (by omega)
  have a4:=Eo (Zak E h1 h2 hm hv hl (show j<ovN l.length m by omega))
  have a0:(Yf 2 ((q+j:Nat):Int) (Zfh t leaf m v (Xq l m j))).length=256:=Vd (by rw[a4];decide)
  rw[levB_succ]
  generalize Zbq t leaf m v l q bs j=y at a1 a2 a3 ⊢
  generalize hx:Yf 2 ((q+j:Nat):Int) (Zfh t leaf m v (Xq l m j))=x at a0 ⊢
  have hk:q+j<y.length/256:=by rw[a1];omega
  refine⟨?_,fun i hi=>?_,fun z hz=>?_⟩
  ·rw[Qt (by rw[a0,a1];omega),a1]
  ·by_cases e:i=j
   ·subst e;rw[hx];exact Ez a0 hk
   ·rw[Vy a0 hk (by omega) (by omega)];exact a2 i (by omega)
  ·rw[Vy a0 hk (by omega) (by omega)];exact a3 z hz
theorem Zeq{t:Int}(h1:1≤t)(h2:t≤5)(n:Nat):∀ (u:List Ent) (q:Nat) (bs:Bl),u.length=n→1≤n→EntsOk 4 u→(q+((Za3 n).sum-n))*256≤bs.length→(Pc t u q bs).2.length=bs.length∧∀ x,x<q→Km (Pc t u q bs).2 x=Km bs x:=by
 induction n using Nat.strongRecOn with
 | _ n ih =>
  intro u q bs hn a4 E hq
  subst hn
  by_cases h:u.length≤1
  ·rw[Nd h];exact⟨rfl,fun _ _=>rfl⟩
  ·have a5:=ov18 (x:=u.length) (by omega)
   have hp:=Kg u.length 18
   have a0:(Za3 u.length).sum=u.length+(Za3 (ovN u.length 18)).sum:=by rw[Hq h];rfl
   have hg:=Mn (ovN u.length 18)
   rw[Mc h]
   obtain⟨a1,a2,a3⟩:=Zc1 (t:=t) (leaf:=false) (m:=18) (v:=4) (l:=u) (q:=q) (bs:=bs) E h1 h2 rfl rfl (fun _=>by omega) (ovN u.length 18) (Nat.le_refl _) (by omega)
   obtain⟨b1,b2⟩:=ih (ovN u.length 18) (by omega) (upE u 18 q (ovN u.length 18)) (q+ovN u.length 18) (Zbq t false 18 4 u q bs (ovN u.length 18)) (Ye _ _ _ _) hp (up_ok E (by decide)) (by rw[a1];omega)
   exact⟨by rw[b1,a1],fun x hx=>by rw[b2 x (by omega),a3 x hx]⟩
theorem Kd{t:Int}{l:List Ent}{q:Nat}{bs:Bl}(h1:1≤t)(h2:t≤5)(E:EntsOk (Ua t true) l)(hq:(q+Xw t l.length)*256≤bs.length):(Yz t l q bs).2.length=bs.length∧∀ x,x<q→Km (Yz t l q bs).2 x=Km bs x:=by
 obtain⟨m,hm⟩:∃ m,Qy t true=m:=⟨_,rfl⟩
 have a0:=Qv t true
 have a4:=Kg l.length m
 have hg:=Mn (ovN l.length m)
 have hN:Xw t l.length=(Za3 (ovN l.length m)).sum:=by unfold Xw Ui;rw[hm]
 rw[hm] at a0
 rw[hN] at hq
 unfold Yz
 rw[hm]
 obtain⟨a1,a2,a3⟩:=Zc1 (t:=t) (leaf:=true) (m:=m) (v:=Ua t true) (l:=l) (q:=q) (bs:=bs) E h1 h2 hm rfl (fun h=>by cases h) (ovN l.length m) (Nat.le_refl _) (by omega)
 obtain⟨b1,b2⟩:=Zeq (t:=t) h1 h2 (ovN l.length m) (upE l m q (ovN l.length m)) (q+ovN l.length m) (Zbq t true m (Ua t true) l q bs (ovN l.length m)) (Ye _ _ _ _) a4 (up_ok E a0.1) (by rw[a1];omega)
 exact⟨by rw[b1,a1],fun x hx=>by rw[b2 x (by omega),a3 x hx]⟩
theorem unp_put{ps:List Wu}{N:List Int}{C:Bl}:∀ k,k≤ps.length→(∀ i,i<k→0≤N.getD i 0∧(N.getD i 0).toNat<256 ^ (ps.getD i Yi).1) →
 Wg (Dc ps N k++C) 0 (Gx ps k)=(List.range k).map fun i=>(N.getD i 0).toNat:=by
 intro k
 induction k generalizing C with
 | zero=>intro _ _;rfl
 | succ k ih =>
  intro hk h
  have e:Dc ps N (k+1)++C=Dc ps N k++(leB (N.getD k 0) (ps.getD k Yi).1++C):=by rw[Lj,List.append_assoc]
  rw[Kl,Ll,e,ih (by omega) fun i hi=>h i (by omega),List.range_succ,List.map_append]
  congr 1
  have h2:=h k (by omega)
  have:=Ky (P:=Dc ps N k) (Q:=C) (k:=0+(Gx ps k).sum) (w:=(ps.getD k Yi).1) (x:=N.getD k 0) (by rw[Nf];omega) h2.1 h2.2
  simp only[List.map_cons,List.map_nil,List.cons.injEq,and_true]
  omega
theorem put_read{ps:List Wu}{N:List Int}(hp:Hv ps)(hN:N.length=ps.length)(h:Gd ps N ps.length=true):Xk ps (Dc ps N ps.length)=0∧∀ i,i<ps.length→(((Ql ps (Dc ps N ps.length)).getD i 0:Nat):Int)=N.getD i 0:=by
 have a0:=h
 unfold Gd at a0
 rw[List.all_eq_true] at a0
 have hb:∀ i,i<ps.length→0≤N.getD i 0∧(N.getD i 0).toNat<256 ^ (ps.getD i Yi).1:=fun i hi=>by
  have h1:=of_decide_eq_true (a0 i (List.mem_range.2 hi))
  have h2:=hp.2 i hi
  refine⟨by omega,?_⟩
  rcases h2.1 with h4|h8
  ·have:=h2.2.2.2 h4
   rw[h4,show(256:Nat) ^ 4=4294967296 from rfl];omega
  ·rw[h8,show(256:Nat) ^ 8=18446744073709551616 from rfl];omega
 have hr:Jw ps (Dc ps N ps.length)=(List.range ps.length).map fun i=>(N.getD i 0).toNat:=by
  have:=unp_put (ps:=ps) (N:=N) (C:=[]) ps.length (Nat.le_refl _) hb
  rw[List.append_nil] at this
  exact this
 have hg:∀ i,i<ps.length→(((Jw ps (Dc ps N ps.length)).getD i 0:Nat):Int)=N.getD i 0:=fun i hi=>by
  rw[hr]
  have:=(hb i hi).1
  simp only[List.getD,List.getElem?_map,List.getElem?_range hi,Option.map_some,Option.getD_some] at this ⊢
  omega
 have he:Xk ps (Dc ps N ps.length)=0:=by
  unfold Xk
  rw[if_pos (Nf _ _ _),if_pos]
  unfold We Gd
  rw[List.all_eq_true]
  intro i hi
  have hi:=List.mem_range.1 hi
  have e:((Jw ps (Dc ps N ps.length)).map fun n:Nat=>(n:Int)).getD i 0=N.getD i 0:=by
   rw[←hg i hi]
   simp[List.getD,show i<(Jw ps (Dc ps N ps.length)).length by rw[Wm];exact hi]
  rw[e]
  exact a0 i (List.mem_range.2 hi)
 refine⟨he,fun i hi=>?_⟩
 unfold Ql
 rw[if_pos he]
 exact hg i hi
def Zfa(m:Mp):Bl:=Dc Vm [m.2.1*16777216+m.2.2] 1
theorem mapV_len(m:Mp):(Zfa m).length=8:=by unfold Zfa;rw[Nf];rfl
def Bb(n:Int)(d:Dv):Bl:=Dc Hm [n,d.1.2.1,d.1.2.2.1,d.1.2.2.2] 4
theorem detVal_len(n:Int)(d:Dv):(Bb n d).length=24:=by unfold Bb;rw[Nf];rfl
def Nl(M:List Mp):List Ent:=M.map fun m=>(m.1,Zfa m,0)
theorem Ja(M:List Mp):(Nl M).length=M.length:=List.length_map ..
def dvD:Dv:=((0,0,0,0),[])
def Mf(L:List Dv)(R:Nat→Nat):List Ent:=(List.range L.length).map fun i=>((L.getD i dvD).1.1,leB (R i:Int) 4,0)
def Mz(L:List Dv)(C:Nat→Int):List Ent:=(List.range L.length).map fun i=>((L.getD i dvD).1.1,Bb (C i) (L.getD i dvD),0)
theorem Jn(L:List Dv)(R:Nat→Nat):(Mf L R).length=L.length:=by simp[Mf]
theorem Jj(L:List Dv)(C:Nat→Int):(Mz L C).length=L.length:=by simp[Mz]
theorem Wn{L:List Dv}{R:Nat→Nat}{i:Nat}(h:i<L.length):(Mf L R).getD i Zn=((L.getD i dvD).1.1,leB (R i:Int) 4,0):=by simp[Mf,List.getD,List.getElem?_range h]
theorem Wj{L:List Dv}{C:Nat→Int}{i:Nat}(h:i<L.length):(Mz L C).getD i Zn=((L.getD i dvD).1.1,Bb (C i) (L.getD i dvD),0):=by simp[Mz,List.getD,List.getElem?_range h]
theorem Ph{M:List Mp}{i:Nat}(h:i<M.length):(Nl M).getD i Zn=((M.getD i (0,0,0)).1,Zfa (M.getD i (0,0,0)),0):=by simp[Nl,List.getD,h]
theorem Zga{data:Int}{M:List Mp}(h:MapsOk data M):EntsOk 8 (Nl M):=by
 refine⟨fun i hi=>?_,fun j hj=>?_,fun i hi=>?_⟩
 ·rw[Ja] at hi
  rw[Ph hi]
  have:=h.each (M.getD i (0,0,0)) (by simp[List.getD,hi])
  exact this.1
 ·rw[Ja] at hj
  rw[Ph (by omega),Ph hj]
  have:=List.pairwise_iff_getElem.1 h.rise j (j+1) (by omega) hj (by omega)
  simpa [List.getD,hj,show j<M.length by omega] using this
 ·rw[Ja] at hi
  rw[Ph hi];exact mapV_len _
theorem Zg5{data:Int}{L:List Dv}(h:DevsOk data L):(∀ i,i<L.length→0≤(L.getD i dvD).1.1∧(L.getD i dvD).1.1≤281474976710655)∧∀ j,j+1<L.length→(L.getD j dvD).1.1<(L.getD (j+1) dvD).1.1:=by
 refine⟨fun i hi=>?_,fun j hj=>?_⟩
 ·have:=(h.each (L.getD i dvD) (by simp[List.getD,hi])).id;omega
 ·have:=List.pairwise_iff_getElem.1 h.rise j (j+1) (by omega) hj (by omega)
  simpa [List.getD,hj,show j<L.length by omega] using this
theorem Zhc{data:Int}{L:List Dv}{R:Nat→Nat}(h:DevsOk data L):EntsOk 4 (Mf L R):=by
 obtain⟨h1,h2⟩:=Zg5 h
 refine⟨fun i hi=>?_,fun j hj=>?_,fun i hi=>?_⟩
 ·rw[Jn] at hi
  rw[Wn hi];exact h1 i hi
 ·rw[Jn] at hj
  rw[Wn (by omega),Wn hj];exact h2 j hj
 ·rw[Jn] at hi
  rw[Wn hi];exact Zj _ _
theorem detEs_ok{data:Int}{L:List Dv}{C:Nat→Int}(h:DevsOk data L):EntsOk 24 (Mz L C):=by
 obtain⟨h1,h2⟩:=Zg5 h
 refine⟨fun i hi=>?_,fun j hj=>?_,fun i hi=>?_⟩
 ·rw[Jj] at hi
  rw[Wj hi];exact h1 i hi
 ·rw[Jj] at hj
  rw[Wj (by omega),Wj hj];exact h2 j hj
 ·rw[Jj] at hi
  rw[Wj hi];exact detVal_len _ _
def LevelPost(B ba b g nn cc:Nat)(pa:O0)(ca f N k0:Nat)(bs:Bl)(t:Int)(leaf:Bool)(m v:Nat)(l:List Ent)(w:World)(e:Ending)(w':World):Prop :=
 ∃ p c,e=.returned (.tuple #[.slice p (ovN l.length m) c,.nilIface])∧Below B w w'∧Zd [152,5] w w'∧Fr [ba,g] w w'∧Al B ba b g nn cc pa ca f N (k0+ovN l.length m) (Zbq t leaf m v l (f+k0) bs (ovN l.length m)) w'∧w'.ownsRow w.heap.size 122 3 (.slice p (ovN l.length m) c) (ovN l.length m) ((upE l m (f+k0) (ovN l.length m)).flatMap Qz)
theorem Zd0(B ba b g nn cc:Nat)(pa:O0)(ca f N k0:Nat)(bs:Bl)(t:Int)(leaf:Bool)(m v:Nat)(a:O0)(c:Nat)(l:List Ent)(w:World)(hC:AlC B ba nn cc ca f N)(hA:Al B ba b g nn cc pa ca f N k0 bs w)(ht1:1≤t)(ht2:t≤5)(hm:Qy t leaf=m)(hv:Ua t leaf=v)(E:EntsOk v l)(hl:leaf=false→1≤l.length)(hn:l.length≤32768)(hf1:1≤f)(hk:k0+ovN l.length m≤N)(hin:∀ W,Below B w W→Zd [152,5] w W→Sts Qz W (.slice a l.length c) l)(hBw:B≤w.heap.size) :
 C0 191 #[P0 ba,V0 t,.bool leaf,.slice a l.length c] w (LevelPost B ba b g nn cc pa ca f N k0 bs t leaf m v l w):=by
 have m9:=Qv t leaf
 rw[hm] at m9
 have r2:=hC.hf
 have r5:=hC.hn
 refine zin 96 Tryz.func191 ?_
 refine xr 18 (args:=#[V0 t,.bool leaf]) (Sy t leaf m hm ht1 ht2 _) fun W1 h0=>?_
 refine xc 0 (args:=#[V0 (l.length:Int),V0 (m:Int)]) (tall_Sizes l.length m _ hn (by omega) (by omega)) ?_
 rintro _ W2 ⟨_,rfl,i5,ps,cs,rfl,e5⟩
 have o1:=(blB (Below.refl B w) hBw h0).size
 have g5:=Zh e5 o1
 have j8:=(hA.below h0).below i5
 have hB:=blB (blB (Below.refl B w) hBw h0) hBw i5
 have hX:=(show Fr [ba,g] w _ from(Fr.of_below h0)).trans (Fr.of_below i5)
 have hO:=(show Zd [152,5] w _ from(Zd.of_below h0)).trans (Zd.of_below i5)
 refine zl 5 96 (fun zm j5 V=>∃ (i:Nat) (a2:O0) (c2:Nat) (l2:List Ent) (p4:O0) (c4:Nat),j5=[(0,P0 ba),(1,V0 t),(2,.bool leaf),(3,.slice a2 l2.length c2),(10,.slice p4 i c4),(26,.slice ps (ovN l.length m) cs),(27,V0 (↑(ovN l.length m):Int)),(28,V0 (i:Int))]∧zm=ovN l.length m-((i:Int)).toNat∧Below B w V∧Fr [ba,g] w V∧Zd [152,5] w V∧V.ownsRow w.heap.size 3 1 (.slice ps (ovN l.length m) cs) (ovN l.length m) ((sizL l.length m).map nv)∧V.ownsRow w.heap.size 122 3 (.slice p4 i c4) i ((upE l m (f+k0) i).flatMap Qz)∧Al B ba b g nn cc pa ca f N (k0+i) (Zbq t leaf m v l (f+k0) bs i) V∧(∀ W,Below B w W→Zd [152,5] w W→Sts Qz W (.slice a2 l2.length c2) l2)∧i≤ovN l.length m∧l2=l.drop (i*m)) ⟨0,a,c,l,none,0,rfl,rfl,hB,hX,hO,g5,World.ownsRow_nil _ _ _ _,j8,?_,Nat.zero_le _,by simp⟩ ?_
 ·exact hin
 rintro _ _ W3 ⟨i,a2,c2,l2,p4,c4,rfl,rfl,d9,e7,e3,e5,m1,hA,i3,hi,g0⟩ J3 l9 r3
 have n9:=Sl.cap (i3 _ d9 e3)
 have o6:i<ovN l.length m→i*m≤l.length:=siz_le (by omega)
 have j6:l2.length=l.length-i*m:=by rw[g0];simp
 have h4:Jg l.length m i≤l2.length:=by rw[j6];unfold Jg;omega
 refine xid 6 ((i:Int)<(↑(ovN l.length m):Int)) (fun n3=>?_) (fun n3=>?_)
 ·refine xx 6 _ (ovN l.length m) i 1 (Zf6 (Zf e5) (k:=i) (by omega)).1 ?_
  refine xl 0 ((Zf6 (Zf e5) (k:=i) (by omega)).2) ?_
  have j0:=d9
  have d5:=e3
  have d6:=e7
  refine xa 8 [V0 0,.bool false,S0,S0] 183 fun b6 W6 n6=>?_
  refine xsv 0 n6.blk [V0 t,.bool leaf,S0,S0] fun W7 u7 k7=>?_
  have g6:=n6.ge (B4 W3)
  refine xsH 7 (fun _ _ _ _ zo zx zy V=>Qf (k:=(Jg l.length m i)) (b:=a2) (n:=l2.length) (c:=c2) (i:=(↑(Jg l.length m i):Int)) (ki:=.i64) zo zx zy rfl (by omega) Tryz.underlying105 (by kernel_rfl) V) ?_
  have hB:=u7.below n6.below g6
  refine zl 5 96 (fun zm j5 V=>∃ (j:Nat) (kp:O0) (kc:Nat) (vp:O0) (vc:Nat),j5=[(0,P0 ba),(1,V0 t),(2,.bool leaf),(3,.slice a2 l2.length c2),(10,.slice p4 i c4),(12,V0 (↑(Jg l.length m i):Int)),(13,P0 b6),(26,.slice ps (ovN l.length m) cs),(27,V0 (↑(ovN l.length m):Int)),(28,V0 (i:Int)),(37,.slice a2 (Jg l.length m i) c2),(38,V0 (↑(Jg l.length m i):Int)),(39,V0 (j:Int))]∧zm=Jg l.length m i-((j:Int)).toNat∧B3 W3 V∧Blk V b6 ([V0 t,.bool leaf,.slice kp j kc,.slice vp j vc]) 183∧V.ownsRow W3.heap.size 3 1 (.slice kp j kc) j (((Ks l2).take j).map V0)∧V.ownsRow W3.heap.size 9 1 (.slice vp j vc) j (((Ga l2).take j).map sv)∧j≤Jg l.length m i) ⟨0,none,0,none,0,rfl,rfl,hB,k7,World.ownsRow_nil _ _ _ _,World.ownsRow_nil _ _ _ _,Nat.zero_le _⟩ ?_
  rintro _ _ W8 ⟨j,kp,kc,vp,vc,rfl,rfl,b9,b5,hK,hV,hj⟩ J8 n0 r8
  refine xid 6 ((j:Int)<(↑(Jg l.length m i):Int)) (fun o0=>?_) (fun o0=>?_)
  ·have b2:=i3 _ j0 d5
   refine xx 6 _ (Jg l.length m i) j 3 (Sts.cell b2 Qk Zn (k:=j) (i:=0) (by omega) rfl).1 ?_
   refine xlv 0 (Sts.rp (k:=j) (b2.below b9) Qk Zn (by omega) (by decide)) ?_
   refine xa 0 [V0 0,.string ⟨#[]⟩,V0 0] 122 fun o3 r0 c0=>?_
   have m6:=c0.ge b9
   refine xsv 0 c0.blk [V0 ((l2.getD j Zn).1),.string ⟨((l2.getD j Zn).2.1).toArray⟩,V0 ((l2.getD j Zn).2.2)] fun r4 j2 m0=>?_
   have b1:=j2.blkT (b5.below c0.below) c0.blk (by decide)
   refine xb 5 2 b1 ?_
   refine xb 1 0 m0 ?_
   refine xbs 0 1 [V0 ((l2.getD j Zn).1)] 3 fun q9 q0 d0=>?_
   have e9:=j2.below (bln b9 c0.below) m6
   have o5:=d0.ge e9
   have e8:=j2.own2 (Zb hK c0.below) c0.blk (by decide)
   have k1:=Zu e8 d0
   have c7:=Zb e8 d0.below
   have f2:=bln e9 d0.below
   refine xbi 0 fun _ _ _ _ zJ zQ zo zx zy zK=>Xd (m:=1) (news:=[V0 ((l2.getD j Zn).1)]) (V0 0) 1 8 (j+1) (((Ks l2).take (j+1)).map V0) zo Tryz.underlying35 (by kernel_rfl) rfl (by decide) zx c7 zy (d0.blk.sl 1 1 (by decide) (by decide)) rfl (by simp[Value.oneCell']) (by unfold maxLen;omega) (by omega) f2.size (by rfl) ((keys_take (by omega)).symm) fun f6 f7 p7 m5 e0 l1=>?_
   refine zK _ _ ?_
   have a1:=(b1.below d0.below).grown e0 c7 (by decide)
   refine xs 1 a1 [V0 t,.bool leaf,.slice f6 (j+1) f7,.slice vp j vc] fun p8 i8 l8=>?_
   refine xb 4 3 l8 ?_
   have h8:=i8.blkT ((m0.below d0.below).grown e0 c7 (by decide)) a1 (by decide)
   refine xb 1 1 h8 ?_
   refine xbs 0 1 [.string ⟨((l2.getD j Zn).2.1).toArray⟩] 9 fun p0 r6 e4=>?_
   have g1:=i8.below (f2.trans l1) g6
   have q7:=e4.ge g1
   have g3:=i8.own2 (Zr (Zb (j2.own2 (Zb hV c0.below) c0.blk (by decide)) d0.below) e0 c7 (by decide)) a1 (by decide)
   have l5:=Zu g3 e4
   have d7:=Zb g3 e4.below
   have h3:=bln g1 e4.below
   refine xbi 0 fun _ _ _ _ zJ zQ zo zx zy zK=>Xd (m:=1) (news:=[.string ⟨((l2.getD j Zn).2.1).toArray⟩]) (.string ⟨#[]⟩) 1 16 (j+1) (((Ga l2).take (j+1)).map sv) zo Tryz.underlying134 (by kernel_rfl) rfl (by decide) zx d7 zy (e4.blk.sl 1 1 (by decide) (by decide)) rfl (by simp[Value.oneCell']) (by unfold maxLen;omega) (by omega) h3.size (by rfl) ((vals_take (by omega)).symm) fun l3 j9 p1 m7 g9 l0=>?_
   refine zK _ _ ?_
   have b4:=(l8.below e4.below).grown g9 d7 (by decide)
   refine xs 1 b4 [V0 t,.bool leaf,.slice f6 (j+1) f7,.slice l3 (j+1) j9] fun q3 k4 n1=>?_
   refine xwm 4 ((j:Int)+1) (↑(j+1):Int) ?_
   have k2:=k4.below (h3.trans l0) g6
   have f8:=k4.own2 (Zr (Zb (i8.own2 m5 a1 (by decide)) e4.below) g9 d7 (by decide)) b4 (by decide)
   have g2:=k4.own2 m7 b4 (by decide)
   exact ze 2 (n0 _ _ _ ⟨j+1,_,_,_,_,rfl,rfl,k2,n1,f8,g2,by omega⟩ (by omega))
  refine xsL 9 (fun _ _ _ _ zo zx zy V=>Mq (k:=(Jg l.length m i)) (b:=a2) (n:=l2.length) (c:=c2) (i:=(↑(Jg l.length m i):Int)) (ki:=.i64) 3 zo zx zy rfl (by omega) Tryz.underlying105 (by kernel_rfl) V) ?_
  refine xlv 5 b5.rp ?_
  have a5:B3 W3 W8:=b9
  have i0:w.heap.size≤W3.heap.size:=j0.size
  have i1:Jg l.length m i=j:=by omega
  have m8:(Ks l2).take j=Ks (Xq l m i):=by rw[g0];exact keys_chunk i1
  have n7:(Ga l2).take j=Ga (Xq l m i):=by rw[g0];exact vals_chunk i1
  have j1:(Xq l m i).length=j:=by rw[Bj,i1]
  have d8:=Zh hK i0
  rw[m8] at d8
  have h7:=Zh hV i0
  rw[n7] at h7
  have hN:=Zak E ht1 ht2 hm hv hl (show i<ovN l.length m by omega)
  have f3:=Eo hN
  rw[j1] at hN
  have n5:Gc m v (Ko t leaf j m v) (Ks (Xq l m i)) (Ga (Xq l m i)) j=Zfh t leaf m v (Xq l m i):=by rw[←j1];rfl
  refine xc 0 (args:=#[.agg #[V0 t,.bool leaf,.slice kp j kc,.slice vp j vc]]) (node_Put t leaf j m v (Ks (Xq l m i)) (Ga (Xq l m i)) kp vp kc vc _ hN (Zf d8) (Zf h7)) ?_
  rintro _ q5 ⟨_,rfl,a4,p6,c6,rfl,h6⟩
  have k6:=(blB j0 hBw a5).size
  have g7:=Zh h6 k6
  rw[n5] at g7
  have j7:=(hA.below a5).below a4
  have hO:=(d5.trans (Zd.of_below a5)).trans (Zd.of_below a4)
  have hB:=blB (blB j0 hBw a5) hBw a4
  refine xc 21 (args:=#[P0 ba,V0 2,.slice p6 244 c6]) (Pp B ba b g nn cc pa ca f N (k0+i) (Zbq t leaf m v l (f+k0) bs i) 2 p6 c6 (Zfh t leaf m v (Xq l m i)) (f+k0+i) 244 _ (Nat.add_assoc _ _ _).symm f3 hC j7 (by omega) (by decide) (by decide) (fun W _ hO=>Qu (Zf (Zi g7 hO (by decide))) f3) (by decide) (Nat.le_trans hBw hB.size)) ?_
  rintro _ p3 ⟨rfl,k5,a9,g8,hA⟩
  refine xr 20 (args:=#[V0 (↑(f+k0+i):Int)]) (Ig ((f+k0+i:Nat):Int) (by omega) (by omega) _) fun o9 a0=>?_
  refine xa 2 [V0 0,.string ⟨#[]⟩,V0 0] 122 fun q4 q1 a3=>?_
  have e1:=blB (hB.trans k5) hBw a0
  have c5:=a3.ge0 e1
  have b3:=Zb (Zi (Zb (Zb m1 a5) a4) a9 (by decide)) a0
  have a6:=Zu b3 a3
  refine xsv 0 a3.blk [V0 0,.string ⟨(leB (↑(f+k0+i):Int) 4).toArray⟩,V0 (↑(f+k0+i):Int)] fun o4 b0 i2=>?_
  refine xid 9 ((↑(Jg l.length m i):Int)>(0:Int)) (fun k9=>?_) (fun k9=>?_)
  ·have h9:((Ks (Xq l m i))).getD 0 0=((Xq l m i).getD 0 Zn).1:=chunk_key i1 (by omega)
   have c1:=b0.blkT ((((b5.below a4).only a9 (by decide)).below a0).below a3.below) a3.blk (by decide)
   refine xb 2 2 c1 ?_
   have f4:=b0.own2 (Zb (Zb (Zi (Zb d8 a4) a9 (by decide)) a0) a3.below) a3.blk (by decide)
   refine xx 0 _ j 0 1 (IntsN.elem (Zf f4) (by rw[Bh,j1]) (k:=0) (by omega)).1 ?_
   refine xl 0 ((IntsN.elem (Zf f4) (by rw[Bh,j1]) (k:=0) (by omega)).2) ?_
   refine xs 1 i2 [V0 ((Ks (Xq l m i)).getD 0 0),.string ⟨(leB (↑(f+k0+i):Int) 4).toArray⟩,V0 (↑(f+k0+i):Int)] fun r1 e6 m2=>?_
   refine xlv 4 m2.rp ?_
   refine xbs 0 1 [V0 ((Ks (Xq l m i)).getD 0 0),.string ⟨(leB (↑(f+k0+i):Int) 4).toArray⟩,V0 (↑(f+k0+i):Int)] 122 fun p5 o8 b8=>?_
   have i7:=b8.ne m2
   have f1:=e6.below (b0.below (blB e1 hBw a3.below) (Nat.le_trans hBw c5)) (Nat.le_trans hBw c5)
   have p9:=b8.ge0 f1
   have d2:=e6.own3 (b0.own3 (Zb b3 a3.below) a6) a6
   have i6:=Zu d2 b8
   have a8:=Zb d2 b8.below
   have f5:=blB f1 hBw b8.below
   refine xbi 0 fun _ _ _ _ zJ zQ zo zx zy zK=>Xd (m:=1) (news:=[V0 ((Ks (Xq l m i)).getD 0 0),.string ⟨(leB (↑(f+k0+i):Int) 4).toArray⟩,V0 (↑(f+k0+i):Int)]) (.agg #[V0 0,.string ⟨#[]⟩,V0 0]) 3 32 (i+1) ((upE l m (f+k0) (i+1)).flatMap Qz) zo Tryz.underlying105 (by kernel_rfl) rfl (by decide) zx a8 zy (b8.blk.sl 1 1 (by decide) (by decide)) rfl (by simp[Value.oneCell']) (by unfold maxLen;omega) (by omega) f5.size (by rfl) (up_row (by first|exact h9|exact c9)) fun n8 o2 p2 n2 c3 l4=>?_
   refine zK _ _ ?_
   refine xwm 5 ((i:Int)+1) (↑(i+1):Int) ?_
   refine xv1 2 3 (show(.slice (Wh a2 (Jg l.length m i) c2 3) (l2.length-(Jg l.length m i)) (c2-(Jg l.length m i)):Value)=.slice (Wh a2 (Jg l.length m i) c2 3) ((l2.drop (Jg l.length m i)).length) (c2-Jg l.length m i) from by rw[List.length_drop]) ?_
   have k8:=(((((hA.below a0).below a3.below).only (Zd.of_upd (T:=[122]) b0 a3.blk (by decide)) (by decide)).only (Zd.of_upd (T:=[122]) e6 i2 (by decide)) (by decide)).below b8.below).only (Zd.of_grown (T:=[122]) c3 a8 (by decide)) (by decide)
   have e2:l2.drop (Jg l.length m i)=l.drop ((i+1)*m):=by
    rw[g0,List.drop_drop,Nat.add_mul,Nat.one_mul]
    unfold Jg
    rcases Nat.le_total m (l.length-i*m) with q|q
    ·rw[Nat.min_eq_left q]
    ·rw[Nat.min_eq_right q,List.drop_eq_nil_of_le (by omega),List.drop_eq_nil_of_le (by omega)]
   have k3:=f5.trans (l4.mono hBw)
   have hX:=(Fr.grown_new ((Fr.upd_new (Fr.upd_new (((((d6.trans (Fr.of_below a5)).trans (Fr.of_below a4)).trans (g8.mono (by simp))).trans (Fr.of_below a0)).trans (Fr.of_below a3.below)) b0 c5) e6 c5).trans (Fr.of_below b8.below)) c3 a8)
   have j4:=(Zd.grown_new ((Zd.upd_new (Zd.upd_new (((hO.trans a9).trans (Zd.of_below a0)).trans (Zd.of_below a3.below)) b0 c5) e6 c5).trans (Zd.of_below b8.below)) c3 a8)
   have f0:=Zr (Zb (e6.own2 (b0.own2 (Zb (Zb (Zi (Zb (Zb e5 a5) a4) a9 (by decide)) a0) a3.below) a3.blk (by decide)) i2 (by decide)) b8.below) c3 a8 (by decide)
   exact ze 0 (l9 _ _ _ ⟨i+1,_,_,(l2.drop (Jg l.length m i)),_,_,rfl,rfl,k3,hX,j4,f0,n2,k8,fun W h1 h2=>Sts.cut Qk (i3 W h1 h2) _ h4,by omega,e2⟩ (by omega))
  have c9:(0:Int)=((Xq l m i).getD 0 Zn).1:=Zfo i1 (by omega)
  refine xlv 4 i2.rp ?_
  refine xbs 0 1 [V0 0,.string ⟨(leB (↑(f+k0+i):Int) 4).toArray⟩,V0 (↑(f+k0+i):Int)] 122 fun q2 q6 b7=>?_
  have i9:=b7.ne i2
  have d1:=b0.below (blB e1 hBw a3.below) (Nat.le_trans hBw c5)
  have o7:=b7.ge0 d1
  have d3:=b0.own3 (Zb b3 a3.below) a6
  have i4:=Zu d3 b7
  have a7:=Zb d3 b7.below
  have d4:=blB d1 hBw b7.below
  refine xbi 0 fun _ _ _ _ zJ zQ zo zx zy zK=>Xd (m:=1) (news:=[V0 0,.string ⟨(leB (↑(f+k0+i):Int) 4).toArray⟩,V0 (↑(f+k0+i):Int)]) (.agg #[V0 0,.string ⟨#[]⟩,V0 0]) 3 32 (i+1) ((upE l m (f+k0) (i+1)).flatMap Qz) zo Tryz.underlying105 (by kernel_rfl) rfl (by decide) zx a7 zy (b7.blk.sl 1 1 (by decide) (by decide)) rfl (by simp[Value.oneCell']) (by unfold maxLen;omega) (by omega) d4.size (by rfl) (up_row (by first|exact h9|exact c9)) fun m4 m3 q8 n4 c8 l6=>?_
  refine zK _ _ ?_
  refine xwm 5 ((i:Int)+1) (↑(i+1):Int) ?_
  refine xv1 2 3 (show(.slice (Wh a2 (Jg l.length m i) c2 3) (l2.length-(Jg l.length m i)) (c2-(Jg l.length m i)):Value)=.slice (Wh a2 (Jg l.length m i) c2 3) ((l2.drop (Jg l.length m i)).length) (c2-Jg l.length m i) from by rw[List.length_drop]) ?_
  have l7:=((((hA.below a0).below a3.below).only (Zd.of_upd (T:=[122]) b0 a3.blk (by decide)) (by decide)).below b7.below).only (Zd.of_grown (T:=[122]) c8 a7 (by decide)) (by decide)
  have e2:l2.drop (Jg l.length m i)=l.drop ((i+1)*m):=by
   rw[g0,List.drop_drop,Nat.add_mul,Nat.one_mul]
   unfold Jg
   rcases Nat.le_total m (l.length-i*m) with q|q
   ·rw[Nat.min_eq_left q]
   ·rw[Nat.min_eq_right q,List.drop_eq_nil_of_le (by omega),List.drop_eq_nil_of_le (by omega)]
  have h5:=d4.trans (l6.mono hBw)
  have hX:=(Fr.grown_new ((Fr.upd_new (((((d6.trans (Fr.of_below a5)).trans (Fr.of_below a4)).trans (g8.mono (by simp))).trans (Fr.of_below a0)).trans (Fr.of_below a3.below)) b0 c5).trans (Fr.of_below b7.below)) c8 a7)
  have j3:=(Zd.grown_new ((Zd.upd_new (((hO.trans a9).trans (Zd.of_below a0)).trans (Zd.of_below a3.below)) b0 c5).trans (Zd.of_below b7.below)) c8 a7)
  have f9:=Zr (Zb (b0.own2 (Zb (Zb (Zi (Zb (Zb e5 a5) a4) a9 (by decide)) a0) a3.below) a3.blk (by decide)) b7.below) c8 a7 (by decide)
  exact ze 0 (l9 _ _ _ ⟨i+1,_,_,(l2.drop (Jg l.length m i)),_,_,rfl,rfl,h5,hX,j3,f9,n4,l7,fun W h1 h2=>Sts.cut Qk (i3 W h1 h2) _ h4,by omega,e2⟩ (by omega))
 refine xe 13 (.tuple #[.slice p4 i c4,.nilIface]) ?_
 obtain rfl:i=ovN l.length m:=by omega
 exact⟨_,_,rfl,d9,e3,e7,hA,m1⟩
theorem only_a3{w w':World}(h:Zd [152,5] w w'):Zd [152,5,32] w w':=h.mono fun t ht=>by simp at ht ⊢;exact⟨ht.1,ht.2.1⟩
def Tree1Post(B ba b g nn cc:Nat)(pa:O0)(ca f N k0:Nat)(bs:Bl)(t:Int)(leaf:Bool)(m v:Nat)(l:List Ent)(b8:Nat)(w:World)(e:Ending)(w':World):Prop :=
 ∃ p c,e=.returned (.slice p (ovN l.length m) c)∧Below B w w'∧Zd [152,5,32] w w'∧Fr [ba,g,b8] w w'∧Blk w' b8 [.nilIface] 32∧Al B ba b g nn cc pa ca f N (k0+ovN l.length m) (Zbq t leaf m v l (f+k0) bs (ovN l.length m)) w'∧w'.ownsRow w.heap.size 122 3 (.slice p (ovN l.length m) c) (ovN l.length m) ((upE l m (f+k0) (ovN l.length m)).flatMap Qz)
theorem Sj(B ba b g nn cc:Nat)(pa:O0)(ca f N k0:Nat)(bs:Bl)(t:Int)(leaf:Bool)(m v:Nat)(a:O0)(c:Nat)(l:List Ent)(b3 b4 b8:Nat)(w:World)(k3:Blk w b3 [P0 ba] 94)(k4:Blk w b4 [V0 t] 3)(k8:Blk w b8 [.nilIface] 32)(h38:b3≠b8)(h48:b4≠b8)(hB8:B≤b8)(hC:AlC B ba nn cc ca f N)(hA:Al B ba b g nn cc pa ca f N k0 bs w)(ht1:1≤t)(ht2:t≤5)(hm:Qy t leaf=m)(hv:Ua t leaf=v)(E:EntsOk v l)(hl:leaf=false→1≤l.length)(hn:l.length≤32768)(hf1:1≤f)(hk:k0+ovN l.length m≤N)(hin:∀ W,Below B w W→Zd [152,5,32] w W→Sts Qz W (.slice a l.length c) l)(hBw:B≤w.heap.size) :
 C0 190 #[.bool leaf,.slice a l.length c,P0 b3,P0 b4,P0 b8] w (Tree1Post B ba b g nn cc pa ca f N k0 bs t leaf m v l b8 w):=by
 refine zin 20 Tryz.func190 ?_
 refine xb 7 0 k3 ?_
 refine xb 0 0 k4 ?_
 refine xc 2 (args:=#[P0 ba,V0 t,.bool leaf,.slice a l.length c]) (Zd0 B ba b g nn cc pa ca f N k0 bs t leaf m v a c l _ hC hA ht1 ht2 hm hv E hl hn hf1 hk (fun W h1 h2=>hin W ((Below.refl B _).trans h1) ((Zd.refl _ _).trans (only_a3 h2))) (Nat.le_trans hBw (Below.refl B _).size)) ?_
 rintro _ W1 ⟨p4,c4,rfl,a7,a3,a5,hA,a4⟩
 have a6:=Nat.le_refl w.heap.size
 have a0:=k8.only a3 (by decide)
 refine xs 10 a0 [.nilIface] fun W2 u2 k2=>?_
 have hB:=u2.below a7 hB8
 have hO:=(show Zd [152,5,32] w _ from(only_a3 a3)).trans (Zd.of_upd u2 a0 (by decide))
 have hX:=(show Fr [ba,g,b8] w _ from(a5.mono (by simp))).trans (Fr.of_upd u2 (by simp))
 have a2:=hA.only (Zd.of_upd (T:=[32]) u2 a0 (by decide)) (by decide)
 have a1:=u2.own2 (Zh a4 a6) a0 (by decide)
 exact xe 9 (.slice p4 (ovN l.length m) c4) ⟨_,_,rfl,hB,hO,hX,k2,a2,a1⟩
def Zfs(B ba b g nn cc:Nat)(pa:O0)(ca f N k0:Nat)(bs:Bl)(t:Int)(l:List Ent)(w:World)(e:Ending)(w':World):Prop :=
 e=.returned (.tuple #[V0 (Yz t l (f+k0) bs).1,.nilIface])∧Below B w w'∧Zd [152,5,32] w w'∧Fr [ba,g] w w'∧Al B ba b g nn cc pa ca f N (k0+Xw t l.length) (Yz t l (f+k0) bs).2 w'
theorem build_Tree(B ba b g nn cc:Nat)(pa:O0)(ca f N k0:Nat)(bs:Bl)(t:Int)(a:O0)(c:Nat)(l:List Ent)(w:World)(hC:AlC B ba nn cc ca f N)(hA:Al B ba b g nn cc pa ca f N k0 bs w)(ht1:1≤t)(ht2:t≤5)(E:EntsOk (Ua t true) l)(hn:l.length≤32768)(hf1:1≤f)(hkN:k0≤N)(hk:k0+Xw t l.length≤N)(hin:∀ W,Below B w W→Zd [152,5,32] w W→Sts Qz W (.slice a l.length c) l)(hBw:B≤w.heap.size) :
 C0 118 #[P0 ba,V0 t,.slice a l.length c] w (Zfs B ba b g nn cc pa ca f N k0 bs t l w):=by
 have g1:=Um t l.length
 have g0:(ovN l.length (Qy t true))≤Xw t l.length:=Mn _
 have g5:=Zbr l.length (Qy t true) (Qv t true).1
 have f5:=Kg l.length (Qy t true)
 have f9:=hC.hf
 have g3:=hC.hn
 refine zin 52 Tryz.func118 ?_
 refine xa 2 [P0 ba] 94 fun b1 W1 n1=>?_
 refine xa 0 [V0 t] 3 fun b2 W2 n2=>?_
 have k1:=n1.blk.below n2.below
 refine xb 8 0 k1 ?_
 have c0:=(hA.below n1.below).below n2.below
 refine xr 0 (args:=#[P0 ba]) (Qj ba b _ _ _ c0.blkA) fun W3 b6=>?_
 have k2:=n2.blk.below b6
 refine xb 7 0 k2 ?_
 have hB:=blB (blB (blB (Below.refl B w) hBw n1.below) hBw n2.below) hBw b6
 have hO:=((show Zd [152,5,32] w _ from(Zd.of_below n1.below)).trans (Zd.of_below n2.below)).trans (Zd.of_below b6)
 refine xr 1 (args:=#[V0 t,.slice a l.length c]) (Zef t (Ua t true) a c l _ ht1 ht2 rfl E (hin _ hB hO) hn) fun W4 b8=>?_
 refine xd 6 .z ?_
 have b9:=((k1.below b6).below b8).below (Za W4)
 refine xb (.e [] 0) 0 b9 ?_
 have c7:=(k2.below b8).below (Za W4)
 refine xb (.e [] 2) 0 c7 ?_
 have c5:=((c0.below b6).below b8).below (Za W4)
 refine xr (.o [3,4] 1) (args:=#[P0 ba]) (Cd ba b pa N ca k0 _ c5.blkA hkN) fun W5 b5=>?_
 refine xr (.o [] 5) (args:=#[V0 t,V0 (l.length:Int)]) (Qq t l.length _ ht1 ht2 hn) fun W6 b4=>?_
 refine xk (.r [6,7] 2) (show(decide ((↑(N-k0):Int)<(↑(Xw t l.length):Int)):Bool)=false from decide_eq_false (by omega)) ?_
 refine xa 5 [.nilIface] 32 fun b7 W7 n7=>?_
 have a8:=blB (blB (blB (blB hB hBw b8) hBw (Za W4)) hBw b5) hBw b4
 have g7:=n7.ge0 a8
 have b0:=((b9.below b5).below b4).below n7.below
 have b3:=((c7.below b5).below b4).below n7.below
 have e3:=((c5.below b5).below b4).below n7.below
 have a9:=blB a8 hBw n7.below
 have c1:=((((hO.trans (Zd.of_below b8)).trans (Zd.of_below (Za W4))).trans (Zd.of_below b5)).trans (Zd.of_below b4)).trans (Zd.of_below n7.below)
 refine xc 12 (args:=#[.bool true,.slice a l.length c,P0 b1,P0 b2,P0 b7]) (Sj B ba b g nn cc pa ca f N k0 bs t true (Qy t true) (Ua t true) a c l b1 b2 b7 _ b0 b3 n7.blk (Blk.tne b0 n7.blk (by decide)) (Blk.tne b3 n7.blk (by decide)) (Nat.le_trans hBw g7) hC e3 ht1 ht2 rfl rfl E (by simp) hn hf1 (by omega) (fun W h1 h2=>hin W (a9.trans h1) (c1.trans h2)) (Nat.le_trans hBw a9.size)) ?_
 rintro _ W8 ⟨d6,d5,rfl,f1,d7,f0,e5,hA,a7⟩
 have f3:=(blB a8 hBw n7.below).size
 refine xv1 5 10 (show(.slice d6 (ovN l.length (Qy t true)) d5:Value)=.slice d6 ((upE l (Qy t true) (f+k0) (ovN l.length (Qy t true))).length) d5 from by rw[Ye]) ?_
 have c4:=Zh a7 f3
 have e4:=a9.trans f1
 have hX:=(Fr.trans_new ((((((((show Fr [ba,g] w _ from(Fr.of_below n1.below)).trans (Fr.of_below n2.below)).trans (Fr.of_below b6)).trans (Fr.of_below b8)).trans (Fr.of_below (Za W4))).trans (Fr.of_below b5)).trans (Fr.of_below b4)).trans (Fr.of_below n7.below)) f0 g7)
 have d2:=c1.trans d7
 have d3:=b0.only d7 (by decide)
 have e1:=b3.only d7 (by decide)
 refine zl 0 52 (fun zm f2 V=>∃ (u:List Ent) (K:Nat) (c9:Bl) (p:O0) (c2:Nat),f2=[(6,V0 0),(7,.nilIface),(8,P0 b7),(9,.func (.func 190) #[] #[P0 b1,P0 b2,P0 b7]),(10,.slice p u.length c2)]∧zm=u.length∧Below B w V∧Fr [ba,g] w V∧Zd [152,5,32] w V∧Blk V b1 ([P0 ba]) 94∧Blk V b2 ([V0 t]) 3∧Blk V b7 ([.nilIface]) 32∧V.ownsRow w.heap.size 122 3 (.slice p u.length c2) u.length (u.flatMap Qz)∧Al B ba b g nn cc pa ca f N K c9 V∧K+(Za3 u.length).sum=k0+Xw t l.length+u.length∧1≤u.length∧u.length≤32768∧EntsOk 4 u∧Pc t u (f+K) c9=Yz t l (f+k0) bs) ⟨(upE l (Qy t true) (f+k0) (ovN l.length (Qy t true))),(k0+(ovN l.length (Qy t true))),(Zbq t true (Qy t true) (Ua t true) l (f+k0) bs (ovN l.length (Qy t true))),d6,d5,rfl,rfl,e4,hX,d2,d3,e1,e5,(by rw[Ye];exact c4),hA,(by rw[Ye];unfold Xw Ui;omega),(by rw[Ye];exact f5),(by rw[Ye];omega),up_ok E (Qv t true).1,(by rw[←Nat.add_assoc];rfl)⟩ ?_
 rintro _ _ W9 ⟨u,K,c9,p,c2,rfl,rfl,a3,c3,c6,a1,a2,a0,a7,hA,hK,f4,f8,hE,d0⟩ J9 e9 r9
 have g6:¬ u.length≤1→(Za3 u.length).sum=u.length+(Za3 (ovN u.length 18)).sum:=fun h=>by rw[Hq h];rfl
 have f6:=Mn (ovN u.length 18)
 have f7:2≤u.length→ovN u.length 18≤u.length/2:=ov18
 have d9:=Kg u.length 18
 refine xb 3 0 a0 ?_
 refine xid 8 ((u.length:Int)>(1:Int)) (fun d8=>?_) (fun d8=>?_)
 ·refine xc 6 (args:=#[.bool false,.slice p u.length c2,P0 b1,P0 b2,P0 b7]) (Sj B ba b g nn cc pa ca f N K c9 t false 18 4 p c2 u b1 b2 b7 _ a1 a2 a0 (Blk.tne a1 a0 (by decide)) (Blk.tne a2 a0 (by decide)) (Nat.le_trans hBw g7) hC hA ht1 ht2 rfl rfl hE (fun _=>f4) (by omega) hf1 (by omega) (fun W _ h2=>Zf (Zi a7 h2 (by decide))) (Nat.le_trans hBw a3.size)) ?_
  rintro _ g2 ⟨e8,e7,rfl,d4,a6,e0,e5,hA,a7⟩
  refine xv1 3 10 (show(.slice e8 (ovN u.length 18) e7:Value)=.slice e8 ((upE u 18 (f+K) (ovN u.length 18)).length) e7 from by rw[Ye]) ?_
  have c8:=Zh a7 a3.size
  have e6:=a3.trans d4
  have e2:=(Fr.trans_new c3 e0 g7)
  have d1:=c6.trans a6
  have a5:=a1.only a6 (by decide)
  have a4:=a2.only a6 (by decide)
  refine ze 0 (e9 _ _ _ ⟨(upE u 18 (f+K) (ovN u.length 18)),(K+ovN u.length 18),_,_,_,rfl,rfl,e6,e2,d1,a5,a4,e5,(by rw[Ye];exact c8),hA,(by rw[Ye];omega),(by rw[Ye];exact d9),(by rw[Ye];omega),up_ok hE (by decide),(by rw[←d0,←Nat.add_assoc];exact(Mc (by omega)).symm)⟩ ?_)
  show((upE u 18 (f+K) (ovN u.length 18)).length)<u.length
  rw[Ye];omega
 refine xb 8 0 a0 ?_
 refine xx 9 _ u.length 0 3 (Sts.cell (Zf a7) Qk Zn (k:=0) (i:=0) (by omega) rfl).1 ?_
 refine xl 1 ((Sts.cell (Zf a7) Qk Zn (k:=0) (i:=2) (by omega) rfl).2) ?_
 refine xe 5 (.tuple #[V0 ((u.getD 0 Zn).2.2),.nilIface]) ?_
 have h1:u.length≤1:=by omega
 rw[Nd h1] at d0
 rw[Gh h1] at hK
 simp only[List.sum_cons,List.sum_nil] at hK
 obtain rfl:K=k0+Xw t l.length:=by omega
 refine⟨by rw[←d0],a3,c6,c3,by rw[←d0];exact hA⟩
theorem Al.mono{B B' ba b g n c:Nat}{pa:O0}{ca f N k:Nat}{l:Bl}{w:World}(h:Al B' ba b g n c pa ca f N k l w)(hB:B≤B'):Al B ba b g n c pa ca f N k l w:=⟨h.blkA,h.blkI,Zh h.data hB,Zh h.nums hB⟩
theorem AlC.mono{B B' ba n c ca f N:Nat}(h:AlC B' ba n c ca f N)(hB:B≤B'):AlC B ba n c ca f N:=⟨h.hn,h.hc,h.hca,h.hf,Nat.le_trans hB h.hB⟩
theorem row_at{w:World}{base g n c size:Nat}{e:TypeId}{xs:List Value}(h:w.ownsRow base e size (.slice (S1 g) n c) n xs):∃ cur,w.heap[g]? = some (.cells cur e (0,0)):=by
 rcases h.2 with ⟨hv,_⟩|⟨g2,a0,cur,hv,_,hh,_⟩
 ·cases hv
 ·simp only[Value.slice.injEq,Option.some.injEq,Addr.mk.injEq] at hv
  obtain⟨⟨rfl,_,_⟩,_⟩:=hv
  exact⟨cur,hh⟩
theorem Al.ne{B ba b g n c:Nat}{pa:O0}{ca f N k:Nat}{l:Bl}{B2 ba2 b2 g2 n2 c2:Nat}{pa2:O0}{ca2 f2 N2 k2:Nat}{l2:Bl}{w:World}(h:Al B ba b g n c pa ca f N k l w)(h2:Al B2 ba2 b2 g2 n2 c2 pa2 ca2 f2 N2 k2 l2 w):b2≠ba∧b2≠g:=by
 constructor
 ·rintro rfl
  exact absurd (h.blkA.ty h2.blkI) (by decide)
 ·rintro rfl
  obtain⟨a0,hh⟩:=row_at h.data
  have h3:w.heap[b2]? = some (.cells [.slice (S1 g2) n2 c2].toArray 59 (0,0)):=h2.blkI
  rw[hh] at h3
  simp only[Option.some.injEq,Obj.cells.injEq] at h3
  exact absurd h3.2.1 (by decide)
theorem Al.apart{B2 ba2 b2 g2 n2 c2:Nat}{pa2:O0}{ca2 f2 N2 k2:Nat}{l2:Bl}{w W:World}{ba g:Nat}(h:Al B2 ba2 b2 g2 n2 c2 pa2 ca2 f2 N2 k2 l2 w)(hC:AlC B2 ba2 n2 c2 ca2 f2 N2)(h1:ba<B2)(h2:g<B2)(hne:b2≠ba∧b2≠g)(hX:Fr [ba,g] w W):Al B2 ba2 b2 g2 n2 c2 pa2 ca2 f2 N2 k2 l2 W:=by
 have hB:=hC.hB
 refine⟨h.blkA.fr hX (by simp;omega),h.blkI.fr hX (by simp;exact hne),Sz h.data hX fun k hk=>?_,Sz h.nums hX fun k hk=>?_⟩
 ·have:=(h.data.lt k hk).1;simp;omega
 ·have:=(h.nums.lt k hk).1;simp;omega
theorem Un(B ba b g nn cc:Nat)(pa:O0)(ca f N k0:Nat)(bs:Bl)(t:Int)(a:O0)(c:Nat)(l:List Ent)(n:Nat)(w:World)(hl:l.length=n)(hC:AlC B ba nn cc ca f N)(hA:Al B ba b g nn cc pa ca f N k0 bs w)(ht1:1≤t)(ht2:t≤5)(E:EntsOk (Ua t true) l)(hn:n≤32768)(hf1:1≤f)(hkN:k0≤N)(hk:k0+Xw t n≤N)(hin:∀ W,Below B w W→Zd [152,5,32] w W→Sts Qz W (.slice a l.length c) l)(hBw:B≤w.heap.size) :
 C0 118 #[P0 ba,V0 t,.slice a n c] w (Zfs B ba b g nn cc pa ca f N k0 bs t l w):=by
 subst hl;exact build_Tree B ba b g nn cc pa ca f N k0 bs t a c l w hC hA ht1 ht2 E hn hf1 hkN hk hin hBw
theorem Py{t:Int}{l:List Ent}{q:Nat}{bs:Bl}(hq:1≤q):(Yz t l q bs).1=((q+Xw t l.length-1:Nat):Int):=by
 have hp:=Kg l.length (Qy t true)
 have hg:=Mn (ovN l.length (Qy t true))
 unfold Yz
 rw[Zdg (by rw[Ye];exact hp) (by rw[Ye,Wq (by omega)];simp only[upX];congr 1;omega) (by omega),Ye]
 unfold Xw Ui
 congr 1;omega
abbrev Gr:=Int×List Ent
def Ba(x:Gr):Prop:=1≤x.1∧x.1≤5∧EntsOk (Ua x.1 true) x.2∧x.2.length≤32768
def Kr(x:Gr):Nat:=Xw x.1 x.2.length
def Xu:List Gr→Nat
 | []=>0
 | x::r=>Kr x+Xu r
def Zdd:List Gr→Nat→Bl→Bl
 | [],_,bs=>bs
 | x::r,q,bs=>Zdd r (q+Kr x) (Yz x.1 x.2 q bs).2
theorem Sm(a b:List Gr):Xu (a++b)=Xu a+Xu b:=by
 induction a with
 | nil=>simp[Xu]
 | cons x a ih=>simp only[List.cons_append,Xu,ih];omega
theorem Zex(a b:List Gr):∀ (q:Nat) (bs:Bl),Zdd (a++b) q bs=Zdd b (q+Xu a) (Zdd a q bs):=by
 induction a with
 | nil=>intro q bs;simp[Zdd,Xu]
 | cons x a ih =>
  intro q bs
  simp only[List.cons_append,Zdd,Xu,ih]
  rw[show q+Kr x+Xu a=q+(Kr x+Xu a) by omega]
theorem Zbt(L:List Dv)(i:Nat):Gv (L.take i)≤Gv L:=by
 conv=>rhs;rw[←List.take_append_drop i L]
 unfold Gv
 rw[List.map_append,List.sum_append];omega
theorem gd_mem{α:Type}{l:List α}{k:Nat}(d:α)(h:k<l.length):l.getD k d∈l:=by
 rw[show l.getD k d=l[k] from by simp[List.getD,h]];exact List.getElem_mem _
def Mw(L:List Dv):List Gr:=L.map fun d=>(2,Nl d.2)
def Ry(L:List Dv)(i:Nat):Nat:=Xu (Mw (L.take (i+1)))
theorem Fg(a b:List Dv):Mw (a++b)=Mw a++Mw b:=List.map_append ..
theorem Zbp{L:List Dv}{i:Nat}(h:i<L.length):Mw (L.take (i+1))=Mw (L.take i)++[(2,Nl (L.getD i dvD).2)]:=by
 rw[List.take_succ_eq_append_getElem h,Fg]
 simp[Mw,List.getD,h]
theorem le_sum_mem{l:List Nat}{a:Nat}(h:a∈l):a≤l.sum:=by
 induction l with
 | nil=>cases h
 | cons b l ih =>
  rw[List.sum_cons]
  rcases List.mem_cons.1 h with rfl|h
  ·omega
  ·have:=ih h;omega
theorem devT_ok{data:Int}{L:List Dv}(h:DevsOk data L):∀ x∈Mw L,Ba x:=by
 intro x hx
 obtain⟨d,hd,rfl⟩:=List.mem_map.1 hx
 have hs:d.2.length≤Gv L:=by
  unfold Gv
  exact le_sum_mem (List.mem_map.2 ⟨d,hd,rfl⟩)
 have:=h.sum
 exact⟨show(1:Int)≤2 by decide,show(2:Int)≤5 by decide,Zga (h.each d hd).maps,by rw[Ja];omega⟩
theorem forN_one(x:Gr):Xu [x]=Kr x:=by show Kr x+0=_;omega
theorem Jk(F:List Gr)(x:Gr):Xu (F++[x])=Xu F+Kr x:=by rw[Sm,forN_one]
theorem forB_snoc(F:List Gr)(x:Gr)(q:Nat)(bs:Bl):Zdd (F++[x]) q bs=(Yz x.1 x.2 (q+Xu F) (Zdd F q bs)).2:=by rw[Zex];rfl
theorem Lb(x:Gr):1≤Kr x:=Um _ _
def AlF (B ba b g nn cc:Nat)(pa:O0)(ca N:Nat)(bs:Bl)(F:List Gr)(w:World):Prop:=Al B ba b g nn cc pa ca 1 N (Xu F) (Zdd F 1 bs) w
theorem AlF.below{B ba b g nn cc:Nat}{pa:O0}{ca N:Nat}{bs:Bl}{F:List Gr}{w W:World}(h:AlF B ba b g nn cc pa ca N bs F w)(hb:B3 w W):AlF B ba b g nn cc pa ca N bs F W:=Al.below h hb
theorem AlF.only{B ba b g nn cc:Nat}{pa:O0}{ca N:Nat}{bs:Bl}{F:List Gr}{w W:World}{T:List TypeId}(h:AlF B ba b g nn cc pa ca N bs F w)(hO:Zd T w W)(hT:(T.contains 152||(T.contains 59||(T.contains 5||T.contains 3)))=false):AlF B ba b g nn cc pa ca N bs F W:=by
 simp only[Bool.or_eq_false_iff] at hT
 exact⟨h.blkA.only hO hT.1,h.blkI.only hO hT.2.1,Zi h.data hO hT.2.2.1,Zi h.nums hO hT.2.2.2⟩
theorem build_F(B ba b g nn cc:Nat)(pa:O0)(ca N:Nat)(bs:Bl)(F:List Gr)(t:Int)(a:O0)(c n:Nat)(l:List Ent)(w:World)(hl:l.length=n)(hC:AlC B ba nn cc ca 1 N)(hA:AlF B ba b g nn cc pa ca N bs F w)(hok:Ba (t,l))(hr:Xu (F++[(t,l)])≤N)
 (hin:∀ W,Below B w W→Zd [152,5,32] w W→Sl W (.slice a n c) n (l.flatMap Qz)) (hBw:B≤w.heap.size) :
 C0 118 #[P0 ba,V0 t,.slice a n c] w (fun e w'=>e=.returned (.tuple #[V0 (Xu (F++[(t,l)]):Int),.nilIface])∧Below B w w'∧Zd [152,5,32] w w'∧Fr [ba,g] w w'∧AlF B ba b g nn cc pa ca N bs (F++[(t,l)]) w'):=by
 subst hl
 have hn:=Lb (t,l)
 rw[Jk] at hr
 refine(Un B ba b g nn cc pa ca 1 N (Xu F) (Zdd F 1 bs) t a c l l.length w rfl hC hA hok.1 hok.2.1 hok.2.2.1 (Nat.le_trans hok.2.2.2 (by decide)) (Nat.le_refl _) (by omega) hr hin hBw).mono ?_
 rintro e w' ⟨rfl,hb,hO,hX,a1⟩
 have a0:(Yz t l (1+Xu F) (Zdd F 1 bs)).1=((Xu (F++[(t,l)]):Nat):Int):=by
  rw[Py (by omega),Jk]
  show((1+Xu F+Kr (t,l)-1:Nat):Int)=_
  omega
 refine⟨by rw[a0],hb,hO,hX,?_⟩
 unfold AlF
 rw[Jk,forB_snoc]
 exact a1
theorem top_ok{data:Int}{L:List Dv}{R:Nat→Nat}(h:DevsOk data L):Ba (1,Mf L R):=by
 have:=h.few
 exact⟨show(1:Int)≤1 by decide,show(1:Int)≤5 by decide,Zhc h,by rw[Jn];omega⟩
theorem det_ok{data:Int}{L:List Dv}{C:Nat→Int}(h:DevsOk data L):Ba (3,Mz L C):=by
 have:=h.few
 exact⟨show(1:Int)≤3 by decide,show(3:Int)≤5 by decide,detEs_ok h,by rw[Jj];omega⟩
theorem Zdq{E:List Ent}{i:Nat}(h:i<E.length){x:Ent}(hx:E.getD i Zn=x):(E.take i).flatMap Qz++Qz x=(E.take (i+1)).flatMap Qz:=by
 subst hx
 rw[List.take_succ_eq_append_getElem h,List.flatMap_append]
 simp[List.getD,h]
theorem rootR_pos{L:List Dv}{i:Nat}(h:i<L.length):1≤Xu (Mw (L.take (i+1))):=by
 rw[Zbp h,Jk]
 have:=Lb (2,Nl (L.getD i dvD).2);omega
theorem dev_treeOk{data:Int}{L:List Dv}(hD:DevsOk data L){i:Nat}(h:i<L.length):Ba (2,Nl (L.getD i dvD).2):=devT_ok hD _ (List.mem_map.2 ⟨L.getD i dvD,by simp[List.getD,h],rfl⟩)
theorem Zf5{L:List Dv}{i:Nat}(h:i<L.length):(L.getD i dvD).2.length≤Gv L:=by
 have a:=Zbt L (i+1)
 have e:Gv (L.take (i+1))=Gv (L.take i)+(L.getD i dvD).2.length:=by
  unfold Gv
  rw[List.take_succ_eq_append_getElem h,List.map_append,List.sum_append]
  simp[List.getD,h]
 omega
def Ww(L:List Dv):Nat→Int:=fun i=>((L.getD i dvD).2.length:Int)
def F1 (L:List Dv):List Gr:=Mw L++[(1,Mf L (Ry L))]
def F2 (L:List Dv):List Gr:=F1 L++[(3,Mz L (Ww L))]
theorem forB_len(r:List Gr):∀ (q:Nat) (bs:Bl),(∀ x∈r,Ba x)→(q+Xu r)*256≤bs.length→(Zdd r q bs).length=bs.length:=by
 induction r with
 | nil=>intro q bs _ _;rfl
 | cons x r ih =>
  intro q bs h hb
  have hx:=h x (by simp)
  rw[show Xu (x::r)=Kr x+Xu r from rfl] at hb
  have hk:=Kd (q:=q) (bs:=bs) hx.1 hx.2.1 hx.2.2.1 (by change (q+Kr x)*256≤_;omega)
  rw[show Zdd (x::r) q bs=Zdd r (q+Kr x) (Yz x.1 x.2 q bs).2 from rfl,ih _ _ (fun y hy=>h y (by simp[hy])) (by rw[hk.1];omega),hk.1]
def M24:Bl:=Dc Vm [50331652] 1
def eM:List Ent:=[(7,M24,0)]
def Ee(O:List Int×Int×List Dv)(V:World)(p:O0)(c:Nat)(Z:List Zv):Prop:=Z.length=O.2.2.length∧Z.map Prod.fst=O.2.2∧Xy 0 V Z∧V.ownsRow 0 42 5 (.slice p O.2.2.length c) O.2.2.length (Z.flatMap Zdn)
theorem Ee.below{O:List Int×Int×List Dv}{V W:World}{p:O0}{c:Nat}{Z:List Zv}(h:Ee O V p c Z)(hb:Below V.heap.size V W):Ee O W p c Z:=⟨h.1,h.2.1,h.2.2.1.below hb,Zb h.2.2.2 hb⟩
theorem Ee.only{O:List Int×Int×List Dv}{V W:World}{p:O0}{c:Nat}{Z:List Zv}{T:List TypeId}(h:Ee O V p c Z)(hO:Zd T V W)(hT:(T.contains 46||T.contains 42)=false):Ee O W p c Z:=by
 rw[Bool.or_eq_false_iff] at hT
 exact⟨h.1,h.2.1,h.2.2.1.only hO hT.1,Zi h.2.2.2 hO hT.2⟩
theorem Ee.read{O:List Int×Int×List Dv}{V:World}{p:O0}{c:Nat}{Z:List Zv}(h:Ee O V p c Z):DevsR V p c Z:=by
 have ho:=h.2.2.2
 rw[←h.1] at ho
 exact devs_read h.2.2.1 ho
theorem devsQ_of{O:List Int×Int×List Dv}{V:World}{B:Nat}{p:O0}{c:Nat}{Z:List Zv}(hZ:Z.map Prod.fst=O.2.2)(hM:Xy B V Z)(ho:V.ownsRow B 42 5 (.slice p O.2.2.length c) O.2.2.length (Z.flatMap Zdn)):Ee O V p c Z:=by
 have hl:Z.length=O.2.2.length:=by rw[←hZ,List.length_map]
 exact⟨hl,hZ,hM.mono (Nat.zero_le _),Zh ho (Nat.zero_le _)⟩
theorem Zax(Bi b:Nat)(pi:O0)(ni ci:Nat)(l:Bl)(top details data fuel:Int)(w:World)(hI:ImgR Bi b pi ni ci l w)(hfu:fuel≤1000000):C0 20 #[P0 b,V0 top,V0 details,V0 data,V0 fuel] w (fun e w' =>
 ((Vg l top details data fuel).2.1≠0∧∃ ty v,e=.returned (.tuple #[S0,.iface ty v])∧B3 w w'∧Va w' ((Vg l top details data fuel).1.map some) (some (Vg l top details data fuel).2.1) (.iface ty v)) ∨
 ((Vg l top details data fuel).2.1=0∧∃ p c Z,e=.returned (.tuple #[.slice p (Vg l top details data fuel).2.2.length c,.nilIface])∧B3 w w'∧Ee (Vg l top details data fuel) w' p c Z)):=by
 refine(Zbj Bi b pi ni ci l top details data fuel w hI hfu).mono ?_
 rintro e W q
 rcases q with q|⟨h,p,c,Z,rfl,hb,hZ,hM,ho⟩
 ·exact .inl q
 ·exact .inr ⟨h,p,c,Z,rfl,hb,devsQ_of hZ hM ho⟩
def Ch(l:Bl)(fuel:Int):List Int×Int×List Dv:=if Xg l≠0 then([0],Xg l,[]) else Vg l (Zg (inB l 0)).top (Zg (inB l 0)).details (Zg (inB l 0)).data fuel
theorem Rz{l:Bl}{fuel:Int}(h:Xg l≠0):Ch l fuel=([0],Xg l,[]):=if_pos h
theorem Na{l:Bl}{fuel:Int}(h:Xg l=0):Ch l fuel=Vg l (Zg (inB l 0)).top (Zg (inB l 0)).details (Zg (inB l 0)).data fuel:=if_neg (fun q=>q h)
def LPoolP(O:List Int×Int×List Dv)(S:Sup)(w:World)(e:Ending)(w':World):Prop :=
 (O.2.1≠0∧∃ ty v,e=.returned (.tuple #[.agg #[V0 0,V0 0,V0 0,V0 0,S0],.agg #[V0 0,V0 0,V0 0,V0 0,V0 0,V0 0,V0 0,V0 0,V0 0,V0 0,V0 0],.iface ty v])∧B3 w w'∧Va w' (O.1.map some) (some O.2.1) (.iface ty v)) ∨
 (O.2.1=0∧∃ p c Z,e=.returned (.tuple #[.agg #[V0 S.tx,V0 S.time,V0 S.unit,V0 S.data,.slice p O.2.2.length c],.agg #[V0 S.tx,V0 S.time,V0 S.unit,V0 S.data,V0 S.blocks,V0 S.top,V0 S.details,V0 S.dslots,V0 S.dover,V0 S.mindex,V0 S.mover],.nilIface])∧B3 w w'∧Ee O w' p c Z)
theorem Zcn{O:List Int×Int×List Dv}{S:Sup}{bl:List Int}{er:Int}{L:List Dv}{w W:World}{ty:TypeId}{v:Value}(h:O=(bl,er,L))(her:er≠0)(hb:B3 w W)(hv:Va W (bl.map some) (some er) (.iface ty v)):LPoolP O S w (.returned (.tuple #[.agg #[V0 0,V0 0,V0 0,V0 0,S0],.agg #[V0 0,V0 0,V0 0,V0 0,V0 0,V0 0,V0 0,V0 0,V0 0,V0 0,V0 0],.iface ty v])) W:=by
 subst h;exact .inl ⟨her,ty,v,rfl,hb,hv⟩
theorem lpool_ok{O O':List Int×Int×List Dv}{S:Sup}{w W:World}{p:O0}{c:Nat}{Z:List Zv}(h:O=O')(her:O'.2.1=0)(hb:B3 w W)(hD:Ee O' W p c Z):LPoolP O S w (.returned (.tuple #[.agg #[V0 S.tx,V0 S.time,V0 S.unit,V0 S.data,.slice p O'.2.2.length c],.agg #[V0 S.tx,V0 S.time,V0 S.unit,V0 S.data,V0 S.blocks,V0 S.top,V0 S.details,V0 S.dslots,V0 S.dover,V0 S.mindex,V0 S.mover],.nilIface])) W:=by
 subst h;exact .inr ⟨her,p,c,Z,rfl,hb,hD⟩
theorem load_Pool(Bi b:Nat)(pi:O0)(ni ci:Nat)(l:Bl)(fuel:Int)(w:World)(hI:ImgR Bi b pi ni ci l w)(hfu:fuel≤1000000) :
 C0 7 #[P0 b,V0 fuel] w (LPoolP (Ch l fuel) (Zg (inB l 0)) w):=by
 refine zin 48 Tryz.func7 ?_
 refine xa 2 [V0 0,V0 0,V0 0,V0 0,S0] 28 fun b1 W1 n1=>?_
 refine xa 0 [V0 0,V0 0,V0 0,V0 0,V0 0,V0 0,V0 0,V0 0,V0 0,V0 0,V0 0] 30 fun b2 W2 n2=>?_
 have hB:=bln n1.below n2.below
 refine xc 6 (args:=#[P0 b]) (Fq Bi b pi ni ci l _ (hI.below hB)) ?_
 rintro e W3 d7
 rcases d7 with ⟨b6,bs,rfl,a3,c4⟩|⟨b6,rfl,a3⟩
 ·refine xa 3 [V0 0,V0 0,V0 0,V0 0,V0 0,V0 0,V0 0,V0 0,V0 0,V0 0,V0 0] 30 fun b4 W4 n4=>?_
  have k2:=n2.blk.below a3
  have b7:=n4.ne k2
  have b3:=bln hB a3
  have g4:=n4.ge b3
  refine xsv 0 n4.blk [V0 0,V0 0,V0 0,V0 0,V0 0,V0 0,V0 0,V0 0,V0 0,V0 0,V0 0] fun W5 u5 k5=>?_
  have k1:=u5.blkT (((n1.blk.below n2.below).below a3).below n4.below) n4.blk (by decide)
  refine xsv 16 k1 [V0 0,V0 0,V0 0,V0 0,S0] fun W6 u6 k6=>?_
  have g1:=n1.ge (B4 w)
  have a4:=u6.blkT (u5.blk (k2.below n4.below) (Ne.symm (Ne.symm b7))) k1 (by decide)
  refine xsv 0 a4 [V0 0,V0 0,V0 0,V0 0,V0 0,V0 0,V0 0,V0 0,V0 0,V0 0,V0 0] fun W7 u7 k7=>?_
  have g2:=n2.ge n1.below
  have b5:=(((c4.below n4.below).only (Zd.of_upd (T:=[30]) u5 n4.blk (by decide)) (by decide)).only (Zd.of_upd (T:=[28]) u6 k1 (by decide)) (by decide)).only (Zd.of_upd (T:=[30]) u7 a4 (by decide)) (by decide)
  have d3:=u7.below (u6.below (u5.below (bln b3 n4.below) g4) g1) g2
  have c6:=u7.blkT k6 a4 (by decide)
  exact xecm 5 [(b1,[V0 0,V0 0,V0 0,V0 0,S0]),(b2,[V0 0,V0 0,V0 0,V0 0,V0 0,V0 0,V0 0,V0 0,V0 0,V0 0,V0 0])] ⟨⟨_,c6⟩,⟨_,k7⟩,trivial⟩ (.tuple #[.agg #[V0 0,V0 0,V0 0,V0 0,S0],.agg #[V0 0,V0 0,V0 0,V0 0,V0 0,V0 0,V0 0,V0 0,V0 0,V0 0,V0 0],.iface 256 (P0 bs)]) (Zcn (Rz b6) b6 d3 b5)
 refine xa 3 [V0 0,V0 0,V0 0,V0 0,V0 0,V0 0,V0 0,V0 0,V0 0,V0 0,V0 0] 30 fun b8 W8 n8=>?_
 have k2:=n2.blk.below a3
 have a0:=n8.ne k2
 have b9:=bln hB a3
 have g8:=n8.ge b9
 refine xsv 0 n8.blk [V0 (((Zg (inB l 0))).tx),V0 (((Zg (inB l 0))).time),V0 (((Zg (inB l 0))).unit),V0 (((Zg (inB l 0))).data),V0 (((Zg (inB l 0))).blocks),V0 (((Zg (inB l 0))).top),V0 (((Zg (inB l 0))).details),V0 (((Zg (inB l 0))).dslots),V0 (((Zg (inB l 0))).dover),V0 (((Zg (inB l 0))).mindex),V0 (((Zg (inB l 0))).mover)] fun W9 u9 k9=>?_
 refine xb 17 5 k9 ?_
 refine xb 1 6 k9 ?_
 refine xb 1 3 k9 ?_
 have a6:=u9.below (bln b9 n8.below) g8
 refine xc 1 (args:=#[P0 b,V0 (((Zg (inB l 0))).top),V0 (((Zg (inB l 0))).details),V0 (((Zg (inB l 0))).data),V0 fuel]) (Zax Bi b pi ni ci l (Zg (inB l 0)).top (Zg (inB l 0)).details (Zg (inB l 0)).data fuel _ (hI.below a6) hfu) ?_
 rintro e a9 d1
 rcases d1 with ⟨c5,d9,v9,rfl,a2,c4⟩|⟨c5,p9,c9,Z9,rfl,a2,e0⟩
 ·have k1:=(u9.blkT (((n1.blk.below n2.below).below a3).below n8.below) n8.blk (by decide)).below a2
  refine xsv 20 k1 [V0 0,V0 0,V0 0,V0 0,S0] fun e4 d0 d6=>?_
  have g1:=n1.ge (B4 w)
  have a7:=d0.blkT ((u9.blk (k2.below n8.below) (Ne.symm (Ne.symm a0))).below a2) k1 (by decide)
  refine xsv 0 a7 [V0 0,V0 0,V0 0,V0 0,V0 0,V0 0,V0 0,V0 0,V0 0,V0 0,V0 0] fun e3 d2 d5=>?_
  have g2:=n2.ge n1.below
  have b0:=(c4.only (Zd.of_upd (T:=[28]) d0 k1 (by decide)) (by decide)).only (Zd.of_upd (T:=[30]) d2 a7 (by decide)) (by decide)
  have c7:=d2.below (d0.below (bln a6 a2) g1) g2
  have a8:=d2.blkT d6 a7 (by decide)
  exact xecm 5 [(b1,[V0 0,V0 0,V0 0,V0 0,S0]),(b2,[V0 0,V0 0,V0 0,V0 0,V0 0,V0 0,V0 0,V0 0,V0 0,V0 0,V0 0])] ⟨⟨_,a8⟩,⟨_,d5⟩,trivial⟩ (.tuple #[.agg #[V0 0,V0 0,V0 0,V0 0,S0],.agg #[V0 0,V0 0,V0 0,V0 0,V0 0,V0 0,V0 0,V0 0,V0 0,V0 0,V0 0],.iface d9 (v9)]) (Zcn (Na b6) c5 c7 b0)
 refine xd 18 (.f w.heap.size [b1,b2]) ?_
 have a1:=(k9.below a2).below (Za a9)
 have k1:=((u9.blkT (((n1.blk.below n2.below).below a3).below n8.below) n8.blk (by decide)).below a2).below (Za a9)
 refine xlt (.e [0] 1) (.f w.heap.size [b1,b2]) (fun V hV=>(a1.fr hV.2 (by simp only[List.mem_cons,List.not_mem_nil,or_false];rintro(h|h);exact(Blk.tne a1 k1 (by decide)) h;exact(Ne.symm a0) h)).cell (i:=0) rfl) ?_
 refine xlt (.e [2] 3) (.f w.heap.size [b1,b2]) (fun V hV=>(a1.fr hV.2 (by simp only[List.mem_cons,List.not_mem_nil,or_false];rintro(h|h);exact(Blk.tne a1 k1 (by decide)) h;exact(Ne.symm a0) h)).cell (i:=1) rfl) ?_
 refine xlt (.e [4] 5) (.f w.heap.size [b1,b2]) (fun V hV=>(a1.fr hV.2 (by simp only[List.mem_cons,List.not_mem_nil,or_false];rintro(h|h);exact(Blk.tne a1 k1 (by decide)) h;exact(Ne.symm a0) h)).cell (i:=2) rfl) ?_
 refine xlt (.e [6] 7) (.f w.heap.size [b1,b2]) (fun V hV=>(a1.fr hV.2 (by simp only[List.mem_cons,List.not_mem_nil,or_false];rintro(h|h);exact(Blk.tne a1 k1 (by decide)) h;exact(Ne.symm a0) h)).cell (i:=3) rfl) ?_
 refine xlvt (.e [8,9] 10) (.f w.heap.size [b1,b2]) (fun V hV=>(a1.fr hV.2 (by simp only[List.mem_cons,List.not_mem_nil,or_false];rintro(h|h);exact(Blk.tne a1 k1 (by decide)) h;exact(Ne.symm a0) h)).rp) ?_
 have g1:=n1.ge (B4 w)
 refine ysv (.o [] 11) k1 [V0 (((Zg (inB l 0))).tx),V0 (((Zg (inB l 0))).time),V0 (((Zg (inB l 0))).unit),V0 (((Zg (inB l 0))).data),.slice p9 ((Vg l (Zg (inB l 0)).top (Zg (inB l 0)).details (Zg (inB l 0)).data fuel).2.2.length) c9] (.f w.heap.size [b1,b2]) fun e1 c2 d4=>⟨(sff_upd c2 g1 (by simp)),?_⟩
 have a5:=c2.blkT (((u9.blk (k2.below n8.below) (Ne.symm (Ne.symm a0))).below a2).below (Za a9)) k1 (by decide)
 have g2:=n2.ge n1.below
 refine ysv (.o [] 12) a5 [V0 (((Zg (inB l 0))).tx),V0 (((Zg (inB l 0))).time),V0 (((Zg (inB l 0))).unit),V0 (((Zg (inB l 0))).data),V0 (((Zg (inB l 0))).blocks),V0 (((Zg (inB l 0))).top),V0 (((Zg (inB l 0))).details),V0 (((Zg (inB l 0))).dslots),V0 (((Zg (inB l 0))).dover),V0 (((Zg (inB l 0))).mindex),V0 (((Zg (inB l 0))).mover)] (.f w.heap.size [b1,b2]) fun e2 c3 d8=>⟨(sff_upd c3 g2 (by simp)),?_⟩
 have c0:=((e0.below (Za a9)).only (Zd.of_upd (T:=[28]) c2 k1 (by decide)) (by decide)).only (Zd.of_upd (T:=[30]) c3 a5 (by decide)) (by decide)
 have c8:=c3.below (c2.below (bln (bln a6 a2) (Za a9)) g1) g2
 have c1:=c3.blkT d4 a5 (by decide)
 exact xecm (.r [13] 3) [(b1,[V0 (((Zg (inB l 0))).tx),V0 (((Zg (inB l 0))).time),V0 (((Zg (inB l 0))).unit),V0 (((Zg (inB l 0))).data),.slice p9 ((Vg l (Zg (inB l 0)).top (Zg (inB l 0)).details (Zg (inB l 0)).data fuel).2.2.length) c9]),(b2,[V0 (((Zg (inB l 0))).tx),V0 (((Zg (inB l 0))).time),V0 (((Zg (inB l 0))).unit),V0 (((Zg (inB l 0))).data),V0 (((Zg (inB l 0))).blocks),V0 (((Zg (inB l 0))).top),V0 (((Zg (inB l 0))).details),V0 (((Zg (inB l 0))).dslots),V0 (((Zg (inB l 0))).dover),V0 (((Zg (inB l 0))).mindex),V0 (((Zg (inB l 0))).mover)])] ⟨⟨_,c1⟩,⟨_,d8⟩,trivial⟩ (.tuple #[.agg #[V0 (((Zg (inB l 0))).tx),V0 (((Zg (inB l 0))).time),V0 (((Zg (inB l 0))).unit),V0 (((Zg (inB l 0))).data),.slice p9 ((Vg l (Zg (inB l 0)).top (Zg (inB l 0)).details (Zg (inB l 0)).data fuel).2.2.length) c9],.agg #[V0 (((Zg (inB l 0))).tx),V0 (((Zg (inB l 0))).time),V0 (((Zg (inB l 0))).unit),V0 (((Zg (inB l 0))).data),V0 (((Zg (inB l 0))).blocks),V0 (((Zg (inB l 0))).top),V0 (((Zg (inB l 0))).details),V0 (((Zg (inB l 0))).dslots),V0 (((Zg (inB l 0))).dover),V0 (((Zg (inB l 0))).mindex),V0 (((Zg (inB l 0))).mover)],.nilIface]) (lpool_ok (Na b6) c5 c8 c0)
end Go.Proofs.YtceeiinepijokaaGreat
namespace Go.Proofs.YtceeiinepijokaaGreat
set_option maxHeartbeats 8000000
set_option maxRecDepth 100000
set_option linter.unusedVariables false
theorem Zd5{data:Int}{L:List Dv}(h:DevsOk data L)(id:Int):(Ji L id).Pairwise (fun x y=>x.1<y.1):=by
 unfold Ji
 split
 ·rename_i d hd
  exact(h.each d (List.mem_of_find?_eq_some hd)).maps.rise
 ·exact .nil
theorem Zdz{A:List Mp}{m:Mp}(h:∀ x∈A,x.1≠m.1)(v:Int):Gi (A++[m]) v=if m.1=v then(true,m.2.1,m.2.2) else Gi A v:=by
 unfold Gi
 rw[List.find?_append]
 by_cases hm:m.1=v
 ·rw[if_pos hm]
  have hn:A.find? (fun x=>decide (x.1=v))=none:=by
   rw[List.find?_eq_none]
   intro x hx
   have:=h x hx
   rw[hm] at this
   simpa using this
  rw[hn]
  simp[hm]
 ·rw[if_neg hm]
  have e:[m].find? (fun x=>decide (x.1=v))=none:=by simp[hm]
  rw[e,Option.or_none]
theorem Fn{M:List Mp}(h:M.Pairwise (fun x y=>x.1<y.1)){i:Nat}(hi:i<M.length)(v:Int):Gi (M.take (i+1)) v=if(M.getD i mpD).1=v then(true,(M.getD i mpD).2.1,(M.getD i mpD).2.2) else Gi (M.take i) v:=by
 have e:M.getD i mpD=M[i]:=by simp[List.getD,hi]
 rw[e,List.take_succ_eq_append_getElem hi]
 refine Zdz (fun x hx=>?_) v
 obtain⟨j,hj,rfl⟩:=List.mem_take_iff_getElem.1 hx
 have:=List.pairwise_iff_getElem.1 h j i (by omega) hi (by omega)
 omega
theorem Zbx{M:List Mp}(h:M.Pairwise (fun x y=>x.1<y.1)){i:Nat}(hi:i<M.length):Gi M (M.getD i mpD).1=(true,(M.getD i mpD).2.1,(M.getD i mpD).2.2):=by
 have e:M.getD i mpD=M[i]:=by simp[List.getD,hi]
 rw[e]
 unfold Gi
 rw[Om (i:=i) hi (by simp) fun j hj=>?_]
 have:=List.pairwise_iff_getElem.1 h j i (by omega) hi hj
 rw[decide_eq_false_iff_not]
 omega
theorem devsO_good{l:Bl}{top details data fuel:Int}(h:(Vg l top details data fuel).2.1=0):Vg l top details data fuel=([],0,(Vg l top details data fuel).2.2):=by
 have e:(Vg l top details data fuel).1=[]:=by
  unfold Vg at h ⊢
  split
  ·rename_i q;rw[if_pos q] at h;exact absurd h (Zbz q)
  rename_i q;rw[if_neg q] at h
  split
  ·rename_i q;rw[if_pos q] at h;exact absurd h (Zbz q)
  rename_i q;rw[if_neg q] at h
  split
  ·rename_i q;rw[if_pos q] at h;exact absurd h (by simp)
  rename_i q;rw[if_neg q] at h
  split
  ·rename_i q;rw[if_pos q] at h;exact absurd h (by simp)
  rename_i q;rw[if_neg q] at h
  split
  ·rename_i q;rw[if_pos q] at h;exact absurd h (by simp)
  rename_i q;rw[if_neg q] at h
  have hk:=Zdo h _ (Nat.le_refl _)
  rw[Za2 hk]
 exact Prod.ext e (Prod.ext h rfl)
theorem supT_finds{l:Bl}{fuel:Int}(h:(Ch l fuel).2.1=0)(id v:Int) :
 (supT l id v).c=0∧(∃ a t,(supT l id v).way=0::a::t)∧((supT l id v).found,(supT l id v).b,(supT l id v).t)=Gi (Ji (Ch l fuel).2.2 id) v:=by
 by_cases hs:Xg l=0
 ·rw[Zaq hs]
  have hd:=Na (l:=l) (fuel:=fuel) hs
  rw[hd] at h ⊢
  obtain⟨h1,_,⟨t,ht,hw⟩,h4⟩:=Ze8 (devsO_good h) [0] id v
  refine⟨h1,?_,h4⟩
  cases t with
  | nil=>exact absurd rfl ht
  | cons a t=>exact⟨a,t,hw⟩
 ·rw[Rz hs] at h;exact absurd h hs
end Go.Proofs.YtceeiinepijokaaGreat
namespace Go.Proofs.YtceeiinepijokaaGreat
set_option maxHeartbeats 8000000
set_option maxRecDepth 100000
open Go.RowKit Go.Extern.Stop Go.Stop Go.Extern
set_option linter.unusedVariables false
attribute [local irreducible] wpList wpAnyH Code.wp Oper.wp Go
def inZ (n lo hi:Int):Bool:=decide (lo≤n∧n≤hi)
theorem inZ_t{n lo hi:Int}:inZ n lo hi=true↔lo≤n∧n≤hi:=decide_eq_true_iff
def dvE (d:Dv)(last:Int):Int:=if inZ d.1.1 0 16777215&&(inZ d.1.2.1 0 2147483647&&(inZ d.1.2.2.1 0 16777215&&inZ d.1.2.2.2 0 16777215)) then(if d.1.1≤last then 8 else 0) else 2
def mpE (data:Int)(m:Mp)(last:Int):Int:=if inZ m.1 0 281474976710655&&(inZ m.2.1 0 (data-1)&&inZ m.2.2 0 16777215) then(if m.1≤last then 8 else 0) else 2
def Io(data:Int):List Mp→Int→Int
 | [],_=>0
 | m::r,last=>if mpE data m last≠0 then mpE data m last else Io data r m.1
def dvsE(data:Int):List Dv→Int→Int
 | [],_=>0
 | d::r,last=>if dvE d last≠0 then dvE d last else if Io data d.2 (-1)≠0 then Io data d.2 (-1) else dvsE data r d.1.1
def wsum(L:List Dv):Int:=IntKind.i64.wrap (Gv L:Int)
def Gq(tx time unit data:Int)(L:List Dv):Int :=
 if(inZ tx 0 2147483647&&inZ time 0 16777215)&&(inZ unit 1 65536&&inZ data 0 65536) then(if 4096<L.length∨16384<wsum L then 2 else dvsE data L (-1)) else 2
theorem mpE_2{data:Int}{m:Mp}{last:Int}(h:(inZ m.1 0 281474976710655&&(inZ m.2.1 0 (data-1)&&inZ m.2.2 0 16777215))=false):mpE data m last=2:=if_neg (by rw[h];decide)
theorem mpE_8{data:Int}{m:Mp}{last:Int}(h:(inZ m.1 0 281474976710655&&(inZ m.2.1 0 (data-1)&&inZ m.2.2 0 16777215))=true)(h2:m.1≤last):mpE data m last=8:=(if_pos h).trans (if_pos h2)
theorem mpE_0{data:Int}{m:Mp}{last:Int}(h:(inZ m.1 0 281474976710655&&(inZ m.2.1 0 (data-1)&&inZ m.2.2 0 16777215))=true)(h2:¬ m.1≤last):mpE data m last=0:=(if_pos h).trans (if_neg h2)
theorem dvE_2{d:Dv}{last:Int}(h:(inZ d.1.1 0 16777215&&(inZ d.1.2.1 0 2147483647&&(inZ d.1.2.2.1 0 16777215&&inZ d.1.2.2.2 0 16777215)))=false):dvE d last=2:=if_neg (by rw[h];decide)
theorem dvE_8{d:Dv}{last:Int}(h:(inZ d.1.1 0 16777215&&(inZ d.1.2.1 0 2147483647&&(inZ d.1.2.2.1 0 16777215&&inZ d.1.2.2.2 0 16777215)))=true)(h2:d.1.1≤last):dvE d last=8:=(if_pos h).trans (if_pos h2)
theorem dvE_0{d:Dv}{last:Int}(h:(inZ d.1.1 0 16777215&&(inZ d.1.2.1 0 2147483647&&(inZ d.1.2.2.1 0 16777215&&inZ d.1.2.2.2 0 16777215)))=true)(h2:¬ d.1.1≤last):dvE d last=0:=(if_pos h).trans (if_neg h2)
theorem mpE_ok{data:Int}{m:Mp}{last:Int}:mpE data m last=0↔((0≤m.1∧m.1≤281474976710655)∧(0≤m.2.1∧m.2.1<data)∧0≤m.2.2∧m.2.2≤16777215)∧last<m.1:=by
 unfold mpE
 simp only[Bool.and_eq_true,inZ_t]
 split
 ·split
  ·exact⟨fun h=>absurd h (by decide),fun h=>by omega⟩
  ·exact⟨fun _=>by omega,fun _=>rfl⟩
 ·exact⟨fun h=>absurd h (by decide),fun h=>by omega⟩
theorem dvE_ok{d:Dv}{last:Int}:dvE d last=0↔((0≤d.1.1∧d.1.1≤16777215)∧(0≤d.1.2.1∧d.1.2.1≤2147483647)∧(0≤d.1.2.2.1∧d.1.2.2.1≤16777215)∧0≤d.1.2.2.2∧d.1.2.2.2≤16777215)∧last<d.1.1:=by
 unfold dvE
 simp only[Bool.and_eq_true,inZ_t]
 split
 ·split
  ·exact⟨fun h=>absurd h (by decide),fun h=>by omega⟩
  ·exact⟨fun _=>by omega,fun _=>rfl⟩
 ·exact⟨fun h=>absurd h (by decide),fun h=>by omega⟩
theorem Zes{data:Int}:∀ {M:List Mp} {last:Int},Io data M last=0↔MapsOk data M∧∀ m∈M,last<m.1
 | [],last=>⟨fun _=>⟨.nil _,fun _ h=>by cases h⟩,fun _=>rfl⟩
 | m::r,last=>by
  have ih:=@Zes data r m.1
  show(if mpE data m last≠0 then mpE data m last else Io data r m.1)=0↔_
  by_cases h:mpE data m last=0
  ·rw[if_neg (fun q=>q h),ih]
   have h2:=mpE_ok.1 h
   constructor
   ·rintro⟨a,b⟩
    refine⟨⟨.cons b a.rise,fun x hx=>?_⟩,fun x hx=>?_⟩
    ·rcases List.mem_cons.1 hx with rfl|hx
     ·exact h2.1
     ·exact a.each x hx
    ·rcases List.mem_cons.1 hx with rfl|hx
     ·exact h2.2
     ·have:=b x hx;omega
   ·rintro⟨a,_⟩
    obtain⟨c1,c2⟩:=List.pairwise_cons.1 a.rise
    exact⟨⟨c2,fun x hx=>a.each x (List.mem_cons_of_mem _ hx)⟩,c1⟩
  ·rw[if_pos h]
   exact⟨fun q=>absurd q h,fun q=>absurd (mpE_ok.2 ⟨q.1.each m (List.mem_cons_self ..),q.2 m (List.mem_cons_self ..)⟩) h⟩
theorem dvsE_ok{data:Int}:∀ {L:List Dv} {last:Int},dvsE data L last=0↔(L.Pairwise (fun x y=>x.1.1<y.1.1)∧∀ d∈L,DevOk data d)∧∀ d∈L,last<d.1.1
  | [],last=>⟨fun _=>⟨⟨.nil,fun _ h=>by cases h⟩,fun _ h=>by cases h⟩,fun _=>rfl⟩
  | d :: r, last => by
    have ih:=@dvsE_ok data r d.1.1
    show(if dvE d last≠0 then dvE d last else if Io data d.2 (-1)≠0 then Io data d.2 (-1) else dvsE data r d.1.1)=0↔_
    by_cases h:dvE d last=0
    · rw[if_neg (fun q=>q h)]
      have h2:=dvE_ok.1 h
      by_cases g:Io data d.2 (-1)=0
      · rw[if_neg (fun q=>q g),ih]
        have g2:=Zes.1 g
        constructor
        · rintro⟨⟨a1,a2⟩,b⟩
          refine⟨⟨.cons b a1,fun x hx=>?_⟩,fun x hx=>?_⟩
          · rcases List.mem_cons.1 hx with rfl|hx
            · exact⟨h2.1.1,h2.1.2.1,h2.1.2.2.1,h2.1.2.2.2,g2.1⟩
            · exact a2 x hx
          · rcases List.mem_cons.1 hx with rfl|hx
            · exact h2.2
            · have:=b x hx;omega
        · rintro⟨⟨a1,a2⟩,_⟩
          obtain⟨c1,c2⟩:=List.pairwise_cons.1 a1
          exact⟨⟨c2,fun x hx=>a2 x (List.mem_cons_of_mem _ hx)⟩,c1⟩
      · rw[if_pos g]
        refine⟨fun q=>absurd q g,fun q=>absurd (Zes.2 ⟨(q.1.2 d (List.mem_cons_self ..)).maps,fun m hm=>?_⟩) g⟩
        have:=(q.1.2 d (List.mem_cons_self ..)).maps.each m hm;omega
    · rw[if_pos h]
      refine⟨fun q=>absurd q h,fun q=>absurd (dvE_ok.2 ⟨?_,q.2 d (List.mem_cons_self ..)⟩) h⟩
      have:=q.1.2 d (List.mem_cons_self ..)
      exact⟨this.id,this.tx,this.made,this.snap⟩
structure PoolOk(tx time unit data:Int)(L:List Dv):Prop where
 htx:0≤tx∧tx≤2147483647
 htime:0≤time∧time≤16777215
 hunit:1≤unit∧unit≤65536
 hdata:0≤data∧data≤65536
 devs:DevsOk data L
theorem rise_ge{M:List Mp}(h:M.Pairwise (fun x y=>x.1<y.1))(h0:∀ m∈M,0≤m.1):∀ i (hi:i<M.length),(i:Int)≤M[i].1
 | 0,hi=>h0 _ (List.getElem_mem hi)
 | i+1,hi=>by
  have ih:=rise_ge h h0 i (by omega)
  have:=List.pairwise_iff_getElem.1 h i (i+1) (by omega) hi (by omega)
  omega
theorem maps_few{data:Int}{M:List Mp}(h:MapsOk data M):M.length≤281474976710656:=by
 by_cases h0:M.length=0
 ·omega
 ·have h1:=rise_ge h.rise (fun m hm=>(h.each m hm).1.1) (M.length-1) (by omega)
  have h2:=(h.each _ (List.getElem_mem (show M.length-1<M.length by omega))).1.2
  omega
theorem sum_few{L:List Dv}{k:Nat}(h:∀ d∈L,d.2.length≤k):Gv L≤L.length*k:=by
 induction L with
 | nil=>exact Nat.zero_le _
 | cons d r ih =>
  have h1:=h d (List.mem_cons_self ..)
  have h2:=ih fun x hx=>h x (List.mem_cons_of_mem _ hx)
  have e:Gv (d::r)=d.2.length+Gv r:=rfl
  rw[e,List.length_cons,Nat.add_mul];omega
theorem wsum_ok{data:Int}{L:List Dv}(hf:L.length≤4096)(h:∀ d∈L,DevOk data d):wsum L=(Gv L:Int):=by
 have h1:=sum_few fun d hd=>maps_few (h d hd).maps
 have h2:L.length*281474976710656≤4096*281474976710656:=Nat.mul_le_mul_right _ hf
 exact IntWalk.i64_in _ (by omega)
theorem wrap_add(a b:Int):IntKind.i64.wrap (IntKind.i64.wrap a+b)=IntKind.i64.wrap (a+b):=by
 simp only[IntKind.wrap,IntKind.signed,IntKind.bits]
 simp
 try omega
theorem Oa{tx time unit data:Int}{L:List Dv}:Gq tx time unit data L=0↔PoolOk tx time unit data L:=by
 unfold Gq
 simp only[Bool.and_eq_true,inZ_t]
 split
 ·rename_i h
  split
  ·rename_i g
   refine⟨fun q=>absurd q (by decide),fun q=>?_⟩
   have a:=q.devs.few
   have b:=q.devs.sum
   rw[wsum_ok a q.devs.each] at g
   omega
  ·rename_i g
   rw[dvsE_ok]
   constructor
   ·rintro⟨⟨a,b⟩,_⟩
    have hw:=wsum_ok (L:=L) (by omega) b
    exact⟨h.1.1,h.1.2,h.2.1,h.2.2,by omega,by omega,a,b⟩
   ·intro q
    exact⟨⟨q.devs.rise,q.devs.each⟩,fun d hd=>by have:=(q.devs.each d hd).id;omega⟩
 ·rename_i h
  exact⟨fun q=>absurd q (by decide),fun q=>absurd ⟨⟨q.htx,q.htime⟩,q.hunit,q.hdata⟩ h⟩
theorem sumM_take{L:List Dv}{n:Nat}(h:n<L.length){x:Dv}:Gv (L.take (n+1))=Gv (L.take n)+(L.getD n x).2.length:=by
 unfold Gv
 rw[List.take_succ_eq_append_getElem h,List.map_append,List.sum_append]
 simp[List.getD,h]
theorem Wt{data:Int}{M:List Mp}{i:Nat}{x:Mp}{last:Int}(h:i<M.length):Io data (M.drop i) last=if mpE data (M.getD i x) last≠0 then mpE data (M.getD i x) last else Io data (M.drop (i+1)) (M.getD i x).1:=by
 rw[List.drop_eq_getElem_cons h,show M.getD i x=M[i] from by simp[List.getD,h]];rfl
theorem mpsE_end{data:Int}{M:List Mp}{i:Nat}{last:Int}(h:M.length≤i):Io data (M.drop i) last=0:=by
 rw[List.drop_eq_nil_of_le h];rfl
theorem dvsE_drop{data:Int}{L:List Dv}{i:Nat}{x:Dv}{last:Int}(h:i<L.length):dvsE data (L.drop i) last=if dvE (L.getD i x) last≠0 then dvE (L.getD i x) last else if Io data (L.getD i x).2 (-1)≠0 then Io data (L.getD i x).2 (-1) else dvsE data (L.drop (i+1)) (L.getD i x).1.1:=by
 rw[List.drop_eq_getElem_cons h,show L.getD i x=L[i] from by simp[List.getD,h]];rfl
theorem dvsE_end{data:Int}{L:List Dv}{i:Nat}{last:Int}(h:L.length≤i):dvsE data (L.drop i) last=0:=by
 rw[List.drop_eq_nil_of_le h];rfl
theorem Ut(n lo hi:Int)(w:World) :
 C0 60 #[V0 n,V0 lo,V0 hi] w (Ret (.bool (inZ n lo hi)) w):=by
 refine zin 15 Tryz.func60 ?_
 refine xg 11 [9,10] (decide (lo≤n)) (fun a0=>?_) (fun a0=>?_)
 ·have a0:=of_decide_eq_true a0
  exact xe 8 (.bool (decide (n≤hi))) ⟨by rw[show inZ n lo hi=decide (n≤hi) from by unfold inZ;exact decide_eq_decide.2 (by omega)],(B4 w)⟩
 have a0:=of_decide_eq_false a0
 exact xe 8 (.bool false) ⟨by rw[show inZ n lo hi=false from decide_eq_false (by omega)],(B4 w)⟩
theorem Mm(t:Int)(w:World) :
 C0 105 #[V0 t] w (Ret (.bool !(inZ t 0 16777215)) w):=by
 refine zin 6 Tryz.func105 ?_
 refine xr 8 (args:=#[V0 t,V0 0,V0 16777215]) (Ut t 0 16777215 _) fun W1 a0=>?_
 exact xe 5 (.bool (!(inZ t 0 16777215))) ⟨rfl,a0⟩
theorem indexT1(t:Int)(b:Nat)(w:World)(k:Blk w b [V0 t] 3) :
 C0 178 #[.slice (S1 b) 1 1,.func (.func 105) #[] #[]] w ((fun e w'=>((inZ t 0 16777215)=true∧e=.returned (V0 (-1))∧B3 w w')∨((inZ t 0 16777215)=false∧∃ i:Nat,e=.returned (V0 (i:Int))∧B3 w w'))):=by
 refine zin 19 Tryz.func178 ?_
 refine xu 14 2 ?_
 refine xb 23 0 k ?_
 refine xr 0 (args:=#[V0 t]) (Mm t _) fun W1 a0=>?_
 refine xi 2 (!(inZ t 0 16777215)) (fun a1=>?_) (fun a1=>?_)
 ·exact xe 12 (V0 0) (.inr ⟨by simp_all,0,rfl,a0⟩)
 exact xe 26 (V0 (-1)) (.inl ⟨by simp_all,rfl,a0⟩)
theorem containsT1(t:Int)(b:Nat)(w:World)(k:Blk w b [V0 t] 3) :
 C0 104 #[.slice (S1 b) 1 1,.func (.func 105) #[] #[]] w (Ret (.bool !(inZ t 0 16777215)) w):=by
 refine zin 9 Tryz.func104 ?_
 refine xc 9 (args:=#[.slice (S1 b) 1 1,.func (.func 105) #[] #[]]) (indexT1 t b _ k) ?_
 rintro e W1 a1
 rcases a1 with ⟨hz,rfl,a0⟩|⟨hz,i0,rfl,a0⟩
 ·exact xe 5 (.bool false) ⟨by first|(rw[hz];rfl)|(rw[hz,decide_eq_true (by omega)];rfl),a0⟩
 exact xe 5 (.bool (decide ((i0:Int)≥(0:Int)))) ⟨by first|(rw[hz];rfl)|(rw[hz,decide_eq_true (by omega)];rfl),a0⟩
theorem Zco(tx:Int)(t:Int)(b:Nat)(w:World)(k:Blk w b [V0 t] 3) :
 C0 59 #[V0 tx,.slice (S1 b) 1 1] w (Ret (.bool ((inZ tx 0 2147483647)&&(inZ t 0 16777215))) w):=by
 refine zin 12 Tryz.func59 ?_
 refine xr 8 (args:=#[V0 tx,V0 0,V0 2147483647]) (Ut tx 0 2147483647 _) fun W1 a0=>?_
 refine xg 1 [6,7] (inZ tx 0 2147483647) (fun a1=>?_) (fun a1=>?_)
 ·have a2:=k.below a0
  refine xr 1 (args:=#[.slice (S1 b) 1 1,.func (.func 105) #[] #[]]) (containsT1 t b _ a2) fun W3 a3=>?_
  have hB:=bln a0 a3
  exact xe 6 (.bool (!(!(inZ t 0 16777215)))) ⟨by simp_all,hB⟩
 exact xe 8 (.bool false) ⟨by simp_all,a0⟩
theorem indexT2(t u:Int)(b:Nat)(w:World)(k:Blk w b [V0 t,V0 u] 3) :
 C0 178 #[.slice (S1 b) 2 2,.func (.func 105) #[] #[]] w ((fun e w'=>(((inZ t 0 16777215)&&(inZ u 0 16777215))=true∧e=.returned (V0 (-1))∧B3 w w')∨(((inZ t 0 16777215)&&(inZ u 0 16777215))=false∧∃ i:Nat,e=.returned (V0 (i:Int))∧B3 w w'))):=by
 refine zin 19 Tryz.func178 ?_
 refine xu 14 3 ?_
 refine xb 23 0 k ?_
 refine xr 0 (args:=#[V0 t]) (Mm t _) fun W1 a0=>?_
 refine xi 2 (!(inZ t 0 16777215)) (fun a3=>?_) (fun a3=>?_)
 ·exact xe 12 (V0 0) (.inr ⟨by simp_all,0,rfl,a0⟩)
 have a2:=k.below a0
 refine xb 31 1 a2 ?_
 refine xr 0 (args:=#[V0 u]) (Mm u _) fun W3 a1=>?_
 refine xi 2 (!(inZ u 0 16777215)) (fun a4=>?_) (fun a4=>?_)
 ·have hB:=bln a0 a1
  exact xe 12 (V0 1) (.inr ⟨by simp_all,1,rfl,hB⟩)
 have hB:=bln a0 a1
 exact xe 26 (V0 (-1)) (.inl ⟨by simp_all,rfl,hB⟩)
theorem containsT2(t u:Int)(b:Nat)(w:World)(k:Blk w b [V0 t,V0 u] 3) :
 C0 104 #[.slice (S1 b) 2 2,.func (.func 105) #[] #[]] w (Ret (.bool !((inZ t 0 16777215)&&(inZ u 0 16777215))) w):=by
 refine zin 9 Tryz.func104 ?_
 refine xc 9 (args:=#[.slice (S1 b) 2 2,.func (.func 105) #[] #[]]) (indexT2 t u b _ k) ?_
 rintro e W1 a1
 rcases a1 with ⟨hz,rfl,a0⟩|⟨hz,i0,rfl,a0⟩
 ·exact xe 5 (.bool false) ⟨by first|(rw[hz];rfl)|(rw[hz,decide_eq_true (by omega)];rfl),a0⟩
 exact xe 5 (.bool (decide ((i0:Int)≥(0:Int)))) ⟨by first|(rw[hz];rfl)|(rw[hz,decide_eq_true (by omega)];rfl),a0⟩
theorem Zbm(tx:Int)(t u:Int)(b:Nat)(w:World)(k:Blk w b [V0 t,V0 u] 3) :
 C0 59 #[V0 tx,.slice (S1 b) 2 2] w (Ret (.bool ((inZ tx 0 2147483647)&&((inZ t 0 16777215)&&(inZ u 0 16777215)))) w):=by
 refine zin 12 Tryz.func59 ?_
 refine xr 8 (args:=#[V0 tx,V0 0,V0 2147483647]) (Ut tx 0 2147483647 _) fun W1 a0=>?_
 refine xg 1 [6,7] (inZ tx 0 2147483647) (fun a1=>?_) (fun a1=>?_)
 ·have a2:=k.below a0
  refine xr 1 (args:=#[.slice (S1 b) 2 2,.func (.func 105) #[] #[]]) (containsT2 t u b _ a2) fun W3 a3=>?_
  have hB:=bln a0 a3
  exact xe 6 (.bool (!(!((inZ t 0 16777215)&&(inZ u 0 16777215))))) ⟨by simp_all,hB⟩
 exact xe 8 (.bool false) ⟨by simp_all,a0⟩
theorem Zd3(d:Dv)(last:Int)(a:O0)(n c:Nat)(w:World) :
 C0 62 #[.agg #[V0 d.1.1,V0 d.1.2.1,V0 d.1.2.2.1,V0 d.1.2.2.2,.slice a n c],V0 last] w (Ret (V0 (dvE d last)) w):=by
 refine zin 26 Tryz.func62 ?_
 refine xa 2 [V0 d.1.1,V0 d.1.2.1,V0 d.1.2.2.1,V0 d.1.2.2.2,.slice a n c] 42 fun b1 W1 n1=>?_
 refine xb 8 0 n1.blk ?_
 refine xr 0 (args:=#[V0 d.1.1,V0 0,V0 16777215]) (Ut d.1.1 0 16777215 _) fun W2 a3=>?_
 refine xg 2 [9,10] (!(inZ d.1.1 0 16777215)) (fun a1=>?_) (fun a1=>?_)
 ·have a1:=Zc2 a1
  have hB:=bln n1.below a3
  exact xe 22 (V0 2) ⟨by rw[dvE_2 (by rw[a1];rfl)],hB⟩
 have a1:=Zbf a1
 have a0:=n1.blk.below a3
 refine xb 1 1 a0 ?_
 refine xb 1 2 a0 ?_
 refine xb 1 3 a0 ?_
 refine xbs 0 2 [V0 d.1.2.2.1,V0 d.1.2.2.2] 3 fun b4 W4 n4=>?_
 refine xr 0 (args:=#[V0 d.1.2.1,.slice (S1 b4) 2 2]) (Zbm d.1.2.1 d.1.2.2.1 d.1.2.2.2 b4 _ n4.blk) fun W5 a4=>?_
 refine xi 5 (!((inZ d.1.2.1 0 2147483647)&&((inZ d.1.2.2.1 0 16777215)&&(inZ d.1.2.2.2 0 16777215)))) (fun a2=>?_) (fun a2=>?_)
 ·have a2:=Zc2 a2
  have hB:=bln (bln (bln n1.below a3) n4.below) a4
  exact xe 8 (V0 2) ⟨by rw[dvE_2 (by rw[a1,a2];rfl)],hB⟩
 have a2:=Zbf a2
 have a5:=(a0.below n4.below).below a4
 refine xb 3 0 a5 ?_
 refine xid 5 (d.1.1≤last) (fun a6=>?_) (fun a6=>?_)
 ·have hB:=bln (bln (bln n1.below a3) n4.below) a4
  exact xe 8 (V0 8) ⟨by rw[dvE_8 (by rw[a1,a2];rfl) (by omega)],hB⟩
 have hB:=bln (bln (bln n1.below a3) n4.below) a4
 exact xe 9 (V0 0) ⟨by rw[dvE_0 (by rw[a1,a2];rfl) (by omega)],hB⟩
theorem Zev(a:O0)(c:Nat)(L:List Mp)(data:Int)(w:World)(hd:0≤data∧data≤65536)(ha:Sts Pj w (.slice a L.length c) L) :
 C0 63 #[.slice a L.length c,V0 data] w (Ret (V0 (Io data L (-1))) w):=by
 have c1:=Sl.len ha
 refine zin 41 Tryz.func63 ?_
 have hB:=Below.refl w.heap.size w
 refine zl 19 41 (fun zm b9 V=>∃ (i:Nat) (a3:Int),b9=[(1,V0 data),(5,V0 a3),(8,.slice a L.length c),(9,V0 (L.length:Int)),(10,V0 (i:Int))]∧zm=L.length-((i:Int)).toNat∧B3 w V∧i≤L.length∧Io data L (-1)=Io data (L.drop i) a3) ⟨0,(-1),rfl,rfl,hB,Nat.zero_le _,rfl⟩ ?_
 rintro _ _ W1 ⟨i,a3,rfl,rfl,a0,hi,he⟩ J1 b8 r1
 refine xid 6 ((i:Int)<(L.length:Int)) (fun c0=>?_) (fun c0=>?_)
 ·refine xx 6 _ L.length i 3 (Sts.cell ha Ya mpD (k:=i) (i:=0) (by omega) rfl).1 ?_
  refine xlv 0 (Sts.rp (k:=i) (ha.below a0) Ya mpD (by omega) (by decide)) ?_
  refine xa 0 [V0 0,V0 0,V0 0] 46 fun b3 W3 n3=>?_
  have g3:=n3.ge a0
  refine xsv 0 n3.blk [V0 ((L.getD i mpD).1),V0 ((L.getD i mpD).2.1),V0 ((L.getD i mpD).2.2)] fun W4 u4 k4=>?_
  refine xb 7 0 k4 ?_
  refine xr 0 (args:=#[V0 ((L.getD i mpD).1),V0 0,V0 281474976710655]) (Ut ((L.getD i mpD).1) 0 281474976710655 _) fun W5 a5=>?_
  refine xg 2 [18,19] (!(inZ ((L.getD i mpD).1) 0 281474976710655)) (fun a2=>?_) (fun a2=>?_)
  ·have a2:=Zc2 a2
   have b4:=bln (u4.below (bln a0 n3.below) g3) a5
   exact xe 30 (V0 2) ⟨by rw[he,Wt (x:=mpD) (by omega),mpE_2 (by rw[a2];rfl)];rfl,b4⟩
  have a2:=Zbf a2
  have a6:=k4.below a5
  refine xb 1 1 a6 ?_
  refine xw 1 (data-1) ?_
  refine xr 0 (args:=#[V0 ((L.getD i mpD).2.1),V0 0,V0 (data-1)]) (Ut ((L.getD i mpD).2.1) 0 (data-1) _) fun W7 a9=>?_
  refine xg 3 [25,26,27] (!(inZ ((L.getD i mpD).2.1) 0 (data-1))) (fun a4=>?_) (fun a4=>?_)
  ·have a4:=Zc2 a4
   have b5:=bln (bln (u4.below (bln a0 n3.below) g3) a5) a9
   exact xe 22 (V0 2) ⟨by rw[he,Wt (x:=mpD) (by omega),mpE_2 (by rw[a2,a4];rfl)];rfl,b5⟩
  have a4:=Zbf a4
  have a7:=a6.below a9
  refine xb 1 2 a7 ?_
  refine xr 0 (args:=#[V0 ((L.getD i mpD).2.2),V0 0,V0 16777215]) (Ut ((L.getD i mpD).2.2) 0 16777215 _) fun W9 b0=>?_
  refine xi 5 (!(inZ ((L.getD i mpD).2.2) 0 16777215)) (fun a1=>?_) (fun a1=>?_)
  ·have a1:=Zc2 a1
   have b6:=bln (bln (bln (u4.below (bln a0 n3.below) g3) a5) a9) b0
   exact xe 13 (V0 2) ⟨by rw[he,Wt (x:=mpD) (by omega),mpE_2 (by rw[a2,a4,a1];rfl)];rfl,b6⟩
  have a1:=Zbf a1
  have a8:=a7.below b0
  refine xb 3 0 a8 ?_
  refine xid 5 ((L.getD i mpD).1≤a3) (fun b1=>?_) (fun b1=>?_)
  ·have b7:=bln (bln (bln (u4.below (bln a0 n3.below) g3) a5) a9) b0
   exact xe 13 (V0 8) ⟨by rw[he,Wt (x:=mpD) (by omega),mpE_8 (by rw[a2,a4,a1];rfl) (by omega)];rfl,b7⟩
  refine xb 5 0 a8 ?_
  refine xwm 5 ((i:Int)+1) (↑(i+1):Int) ?_
  have b2:=bln (bln (bln (u4.below (bln a0 n3.below) g3) a5) a9) b0
  exact ze 2 (b8 _ _ _ ⟨i+1,(L.getD i mpD).1,rfl,rfl,b2,by omega,by rw[he,Wt (x:=mpD) (by omega),mpE_0 (by rw[a2,a4,a1];rfl) (by omega)];rfl⟩ (by omega))
 exact xe 11 (V0 0) ⟨by rw[he,mpsE_end (by omega)],a0⟩
theorem zfst{Z:List Zv}{i:Nat}(h:i<Z.length)(x:Dv):(Z.map Prod.fst).getD i x=(Z.getD i zvD).1:=by simp[List.getD,h]
theorem Ci{data:Int}{Z:List Zv}{i:Nat}{last:Int}(h:i<Z.length):dvsE data ((Z.map Prod.fst).drop i) last=if dvE (Z.getD i zvD).1 last≠0 then dvE (Z.getD i zvD).1 last else if Io data (Z.getD i zvD).1.2 (-1)≠0 then Io data (Z.getD i zvD).1.2 (-1) else dvsE data ((Z.map Prod.fst).drop (i+1)) (Z.getD i zvD).1.1.1:=by
 rw[dvsE_drop (x:=zvD.1) (by rw[List.length_map];exact h),zfst h]
theorem Tx{Z:List Zv}{i:Nat}(h:i<Z.length):Gv ((Z.map Prod.fst).take (i+1))=Gv ((Z.map Prod.fst).take i)+(Z.getD i zvD).1.2.length:=by
 rw[sumM_take (x:=zvD.1) (by rw[List.length_map];exact h),zfst h]
theorem pool_Count(p:O0)(c n:Nat)(t u v x:Int)(Z:List Zv)(w:World)(hZ:Z.length=n)(hP:DevsR w p c Z) :
 C0 61 #[.agg #[V0 t,V0 u,V0 v,V0 x,.slice p n c]] w (Ret (V0 (wsum (Z.map Prod.fst))) w):=by
 have a7:=Sl.len (hP.rowN hZ)
 refine zin 20 Tryz.func61 ?_
 refine xa 2 [V0 t,V0 u,V0 v,V0 x,.slice p n c] 28 fun b1 W1 n1=>?_
 refine xb 12 4 n1.blk ?_
 refine zl 5 20 (fun zm a5 V=>∃ (i:Nat),a5=[(2,V0 0),(3,V0 (IntKind.i64.wrap (↑(Gv ((Z.map Prod.fst).take i)):Int))),(7,.slice p n c),(8,V0 (n:Int)),(9,V0 (i:Int))]∧zm=n-((i:Int)).toNat∧B3 w V∧Blk V b1 ([V0 t,V0 u,V0 v,V0 x,.slice p n c]) 28∧i≤n) ⟨0,rfl,rfl,n1.below,n1.blk,Nat.zero_le _⟩ ?_
 rintro _ _ W2 ⟨i,rfl,rfl,a0,a2,hi⟩ J2 a4 r2
 refine xid 6 ((i:Int)<(n:Int)) (fun a6=>?_) (fun a6=>?_)
 ·refine xx 6 _ n i 5 (hP.someN hZ (i:=i) (by omega)) ?_
  refine xlv 0 (Sts.rp (k:=i) (hP.below a0).row Gg zvD (by omega) (by decide)) ?_
  refine xa 0 [V0 0,V0 0,V0 0,V0 0,S0] 42 fun b4 W4 n4=>?_
  have g4:=n4.ge a0
  refine xsv 0 n4.blk [V0 ((Z.getD i zvD).1.1.1),V0 ((Z.getD i zvD).1.1.2.1),V0 ((Z.getD i zvD).1.1.2.2.1),V0 ((Z.getD i zvD).1.1.2.2.2),.slice ((Z.getD i zvD).2.1) ((Z.getD i zvD).1.2.length) ((Z.getD i zvD).2.2)] fun W5 u5 k5=>?_
  refine xb 5 4 k5 ?_
  refine xwm 7 ((i:Int)+1) (↑(i+1):Int) ?_
  refine xv1 2 3 (show(V0 (IntKind.i64.wrap ((IntKind.i64.wrap (↑(Gv ((Z.map Prod.fst).take i)):Int))+(↑((Z.getD i zvD).1.2.length):Int))):Value)=V0 (IntKind.i64.wrap (↑(Gv ((Z.map Prod.fst).take (i+1))):Int)) from congrArg V0 ((wrap_add _ _).trans (congrArg IntKind.i64.wrap (by have:=Tx (Z:=Z) (i:=i) (by omega);omega)))) ?_
  have a3:=u5.below (bln a0 n4.below) g4
  have a1:=u5.blkT (a2.below n4.below) n4.blk (by decide)
  exact ze 0 (a4 _ _ _ ⟨i+1,rfl,rfl,a3,a1,by omega⟩ (by omega))
 exact xe 12 (V0 (IntKind.i64.wrap (↑(Gv ((Z.map Prod.fst).take i)):Int))) ⟨by unfold wsum;rw[List.take_of_length_le (by rw[List.length_map];omega)],a0⟩
theorem Sk{tx time unit data:Int}{L:List Dv}(h:((inZ tx 0 2147483647&&inZ time 0 16777215)&&(inZ unit 1 65536&&inZ data 0 65536))=false):Gq tx time unit data L=2:=if_neg (by rw[h];decide)
theorem Zc3{tx time unit data:Int}{L:List Dv}(h:((inZ tx 0 2147483647&&inZ time 0 16777215)&&(inZ unit 1 65536&&inZ data 0 65536))=true)(h2:4096<L.length∨16384<wsum L):Gq tx time unit data L=2:=(if_pos h).trans (if_pos h2)
theorem Cf{tx time unit data:Int}{L:List Dv}(h:((inZ tx 0 2147483647&&inZ time 0 16777215)&&(inZ unit 1 65536&&inZ data 0 65536))=true)(h2:¬ (4096<L.length∨16384<wsum L)):Gq tx time unit data L=dvsE data L (-1):=(if_pos h).trans (if_neg h2)
theorem Bu(p:O0)(c n:Nat)(t u v x:Int)(Z:List Zv)(w:World)(hZ:Z.length=n)(hP:DevsR w p c Z) :
 C0 33 #[.agg #[V0 t,V0 u,V0 v,V0 x,.slice p n c]] w (Ret (V0 (Gq t u v x (Z.map Prod.fst))) w):=by
 have f1:=Sl.len (hP.rowN hZ)
 refine zin 60 Tryz.func33 ?_
 refine xa 2 [V0 t,V0 u,V0 v,V0 x,.slice p n c] 28 fun b1 W1 n1=>?_
 refine xb 7 0 n1.blk ?_
 refine xb 1 1 n1.blk ?_
 refine xbs 0 1 [V0 u] 3 fun b2 W2 n2=>?_
 refine xr 0 (args:=#[V0 t,.slice (S1 b2) 1 1]) (Zco t u b2 _ n2.blk) fun W3 b7=>?_
 refine xg 2 [14,15] (!((inZ t 0 2147483647)&&(inZ u 0 16777215))) (fun a3=>?_) (fun a3=>?_)
 ·have a3:=Zc2 a3
  have hB:=bln (bln n1.below n2.below) b7
  exact xe 21 (V0 2) ⟨by rw[Sk (by rw[a3];rfl)],hB⟩
 have a3:=Zbf a3
 have c4:=(n1.blk.below n2.below).below b7
 refine xb 1 2 c4 ?_
 refine xr 0 (args:=#[V0 v,V0 1,V0 65536]) (Ut v 1 65536 _) fun W5 c2=>?_
 refine xg 3 [19,20,21] (!(inZ v 1 65536)) (fun a4=>?_) (fun a4=>?_)
 ·have a4:=Zc2 a4
  have hB:=bln (bln (bln n1.below n2.below) b7) c2
  exact xe 15 (V0 2) ⟨by rw[Sk (by rw[a3,a4];rfl)],hB⟩
 have a4:=Zbf a4
 have c7:=c4.below c2
 refine xb 1 3 c7 ?_
 refine xr 0 (args:=#[V0 x,V0 0,V0 65536]) (Ut x 0 65536 _) fun W7 c8=>?_
 refine xi 4 (!(inZ x 0 65536)) (fun a5=>?_) (fun a5=>?_)
 ·have a5:=Zc2 a5
  have hB:=bln (bln (bln (bln n1.below n2.below) b7) c2) c8
  exact xe 7 (V0 2) ⟨by rw[Sk (by rw[a3,a4,a5];rfl)],hB⟩
 have a5:=Zbf a5
 have b6:=c7.below c8
 refine xb 6 4 b6 ?_
 refine xg 3 [30,31] (decide ((n:Int)>(4096:Int))) (fun c5=>?_) (fun c5=>?_)
 ·have c5:=of_decide_eq_true c5
  have hB:=bln (bln (bln (bln n1.below n2.below) b7) c2) c8
  exact xe 14 (V0 2) ⟨by rw[Zc3 (by rw[a3,a4,a5];rfl) (by rw[List.length_map];omega)],hB⟩
 have c5:=of_decide_eq_false c5
 refine xlv 0 b6.rp ?_
 have hB:=bln (bln (bln (bln n1.below n2.below) b7) c2) c8
 refine xr 0 (args:=#[.agg #[V0 t,V0 u,V0 v,V0 x,.slice p n c]]) (pool_Count p c n t u v x Z _ hZ (hP.below hB)) fun e5 b0=>?_
 refine xid 4 ((wsum (Z.map Prod.fst))>(16384:Int)) (fun d0=>?_) (fun d0=>?_)
 ·have d4:=bln hB b0
  exact xe 7 (V0 2) ⟨by rw[Zc3 (by rw[a3,a4,a5];rfl) (by rw[List.length_map];omega)],d4⟩
 have d6:¬ (4096<(Z.map Prod.fst).length∨16384<wsum (Z.map Prod.fst)):=by rw[List.length_map];omega
 have c6:=b6.below b0
 refine xb 11 4 c6 ?_
 have d7:=bln hB b0
 have d5:=(((n2.blk.below b7).below c2).below c8).below b0
 refine zl 5 60 (fun zm e2 V=>∃ (i:Nat) (a2:Int),e2=[(1,P0 b1),(3,V0 a2),(37,.slice p n c),(38,V0 (n:Int)),(39,V0 (i:Int))]∧zm=n-((i:Int)).toNat∧B3 w V∧Blk V b1 ([V0 t,V0 u,V0 v,V0 x,.slice p n c]) 28∧Blk V b2 ([V0 u]) 3∧i≤n∧dvsE x (Z.map Prod.fst) (-1)=dvsE x ((Z.map Prod.fst).drop i) a2) ⟨0,(-1),rfl,rfl,d7,c6,d5,Nat.zero_le _,rfl⟩ ?_
 rintro _ _ e8 ⟨i,a2,rfl,rfl,a0,c0,b9,hi,he⟩ e4 d1 e7
 have hx:=inZ_t.1 a5
 refine xid 6 ((i:Int)<(n:Int)) (fun d9=>?_) (fun d9=>?_)
 ·refine xx 6 _ n i 5 (hP.someN hZ (i:=i) (by omega)) ?_
  refine xlv 0 (Sts.rp (k:=i) (hP.below a0).row Gg zvD (by omega) (by decide)) ?_
  refine xa 0 [V0 0,V0 0,V0 0,V0 0,S0] 42 fun f0 e6 b4=>?_
  have e0:=b4.ge a0
  refine xsv 0 b4.blk [V0 ((Z.getD i zvD).1.1.1),V0 ((Z.getD i zvD).1.1.2.1),V0 ((Z.getD i zvD).1.1.2.2.1),V0 ((Z.getD i zvD).1.1.2.2.2),.slice ((Z.getD i zvD).2.1) ((Z.getD i zvD).1.2.length) ((Z.getD i zvD).2.2)] fun f2 c9 e1=>?_
  refine xlv 5 e1.rp ?_
  refine xr 1 (args:=#[.agg #[V0 ((Z.getD i zvD).1.1.1),V0 ((Z.getD i zvD).1.1.2.1),V0 ((Z.getD i zvD).1.1.2.2.1),V0 ((Z.getD i zvD).1.1.2.2.2),.slice ((Z.getD i zvD).2.1) ((Z.getD i zvD).1.2.length) ((Z.getD i zvD).2.2)],V0 a2]) (Zd3 (Z.getD i zvD).1 a2 _ _ _ _) fun e9 a7=>?_
  refine xin 9 (dvE (Z.getD i zvD).1 a2) (0:Int) (fun b3=>?_) (fun b3=>?_)
  ·have d8:=bln (c9.below (bln a0 b4.below) e0) a7
   exact xe 13 (V0 (dvE (Z.getD i zvD).1 a2)) ⟨by rw[Cf (by rw[a3,a4,a5];rfl) d6,he,Ci (by omega),if_pos b3],d8⟩
  have b5:=e1.below a7
  refine xb 6 4 b5 ?_
  have a1:=(c9.blkT (c0.below b4.below) b4.blk (by decide)).below a7
  refine xb 1 3 a1 ?_
  have c1:=bln (c9.below (bln a0 b4.below) e0) a7
  refine xr 0 (args:=#[.slice ((Z.getD i zvD).2.1) ((Z.getD i zvD).1.2.length) ((Z.getD i zvD).2.2),V0 x]) (Zev _ _ (Z.getD i zvD).1.2 x _ hx ((hP.below c1).each i (by omega))) fun e3 a8=>?_
  refine xin 9 (Io x (Z.getD i zvD).1.2 (-1)) (0:Int) (fun b8=>?_) (fun b8=>?_)
  ·have d2:=bln c1 a8
   exact xe 13 (V0 (Io x (Z.getD i zvD).1.2 (-1))) ⟨by rw[Cf (by rw[a3,a4,a5];rfl) d6,he,Ci (by omega),if_neg (fun q=>q b3),if_pos b8],d2⟩
  have c3:=b5.below a8
  refine xb 4 0 c3 ?_
  refine xwm 5 ((i:Int)+1) (↑(i+1):Int) ?_
  have d3:=bln c1 a8
  have a6:=a1.below a8
  have a9:=((c9.blkT (b9.below b4.below) b4.blk (by decide)).below a7).below a8
  exact ze 2 (d1 _ _ _ ⟨i+1,(Z.getD i zvD).1.1.1,rfl,rfl,d3,a6,a9,by omega,by rw[he,Ci (by omega),if_neg (fun q=>q b3),if_neg (fun q=>q b8)]⟩ (by omega))
 exact xe 11 (V0 0) ⟨by rw[Cf (by rw[a3,a4,a5];rfl) d6,he,dvsE_end (by rw[List.length_map];omega)],a0⟩
theorem sup_right{l:Bl}(h:Xg l=0):Qh (Zg (inB l 0))=true:=by
 unfold Xg at h
 split at h
 ·unfold Wf at h
  split at h
  ·rename_i q
   unfold supOk at q
   rw[Bool.and_eq_true] at q
   exact q.2
  ·exact absurd h (by decide)
 ·rename_i q;exact absurd h q
theorem sup_nums{s:Sup}(h:Qh s=true):(0≤s.tx∧s.tx≤2147483647)∧(0≤s.time∧s.time≤16777215)∧(1≤s.unit∧s.unit≤65536)∧(0≤s.data∧s.data≤65536):=by
 unfold Qh at h
 simp only[Bool.and_eq_true,decide_eq_true_iff,Bool.true_and] at h
 omega
theorem poolO_ok{l:Bl}{fuel:Int}(h:(Ch l fuel).2.1=0):PoolOk (Zg (inB l 0)).tx (Zg (inB l 0)).time (Zg (inB l 0)).unit (Zg (inB l 0)).data (Ch l fuel).2.2:=by
 by_cases hs:Xg l=0
 ·obtain⟨a,b,c,d⟩:=sup_nums (sup_right hs)
  refine⟨a,b,c,d,?_⟩
  rw[Na hs]
  exact Zdx _ _ _ _ _
 ·rw[Rz hs] at h;exact absurd h hs
end Go.Proofs.YtceeiinepijokaaGreat
