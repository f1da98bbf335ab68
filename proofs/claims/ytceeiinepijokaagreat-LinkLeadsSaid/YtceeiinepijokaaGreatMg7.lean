/- The lives of law 47. -/
import Derived.Lib.SmallJoins
import Derived.Test.YtceeiinepijokaaGreatMg6
namespace Go.Proofs.YtceeiinepijokaaGreat
set_option maxHeartbeats 8000000
set_option maxRecDepth 100000
open Go.RowKit Go.Extern.Stop Go.Stop Go.Extern
set_option linter.unusedVariables false
attribute [local irreducible] wpList wpAnyH Code.wp Oper.wp Go
def S47:Sup:=⟨0,0,1,0,8,1,2,3,4,7,5⟩
def j47:List Lj:=[(0,1,1),(0,2,3),(0,3,4),(0,4,5),(0,7,6),(7,6,7),(0,5,5)]
theorem into47:Kz (Dg j47 6) [7]:=by
 refine⟨by decide,fun z=>⟨fun h=>?_,fun⟨x,hx,h1,h2⟩=>?_⟩⟩
 ·obtain rfl:=List.mem_singleton.1 h
  exact⟨(7,6,7),by decide,rfl,rfl⟩
 ·subst h2
  have a0:∀ x∈j47,x.2.1=6→x.1∈([7]:List Int):=by decide
  exact a0 x hx h1
theorem below47:Kz (Lead j47 0) [1,2,3,4,5,6,7]:=by
 have a0:∀ x∈j47,x.2.1∈([1,2,3,4,5,6,7]:List Int):=by decide
 have h7:Lead j47 0 7:=.one (0,7,6) (by decide) rfl
 refine⟨by decide,fun z=>⟨fun h=>?_,fun h=>?_⟩⟩
 ·simp only[List.mem_cons,List.not_mem_nil,or_false] at h
  rcases h with rfl|rfl|rfl|rfl|rfl|rfl|rfl
  ·exact .one (0,1,1) (by decide) rfl
  ·exact .one (0,2,3) (by decide) rfl
  ·exact .one (0,3,4) (by decide) rfl
  ·exact .one (0,4,5) (by decide) rfl
  ·exact .one (0,5,5) (by decide) rfl
  ·exact .more 7 h7 (7,6,7) (by decide) rfl
  ·exact h7
 ·cases h with
  | one x hx _=>exact a0 x hx
  | more a ha x hx _=>exact a0 x hx
theorem sup47(Bi bm:Nat)(p:O0)(n c:Nat)(w:World)(hI:RefI Bi bm p n c B47 w):C0 25 #[P0 bm] w (Ret (.tuple #[.agg #[V0 0,V0 0,V0 1,V0 0,V0 8,V0 1,V0 2,V0 3,V0 4,V0 7,V0 5],.agg #[S0,V0 0]]) w):=by
 have hk:PoolOk 0 0 1 ((0:Nat):Int) []:=⟨by decide,by decide,by decide,by decide,DevsOk.nil _⟩
 obtain⟨_,h1,h2,_⟩:=lay_parts (k:=8) hk (by rw[Th];exact Nat.le_refl _) (by decide)
 have h2:Xe (inB B47 0)=S47:=h2.trans s47_is
 refine(Zdp Bi bm p n c B47 w hI).mono ?_
 rintro e W q
 rcases q with ⟨q,_⟩|⟨_,rfl,hb⟩
 ·exact absurd h1 q
 ·rw[h2];exact⟨rfl,hb⟩
theorem links47W(Bi b:Nat)(pi:O0)(ni ci:Nat)(w:World)(hI:ImgR Bi b pi ni ci B47 w):C0 28 #[P0 b,.agg #[V0 0,V0 0,V0 1,V0 0,V0 8,V0 1,V0 2,V0 3,V0 4,V0 7,V0 5]] w (Yy (fun w' r=>∃ p c,r=.tuple #[.slice p 7 c,.nilIface]∧w'.ownsRow w.heap.size 81 3 (.slice p 7 c) 7 (j47.flatMap ljC)) w):=by
 have h:=links47
 rw[s47_is] at h
 refine(Zhk Bi b pi ni ci B47 S47 w hI).mono ?_
 rintro e W q
 rw[show Re B47 S47=(lk47,[],0) from h] at q
 rcases q with ⟨q,_⟩|⟨_,p,c,rfl,hb,ho⟩
 ·exact absurd rfl q
 ·exact⟨_,rfl,hb,p,c,rfl,ho⟩
theorem into47W(p:O0)(c:Nat)(w:World)(h:Sl w (.slice p 7 c) 7 (j47.flatMap ljC)):C0 12 #[.slice p 7 c,V0 6] w (Yy (fun w' r=>∃ q d,r=.slice q 1 d∧w'.ownsRow w.heap.size 3 1 (.slice q 1 d) 1 (([7]:List Int).map V0)) w):=by
 refine(Zbu p c j47 6 w h (by decide)).mono ?_
 rintro e W ⟨q,d,L2,rfl,hR,hb,ho⟩
 rw[hR.eq into47] at ho ⊢
 exact⟨_,rfl,hb,q,d,rfl,ho⟩
theorem below47W(p:O0)(c:Nat)(w:World)(h:Sl w (.slice p 7 c) 7 (j47.flatMap ljC)):C0 15 #[.slice p 7 c,V0 0] w (Yy (fun w' r=>∃ q d,r=.slice q 7 d) w):=by
 refine(Tm p c j47 0 w h (by decide)).mono ?_
 rintro e W ⟨q,d,L2,rfl,hR,hb,ho⟩
 rw[hR.eq below47]
 exact⟨_,rfl,hb,q,d,rfl⟩
theorem ref_Of47(a:O0)(c:Nat)(w:World)(h:Bys w (.slice a (8*256) c) B47):C0 26 #[.slice a (8*256) c] w (Yy (fun w' r=>∃ bj p d,r=P0 bj∧∃ B,RefI B bj p 8 d B47 w') w):=by
 refine(ref_OfM a c (8*256) 8 B47 w It.1 (by decide) h (by decide)).mono ?_
 rintro e W ⟨r,rfl,hb,bj,p,d,rfl,_,hJ⟩
 rw[List.take_of_length_le (by rw[It.1];decide)] at hJ
 exact⟨_,rfl,hb,bj,p,d,rfl,_,hJ⟩
theorem lives47(w:World) :
 C0 10 #[] w (Ret (.bool true) w):=by
 refine zin 51 Tryz.func10 ?_
 refine xc 8 (args:=#[.agg #[V0 0,V0 0,V0 1,V0 0,S0],V0 8]) (lay26_Lay _) ?_
 rintro _ W1 ⟨bi,g,ci,rfl,a1,hI⟩
 refine xc 20 (args:=#[P0 bi]) (Zd4 bi _ (8*256) ci B47 _ hI.blk (Yi (Ze hI.row) hI.len) hI.len (by decide)) ?_
 rintro _ W2 ⟨_,rfl,a3,c5⟩
 have a0:=Zf c5 a1.size
 have a6:=hI.below a3
 unfold Pu at a0
 rw[a6.len] at a0
 obtain⟨q1,d1,rfl⟩:=(Ze a0).slice
 refine xc 0 (args:=#[.slice q1 (8*256) d1]) (ref_Of47 q1 d1 _ (Yi (Ze a0) It.1)) ?_
 rintro _ W3 ⟨_,rfl,a5,bj,pj,dj,rfl,_,hJ⟩
 refine xr 0 (args:=#[P0 bj]) (sup47 _ bj _ _ _ _ hJ) fun W4 a4=>?_
 refine xa 3 [V0 0,V0 0,V0 0,V0 0,V0 0,V0 0,V0 0,V0 0,V0 0,V0 0,V0 0] 30 fun b5 W5 n5=>?_
 refine xa 0 [S0,V0 0] 72 fun b6 W6 n6=>?_
 have k5:=n5.blk.below n6.below
 refine xsv 0 k5 [V0 0,V0 0,V0 1,V0 0,V0 8,V0 1,V0 2,V0 3,V0 4,V0 7,V0 5] fun W7 u7 k7=>?_
 have g5:=n5.ge (bln (bln (bln a1 a3) a5) a4)
 have k6:=u7.blkT n6.blk k5 (by decide)
 refine xsv 0 k6 [S0,V0 0] fun W8 u8 k8=>?_
 have g6:=n6.ge (bln (bln (bln (bln a1 a3) a5) a4) n5.below)
 have b1:=u8.blkT k7 k6 (by decide)
 refine xlv 5 b1.rp ?_
 have b3:=(((((a6.below a5).below a4).below n5.below).below n6.below).only (Zd.of_upd (T:=[30]) u7 k5 (by decide)) (by decide)).only (Zd.of_upd (T:=[72]) u8 k6 (by decide)) (by decide)
 refine xc 0 (args:=#[P0 bi,.agg #[V0 0,V0 0,V0 1,V0 0,V0 8,V0 1,V0 2,V0 3,V0 4,V0 7,V0 5]]) (links47W _ bi _ _ ci _ b3) ?_
 rintro _ W9 ⟨_,rfl,c1,pl,cl,rfl,hl⟩
 have c4:=(u8.below (u7.below (bln (bln (bln (bln (bln a1 a3) a5) a4) n5.below) n6.below) g5) g6).size
 have b7:=k8.below c1
 refine xb 10 1 b7 ?_
 have b0:=Zf hl c4
 refine xc 12 (args:=#[.slice pl 7 cl,V0 6]) (into47W pl cl _ (Ze b0)) ?_
 rintro _ c6 ⟨_,rfl,a7,q2,d2,rfl,h2⟩
 have c2:=(bln (u8.below (u7.below (bln (bln (bln (bln (bln a1 a3) a5) a4) n5.below) n6.below) g5) g6) c1).size
 refine xbs 0 1 [V0 7] 3 fun c3 c9 a2=>?_
 have hB:=bln (bln (u8.below (u7.below (bln (bln (bln (bln (bln a1 a3) a5) a4) n5.below) n6.below) g5) g6) c1) a7
 have c7:=a2.ge hB
 have a9:=Zf h2 c2
 have b4:=Zr a9 a2
 have b2:=Zb a9 a2.below
 refine xr 0 (args:=#[.slice q2 1 d2,.slice (S1 c3) 1 1]) (St q2 (S1 c3) d2 1 [7] _ (Ze b2) (a2.blk.sl 1 1 (by decide) (by decide))) fun c8 a8=>?_
 have c0:=Zb (Zb (Zb b0 a7) a2.below) a8
 refine xc 3 (args:=#[.slice pl 7 cl,V0 0]) (below47W pl cl _ (Ze c0)) ?_
 rintro _ d0 ⟨_,rfl,b9,q3,d3,rfl⟩
 have b8:=bln (bln (bln hB a2.below) a8) b9
 exact xe 7 (.bool true) ⟨rfl,b8⟩
theorem Dz{P:Int→Prop}{S T:List Int}(h:Kz P S)(k:Kz P T)(a b:O0)(ca cb:Nat)(w:World)(ha:Ints w (.slice a S.length ca) S)(hb:Ints w (.slice b T.length cb) T) :
 C0 11 #[.slice a S.length ca,.slice b T.length cb] w (Ret (.bool true) w):=by
 obtain rfl:=h.eq k
 exact St a b ca cb S w ha hb
theorem Au(a:O0)(c:Nat)(L:List Lj)(n:Int)(w:World)(hL:Sts ljC w (.slice a L.length c) L) :
 C0 4 #[.slice a L.length c,V0 n] w (Ret (.bool true) w):=by
 have e0:=Sl.len hL
 refine zin 30 Tryz.func4 ?_
 refine xid 13 ((L.length:Int)>(150:Int)) (fun c5=>?_) (fun c5=>?_)
 ·refine xr 2 (args:=#[]) (lives47 _) fun W2 c1=>?_
  exact xe 5 (.bool true) ⟨rfl,c1⟩
 refine xc 6 (args:=#[.slice a L.length c,V0 n]) (Zbu a c L n _ (hL.below (B4 w)) (by omega)) ?_
 rintro _ W3 ⟨q1,d1,L1,rfl,c8,a6,d5⟩
 have d0:=Nat.le_refl w.heap.size
 refine xc 1 (args:=#[.slice a L.length c]) (Zbp a c L _ (hL.below a6) (by omega)) ?_
 rintro _ W4 ⟨_,rfl,a9,o1,e1,rfl,c2⟩
 have a3:=Zf c2 a6.size
 refine xc 1 (args:=#[.slice o1 L.length e1,V0 n]) (ref47_Into o1 e1 L n _ (Ze a3) (by omega)) ?_
 rintro _ W5 ⟨q2,d2,L2,rfl,c7,b2,d8⟩
 have b9:=(bln a6 a9).size
 have a4:=Zb (Zb (Zf d5 d0) a9) b2
 have a7:=Zf d8 b9
 refine xr 0 (args:=#[.slice q1 L1.length d1,.slice q2 L2.length d2]) (Dz c8 c7 q1 q2 d1 d2 _ (Ze a4) (Ze a7)) fun W6 b5=>?_
 have a0:=bln (bln (bln a6 a9) b2) b5
 refine xc 3 (args:=#[.slice a L.length c,V0 n]) (Tm a c L n _ (hL.below a0) (by omega)) ?_
 rintro _ W7 ⟨q3,d3,L3,rfl,d7,b7,b8⟩
 have c3:=(bln (bln (bln a6 a9) b2) b5).size
 have a1:=bln a0 b7
 refine xc 1 (args:=#[.slice a L.length c]) (Zbp a c L _ (hL.below a1) (by omega)) ?_
 rintro _ W8 ⟨_,rfl,b3,o2,e2,rfl,c4⟩
 have c6:=(bln a0 b7).size
 have a5:=Zf c4 c6
 refine xc 1 (args:=#[.slice o2 L.length e2,V0 n]) (Zc9 o2 e2 L n _ (Ze a5) (by omega)) ?_
 rintro _ W9 ⟨q4,d4,L4,rfl,c9,b6,d6⟩
 have c0:=(bln a1 b3).size
 have a8:=Zb (Zb (Zf b8 c3) b3) b6
 have a2:=Zf d6 c0
 refine xr 0 (args:=#[.slice q3 L3.length d3,.slice q4 L4.length d4]) (Dz d7 c9 q3 q4 d3 d4 _ (Ze a8) (Ze a2)) fun d9 b0=>?_
 refine xr 2 (args:=#[]) (lives47 _) fun e3 b4=>?_
 have b1:=bln (bln (bln (bln a1 b3) b6) b0) b4
 exact xe 5 (.bool true) ⟨rfl,b1⟩
end Go.Proofs.YtceeiinepijokaaGreat
namespace Go.Proofs.YtceeiinepijokaaGreat
set_option maxHeartbeats 8000000
set_option maxRecDepth 100000
open Go.ChangeShapes Go.WideShapes Go.ChangeAt Go.RowKit Go.Joins Go.Deep
set_option linter.unusedVariables false
attribute [local irreducible] wpList wpAnyH Code.wp Oper.wp Go
theorem flatm{α:Type}{f:α→List Value}{m:Nat}(hf:∀ x,(f x).length=m):∀ (T:List α) (j:Nat) (x:Value),(T.flatMap f)[j]? = some x→∃ i,∃ h:i<T.length,∃ r,r<m∧j=i*m+r∧(f T[i])[r]? = some x
 | [],j,x,h=>by simp at h
 | y::T,j,x,h=>by
  rw[List.flatMap_cons,List.getElem?_append] at h
  by_cases hj:j<m
  ·rw[if_pos (by rw[hf];exact hj)] at h
   exact⟨0,by simp,j,hj,by omega,by simpa using h⟩
  ·rw[if_neg (by rw[hf];exact hj),hf] at h
   obtain⟨i,hi,r,hr,e,hx⟩:=flatm hf T (j-m) x h
   exact⟨i+1,by simpa using hi,r,hr,by rw[Nat.add_mul];omega,by simpa using hx⟩
theorem rows_open{α H:Type}{enc:TypeId×Value→H}{P:Program}{W:World}{t e:TypeId}{v:Value}{y:DataW H×List MemPlace}{fuel m:Nat}{f:α→List Value}{G:α→Prop}(hf:∀ x,(f x).length=m)(hm:0<m)(ht:P.underlying t=some (.slice e))(hC:P.cellsOf e=m)
 (each:∀ n cs z,cs.length=m→DataW.trod enc P W 0 (fun _=>true) true n e cs=some z→∃ q,cs=f q∧G q) (h:DataW.trod enc P W 0 (fun _=>true) true fuel t [v]=some y) :
 ∃ (L:List α) (a:O0) (c:Nat),v=.slice a L.length c∧Sl W (.slice a L.length c) L.length (L.flatMap f)∧∀ q∈L,G q:=by
 rcases open_slice ht h with ⟨a2,_⟩|⟨x,l,c,k,n,D,Pl,a2,_,hl,b1,b0,_,hi⟩
 ·simp at a2
  subst a2
  exact⟨[],none,0,rfl,.inl ⟨none,0,rfl,rfl,rfl⟩,fun q hq=>by cases hq⟩
 ·simp at a2
  subst a2
  obtain⟨b,a4,a6⟩:=x
  have b2:l≤k:=by rw[b0];simp;omega
  by_cases hlen:l=0
  ·subst hlen
   exact⟨[],_,_,rfl,.inl ⟨_,_,rfl,rfl,rfl⟩,fun q hq=>by cases hq⟩
  have a3:a6=none:=by
   obtain⟨cs,hc,a7⟩:=hi 0 (by omega)
   rw[hC] at hc
   obtain⟨_,a8,a5⟩:=World.cells?_some hc
   have a0:=a5 0 (by omega)
   rw[List.getElem?_eq_getElem (by omega)] at a0
   simpa [Addr.add] using World.cell?_spot a0
  subst a3
  have eA:∀ o n,(⟨b,o,none⟩:Addr).add n=⟨b,o+n,none⟩:=by intro o n;unfold Addr.add;split<;>simp_all
  have a1:∀ i:Fin l,∃ q:α,(∀ r x,(f q)[r]? = some x→W.cell? ⟨b,a4+(i.val*m+r),none⟩=some x)∧G q:=by
   intro i
   obtain⟨cs,hc,a7⟩:=hi i.val (by have:=i.2;omega)
   rw[hC] at hc
   obtain⟨_,a8,a5⟩:=World.cells?_some hc
   obtain⟨q,hq,hG⟩:=each n cs _ a8 a7
   refine⟨q,fun r x hr=>?_,hG⟩
   rw[←hq] at hr
   have a9:r<m:=by have:=(List.getElem?_eq_some_iff.1 hr).1;omega
   have a0:=a5 r a9
   rw[hr,eA,eA] at a0
   rw[←Nat.add_assoc];exact a0
  refine⟨List.ofFn fun i=>Classical.choose (a1 i),some ⟨b,a4,none⟩,c,by rw[List.length_ofFn],?_,fun q hq=>?_⟩
  ·rw[List.length_ofFn]
   refine .inr ⟨b,a4,c,rfl,hl,b1,fun j x hj=>?_⟩
   obtain⟨i,hi,r,hr,e,hx⟩:=flatm hf _ j x hj
   rw[List.getElem_ofFn] at hx
   rw[e]
   exact(Classical.choose_spec (a1 ⟨i,by simpa using hi⟩)).1 r x hx
  ·obtain⟨i,rfl⟩:=List.mem_ofFn.1 hq
   exact(Classical.choose_spec (a1 i)).2
theorem map_each{H:Type}{enc:TypeId×Value→H}{P:Program}{W:World}{e:TypeId}{f0 f1 f2:Field}(he:P.underlying e=some (.struct #[f0,f1,f2]))(hone:oneCellFields P #[f0,f1,f2]=true)(h0:P.underlying f0.type=some (.int .i64))(h1:P.underlying f1.type=some (.int .i64))(h2:P.underlying f2.type=some (.int .i64)) :
 ∀ n cs z,cs.length=3→DataW.trod enc P W 0 (fun _=>true) true n e cs=some z→∃ q:Mp,cs=mapC q∧True:=by
 intro n cs z a4 a3
 obtain⟨y0,y1,y2,n',_,_,t0,t1,t2⟩:=trod_struct3 he a3
 obtain⟨o0,k0⟩:=hone_of hone 0 f0 rfl
 obtain⟨o1,k1⟩:=hone_of hone 1 f1 rfl
 obtain⟨o2,k2⟩:=hone_of hone 2 f2 rfl
 match cs,a4 with
 | [c0,c1,c2],_ =>
  rw[o0,k0] at t0
  rw[o1,k1] at t1
  rw[o2,k2] at t2
  obtain⟨z0,a0,_,_⟩:=DataW.trod_int (cs:=[c0]) h0 (by simpa using t0)
  obtain⟨z1,a1,_,_⟩:=DataW.trod_int (cs:=[c1]) h1 (by simpa using t1)
  obtain⟨z2,a2,_,_⟩:=DataW.trod_int (cs:=[c2]) h2 (by simpa using t2)
  simp only[List.cons.injEq,and_true] at a0 a1 a2
  subst a0 a1 a2
  exact⟨(z0,z1,z2),rfl,trivial⟩
theorem Zgg{H:Type}{enc:TypeId×Value→H}{P:Program}{W:World}{r:Reach}{b0:Nat}{t e:TypeId}{f0 f1 f2:Field}{v:Value}{d:DataW H}{p:List MemPlace}(ht:P.underlying t=some (.slice e))(he:P.underlying e=some (.struct #[f0,f1,f2]))
 (hone:oneCellFields P #[f0,f1,f2]=true) (hC:P.cellsOf e=3) (h0:P.underlying f0.type=some (.int .i64)) (h1:P.underlying f1.type=some (.int .i64)) (h2:P.underlying f2.type=some (.int .i64))
 (hv:Value.okWide P W r b0 t v) (h:DataW.Trod enc P W 0 (fun _=>true) true t v d p):∃ (L:List (Int×Int×Int)) (a:O0) (c:Nat),v=.slice a L.length c∧Sts ljC W (.slice a L.length c) L:=by
 obtain⟨a,a2,a1,rfl⟩:=okWide_slice ht hv
 obtain⟨a0,hf⟩:=h
 obtain⟨L,a',c',e,hS,_⟩:=rows_open (v:=.slice a a2 a1) (G:=fun _:Mp=>True) Pg (by decide) ht hC (map_each he hone h0 h1 h2) hf
 exact⟨L,a',c',e,hS⟩
end Go.Proofs.YtceeiinepijokaaGreat
