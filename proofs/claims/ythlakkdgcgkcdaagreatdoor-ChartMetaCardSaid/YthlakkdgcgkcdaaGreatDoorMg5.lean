/- (*walker).leaf. -/
import Derived.StillTailTactics
import Derived.Test.YthlakkdgcgkcdaaGreatDoorMg4
namespace Go.Proofs.YthlakkdgcgkcdaaGreatDoor
set_option maxHeartbeats 8000000
set_option maxRecDepth 100000
open Go.RowKit Go.Extern.Stop Go.Stop Go.Extern
set_option linter.unusedVariables false
attribute [local irreducible] wpList wpAnyH Code.wp Oper.wp Go
def Ks(K:List Int)(Vs:List (List UInt8))(no:Int)(k:Nat):List Ent:=(List.range k).map fun j=>(K.getD j 0,Vs.getD j [],no)
theorem Gl(K:List Int)(Vs:List (List UInt8))(no:Int)(k:Nat):(Ks K Vs no k).length=k:=by simp[Ks]
theorem leafL_snoc(K:List Int)(Vs:List (List UInt8))(no:Int)(k:Nat):Ks K Vs no (k+1)=Ks K Vs no k++[(K.getD k 0,Vs.getD k [],no)]:=by simp[Ks,List.range_succ]
theorem Em(es:List Ent)(K:List Int)(Vs:List (List UInt8))(no:Int)(k:Nat):(es++Ks K Vs no k).flatMap Ko++[.int .i64 (K.getD k 0),.string ⟨(Vs.getD k []).toArray⟩,.int .i64 no]=(es++Ks K Vs no (k+1)).flatMap Ko:=by
 rw[leafL_snoc,←List.append_assoc,List.flatMap_append (xs:=es++Ks K Vs no k)]
 rfl
def LeafP(B bw:Nat)(c1 c3 c4 c5 c6 c7:Value)(pw:Option Addr)(cw:Nat)(way:List Int)(c9:Value)(es:List Ent)(K:List Int)(Vs:List (List UInt8))(no:Int)(n:Nat)(w:World)(e:Ending)(w':World):Prop :=
 ∃ u pe ce,e=.returned u∧Below B w w'∧Ze [170,77] w w'∧Blk w' bw [.slice pe (es.length+n) ce,c1,.int .i64 (↑(way.length+1):Int),c3,c4,c5,c6,c7,.slice pw way.length cw,c9] 170∧w'.ownsRow B 77 3 (.slice pe (es.length+n) ce) (es.length+n) ((es++Ks K Vs no n).flatMap Ko)
theorem Zej(B bw:Nat)(c1 c2 c3 c4 c5 c6 c7 c9:Value)(pe:Option Addr)(ce:Nat)(es:List Ent)(pw:Option Addr)(cw:Nat)(way:List Int)(no:Int)(nt:Int)(nl:Bool)(kp vp:Option Addr)(n kc vc:Nat)(K:List Int)(Vs:List (List UInt8))(w:World)(hBb:B≤bw)(hBw:B≤w.heap.size)(kW:Blk w bw [.slice pe es.length ce,c1,c2,c3,c4,c5,c6,c7,.slice pw way.length cw,c9] 170)(hE:w.ownsRow B 77 3 (.slice pe es.length ce) es.length (es.flatMap Ko))(hKs:∀ W,Below B w W→Ze [170,77] w W→Sl W (.slice kp n kc) n (K.map (Value.int .i64)))(hVs:∀ W,Below B w W→Ze [170,77] w W→Sl W (.slice vp n vc) n (Vs.map sv))(hKl:K.length=n)(hVl:Vs.length=n)(hwl:way.length≤1000000)(hn:es.length+n≤1000000) :
 Calls Tryz.prog 141 #[.pointer (some ⟨bw,0,none⟩),.int .i64 no,.agg #[.int .i64 nt,.bool nl,.slice kp n kc,.slice vp n vc]] w (LeafP B bw c1 c3 c4 c5 c6 c7 pw cw way c9 es K Vs no n w):=by
 refine zin 46 Tryz.func141 ?_
 refine xa 2 [.int .i64 nt,.bool nl,.slice kp n kc,.slice vp n vc] 188 fun b1 W1 n1=>?_
 have kW'1:=kW.below n1.below
 refine xb 8 8 kW'1 ?_
 refine xwm 1 ((↑way.length:Int)+1) (↑(way.length+1):Int) ?_
 refine xs 3 kW'1 [.slice pe es.length ce,c1,.int .i64 (↑(way.length+1):Int),c3,c4,c5,c6,c7,.slice pw way.length cw,c9] fun W2 u2 k2=>?_
 have k1:=u2.blkT n1.blk kW'1 (by decide)
 refine xb 5 2 k1 ?_
 have hE'1:=u2.own2 (Zb hE n1.below) kW'1 (by decide)
 have hB:=u2.below (blB (Below.refl B w) hBw n1.below) hBb
 have hO:=(show Ze [170,77] w _ from(Ze.of_below n1.below)).trans (Ze.of_upd u2 kW'1 (by decide))
 refine zl 5 46 (fun zm zkv V=>∃ (i:Nat) (pe:Option Addr) (ce:Nat),zkv=[(0,.pointer (some ⟨bw,0,none⟩)),(1,.int .i64 no),(5,.pointer (some ⟨b1,0,none⟩)),(19,.slice kp n kc),(20,.int .i64 (↑n:Int)),(21,.int .i64 (↑i:Int))]∧zm=n-((↑i:Int)).toNat∧Below B w V∧Ze [170,77] w V∧Blk V bw ([.slice pe (es.length+i) ce,c1,.int .i64 (↑(way.length+1):Int),c3,c4,c5,c6,c7,.slice pw way.length cw,c9]) 170∧Blk V b1 ([.int .i64 nt,.bool nl,.slice kp n kc,.slice vp n vc]) 188∧V.ownsRow B 77 3 (.slice pe (es.length+i) ce) (es.length+i) ((es++Ks K Vs no i).flatMap Ko)∧i≤n) ⟨0,_,_,rfl,rfl,hB,hO,k2,k1,(by simpa [Ks] using hE'1),Nat.zero_le _⟩ ?_
 rintro _ _ W3 ⟨i,pe,ce,rfl,rfl,hB_3,hO_3,k3_bw,k3_b1,hE,hi⟩ J3 hJ3 r3
 refine xid 6 ((↑i:Int)<(↑n:Int)) (fun hc4=>?_) (fun hc4=>?_)
 ·refine xx 7 _ n i 1 (IntsN.elem (hKs _ hB_3 hO_3) hKl (k:=i) (by omega)).1 ?_
  refine xl 0 ((IntsN.elem (hKs _ hB_3 hO_3) hKl (k:=i) (by omega)).2) ?_
  refine xd 4 (.t B [170,77]) ?_
  have k3_b1'1:=k3_b1.below (Za W3)
  refine xbt (.e [0,1,2,3,4,6,7] 8) 3 B [170,77] k3_b1'1 ?_
  have hB'1:=blB hB_3 hBw (Za W3)
  have hO'1:=hO_3.trans (Ze.of_below (Za W3))
  refine xx (.e [9] 10) _ n i 1 (Strs.elem (hVs _ hB'1 hO'1) hVl (k:=i) (by omega)).1 ?_
  refine xlt (.e [] 11) (.t B [170,77]) (fun V hV=>(Strs.elem (hVs _ (Ky hB'1 hV hBw) (hO'1.trans hV.2)) hVl (k:=i) (by omega)).2) ?_
  refine xm2 (.b [12,13]) 5 14 ?_ ?_
  ·have k3_bw'1:=k3_bw.below (Za W3)
   refine xb 0 0 k3_bw'1 ?_
   refine xbs (.o [] 14) 1 [.int .i64 (K.getD i 0),.string ⟨(Vs.getD i []).toArray⟩,.int .i64 no] 77 fun b5 W5 n5=>?_
   have g5:=n5.ge0 hB'1
   have hE'2:=Zb hE (Za W3)
   have r5_hE:=Zu hE'2 n5
   have hE'3:=Zb hE'2 n5.below
   have hB'2:=blB hB'1 hBw n5.below
   refine ybi (.o [] 15) (.t B [170,77]) fun _ _ _ _ zJ zQ zo zx zy zK=>Zp (m:=1) (news:=[.int .i64 (K.getD i 0),.string ⟨(Vs.getD i []).toArray⟩,.int .i64 no]) (.agg #[.int .i64 0,.string ⟨#[]⟩,.int .i64 0]) 3 32 ((es.length+(i+1))) (((es++Ks K Vs no (i+1)).flatMap Ko)) zo Tryz.underlying67 (by kernel_rfl) rfl (by decide) zx hE'3 zy (n5.blk.sl 1 1 (by decide) (by decide)) rfl (by simp[Value.oneCell']) (by unfold maxLen;omega) (by omega) (Nat.le_trans hBw hB'2.size) (by omega) (Em _ _ _ _ _) fun px6 cx6 W6 o6 hg6 hb6=>?_
   refine zK _ _ (Zr hb6 hg6 hE'3 (by decide)) ?_
   have k3_bw'2:=(k3_bw'1.below n5.below).grown hg6 hE'3 (by decide)
   refine ys (.o [16,17,18] 19) k3_bw'2 [.slice px6 (es.length+(i+1)) cx6,c1,.int .i64 (↑(way.length+1):Int),c3,c4,c5,c6,c7,.slice pw way.length cw,c9] (.t B [170,77]) fun W7 u7 k7=>⟨(Zi u7 k3_bw'2 hBb (by decide)),?_⟩
   refine xwm 4 ((↑i:Int)+1) (↑(i+1):Int) ?_
   have hB'3:=u7.below (hB'2.trans hb6) hBb
   have hO'2:=((hO'1.trans (Ze.of_below n5.below)).trans (Ze.of_grown hg6 hE'3 (by decide))).trans (Ze.of_upd u7 k3_bw'2 (by decide))
   have k3_b1'2:=u7.blkT ((k3_b1'1.below n5.below).grown hg6 hE'3 (by decide)) k3_bw'2 (by decide)
   have o6'1:=u7.own2 o6 k3_bw'2 (by decide)
   exact ze 2 (hJ3 _ _ _ ⟨i+1,_,_,rfl,rfl,hB'3,hO'2,k7,k3_b1'2,o6'1,by omega⟩ (by omega))
  refine xbs 0 1 [.int .i64 (K.getD i 0),.string ⟨(Vs.getD i []).toArray⟩,.int .i64 no] 77 fun b8 W8 n8=>?_
  have g8:=n8.ge0 hB'1
  have hE'4:=Zb hE (Za W3)
  have r8_hE:=Zu hE'4 n8
  have k3_bw'3:=(k3_bw.below (Za W3)).below n8.below
  refine xb (.o [] 5) 0 k3_bw'3 ?_
  have hE'5:=Zb hE'4 n8.below
  have hB'4:=blB hB'1 hBw n8.below
  refine ybi (.o [] 15) (.t B [170,77]) fun _ _ _ _ zJ zQ zo zx zy zK=>Zp (m:=1) (news:=[.int .i64 (K.getD i 0),.string ⟨(Vs.getD i []).toArray⟩,.int .i64 no]) (.agg #[.int .i64 0,.string ⟨#[]⟩,.int .i64 0]) 3 32 ((es.length+(i+1))) (((es++Ks K Vs no (i+1)).flatMap Ko)) zo Tryz.underlying67 (by kernel_rfl) rfl (by decide) zx hE'5 zy (n8.blk.sl 1 1 (by decide) (by decide)) rfl (by simp[Value.oneCell']) (by unfold maxLen;omega) (by omega) (Nat.le_trans hBw hB'4.size) (by omega) (Em _ _ _ _ _) fun px9 cx9 W9 o9 hg9 hb9=>?_
  refine zK _ _ (Zr hb9 hg9 hE'5 (by decide)) ?_
  have k3_bw'4:=k3_bw'3.grown hg9 hE'5 (by decide)
  refine ys (.o [16,17,18] 19) k3_bw'4 [.slice px9 (es.length+(i+1)) cx9,c1,.int .i64 (↑(way.length+1):Int),c3,c4,c5,c6,c7,.slice pw way.length cw,c9] (.t B [170,77]) fun W10 u10 k10=>⟨(Zi u10 k3_bw'4 hBb (by decide)),?_⟩
  refine xwm 4 ((↑i:Int)+1) (↑(i+1):Int) ?_
  have hB'5:=u10.below (hB'4.trans hb9) hBb
  have hO'3:=((hO'1.trans (Ze.of_below n8.below)).trans (Ze.of_grown hg9 hE'5 (by decide))).trans (Ze.of_upd u10 k3_bw'4 (by decide))
  have k3_b1'3:=u10.blkT ((k3_b1'1.below n8.below).grown hg9 hE'5 (by decide)) k3_bw'4 (by decide)
  have o9'1:=u10.own2 o9 k3_bw'4 (by decide)
  exact ze 2 (hJ3 _ _ _ ⟨i+1,_,_,rfl,rfl,hB'5,hO'3,k10,k3_b1'3,o9'1,by omega⟩ (by omega))
 refine xe 4 (.tuple #[]) ?_
 obtain rfl:i=n:=by omega
 exact⟨_,_,_,rfl,hB_3,hO_3,k3_bw,hE⟩
end Go.Proofs.YthlakkdgcgkcdaaGreatDoor
namespace Go.Proofs.YthlakkdgcgkcdaaGreatDoor
set_option maxHeartbeats 8000000
set_option maxRecDepth 100000
open Go.RowKit Go.Extern.Stop Go.Stop Go.Extern
set_option linter.unusedVariables false
def Kr(u v:Value):Prop:=∀ j,u.ownBlock=some j→v.ownBlock≠some j
theorem Kr.symm{u v:Value}(h:Kr u v):Kr v u:=fun j h1 h2=>h j h2 h1
theorem Kr.grow{w:World}{u v u':Value}{base e size n:Nat}{xs:List Value}(h:Kr u v)(k:w.ownsRow base e size v n xs)(hl:u'.ownBlock=u.ownBlock∨u'.ownBlock=some w.heap.size):Kr u' v:=by
 rintro j h1 h2
 rcases hl with hl|hl
 ·exact h j (hl▸h1) h2
 ·rw[hl,Option.some.injEq] at h1
  subst h1
  have:=(k.lt _ h2).2
  omega
theorem Kr.row{w W:World}{u v:Value}{base e size n:Nat}{xs:List Value}(h:Kr u v)(k:w.ownsRow base e size v n xs)(hg:w.grownBy W u.ownBlock):W.ownsRow base e size v n xs:=by
 obtain⟨h1,h2⟩:=k
 refine⟨h1,?_⟩
 rcases h2 with h2|⟨g,cap,cur,rfl,hb,hh,r⟩
 ·exact Or.inl h2
 ·exact Or.inr ⟨g,cap,cur,rfl,hb,(hg.block g (Array.getElem?_eq_some_iff.1 hh).1 (fun q=>h g q.symm rfl)).trans hh,r⟩
theorem Kr.of_lt{w W:World}{u v:Value}{base base2 e e2 size size2 n n2:Nat}{xs ys:List Value}(k:w.ownsRow base e size u n xs)(q:W.ownsRow base2 e2 size2 v n2 ys)(h:w.heap.size≤base2):Kr u v:=fun j h1 h2=>by
 have:=(k.lt j h1).2
 have:=(q.lt j h2).1
 omega
theorem Kr.nil(v:Value):Kr (.slice none 0 0) v:=fun j h=>by cases h
theorem own_cut{w:World}{base e n m c:Nat}{p:Option Addr}{xs:List Value}(k:w.ownsRow base e 1 (.slice p n c) n xs)(hm:m≤n)(hp:p.isSome=true):w.ownsRow base e 1 (.slice p m c) m (xs.take m):=by
 obtain⟨h1,h2⟩:=k
 refine⟨by rw[List.length_take];omega,?_⟩
 rcases h2 with ⟨h2,_⟩|⟨g,cap,cur,hv,hb,hh,hc,hr1,hr2,hr3⟩
 ·cases h2;cases hp
 ·simp only[Value.slice.injEq] at hv
  obtain⟨rfl,_,rfl⟩:=hv
  refine Or.inr ⟨g,c,cur,rfl,hb,hh,by omega,hr1,hr2,?_⟩
  rw[←hr3,List.take_take]
  congr 1
  omega
theorem Rh{P:Program}{a:Act}{w:World}{K:Act→World→Prop}{Q:Exit→Act→World→Prop}{o:Oper}{s x:Operand}{t e te:TypeId}{base:Nat}{v:Value}{n:Nat}{xs:List Value}{b m c:Nat}{news:List Value}(z:Value)(size bytes n':Nat)(xs':List Value)
 (ho:o.op=.call { callee:=.builtin .append,args:=#[s,x],argTypes:=#[t,t] }) (ht:P.underlying t=some (.slice e)) (hi:(P.info? e).map (fun i=>(i.zero,i.size,i.bytes))=some (some z,size,bytes)) (hzs:z.cells.size=size) (hsz:0<size) (hs:a.eval s=v)
 (hown:w.ownsRow base e size v n xs) (hx:a.eval x=.slice (some ⟨b,0,none⟩) m c) (hnew:Blk w b news te) (hl:news.length=m*size) (h1:∀ u∈news,u.oneCell'=true) (h63:n+m≤maxLen) (hbytes:(n+m)*bytes≤140737488355328) (hbase:base≤w.heap.size) (hn:n+m=n') (hxs:xs++news=xs')
 (h:∀ p c W,W.ownsRow base e size (.slice p n' c) n' xs'→w.grownBy W v.ownBlock→Below base w W→((Value.slice p n' c).ownBlock=v.ownBlock∨(Value.slice p n' c).ownBlock=some w.heap.size)→K (a.put o.dst (.slice p n' c)) W):o.wp P a w K Q:=by
 cases hq:P.info? e with
 | none=>simp[hq] at hi
 | some i =>
  simp only[hq,Option.map_some,Option.some.injEq,Prod.mk.injEq] at hi
  have hc:∀ j u,news[j]? = some u→w.cell? ((⟨b,0,none⟩:Addr).add j)=some u:=fun j u hj=>by
   have hc:=hnew.cell hj
   by_cases h0:j=0
   ·subst h0;simpa [Addr.add] using hc
   ·simpa [Addr.add,h0] using hc
  obtain⟨v',W,hr,h2,h3,_,h5⟩:=run_append_own_at (P:=P) w base t o.type e i z size bytes ht hq hi.1 hi.2.1 hi.2.2 hzs hsz v n xs hown ⟨b,0,none⟩ m c news hl hc h1 h63 hbytes hbase
  subst hn hxs
  obtain⟨p,c2,rfl⟩:=(Zf h2).slice
  unfold Oper.wp execOp
  simp only[ho,resolve,invoke,builtin,Sem.run_bind,Sem.run_pure,Result.andThen_ok,List.map_toArray,List.map_cons,List.map_nil,hs,hx,hr]
  exact h p c2 W h2 h3 (Ga h3 hown (Nat.le_refl _) hbase) h5
structure WS where
 es:List Ent
 bs:List Int
 deep:Int
 looked:Nat
 fs:List (List Int×Int)
 dry:Bool
def Yh(way bs:List Int)(c:Int)(s:WS):WS:={ s with fs:=s.fs++[(way++bs,c)] }
def Jj(V:List Int→Int→Int→Int→WS→WS)(way:List Int)(no:Int)(val:List UInt8)(p:Int×Int)(s:WS):WS :=
 if Yw val=0 then V (way++[no]) (Kc val:Int) p.1 p.2 s else Yh way [no] (Yw val) s
def Xs(l:List UInt8)(no:Int):List Int:=Yx (inB l no) (Zn (inB l no))
def Vb(l:List UInt8)(no:Int):List (List UInt8):=Kw (inB l no) (Zn (inB l no))
def Np(V:List Int→Int→Int→Int→WS→WS)(l:List UInt8)(way:List Int)(no hi:Int)(s:WS)(i:Nat):WS :=
 if s.dry=true then s else Jj V way no ((Vb l no).getD i []) (Xb hi (Xs l no) i) s
def Yj(V:List Int→Int→Int→Int→WS→WS)(l:List UInt8)(way:List Int)(no hi:Int)(k:Nat)(s:WS):WS:=(List.range k).foldl (Np V l way no hi) s
def Zz(l:List UInt8)(tree fuel:Int):Nat→List Int→Int→Int→Int→WS→WS
 | 0,_,_,_,_,s=>s
 | d+1,way,no,lo,hi,s =>
  if fuel≤s.looked then { Yh way [no] 12 s with dry:=true }
  else if Zx l way no tree lo hi s.deep≠0 then Yh way [no] (Zx l way no tree lo hi s.deep) { s with looked:=s.looked+1 }
  else if Xl (inB l no)=true then { s with looked:=s.looked+1,bs:=s.bs++[no],deep:=((way.length+1:Nat):Int),es:=s.es++Ks (Xs l no) (Vb l no) no (Zn (inB l no)) }
  else Yj (Zz l tree fuel d) l way no hi (Zn (inB l no)) { s with looked:=s.looked+1,bs:=s.bs++[no] }
theorem Wc(V:List Int→Int→Int→Int→WS→WS)(l:List UInt8)(way:List Int)(no hi:Int)(k:Nat)(s:WS):Yj V l way no hi (k+1) s=Np V l way no hi (Yj V l way no hi k s) k:=by
 simp[Yj,List.range_succ]
theorem roundW_dry(V:List Int→Int→Int→Int→WS→WS)(l:List UInt8)(way:List Int)(no hi:Int)(s:WS)(i:Nat)(h:s.dry=true):Np V l way no hi s i=s:=by simp[Np,h]
theorem loopW_dry(V:List Int→Int→Int→Int→WS→WS)(l:List UInt8)(way:List Int)(no hi:Int)(s:WS){k n:Nat}(hk:k≤n)(h:(Yj V l way no hi k s).dry=true):Yj V l way no hi n s=Yj V l way no hi k s:=by
 induction n with
 | zero =>
  obtain rfl:k=0:=by omega
  rfl
 | succ n ih =>
   rcases Nat.lt_or_ge n k with q|q
   ·obtain rfl:k=n+1:=by omega
    rfl
   ·rw[Wc,ih q,roundW_dry _ _ _ _ _ _ _ h]
def Ho(w:World):List (List Int×Int)→List Value→Prop
 | [],[]=>True
 | f::r,v::q=>Ja w (f.1.map some) (some f.2) v∧Ho w r q
 | _,_=>False
theorem Ho.kept{w W:World}(hb:∀ blk cs,Blk w blk cs 125→Blk W blk cs 125):∀ {fs:List (List Int×Int)} {vs:List Value},Ho w fs vs→Ho W fs vs
 | [],[],h=>h
 | _::_,_::_,h=>⟨h.1.kept hb,Ho.kept hb h.2⟩
 | [],_::_,h=>h.elim
 | _::_,[],h=>h.elim
theorem Ho.only{T:List TypeId}{w W:World}{fs:List (List Int×Int)}{vs:List Value}(h:Ho w fs vs)(k:Ze T w W)(hT:T.contains 125=false):Ho W fs vs:=h.kept fun _ _ q=>q.only k hT
theorem Ho.below{w W:World}{fs:List (List Int×Int)}{vs:List Value}(h:Ho w fs vs)(hb:Below w.heap.size w W):Ho W fs vs:=h.kept fun _ _ q=>q.below hb
theorem Ho.snoc{w:World}{f:List Int×Int}{v:Value}(hv:Ja w (f.1.map some) (some f.2) v):∀ {fs:List (List Int×Int)} {vs:List Value},Ho w fs vs→Ho w (fs++[f]) (vs++[v])
 | [],[],_=>⟨hv,trivial⟩
 | _::_,_::_,h=>⟨h.1,Ho.snoc hv h.2⟩
 | [],_::_,h=>h.elim
 | _::_,[],h=>h.elim
structure WalkR(B bw Bi b:Nat)(pi:Option Addr)(ni ci:Nat)(l:List UInt8)(tree fuel:Int)(way:List Int)(s:WS)(pe pb pf pw:Option Addr)(ce cb cf cw:Nat)(fv:List Value)(w:World):Prop where
 blk:Blk w bw [.slice pe s.es.length ce,.slice pb s.bs.length cb,.int .i64 s.deep,.int .i64 (s.looked:Int),.slice pf s.fs.length cf,.pointer (some ⟨b,0,none⟩),.int .i64 tree,.int .i64 fuel,.slice pw way.length cw,.bool s.dry] 170
 ents:w.ownsRow B 77 3 (.slice pe s.es.length ce) s.es.length (s.es.flatMap Ko)
 blks:w.ownsRow B 3 1 (.slice pb s.bs.length cb) s.bs.length (s.bs.map (Value.int .i64))
 flts:w.ownsRow B 39 1 (.slice pf s.fs.length cf) s.fs.length fv
 fltv:Ho w s.fs fv
 ways:w.ownsRow B 3 1 (.slice pw way.length cw) way.length (way.map (Value.int .i64))
 apart:Kr (.slice pb s.bs.length cb) (.slice pw way.length cw)
 img:ImgR Bi b pi ni ci l w
def VisitP(B bw Bi b:Nat)(pi:Option Addr)(ni ci:Nat)(l:List UInt8)(tree fuel:Int)(way:List Int)(t:WS)(w:World)(e:Ending)(w':World):Prop :=
 ∃ u pe pb pf pw ce cb cf cw fv,e=.returned u∧Below B w w'∧Ze [170,77,3,39] w w'∧WalkR B bw Bi b pi ni ci l tree fuel way t pe pb pf pw ce cb cf cw fv w'
end Go.Proofs.YthlakkdgcgkcdaaGreatDoor
namespace Go.Proofs.YthlakkdgcgkcdaaGreatDoor
set_option maxHeartbeats 8000000
set_option maxRecDepth 100000
open Go.RowKit Go.Extern.Stop Go.Stop Go.Extern
set_option linter.unusedVariables false
attribute [local irreducible] wpList wpAnyH Code.wp Oper.wp Go
theorem Hp{w:World}{base e n c:Nat}{p:Option Addr}{xs:List Value}(k:w.ownsRow base e 1 (.slice p n c) n xs)(hn:0<n):p.isSome=true∧n≤c:=by
 rcases k.2 with ⟨h,_⟩|⟨g,cap,cur,hv,_,_,hc,_⟩
 ·simp only[Value.slice.injEq] at h;omega
 ·simp only[Value.slice.injEq] at hv
  obtain⟨rfl,_,rfl⟩:=hv
  exact⟨rfl,hc⟩
theorem Rk{w:World}{base e c:Nat}{p:Option Addr}{way:List Int}{no:Int}(k:w.ownsRow base e 1 (.slice p (way++[no]).length c) (way++[no]).length ((way++[no]).map (Value.int .i64))):w.ownsRow base e 1 (.slice p way.length c) way.length (way.map (Value.int .i64)):=by
 have h:=own_cut (m:=way.length) k (by simp) (Hp k (by simp)).1
 rwa [List.map_append,List.take_left' (by simp)] at h
theorem Zdu{w w':World}(h:Ze [170,39] w w'):Ze [170,77,3,39] w w':=h.mono fun t ht=>by
 simp only[List.contains_cons,List.contains_nil,Bool.or_eq_false_iff] at ht ⊢
 exact⟨ht.1,ht.2.2.2⟩
def VisitC(B bw Bi b:Nat)(pi:Option Addr)(ni ci:Nat)(l:List UInt8)(tree fuel:Int)(d:Nat):Prop :=
 ∀ (way:List Int) (no lo hi:Int) (s:WS) (pe pb pf pw:Option Addr) (ce cb cf cw:Nat) (fv:List Value) (w:World),way.length+d=17→B≤w.heap.size→s.dry=false→WalkR B bw Bi b pi ni ci l tree fuel way s pe pb pf pw ce cb cf cw fv w →
  (Zz l tree fuel d way no lo hi s).es.length≤1000000→(Zz l tree fuel d way no lo hi s).bs.length≤1000000→(Zz l tree fuel d way no lo hi s).fs.length≤1000000 →
  Calls Tryz.prog 91 #[.pointer (some ⟨bw,0,none⟩),.int .i64 no,.agg #[.int .i64 lo,.int .i64 hi]] w (VisitP B bw Bi b pi ni ci l tree fuel way (Zz l tree fuel d way no lo hi s) w)
theorem Zb3(B bw Bi b:Nat)(pi:Option Addr)(ni ci:Nat)(l:List UInt8)(tree fuel:Int)(d:Nat)(hV:VisitC B bw Bi b pi ni ci l tree fuel d)(way:List Int)(no lo hi:Int)(val:List UInt8)(s:WS)(pe pb pf pw:Option Addr)(ce cb cf cw:Nat)(fv:List Value)(w:World)(hBb:B≤bw)(hBw:B≤w.heap.size)(hwd:way.length+1+d=17)(hdry:s.dry=false)(hvl:val.length≤1000)(hR:WalkR B bw Bi b pi ni ci l tree fuel (way++[no]) s pe pb pf pw ce cb cf cw fv w)(he:(Jj (Zz l tree fuel d) way no val (lo,hi) s).es.length≤1000000)(hb_:(Jj (Zz l tree fuel d) way no val (lo,hi) s).bs.length≤1000000)(hf:(Jj (Zz l tree fuel d) way no val (lo,hi) s).fs.length≤1000000) :
 Calls Tryz.prog 143 #[.pointer (some ⟨bw,0,none⟩),.int .i64 no,.string ⟨val.toArray⟩,.agg #[.int .i64 lo,.int .i64 hi]] w (VisitP B bw Bi b pi ni ci l tree fuel (way++[no]) (Jj (Zz l tree fuel d) way no val (lo,hi) s) w):=by
 obtain⟨kW,hEn,hBl,hFl,hFv,hWy,hAp,hI⟩:=hR
 have hwc:=(Hp hWy (by simp)).2
 have hwl:(way++[no]).length=way.length+1:=by simp
 refine zin 44 Tryz.func143 ?_
 refine xa 2 [.int .i64 lo,.int .i64 hi] 173 fun b1 W1 n1=>?_
 refine xr 5 (args:=#[.string ⟨val.toArray⟩]) (Tb val _ hvl) fun W2 hb2=>?_
 refine xie 14 (Yw val) (0:Int) (fun hc3=>?_) (fun hc3=>?_)
 ·have k1:=n1.blk.below hb2
  refine xlv 4 k1.rp ?_
  have hch:Jj (Zz l tree fuel d) way no val (lo,hi) s=Zz l tree fuel d (way++[no]) (Kc val:Int) lo hi s:=by unfold Jj;rw[if_pos (by assumption)]
  have hB:=blB (blB (Below.refl B w) hBw n1.below) hBw hb2
  have kW'1:=(kW.below n1.below).below hb2
  have hEn'1:=Zb (Zb hEn n1.below) hb2
  have hBl'1:=Zb (Zb hBl n1.below) hb2
  have hFl'1:=Zb (Zb hFl n1.below) hb2
  have hFv'1:=(hFv.below n1.below).below hb2
  have hWy'1:=Zb (Zb hWy n1.below) hb2
  have hI'1:=(hI.below n1.below).below hb2
  refine xc 0 (args:=#[.pointer (some ⟨bw,0,none⟩),.int .i64 (↑(Kc val):Int),.agg #[.int .i64 lo,.int .i64 hi]]) (hV (way++[no]) (Kc val:Int) lo hi s pe pb pf pw ce cb cf cw fv _ (by simp;omega) (Nat.le_trans hBw hB.size) hdry ⟨kW'1,hEn'1,hBl'1,hFl'1,hFv'1,hWy'1,hAp,hI'1⟩ (by have q:=he;rw[hch] at q;exact q) (by have q:=hb_;rw[hch] at q;exact q) (by have q:=hf;rw[hch] at q;exact q)) ?_
  rintro _ W4 ⟨u4,pe2,pb2,pf2,pw2,ce2,cb2,cf2,cw2,fv2,rfl,hb4,hO4,hR2⟩
  have hB'1:=hB.trans hb4
  have hO:=((show Ze [170,77,3,39] w _ from(Ze.of_below n1.below)).trans (Ze.of_below hb2)).trans hO4
  refine xe 4 (.tuple #[]) ?_
  rw[hch]
  exact⟨_,_,_,_,_,_,_,_,_,_,rfl,hB'1,hO,hR2⟩
 have kW'2:=(kW.below n1.below).below hb2
 refine xb 7 8 kW'2 ?_
 refine xwm 9 ((↑((way++[no]).length):Int)-1) (↑(((way++[no]).length)-1):Int) ?_
 refine xsH 0 (fun _ _ _ _ zo zx zy V=>Yz (k:=(((way++[no]).length)-1)) (b:=pw) (n:=(way++[no]).length) (c:=cw) (i:=(↑(((way++[no]).length)-1):Int)) (ki:=.i64) zo zx zy rfl (by omega) Tryz.underlying30 (by kernel_rfl) V) ?_
 refine xs 2 kW'2 [.slice pe s.es.length ce,.slice pb s.bs.length cb,.int .i64 s.deep,.int .i64 (s.looked:Int),.slice pf s.fs.length cf,.pointer (some ⟨b,0,none⟩),.int .i64 tree,.int .i64 fuel,.slice pw (((way++[no]).length)-1) cw,.bool s.dry] fun W5 u5 k5=>?_
 refine xc 8 (args:=#[.int .i64 no,.iface 51 (.int .i64 (Yw val))]) (Qv no (some (Yw val)) [] _ _ rfl) ?_
 rintro _ W6 ⟨r6,rfl,hb6,hv6⟩
 rw[Vr] at hv6
 obtain⟨t6,x6,rfl⟩:=hv6.iface
 have k5'1:=k5.below hb6
 have hch:Jj (Zz l tree fuel d) way no val (lo,hi) s=Yh way [no] (Yw val) s:=by unfold Jj;rw[if_neg (by assumption)]
 rw[show(way++[no]).length-1=way.length by omega] at k5'1
 have hB:=blB (u5.below (blB (blB (Below.refl B w) hBw n1.below) hBw hb2) hBb) hBw hb6
 have hFl'2:=Zb (u5.own2 (Zb (Zb hFl n1.below) hb2) kW'2 (by decide)) hb6
 have hWy'2:=Zb (u5.own2 (Zb (Zb hWy n1.below) hb2) kW'2 (by decide)) hb6
 refine xc 0 (args:=#[.pointer (some ⟨bw,0,none⟩),.iface t6 (x6)]) (Ma B bw _ _ _ _ _ _ _ _ pf _ cf fv pw cw way [no] (Yw val) _ _ _ hBb (Nat.le_trans hBw hB.size) k5'1 hFl'2 (Rk hWy'2) hv6 (by omega) (by have:=hf;rw[hch] at this;simp[Yh] at this;omega)) ?_
 rintro _ W7 ⟨u7,pf2,cf2,t2,x2,rfl,hb7,hO7,kN,hFl2,hv2⟩
 refine xs 7 kN [.slice pe s.es.length ce,.slice pb s.bs.length cb,.int .i64 s.deep,.int .i64 (s.looked:Int),.slice pf2 (s.fs.length+1) cf2,.pointer (some ⟨b,0,none⟩),.int .i64 tree,.int .i64 fuel,.slice pw ((way++[no]).length) cw,.bool s.dry] fun W8 u8 k8=>?_
 have hB'2:=u8.below (hB.trans hb7) hBb
 have hO:=(((((show Ze [170,77,3,39] w _ from(Ze.of_below n1.below)).trans (Ze.of_below hb2)).trans (Ze.of_upd u5 kW'2 (by decide))).trans (Ze.of_below hb6)).trans (Zdu hO7)).trans (Ze.of_upd u8 kN (by decide))
 have hEn'2:=u8.own2 (Zl (Zb (u5.own2 (Zb (Zb hEn n1.below) hb2) kW'2 (by decide)) hb6) hO7 (by decide)) kN (by decide)
 have hBl'2:=u8.own2 (Zl (Zb (u5.own2 (Zb (Zb hBl n1.below) hb2) kW'2 (by decide)) hb6) hO7 (by decide)) kN (by decide)
 have hFl2'1:=u8.own2 hFl2 kN (by decide)
 have hv2'1:=hv2.upd u8 kN (by decide)
 have hFv'2:=(((((hFv.below n1.below).below hb2).only (Ze.of_upd (T:=[170]) u5 kW'2 (by decide)) (by decide)).below hb6).only hO7 (by decide)).only (Ze.of_upd (T:=[170]) u8 kN (by decide)) (by decide)
 have hWy'3:=u8.own2 (Zl hWy'2 hO7 (by decide)) kN (by decide)
 have hI'2:=(((((hI.below n1.below).below hb2).only (Ze.of_upd (T:=[170]) u5 kW'2 (by decide)) (by decide)).below hb6).only hO7 (by decide)).only (Ze.of_upd (T:=[170]) u8 kN (by decide)) (by decide)
 refine xe 1 (.tuple #[]) ?_
 rw[hch]
 exact⟨_,pe,pb,pf2,pw,ce,cb,cf2,cw,_,rfl,hB'2,hO,by simpa [Yh] using k8,hEn'2,hBl'2,by simpa [Yh] using hFl2'1,Ho.snoc hv2'1 hFv'2,hWy'3,hAp,hI'2⟩
end Go.Proofs.YthlakkdgcgkcdaaGreatDoor
namespace Go.Proofs.YthlakkdgcgkcdaaGreatDoor
set_option maxHeartbeats 8000000
set_option maxRecDepth 100000
open Go.RowKit Go.Extern.Stop Go.Stop Go.Extern
set_option linter.unusedVariables false
def Ex(s t:WS):Prop:=s.es.length≤t.es.length∧s.bs.length≤t.bs.length∧s.fs.length≤t.fs.length
theorem Ex.refl(s:WS):Ex s s:=⟨Nat.le_refl _,Nat.le_refl _,Nat.le_refl _⟩
theorem Ex.trans{s t u:WS}(h:Ex s t)(k:Ex t u):Ex s u:=⟨Nat.le_trans h.1 k.1,Nat.le_trans h.2.1 k.2.1,Nat.le_trans h.2.2 k.2.2⟩
theorem Ay(way bs:List Int)(c:Int)(s:WS):Ex s (Yh way bs c s):=⟨Nat.le_refl _,Nat.le_refl _,by simp[Yh]⟩
theorem Zen{V:List Int→Int→Int→Int→WS→WS}(hV:∀ way no lo hi s,Ex s (V way no lo hi s))(way:List Int)(no:Int)(val:List UInt8)(p:Int×Int)(s:WS):Ex s (Jj V way no val p s):=by
 unfold Jj
 split
 ·exact hV _ _ _ _ _
 ·exact Ay _ _ _ _
theorem Zdn{V:List Int→Int→Int→Int→WS→WS}(hV:∀ way no lo hi s,Ex s (V way no lo hi s))(l:List UInt8)(way:List Int)(no hi:Int)(s:WS)(i:Nat):Ex s (Np V l way no hi s i):=by
 unfold Np
 split
 ·exact Ex.refl _
 ·exact Zen hV _ _ _ _ _
theorem Iv{V:List Int→Int→Int→Int→WS→WS}(hV:∀ way no lo hi s,Ex s (V way no lo hi s))(l:List UInt8)(way:List Int)(no hi:Int)(s:WS){k n:Nat}(hk:k≤n):Ex (Yj V l way no hi k s) (Yj V l way no hi n s):=by
 induction n with
 | zero =>
  obtain rfl:k=0:=by omega
  exact Ex.refl _
 | succ n ih =>
   rcases Nat.lt_or_ge n k with q|q
   ·obtain rfl:k=n+1:=by omega
    exact Ex.refl _
   ·rw[Wc]
    exact(ih q).trans (Zdn hV _ _ _ _ _ _)
theorem loopW_zero(V:List Int→Int→Int→Int→WS→WS)(l:List UInt8)(way:List Int)(no hi:Int)(s:WS):Yj V l way no hi 0 s=s:=rfl
theorem Wq(l:List UInt8)(tree fuel:Int):∀ (d:Nat) (way:List Int) (no lo hi:Int) (s:WS),Ex s (Zz l tree fuel d way no lo hi s)
 | 0,_,_,_,_,s=>Ex.refl s
 | d+1,way,no,lo,hi,s=>by
  unfold Zz
  split
  ·exact⟨Nat.le_refl _,Nat.le_refl _,by simp[Yh]⟩
  ·split
   ·exact⟨Nat.le_refl _,Nat.le_refl _,by simp[Yh]⟩
   ·split
    ·exact⟨by simp,by simp,Nat.le_refl _⟩
    ·refine Ex.trans ⟨?_,?_,?_⟩ (Iv (Wq l tree fuel d) l way no hi _ (Nat.zero_le _))
     ·exact Nat.le_refl _
     ·simp[loopW_zero]
     ·exact Nat.le_refl _
section
variable {B bw Bi b:Nat} {pi:Option Addr} {ni ci:Nat} {l:List UInt8} {tree fuel:Int} {way:List Int} {s:WS} {pe pb pf pw:Option Addr} {ce cb cf cw:Nat} {fv:List Value} {w W:World}
theorem WalkR.below(h:WalkR B bw Bi b pi ni ci l tree fuel way s pe pb pf pw ce cb cf cw fv w)(hb:Below w.heap.size w W):WalkR B bw Bi b pi ni ci l tree fuel way s pe pb pf pw ce cb cf cw fv W :=
 ⟨h.blk.below hb,Zb h.ents hb,Zb h.blks hb,Zb h.flts hb,h.fltv.below hb,Zb h.ways hb,h.apart,h.img.below hb⟩
theorem WalkR.only{T:List TypeId}(h:WalkR B bw Bi b pi ni ci l tree fuel way s pe pb pf pw ce cb cf cw fv w)(hO:Ze T w W)
 (hT:T.contains 170=false∧T.contains 77=false∧T.contains 3=false∧T.contains 39=false∧T.contains 125=false∧T.contains 56=false∧T.contains 5=false):WalkR B bw Bi b pi ni ci l tree fuel way s pe pb pf pw ce cb cf cw fv W :=
 ⟨h.blk.only hO hT.1,Zl h.ents hO hT.2.1,Zl h.blks hO hT.2.2.1,Zl h.flts hO hT.2.2.2.1,h.fltv.only hO hT.2.2.2.2.1,Zl h.ways hO hT.2.2.1,h.apart,h.img.only hO ⟨hT.2.2.2.2.2.1,hT.2.2.2.2.2.2⟩⟩
end
end Go.Proofs.YthlakkdgcgkcdaaGreatDoor
namespace Go.Proofs.YthlakkdgcgkcdaaGreatDoor
set_option maxHeartbeats 8000000
set_option maxRecDepth 100000
open Go.RowKit Go.Extern.Stop Go.Stop Go.Extern
set_option linter.unusedVariables false
attribute [local irreducible] wpList wpAnyH Code.wp Oper.wp Go
theorem LookP.or{B bw:Nat}{cs:List Value}{l:List UInt8}{way:List Int}{no tree lo hi deep:Int}{w:World}{e:Ending}{w':World}(h:LookP B bw cs l way no tree lo hi deep w e w') :
 (Zx l way no tree lo hi deep≠0∧∃ a4 b4 k4 n4 c4 v4 m4 d4 ty x,e=.returned (.tuple #[.agg #[.int .i64 a4,.bool b4,.slice k4 n4 c4,.slice v4 m4 d4],.iface ty x])∧Below B w w'∧Ze [170] w w'∧Blk w' bw cs 170∧Ja w' [some no] (some (Zx l way no tree lo hi deep)) (.iface ty x)) ∨
 (Zx l way no tree lo hi deep=0∧∃ kp kc vp vc,e=.returned (.tuple #[.agg #[.int .i64 (Xr (inB l no)),.bool (Xl (inB l no)),.slice kp (Zn (inB l no)) kc,.slice vp (Zn (inB l no)) vc],.nilIface])∧Below B w w'∧Ze [170] w w'∧Blk w' bw cs 170 ∧
 w'.ownsRow w.heap.size 3 1 (.slice kp (Zn (inB l no)) kc) (Zn (inB l no)) ((Xs l no).map (Value.int .i64))∧w'.ownsRow w.heap.size 9 1 (.slice vp (Zn (inB l no)) vc) (Zn (inB l no)) ((Vb l no).map sv)):=by
 obtain⟨h1,h2,h3,⟨h4,a4,b4,k4,n4,c4,v4,m4,d4,ty,x,h5,h6⟩|⟨h4,_,kp,kc,vp,vc,h5,h6,h7⟩⟩:=h
 ·exact .inl ⟨h4,a4,b4,k4,n4,c4,v4,m4,d4,ty,x,h5,h1,h2,h3,h6⟩
 ·exact .inr ⟨h4,kp,kc,vp,vc,h5,h1,h2,h3,h6,h7⟩
theorem widG_24(t:Int)(b:Bool):widG t b≤24:=by
 unfold widG Uk
 repeat' split
 all_goals omega
theorem Hx(l:List UInt8)(n i:Nat):((Kw l n).getD i []).length≤1000:=by
 by_cases h:i<n
 ·rw[Zc4 l h]
  unfold Dx
  rw[List.length_take]
  have:=widG_24 (Xr l) (Xl l)
  unfold Xi
  omega
 ·simp[List.getD,List.getElem?_eq_none (show(Kw l n).length≤i by rw[Vo];omega)]
theorem Dq(p:Option Addr)(n c n2 c2:Nat):(Value.slice p n c).ownBlock=(Value.slice p n2 c2).ownBlock:=by
 cases p<;>rfl
theorem Kr.len{p q:Option Addr}{n c m d:Nat}(h:Kr (.slice p n c) (.slice q m d))(n2 c2 m2 d2:Nat):Kr (.slice p n2 c2) (.slice q m2 d2):=fun j h1 h2 =>
 h j ((Dq _ _ _ _ _).trans h1) ((Dq _ _ _ _ _).trans h2)
def prC (p:Int×Int):List Value:=[.int .i64 p.1,.int .i64 p.2]
theorem prC_len(p:Int×Int):(prC p).length=2:=rfl
theorem flat2_prC(l:List (Int×Int)):Po l=l.flatMap prC:=by
 induction l with
 | nil=>rfl
 | cons x l ih=>simp only[Po,List.flatMap_cons,prC];rfl
theorem look_fits{l:List UInt8}{way:List Int}{no tree lo hi deep:Int}(h:Zx l way no tree lo hi deep=0):Ys lo hi (Xs l no)=0∧way.length<16:=by
 unfold Zx at h
 by_cases h1:Va way no=true
 ·rw[if_pos h1] at h;cases h
 rw[if_neg h1] at h
 by_cases h2:16≤way.length
 ·rw[if_pos h2] at h;cases h
 rw[if_neg h2] at h
 by_cases h3:Xc l no tree≠0
 ·rw[if_pos h3] at h;exact absurd h h3
 rw[if_neg h3] at h
 by_cases h4:Ys lo hi (Yx (inB l no) (Zn (inB l no)))≠0
 ·rw[if_pos h4] at h;cases h
 exact⟨Decidable.not_not.1 h4,by omega⟩
theorem splitL_get(hi:Int)(l:List Int){i:Nat}(h:i<l.length):(Ve hi l).getD i (0,0)=Xb hi l i:=by simp[Ve,h]
theorem sts_sp{w:World}{p:Option Addr}{n c:Nat}{L:List (Int×Int)}(h:Sl w (.slice p n c) n (Po L))(hL:L.length=n):Sts prC w (.slice p L.length c) L:=by
 subst hL;rw[flat2_prC] at h;exact h
theorem Io(hi:Int)(l:List Int):(Ve hi l).length=l.length:=by simp[Ve]
theorem only_le{w w':World}(h:Ze [170,77] w w'):Ze [170,77,3,39] w w':=h.mono fun t ht=>by
 simp only[List.contains_cons,List.contains_nil,Bool.or_eq_false_iff] at ht ⊢
 exact⟨ht.1,ht.2.1,trivial⟩
theorem only_w{w w':World}(h:Ze [170] w w'):Ze [170,77,3,39] w w':=h.mono fun t ht=>by
 simp only[List.contains_cons,List.contains_nil,Bool.or_eq_false_iff] at ht ⊢
 exact⟨ht.1,trivial⟩
theorem Dc(B bw Bi b:Nat)(pi:Option Addr)(ni ci:Nat)(l:List UInt8)(tree fuel:Int)(d:Nat)(hV:d≠0→VisitC B bw Bi b pi ni ci l tree fuel d)(way:List Int)(no lo hi:Int)(s:WS)(pe pb pf pw:Option Addr)(ce cb cf cw:Nat)(fv:List Value)(w:World)(hBb:B≤bw)(hBw:B≤w.heap.size)(hwd:way.length+(d+1)=17)(hdry:s.dry=false)(hfu:fuel≤1000000)(hR:WalkR B bw Bi b pi ni ci l tree fuel way s pe pb pf pw ce cb cf cw fv w)(he:(Zz l tree fuel (d+1) way no lo hi s).es.length≤1000000)(hb_:(Zz l tree fuel (d+1) way no lo hi s).bs.length≤1000000)(hf:(Zz l tree fuel (d+1) way no lo hi s).fs.length≤1000000) :
 Calls Tryz.prog 91 #[.pointer (some ⟨bw,0,none⟩),.int .i64 no,.agg #[.int .i64 lo,.int .i64 hi]] w (VisitP B bw Bi b pi ni ci l tree fuel way (Zz l tree fuel (d+1) way no lo hi s) w):=by
 obtain⟨kW,hEn,hBl,hFl,hFv,hWy,hAp,hI⟩:=hR
 have hBl0:=hBl
 have hWy0:=hWy
 have hgr:=Wq l tree fuel (d+1) way no lo hi s
 have hbs:=Nat.le_trans hgr.2.1 hb_
 refine zin 106 Tryz.func91 ?_
 refine xa 2 [.int .i64 lo,.int .i64 hi] 173 fun b1 W1 n1=>?_
 refine xd 4 .z ?_
 have kW'1:=(kW.below n1.below).below (Za W1)
 refine xb (.e [0,1,2,3] 4) 3 kW'1 ?_
 refine xb (.e [5,6,7] 8) 7 kW'1 ?_
 refine xid (.r [9] 2) ((↑s.looked:Int)≥fuel) (fun hc2=>?_) (fun hc2=>?_)
 ·refine xc 5 (args:=#[.int .i64 no,.iface 51 (.int .i64 12)]) (Qv no (some 12) [] _ _ rfl) ?_
  rintro _ W3 ⟨r3,rfl,hb3,hv3⟩
  rw[Vr] at hv3
  obtain⟨t3,x3,rfl⟩:=hv3.iface
  have hch:(Zz l tree fuel (d+1) way no lo hi s)={ Yh way [no] 12 s with dry:=true }:=by unfold Zz;rw[if_pos (by omega)]
  have hB:=blB (blB (blB (Below.refl B w) hBw n1.below) hBw (Za W1)) hBw hb3
  have kW'2:=kW'1.below hb3
  have hFl'1:=Zb (Zb (Zb hFl n1.below) (Za W1)) hb3
  have hWy'1:=Zb (Zb (Zb hWy n1.below) (Za W1)) hb3
  refine xc 0 (args:=#[.pointer (some ⟨bw,0,none⟩),.iface t3 (x3)]) (Ma B bw _ _ _ _ _ _ _ _ pf _ cf fv pw cw way [no] 12 _ _ _ hBb (Nat.le_trans hBw hB.size) kW'2 hFl'1 hWy'1 hv3 (by omega) (by have:=hf;rw[hch] at this;simp[Yh] at this;omega)) ?_
  rintro _ W4 ⟨u4,pf2,cf2,t2,x2,rfl,hb4,hO4,kN,hFl2,hv2⟩
  refine xs 7 kN [.slice pe s.es.length ce,.slice pb s.bs.length cb,.int .i64 s.deep,.int .i64 (↑s.looked:Int),.slice pf2 (s.fs.length+1) cf2,.pointer (some ⟨b,0,none⟩),.int .i64 tree,.int .i64 fuel,.slice pw way.length cw,.bool true] fun W5 u5 k5=>?_
  have hB'1:=u5.below (hB.trans hb4) hBb
  have hO:=((((show Ze [170,77,3,39] w _ from(Ze.of_below n1.below)).trans (Ze.of_below (Za W1))).trans (Ze.of_below hb3)).trans (Zdu hO4)).trans (Ze.of_upd u5 kN (by decide))
  have hEn'1:=u5.own2 (Zl (Zb (Zb (Zb hEn n1.below) (Za W1)) hb3) hO4 (by decide)) kN (by decide)
  have hBl'1:=u5.own2 (Zl (Zb (Zb (Zb hBl n1.below) (Za W1)) hb3) hO4 (by decide)) kN (by decide)
  have hFl2'1:=u5.own2 hFl2 kN (by decide)
  have hv2'1:=hv2.upd u5 kN (by decide)
  have hFv'1:=((((hFv.below n1.below).below (Za W1)).below hb3).only hO4 (by decide)).only (Ze.of_upd (T:=[170]) u5 kN (by decide)) (by decide)
  have hWy'2:=u5.own2 (Zl hWy'1 hO4 (by decide)) kN (by decide)
  have hI'1:=((((hI.below n1.below).below (Za W1)).below hb3).only hO4 (by decide)).only (Ze.of_upd (T:=[170]) u5 kN (by decide)) (by decide)
  refine xe 4 (.tuple #[]) ?_
  rw[hch]
  exact⟨_,pe,pb,pf2,pw,ce,cb,cf2,cw,_,rfl,hB'1,hO,by simpa [Yh] using k5,hEn'1,hBl'1,by simpa [Yh] using hFl2'1,Ho.snoc hv2'1 hFv'1,hWy'2,hAp,hI'1⟩
 have k1:=n1.blk.below (Za W1)
 refine xlv 6 k1.rp ?_
 have hB:=blB (blB (Below.refl B w) hBw n1.below) hBw (Za W1)
 have hWy'3:=Zb (Zb hWy n1.below) (Za W1)
 have hI'2:=(hI.below n1.below).below (Za W1)
 refine xc 0 (args:=#[.pointer (some ⟨bw,0,none⟩),.int .i64 no,.agg #[.int .i64 lo,.int .i64 hi]]) ((Zed B Bi b bw pi ni ci l _ _ _ _ _ pw cw way no tree lo hi s.deep (s.looked:Int) _ hBb (Nat.le_trans hBw hB.size) kW'1 hWy'3 hI'2 (by omega) (by omega) (by omega)).mono (fun _ _ h=>LookP.or h)) ?_
 rintro e W6 hq6
 rcases hq6 with ⟨hz,a4,b4,k4,n4,c4,v4,m4,d4,ty,x,rfl,hb6,hO6,kL6,hv6⟩|⟨hz,kp,kc,vp,vc,rfl,hb6,hO6,kL6,hk,hv_⟩
 ·refine xa 3 [.int .i64 0,.bool false,.slice none 0 0,.slice none 0 0] 188 fun b7 W7 n7=>?_
  have hB'2:=hB.trans hb6
  have g7:=n7.ge0 hB'2
  refine xsv 0 n7.blk [.int .i64 a4,.bool b4,.slice k4 n4 c4,.slice v4 m4 d4] fun W8 u8 k8=>?_
  have hch:(Zz l tree fuel (d+1) way no lo hi s)=Yh way [no] (Zx l way no tree lo hi s.deep) { s with looked:=s.looked+1 }:=by unfold Zz;rw[if_neg (by omega),if_pos hz]
  have hB'3:=u8.below (blB hB'2 hBw n7.below) (Nat.le_trans hBw g7)
  have kL6'1:=u8.blkT (kL6.below n7.below) n7.blk (by decide)
  have hFl'2:=u8.own2 (Zb (Zl (Zb (Zb hFl n1.below) (Za W1)) hO6 (by decide)) n7.below) n7.blk (by decide)
  have hWy'4:=u8.own2 (Zb (Zl hWy'3 hO6 (by decide)) n7.below) n7.blk (by decide)
  have hv6'1:=(hv6.below n7.below).upd u8 n7.blk (by decide)
  refine xc 15 (args:=#[.pointer (some ⟨bw,0,none⟩),.iface ty (x)]) (Ma B bw _ _ _ _ _ _ _ _ pf _ cf fv pw cw way [no] (Zx l way no tree lo hi s.deep) _ _ _ hBb (Nat.le_trans hBw hB'3.size) kL6'1 hFl'2 hWy'4 hv6'1 (by omega) (by have:=hf;rw[hch] at this;simp[Yh] at this;omega)) ?_
  rintro _ W9 ⟨u9,pf2,cf2,t2,x2,rfl,hb9,hO9,kN,hFl2,hv2⟩
  have hB'4:=hB'3.trans hb9
  have hO:=(Ze.upd_new ((((show Ze [170,77,3,39] w _ from(Ze.of_below n1.below)).trans (Ze.of_below (Za W1))).trans (only_w hO6)).trans (Ze.of_below n7.below)) u8 g7).trans (Zdu hO9)
  have hEn'2:=Zl (u8.own2 (Zb (Zl (Zb (Zb hEn n1.below) (Za W1)) hO6 (by decide)) n7.below) n7.blk (by decide)) hO9 (by decide)
  have hBl'2:=Zl (u8.own2 (Zb (Zl (Zb (Zb hBl n1.below) (Za W1)) hO6 (by decide)) n7.below) n7.blk (by decide)) hO9 (by decide)
  have hFv'2:=(((((hFv.below n1.below).below (Za W1)).only hO6 (by decide)).below n7.below).only (Ze.of_upd (T:=[188]) u8 n7.blk (by decide)) (by decide)).only hO9 (by decide)
  have hWy'5:=Zl hWy'4 hO9 (by decide)
  have hI'3:=(((hI'2.only hO6 (by decide)).below n7.below).only (Ze.of_upd (T:=[188]) u8 n7.blk (by decide)) (by decide)).only hO9 (by decide)
  refine xe 4 (.tuple #[]) ?_
  rw[hch]
  exact⟨_,pe,pb,pf2,pw,ce,cb,cf2,cw,_,rfl,hB'4,hO,by simpa [Yh] using kN,hEn'2,hBl'2,by simpa [Yh] using hFl2,Ho.snoc hv2 hFv'2,hWy'5,hAp,hI'3⟩
 have hs6:=(blB (blB (Below.refl B w) hBw n1.below) hBw (Za W1)).size
 have hk'1:=Zd hk hs6
 have hApk:=Kr.of_lt hBl0 hk'1 (Nat.le_refl _)
 have hApw:=Kr.of_lt hWy0 hk'1 (Nat.le_refl _)
 refine xa 3 [.int .i64 0,.bool false,.slice none 0 0,.slice none 0 0] 188 fun b10 W10 n10=>?_
 have hB'5:=hB.trans hb6
 have g10:=n10.ge0 hB'5
 refine xsv 0 n10.blk [.int .i64 (Xr (inB l no)),.bool (Xl (inB l no)),.slice kp (Zn (inB l no)) kc,.slice vp (Zn (inB l no)) vc] fun W11 u11 k11=>?_
 have kL6'2:=u11.blkT (kL6.below n10.below) n10.blk (by decide)
 refine xb 20 1 kL6'2 ?_
 refine xbs 1 1 [.int .i64 no] 3 fun b12 W12 n12=>?_
 have hB'6:=u11.below (blB hB'5 hBw n10.below) (Nat.le_trans hBw g10)
 have g12:=n12.ge0 hB'6
 have hBl'3:=u11.own2 (Zb (Zl (Zb (Zb hBl n1.below) (Za W1)) hO6 (by decide)) n10.below) n10.blk (by decide)
 have r12_hBl:=Zu hBl'3 n12
 have hWy'6:=u11.own2 (Zb (Zl hWy'3 hO6 (by decide)) n10.below) n10.blk (by decide)
 have r12_hWy:=Zu hWy'6 n12
 have hk'2:=u11.own2 (Zb hk'1 n10.below) n10.blk (by decide)
 have r12_hk:=Zu hk'2 n12
 have hBl'4:=Zb hBl'3 n12.below
 have hB'7:=blB hB'6 hBw n12.below
 refine xbi 0 fun _ _ _ _ zJ zQ zo zx zy zK=>Rh (b:=b12) (c:=1) (m:=1) (news:=[.int .i64 no]) (.int .i64 0) 1 8 ((s.bs++[no]).length) (((s.bs++[no]).map (Value.int .i64))) zo Tryz.underlying30 (by kernel_rfl) rfl (by decide) zx hBl'4 zy n12.blk rfl (by simp[Value.oneCell']) (by unfold maxLen;omega) (by omega) (Nat.le_trans hBw hB'7.size) (by simp) (by simp) fun px13 cx13 W13 o13 hg13 hb13 ha13=>?_
 have hWy'7:=Zb hWy'6 n12.below
 have q13_hWy:=hAp.row hWy'7 hg13
 replace hAp:=(hAp.grow hWy'7 ha13)
 have hk'3:=Zb hk'2 n12.below
 have q13_hk:=hApk.row hk'3 hg13
 replace hApk:=(hApk.grow hk'3 ha13)
 have hWyq13:=q13_hWy
 have hkq13:=q13_hk
 refine zK _ _ ?_
 have kL6'3:=(kL6'2.below n12.below).grown hg13 hBl'4 (by decide)
 refine xs 3 kL6'3 [.slice pe s.es.length ce,.slice px13 ((s.bs++[no]).length) cx13,.int .i64 s.deep,.int .i64 ((s.looked:Int)+1),.slice pf s.fs.length cf,.pointer (some ⟨b,0,none⟩),.int .i64 tree,.int .i64 fuel,.slice pw way.length cw,.bool s.dry] fun W14 u14 k14=>?_
 have k11'1:=u14.blkT ((k11.below n12.below).grown hg13 hBl'4 (by decide)) kL6'3 (by decide)
 refine xb 6 1 k11'1 ?_
 refine xi 2 (Xl (inB l no)) (fun hc15=>?_) (fun hc15=>?_)
 ·refine xlv 4 k11'1.rp ?_
  have hch:(Zz l tree fuel (d+1) way no lo hi s)={ s with looked:=s.looked+1,bs:=s.bs++[no],deep:=((way.length+1:Nat):Int),es:=s.es++Ks (Xs l no) (Vb l no) no (Zn (inB l no)) }:=by unfold Zz;rw[if_neg (by omega),if_neg (by omega),if_pos (by assumption)]
  have hB'8:=u14.below (hB'7.trans hb13) hBb
  have hEn'3:=u14.own2 (Zg (Zb (u11.own2 (Zb (Zl (Zb (Zb hEn n1.below) (Za W1)) hO6 (by decide)) n10.below) n10.blk (by decide)) n12.below) hg13 hBl'4 (by decide)) kL6'3 (by decide)
  have hk'4:=u14.own2 hkq13 kL6'3 (by decide)
  have hv_'1:=u14.own2 (Zg (Zb (u11.own2 (Zb (Zd hv_ hs6) n10.below) n10.blk (by decide)) n12.below) hg13 hBl'4 (by decide)) kL6'3 (by decide)
  refine xc 0 (args:=#[.pointer (some ⟨bw,0,none⟩),.int .i64 no,.agg #[.int .i64 (Xr (inB l no)),.bool (Xl (inB l no)),.slice kp (Zn (inB l no)) kc,.slice vp (Zn (inB l no)) vc]]) (Zej B bw _ _ _ _ _ _ _ _ pe ce s.es pw cw way no _ _ kp vp _ kc vc (Xs l no) (Vb l no) _ hBb (Nat.le_trans hBw hB'8.size) k14 hEn'3 (fun W _ q=>Zf (Zl hk'4 q (by decide))) (fun W _ q=>Zf (Zl hv_'1 q (by decide))) (by simp[Xs,Yx]) (by simp[Vb,Kw]) (by omega) (by have:=he;rw[hch] at this;simp[Gl] at this;omega)) ?_
  rintro _ W16 ⟨u16,pe2,ce2,rfl,hb16,hO16,kE,hE2⟩
  have hB'9:=hB'8.trans hb16
  have hO:=((((Ze.upd_new ((((show Ze [170,77,3,39] w _ from(Ze.of_below n1.below)).trans (Ze.of_below (Za W1))).trans (only_w hO6)).trans (Ze.of_below n10.below)) u11 g10).trans (Ze.of_below n12.below)).trans (Ze.of_grown hg13 hBl'4 (by decide))).trans (Ze.of_upd u14 kL6'3 (by decide))).trans (only_le hO16)
  have o13'1:=Zl (u14.own2 o13 kL6'3 (by decide)) hO16 (by decide)
  have hFl'3:=Zl (u14.own2 (Zg (Zb (u11.own2 (Zb (Zl (Zb (Zb hFl n1.below) (Za W1)) hO6 (by decide)) n10.below) n10.blk (by decide)) n12.below) hg13 hBl'4 (by decide)) kL6'3 (by decide)) hO16 (by decide)
  have hFv'3:=((((((((hFv.below n1.below).below (Za W1)).only hO6 (by decide)).below n10.below).only (Ze.of_upd (T:=[188]) u11 n10.blk (by decide)) (by decide)).below n12.below).only (Ze.of_grown (T:=[3]) hg13 hBl'4 (by decide)) (by decide)).only (Ze.of_upd (T:=[170]) u14 kL6'3 (by decide)) (by decide)).only hO16 (by decide)
  have hWy'8:=Zl (u14.own2 hWyq13 kL6'3 (by decide)) hO16 (by decide)
  have hI'4:=((((((hI'2.only hO6 (by decide)).below n10.below).only (Ze.of_upd (T:=[188]) u11 n10.blk (by decide)) (by decide)).below n12.below).only (Ze.of_grown (T:=[3]) hg13 hBl'4 (by decide)) (by decide)).only (Ze.of_upd (T:=[170]) u14 kL6'3 (by decide)) (by decide)).only hO16 (by decide)
  refine xe 4 (.tuple #[]) ?_
  rw[hch]
  exact⟨_,pe2,_,pf,pw,ce2,_,cf,cw,fv,rfl,hB'9,hO,by simpa [Gl] using kE,by simpa [Gl] using hE2,by simpa using o13'1,hFl'3,hFv'3,hWy'8,by simpa using hAp,hI'4⟩
 refine xb 8 8 k14 ?_
 refine xbs 1 1 [.int .i64 no] 3 fun b17 W17 n17=>?_
 have hB'10:=u14.below (hB'7.trans hb13) hBb
 have g17:=n17.ge0 hB'10
 have hWy'9:=u14.own2 hWyq13 kL6'3 (by decide)
 have r17_hWy:=Zu hWy'9 n17
 have hk'5:=u14.own2 hkq13 kL6'3 (by decide)
 have r17_hk:=Zu hk'5 n17
 have o13'2:=u14.own2 o13 kL6'3 (by decide)
 have r17_o13:=Zu o13'2 n17
 have hWy'10:=Zb hWy'9 n17.below
 have hB'11:=blB hB'10 hBw n17.below
 refine xbi 0 fun _ _ _ _ zJ zQ zo zx zy zK=>Rh (b:=b17) (c:=1) (m:=1) (news:=[.int .i64 no]) (.int .i64 0) 1 8 ((way++[no]).length) (((way++[no]).map (Value.int .i64))) zo Tryz.underlying30 (by kernel_rfl) rfl (by decide) zx hWy'10 zy n17.blk rfl (by simp[Value.oneCell']) (by unfold maxLen;omega) (by omega) (Nat.le_trans hBw hB'11.size) (by simp) (by simp) fun px18 cx18 W18 o18 hg18 hb18 ha18=>?_
 have o13'3:=Zb o13'2 n17.below
 have q18_o13:=hAp.symm.row o13'3 hg18
 replace hAp:=(hAp.symm.grow o13'3 ha18).symm
 have hk'6:=Zb hk'5 n17.below
 have q18_hk:=hApw.row hk'6 hg18
 replace hApw:=(hApw.grow hk'6 ha18)
 have o13q18:=q18_o13
 have hkq18:=q18_hk
 refine zK _ _ ?_
 have k14'1:=(k14.below n17.below).grown hg18 hWy'10 (by decide)
 refine xs 2 k14'1 [.slice pe s.es.length ce,.slice px13 ((s.bs++[no]).length) cx13,.int .i64 s.deep,.int .i64 ((s.looked:Int)+1),.slice pf s.fs.length cf,.pointer (some ⟨b,0,none⟩),.int .i64 tree,.int .i64 fuel,.slice px18 ((way++[no]).length) cx18,.bool s.dry] fun W19 u19 k19=>?_
 have k1'1:=u19.blkT (((u14.blkT (((u11.blkT ((k1.only hO6 (by decide)).below n10.below) n10.blk (by decide)).below n12.below).grown hg13 hBl'4 (by decide)) kL6'3 (by decide)).below n17.below).grown hg18 hWy'10 (by decide)) k14'1 (by decide)
 refine xlv 5 k1'1.rp ?_
 have k11'2:=u19.blkT ((k11'1.below n17.below).grown hg18 hWy'10 (by decide)) k14'1 (by decide)
 refine xb 1 2 k11'2 ?_
 have hB'12:=u19.below (hB'11.trans hb18) hBb
 have hsp0:=hB'12.size
 obtain⟨hfit,hw16⟩:=look_fits hz
 have hkl:(Xs l no).length=Zn (inB l no):=by simp[Xs,Yx]
 have hnc:Zn (inB l no)<65536:=Co _ 2 2
 have hk'7:=u19.own2 hkq18 k14'1 (by decide)
 refine xc 0 (args:=#[.agg #[.int .i64 lo,.int .i64 hi],.slice kp (Zn (inB l no)) kc]) (Zd3 lo hi _ (Xs l no) _ (by rw[hkl];omega) (Ps (Zf hk'7) hkl)) ?_
 rintro _ W20 ⟨r20,rfl,hb20,_,hg20⟩
 obtain⟨gs,rfl,hgs,kS⟩:=hg20 hfit
 rw[hkl]
 have hSp:=Zw (size:=2) (n:=Zn (inB l no)) kS (Nat.le_trans hsp0 hgs) (by rw[Da,Io,hkl]) (by unfold maxLen;omega)
 have hch:(Zz l tree fuel (d+1) way no lo hi s)=(Yj (Zz l tree fuel d) l way no hi (Zn (inB l no)) { s with looked:=s.looked+1,bs:=s.bs++[no] }):=by unfold Zz;rw[if_neg (by omega),if_neg (by omega),if_neg (by simp;assumption)]
 have hspl:(Ve hi (Xs l no)).length=(Zn (inB l no)):=by rw[Io,hkl]
 have hvl:(Vb l no).length=(Zn (inB l no)):=by simp[Vb,Kw]
 have k19'1:=k19.below hb20
 have hEn'4:=Zb (u19.own2 (Zg (Zb (u14.own2 (Zg (Zb (u11.own2 (Zb (Zl (Zb (Zb hEn n1.below) (Za W1)) hO6 (by decide)) n10.below) n10.blk (by decide)) n12.below) hg13 hBl'4 (by decide)) kL6'3 (by decide)) n17.below) hg18 hWy'10 (by decide)) k14'1 (by decide)) hb20
 have o13'4:=Zb (u19.own2 o13q18 k14'1 (by decide)) hb20
 have hFl'4:=Zb (u19.own2 (Zg (Zb (u14.own2 (Zg (Zb (u11.own2 (Zb (Zl (Zb (Zb hFl n1.below) (Za W1)) hO6 (by decide)) n10.below) n10.blk (by decide)) n12.below) hg13 hBl'4 (by decide)) kL6'3 (by decide)) n17.below) hg18 hWy'10 (by decide)) k14'1 (by decide)) hb20
 have hFv'4:=(((((((((((hFv.below n1.below).below (Za W1)).only hO6 (by decide)).below n10.below).only (Ze.of_upd (T:=[188]) u11 n10.blk (by decide)) (by decide)).below n12.below).only (Ze.of_grown (T:=[3]) hg13 hBl'4 (by decide)) (by decide)).only (Ze.of_upd (T:=[170]) u14 kL6'3 (by decide)) (by decide)).below n17.below).only (Ze.of_grown (T:=[3]) hg18 hWy'10 (by decide)) (by decide)).only (Ze.of_upd (T:=[170]) u19 k14'1 (by decide)) (by decide)).below hb20
 have o18'1:=Zb (u19.own2 o18 k14'1 (by decide)) hb20
 have hI'5:=(((((((((hI'2.only hO6 (by decide)).below n10.below).only (Ze.of_upd (T:=[188]) u11 n10.blk (by decide)) (by decide)).below n12.below).only (Ze.of_grown (T:=[3]) hg13 hBl'4 (by decide)) (by decide)).only (Ze.of_upd (T:=[170]) u14 kL6'3 (by decide)) (by decide)).below n17.below).only (Ze.of_grown (T:=[3]) hg18 hWy'10 (by decide)) (by decide)).only (Ze.of_upd (T:=[170]) u19 k14'1 (by decide)) (by decide)).below hb20
 have hR:WalkR B bw Bi b pi ni ci l tree fuel (way++[no]) (Yj (Zz l tree fuel d) l way no hi 0 { s with looked:=s.looked+1,bs:=s.bs++[no] }) pe _ pf _ ce _ cf _ fv W20:=⟨k19'1,hEn'4,o13'4,hFl'4,hFv'4,o18'1,hAp,hI'5⟩
 have hv_'2:=Zb (u19.own2 (Zg (Zb (u14.own2 (Zg (Zb (u11.own2 (Zb (Zd hv_ hs6) n10.below) n10.blk (by decide)) n12.below) hg13 hBl'4 (by decide)) kL6'3 (by decide)) n17.below) hg18 hWy'10 (by decide)) k14'1 (by decide)) hb20
 have hB'13:=blB hB'12 hBw hb20
 have hO:=(((((((Ze.upd_new ((((show Ze [170,77,3,39] w _ from(Ze.of_below n1.below)).trans (Ze.of_below (Za W1))).trans (only_w hO6)).trans (Ze.of_below n10.below)) u11 g10).trans (Ze.of_below n12.below)).trans (Ze.of_grown hg13 hBl'4 (by decide))).trans (Ze.of_upd u14 kL6'3 (by decide))).trans (Ze.of_below n17.below)).trans (Ze.of_grown hg18 hWy'10 (by decide))).trans (Ze.of_upd u19 k14'1 (by decide))).trans (Ze.of_below hb20)
 have k1'2:=k1'1.below hb20
 have k11'3:=k11'2.below hb20
 refine zl 5 106 (fun zm zkv V=>∃ (i:Nat) (pe5 pb5 pf5 pw5:Option Addr) (ce5 cb5 cf5 cw5:Nat) (fv5:List Value),zkv=[(0,.pointer (some ⟨bw,0,none⟩)),(1,.int .i64 no),(6,.pointer (some ⟨b10,0,none⟩)),(71,.slice (some ⟨gs,0,none⟩) (Zn (inB l no)) (Zn (inB l no))),(72,.int .i64 (↑(Zn (inB l no)):Int)),(73,.int .i64 (↑i:Int))]∧zm=(Zn (inB l no))-((↑i:Int)).toNat∧Below B w V∧Ze [170,77,3,39] w V∧Blk V b1 ([.int .i64 lo,.int .i64 hi]) 173∧Blk V b10 ([.int .i64 (Xr (inB l no)),.bool (Xl (inB l no)),.slice kp (Zn (inB l no)) kc,.slice vp (Zn (inB l no)) vc]) 188∧WalkR B bw Bi b pi ni ci l tree fuel (way++[no]) (Yj (Zz l tree fuel d) l way no hi i { s with looked:=s.looked+1,bs:=s.bs++[no] }) pe5 pb5 pf5 pw5 ce5 cb5 cf5 cw5 fv5 V∧V.ownsRow w.heap.size 9 1 (.slice vp (Zn (inB l no)) vc) (Zn (inB l no)) ((Vb l no).map sv)∧V.ownsRow w.heap.size 173 2 (.slice (some ⟨gs,0,none⟩) (Zn (inB l no)) (Zn (inB l no))) (Zn (inB l no)) (Po (Ve hi (Xs l no)))∧i≤(Zn (inB l no))∧(Yj (Zz l tree fuel d) l way no hi i { s with looked:=s.looked+1,bs:=s.bs++[no] }).dry=false) ⟨0,_,_,_,_,_,_,_,_,_,rfl,rfl,hB'13,hO,k1'2,k11'3,hR,hv_'2,hSp,Nat.zero_le _,hdry⟩ ?_
 rintro _ _ W21 ⟨i,pe5,pb5,pf5,pw5,ce5,cb5,cf5,cw5,fv5,rfl,rfl,hB_21,hO_21,k21_b1,k21_b10,hR,hv_,hSp,hi_,hdr⟩ J21 hJ21 r21
 have kW3:=hR.blk
 refine xid 6 ((↑i:Int)<(↑(Zn (inB l no)):Int)) (fun hc22=>?_) (fun hc22=>?_)
 ·refine xx 7 _ (Zn (inB l no)) i 2 (Sts.cell (sts_sp (Zf hSp) hspl) prC_len (0,0) (k:=i) (i:=0) (show i<(Ve hi (Xs l no)).length by omega) rfl).1 ?_
  refine xlv 0 (Sts.rp (k:=i) (sts_sp (Zf hSp) hspl) prC_len (0,0) (by omega) (by decide)) ?_
  refine xa 0 [.int .i64 0,.int .i64 0] 173 fun b23 W23 n23=>?_
  have d23_b1:=n23.ne k21_b1
  have g23:=n23.ge0 hB_21
  have r23_hSp:=Zu hSp n23
  refine xsv 1 n23.blk [.int .i64 (((Ve hi (Xs l no)).getD i (0,0)).1),.int .i64 (((Ve hi (Xs l no)).getD i (0,0)).2)] fun W24 u24 k24=>?_
  refine xd 3 (.t B [170,77,3,39]) ?_
  have k21_b10'1:=(u24.blkT (k21_b10.below n23.below) n23.blk (by decide)).below (Za W24)
  refine xbt (.e [0,1,2] 3) 3 B [170,77,3,39] k21_b10'1 ?_
  have hv_'3:=Zb (u24.own2 (Zb hv_ n23.below) n23.blk (by decide)) (Za W24)
  refine xx (.e [4] 5) _ (Zn (inB l no)) i 1 (Strs.elem (Zf hv_'3) hvl (k:=i) (by omega)).1 ?_
  refine xlt (.e [] 6) (.t B [170,77,3,39]) (fun V hV=>(Strs.elem (Zf (Zl hv_'3 hV.2 (by decide))) hvl (k:=i) (by omega)).2) ?_
  have k24'1:=k24.below (Za W24)
  refine xlvt (.e [] 7) (.t B [170,77,3,39]) (fun V hV=>(k24'1.only hV.2 (by decide)).rp) ?_
  have hxi:=splitL_get hi (Xs l no) (i:=i) (by omega)
  have hch2:Jj (Zz l tree fuel d) way no ((Vb l no).getD i []) (((Ve hi (Xs l no)).getD i (0,0)).1,((Ve hi (Xs l no)).getD i (0,0)).2) (Yj (Zz l tree fuel d) l way no hi i { s with looked:=s.looked+1,bs:=s.bs++[no] })=(Yj (Zz l tree fuel d) l way no hi (i+1) { s with looked:=s.looked+1,bs:=s.bs++[no] }):=by rw[Wc];unfold Np;rw[if_neg (by rw[hdr];decide),hxi]
  have hgi:=Iv (Wq l tree fuel d) l way no hi { s with looked:=s.looked+1,bs:=s.bs++[no] } (show i+1≤(Zn (inB l no)) by omega)
  rw[hch] at he hb_ hf
  have hB'14:=blB (u24.below (blB hB_21 hBw n23.below) (Nat.le_trans hBw g23)) hBw (Za W24)
  have hR'1:=((hR.below n23.below).only (Ze.of_upd (T:=[173]) u24 n23.blk (by decide)) (by decide)).below (Za W24)
  refine yc (.o [] 8) (args:=#[.pointer (some ⟨bw,0,none⟩),.int .i64 no,.string ⟨((Vb l no).getD i []).toArray⟩,.agg #[.int .i64 (((Ve hi (Xs l no)).getD i (0,0)).1),.int .i64 (((Ve hi (Xs l no)).getD i (0,0)).2)]]) (.t B [170,77,3,39]) (Zb3 B bw Bi b pi ni ci l tree fuel d (hV (by omega)) way no _ _ ((Vb l no).getD i []) _ pe5 pb5 pf5 pw5 ce5 cb5 cf5 cw5 fv5 _ hBb (Nat.le_trans hBw hB'14.size) (by omega) hdr (Hx _ _ _) hR'1 (by rw[hch2];exact Nat.le_trans hgi.1 he) (by rw[hch2];exact Nat.le_trans hgi.2.1 hb_) (by rw[hch2];exact Nat.le_trans hgi.2.2 hf)) ?_
  rintro _ W25 ⟨u25,pe3,pb3,pf3,pw3,ce3,cb3,cf3,cw3,fv3,rfl,hb25,hO25,hR3⟩
  have kW3'1:=(u24.blkT (kW3.below n23.below) n23.blk (by decide)).below (Za W24)
  refine⟨(Zgp hb25 hO25),?_⟩
  rw[hch2] at hR3
  have kW3:=hR3.blk
  refine xb 7 9 kW3 ?_
  refine xi 2 ((Yj (Zz l tree fuel d) l way no hi (i+1) { s with looked:=s.looked+1,bs:=s.bs++[no] }).dry) (fun hc26=>?_) (fun hc26=>?_)
  ·obtain⟨_,hEn,hBl,hFl,hFv,hWy,hAp,hI⟩:=hR3
   have hwc:=(Hp hWy (by simp)).2
   have hwl:(way++[no]).length=way.length+1:=by simp
   have hend:(Yj (Zz l tree fuel d) l way no hi (Zn (inB l no)) { s with looked:=s.looked+1,bs:=s.bs++[no] })=(Yj (Zz l tree fuel d) l way no hi (i+1) { s with looked:=s.looked+1,bs:=s.bs++[no] }):=loopW_dry _ _ _ _ _ _ (by omega) hc26
   refine xd 6 (.t B [170]) ?_
   refine xm2 (.b [0,1,2,3,5,6,7]) 4 8 ?_ ?_
   ·have kW3'2:=kW3.below (Za W25)
    refine xb 0 8 kW3'2 ?_
    refine xb (.o [] 8) 8 kW3'2 ?_
    refine xwm (.e [9] 10) ((↑((way++[no]).length):Int)-1) (↑(((way++[no]).length)-1):Int) ?_
    refine xsH (.e [] 11) (fun _ _ _ _ zo zx zy V=>Yz (k:=(((way++[no]).length)-1)) (b:=pw3) (n:=(way++[no]).length) (c:=cw3) (i:=(↑(((way++[no]).length)-1):Int)) (ki:=.i64) zo zx zy rfl (by omega) Tryz.underlying30 (by kernel_rfl) V) ?_
    refine ys (.o [12,13] 14) kW3'2 [.slice pe3 ((Yj (Zz l tree fuel d) l way no hi (i+1) { s with looked:=s.looked+1,bs:=s.bs++[no] }).es.length) ce3,.slice pb3 ((Yj (Zz l tree fuel d) l way no hi (i+1) { s with looked:=s.looked+1,bs:=s.bs++[no] }).bs.length) cb3,.int .i64 (Yj (Zz l tree fuel d) l way no hi (i+1) { s with looked:=s.looked+1,bs:=s.bs++[no] }).deep,.int .i64 ((Yj (Zz l tree fuel d) l way no hi (i+1) { s with looked:=s.looked+1,bs:=s.bs++[no] }).looked:Int),.slice pf3 ((Yj (Zz l tree fuel d) l way no hi (i+1) { s with looked:=s.looked+1,bs:=s.bs++[no] }).fs.length) cf3,.pointer (some ⟨b,0,none⟩),.int .i64 tree,.int .i64 fuel,.slice pw3 (((way++[no]).length)-1) cw3,.bool ((Yj (Zz l tree fuel d) l way no hi (i+1) { s with looked:=s.looked+1,bs:=s.bs++[no] }).dry)] (.t B [170]) fun W27 u27 k27=>⟨(Zi u27 kW3'2 hBb (by decide)),?_⟩
    have k21_b1'1:=(((u24.blk (k21_b1.below n23.below) (Ne.symm (Ne.symm d23_b1))).below (Za W24)).only hO25 (by decide)).below (Za W25)
    have k21_b10'2:=(k21_b10'1.only hO25 (by decide)).below (Za W25)
    have hB'15:=u27.below (blB (hB'14.trans hb25) hBw (Za W25)) hBb
    have hO'1:=((((Ze.upd_new (hO_21.trans (Ze.of_below n23.below)) u24 g23).trans (Ze.of_below (Za W24))).trans hO25).trans (Ze.of_below (Za W25))).trans (Ze.of_upd u27 kW3'2 (by decide))
    have hEn'5:=u27.own2 (Zb hEn (Za W25)) kW3'2 (by decide)
    have hBl'5:=u27.own2 (Zb hBl (Za W25)) kW3'2 (by decide)
    have hFl'5:=u27.own2 (Zb hFl (Za W25)) kW3'2 (by decide)
    have hFv'5:=(hFv.below (Za W25)).only (Ze.of_upd (T:=[170]) u27 kW3'2 (by decide)) (by decide)
    have hWy'11:=u27.own2 (Zb hWy (Za W25)) kW3'2 (by decide)
    have hI'6:=(hI.below (Za W25)).only (Ze.of_upd (T:=[170]) u27 kW3'2 (by decide)) (by decide)
    refine xe 1 (.tuple #[]) ?_
    rw[hch,hend]
    rw[show(way++[no]).length-1=way.length by simp] at k27
    exact⟨_,pe3,pb3,pf3,pw3,ce3,cb3,cf3,cw3,fv3,rfl,hB'15,hO'1,k27,hEn'5,hBl'5,hFl'5,hFv'5,Rk hWy'11,hAp.len _ _ _ _,hI'6⟩
   have kW3'3:=kW3.below (Za W25)
   refine xb 0 8 kW3'3 ?_
   refine xwm (.e [9] 10) ((↑((way++[no]).length):Int)-1) (↑(((way++[no]).length)-1):Int) ?_
   refine xb (.o [] 4) 8 kW3'3 ?_
   refine xsH (.e [] 11) (fun _ _ _ _ zo zx zy V=>Yz (k:=(((way++[no]).length)-1)) (b:=pw3) (n:=(way++[no]).length) (c:=cw3) (i:=(↑(((way++[no]).length)-1):Int)) (ki:=.i64) zo zx zy rfl (by omega) Tryz.underlying30 (by kernel_rfl) V) ?_
   refine ys (.o [12,13] 14) kW3'3 [.slice pe3 ((Yj (Zz l tree fuel d) l way no hi (i+1) { s with looked:=s.looked+1,bs:=s.bs++[no] }).es.length) ce3,.slice pb3 ((Yj (Zz l tree fuel d) l way no hi (i+1) { s with looked:=s.looked+1,bs:=s.bs++[no] }).bs.length) cb3,.int .i64 (Yj (Zz l tree fuel d) l way no hi (i+1) { s with looked:=s.looked+1,bs:=s.bs++[no] }).deep,.int .i64 ((Yj (Zz l tree fuel d) l way no hi (i+1) { s with looked:=s.looked+1,bs:=s.bs++[no] }).looked:Int),.slice pf3 ((Yj (Zz l tree fuel d) l way no hi (i+1) { s with looked:=s.looked+1,bs:=s.bs++[no] }).fs.length) cf3,.pointer (some ⟨b,0,none⟩),.int .i64 tree,.int .i64 fuel,.slice pw3 (((way++[no]).length)-1) cw3,.bool ((Yj (Zz l tree fuel d) l way no hi (i+1) { s with looked:=s.looked+1,bs:=s.bs++[no] }).dry)] (.t B [170]) fun W28 u28 k28=>⟨(Zi u28 kW3'3 hBb (by decide)),?_⟩
   have k21_b1'2:=(((u24.blk (k21_b1.below n23.below) (Ne.symm (Ne.symm d23_b1))).below (Za W24)).only hO25 (by decide)).below (Za W25)
   have k21_b10'3:=(k21_b10'1.only hO25 (by decide)).below (Za W25)
   have hB'16:=u28.below (blB (hB'14.trans hb25) hBw (Za W25)) hBb
   have hO'2:=((((Ze.upd_new (hO_21.trans (Ze.of_below n23.below)) u24 g23).trans (Ze.of_below (Za W24))).trans hO25).trans (Ze.of_below (Za W25))).trans (Ze.of_upd u28 kW3'3 (by decide))
   have hEn'6:=u28.own2 (Zb hEn (Za W25)) kW3'3 (by decide)
   have hBl'6:=u28.own2 (Zb hBl (Za W25)) kW3'3 (by decide)
   have hFl'6:=u28.own2 (Zb hFl (Za W25)) kW3'3 (by decide)
   have hFv'6:=(hFv.below (Za W25)).only (Ze.of_upd (T:=[170]) u28 kW3'3 (by decide)) (by decide)
   have hWy'12:=u28.own2 (Zb hWy (Za W25)) kW3'3 (by decide)
   have hI'7:=(hI.below (Za W25)).only (Ze.of_upd (T:=[170]) u28 kW3'3 (by decide)) (by decide)
   refine xe 1 (.tuple #[]) ?_
   rw[hch,hend]
   rw[show(way++[no]).length-1=way.length by simp] at k28
   exact⟨_,pe3,pb3,pf3,pw3,ce3,cb3,cf3,cw3,fv3,rfl,hB'16,hO'2,k28,hEn'6,hBl'6,hFl'6,hFv'6,Rk hWy'12,hAp.len _ _ _ _,hI'7⟩
  refine xwm 4 ((↑i:Int)+1) (↑(i+1):Int) ?_
  have hB'17:=hB'14.trans hb25
  have hO'3:=((Ze.upd_new (hO_21.trans (Ze.of_below n23.below)) u24 g23).trans (Ze.of_below (Za W24))).trans hO25
  have k21_b1'3:=((u24.blk (k21_b1.below n23.below) (Ne.symm (Ne.symm d23_b1))).below (Za W24)).only hO25 (by decide)
  have k21_b10'4:=k21_b10'1.only hO25 (by decide)
  have hv_'4:=Zl hv_'3 hO25 (by decide)
  have hSp'1:=Zl (Zb (u24.own3 (Zb hSp n23.below) r23_hSp) (Za W24)) hO25 (by decide)
  exact ze 2 (hJ21 _ _ _ ⟨i+1,_,_,_,_,_,_,_,_,_,rfl,rfl,hB'17,hO'3,k21_b1'3,k21_b10'4,hR3,hv_'4,hSp'1,by omega,by assumption⟩ (by omega))
 obtain⟨_,hEn,hBl,hFl,hFv,hWy,hAp,hI⟩:=hR
 have hwc:=(Hp hWy (by simp)).2
 have hwl:(way++[no]).length=way.length+1:=by simp
 have hend:(Yj (Zz l tree fuel d) l way no hi (Zn (inB l no)) { s with looked:=s.looked+1,bs:=s.bs++[no] })=(Yj (Zz l tree fuel d) l way no hi i { s with looked:=s.looked+1,bs:=s.bs++[no] }):=by rw[show i=(Zn (inB l no)) by omega]
 refine xd 5 (.t B [170]) ?_
 refine xm2 (.b [0,1,2,3,5,6,7]) 4 8 ?_ ?_
 ·have kW3'4:=kW3.below (Za W21)
  refine xb 0 8 kW3'4 ?_
  refine xb (.o [] 8) 8 kW3'4 ?_
  refine xwm (.e [9] 10) ((↑((way++[no]).length):Int)-1) (↑(((way++[no]).length)-1):Int) ?_
  refine xsH (.e [] 11) (fun _ _ _ _ zo zx zy V=>Yz (k:=(((way++[no]).length)-1)) (b:=pw5) (n:=(way++[no]).length) (c:=cw5) (i:=(↑(((way++[no]).length)-1):Int)) (ki:=.i64) zo zx zy rfl (by omega) Tryz.underlying30 (by kernel_rfl) V) ?_
  refine ys (.o [12,13] 14) kW3'4 [.slice pe5 ((Yj (Zz l tree fuel d) l way no hi i { s with looked:=s.looked+1,bs:=s.bs++[no] }).es.length) ce5,.slice pb5 ((Yj (Zz l tree fuel d) l way no hi i { s with looked:=s.looked+1,bs:=s.bs++[no] }).bs.length) cb5,.int .i64 (Yj (Zz l tree fuel d) l way no hi i { s with looked:=s.looked+1,bs:=s.bs++[no] }).deep,.int .i64 ((Yj (Zz l tree fuel d) l way no hi i { s with looked:=s.looked+1,bs:=s.bs++[no] }).looked:Int),.slice pf5 ((Yj (Zz l tree fuel d) l way no hi i { s with looked:=s.looked+1,bs:=s.bs++[no] }).fs.length) cf5,.pointer (some ⟨b,0,none⟩),.int .i64 tree,.int .i64 fuel,.slice pw5 (((way++[no]).length)-1) cw5,.bool ((Yj (Zz l tree fuel d) l way no hi i { s with looked:=s.looked+1,bs:=s.bs++[no] }).dry)] (.t B [170]) fun W29 u29 k29=>⟨(Zi u29 kW3'4 hBb (by decide)),?_⟩
  have k21_b1'4:=k21_b1.below (Za W21)
  have k21_b10'5:=k21_b10.below (Za W21)
  have hB'18:=u29.below (blB hB_21 hBw (Za W21)) hBb
  have hO'4:=(hO_21.trans (Ze.of_below (Za W21))).trans (Ze.of_upd u29 kW3'4 (by decide))
  have hEn'7:=u29.own2 (Zb hEn (Za W21)) kW3'4 (by decide)
  have hBl'7:=u29.own2 (Zb hBl (Za W21)) kW3'4 (by decide)
  have hFl'7:=u29.own2 (Zb hFl (Za W21)) kW3'4 (by decide)
  have hFv'7:=(hFv.below (Za W21)).only (Ze.of_upd (T:=[170]) u29 kW3'4 (by decide)) (by decide)
  have hWy'13:=u29.own2 (Zb hWy (Za W21)) kW3'4 (by decide)
  have hI'8:=(hI.below (Za W21)).only (Ze.of_upd (T:=[170]) u29 kW3'4 (by decide)) (by decide)
  refine xe 1 (.tuple #[]) ?_
  rw[hch,hend]
  rw[show(way++[no]).length-1=way.length by simp] at k29
  exact⟨_,pe5,pb5,pf5,pw5,ce5,cb5,cf5,cw5,fv5,rfl,hB'18,hO'4,k29,hEn'7,hBl'7,hFl'7,hFv'7,Rk hWy'13,hAp.len _ _ _ _,hI'8⟩
 have kW3'5:=kW3.below (Za W21)
 refine xb 0 8 kW3'5 ?_
 refine xwm (.e [9] 10) ((↑((way++[no]).length):Int)-1) (↑(((way++[no]).length)-1):Int) ?_
 refine xb (.o [] 4) 8 kW3'5 ?_
 refine xsH (.e [] 11) (fun _ _ _ _ zo zx zy V=>Yz (k:=(((way++[no]).length)-1)) (b:=pw5) (n:=(way++[no]).length) (c:=cw5) (i:=(↑(((way++[no]).length)-1):Int)) (ki:=.i64) zo zx zy rfl (by omega) Tryz.underlying30 (by kernel_rfl) V) ?_
 refine ys (.o [12,13] 14) kW3'5 [.slice pe5 ((Yj (Zz l tree fuel d) l way no hi i { s with looked:=s.looked+1,bs:=s.bs++[no] }).es.length) ce5,.slice pb5 ((Yj (Zz l tree fuel d) l way no hi i { s with looked:=s.looked+1,bs:=s.bs++[no] }).bs.length) cb5,.int .i64 (Yj (Zz l tree fuel d) l way no hi i { s with looked:=s.looked+1,bs:=s.bs++[no] }).deep,.int .i64 ((Yj (Zz l tree fuel d) l way no hi i { s with looked:=s.looked+1,bs:=s.bs++[no] }).looked:Int),.slice pf5 ((Yj (Zz l tree fuel d) l way no hi i { s with looked:=s.looked+1,bs:=s.bs++[no] }).fs.length) cf5,.pointer (some ⟨b,0,none⟩),.int .i64 tree,.int .i64 fuel,.slice pw5 (((way++[no]).length)-1) cw5,.bool ((Yj (Zz l tree fuel d) l way no hi i { s with looked:=s.looked+1,bs:=s.bs++[no] }).dry)] (.t B [170]) fun W30 u30 k30=>⟨(Zi u30 kW3'5 hBb (by decide)),?_⟩
 have k21_b1'5:=k21_b1.below (Za W21)
 have k21_b10'6:=k21_b10.below (Za W21)
 have hB'19:=u30.below (blB hB_21 hBw (Za W21)) hBb
 have hO'5:=(hO_21.trans (Ze.of_below (Za W21))).trans (Ze.of_upd u30 kW3'5 (by decide))
 have hEn'8:=u30.own2 (Zb hEn (Za W21)) kW3'5 (by decide)
 have hBl'8:=u30.own2 (Zb hBl (Za W21)) kW3'5 (by decide)
 have hFl'8:=u30.own2 (Zb hFl (Za W21)) kW3'5 (by decide)
 have hFv'8:=(hFv.below (Za W21)).only (Ze.of_upd (T:=[170]) u30 kW3'5 (by decide)) (by decide)
 have hWy'14:=u30.own2 (Zb hWy (Za W21)) kW3'5 (by decide)
 have hI'9:=(hI.below (Za W21)).only (Ze.of_upd (T:=[170]) u30 kW3'5 (by decide)) (by decide)
 refine xe 1 (.tuple #[]) ?_
 rw[hch,hend]
 rw[show(way++[no]).length-1=way.length by simp] at k30
 exact⟨_,pe5,pb5,pf5,pw5,ce5,cb5,cf5,cw5,fv5,rfl,hB'19,hO'5,k30,hEn'8,hBl'8,hFl'8,hFv'8,Rk hWy'14,hAp.len _ _ _ _,hI'9⟩
end Go.Proofs.YthlakkdgcgkcdaaGreatDoor
namespace Go.Proofs.YthlakkdgcgkcdaaGreatDoor
set_option maxHeartbeats 8000000
set_option maxRecDepth 100000
open Go.RowKit Go.Extern.Stop Go.Stop Go.Extern
set_option linter.unusedVariables false
theorem Mu{V:List Int→Int→Int→Int→WS→WS}{l:List UInt8}{way:List Int}{no hi:Int}{s:WS}(P:Nat→WS→Prop)(h0:P 0 s) :
  ∀ n,(∀ i t,i<n→t.dry=false→P i t→P (i+1) (Jj V way no ((Vb l no).getD i []) (Xb hi (Xs l no) i) t))→(∀ i t,i<n→t.dry=true→P i t→P (i+1) t)→P n (Yj V l way no hi n s)
 | 0,_,_=>h0
 | n+1,hs,hd=>by
  have ih:=Mu P h0 n (fun i t hi=>hs i t (by omega)) (fun i t hi=>hd i t (by omega))
  rw[Wc]
  unfold Np
  split
  ·rename_i h;exact hd n _ (by omega) h ih
  ·rename_i h;exact hs n _ (by omega) (by simpa using h) ih
theorem rootE_no(v:List UInt8):Yw v=0∨Yw v=2∨Yw v=7:=by
 unfold Yw;split
 ·split<;>simp
 ·simp
theorem Ig(l:List UInt8):∀ n,Yd l n=0∨Yd l n=2∨Yd l n=8
 | 0=>.inl rfl
 | n+1=>by
  rw[Yd]
  split
  ·exact Ig l n
  ·unfold Nt;split
   ·simp
   ·split<;>simp
theorem nodeErr_no(l:List UInt8)(no tree:Int):Xc l no tree≠12:=by
 unfold Xc
 split
 ·unfold Qp
  split
  ·split<;>decide
  ·unfold Yv
   split
   ·split
    ·rcases Ig (inB l no) (Zn (inB l no)) with h|h|h<;>rw[h]<;>decide
    ·decide
   ·decide
 ·unfold inE
  split
  ·unfold Ye
   repeat' split
   all_goals decide
  ·decide
theorem lookE_no(l:List UInt8)(way:List Int)(no tree lo hi deep:Int):Zx l way no tree lo hi deep≠12:=by
 unfold Zx
 split
 ·decide
 ·split
  ·decide
  ·split
   ·exact nodeErr_no _ _ _
   ·split
    ·decide
    ·split<;>decide
theorem maxG_18(t:Int)(b:Bool):maxG t b≤18:=by
 unfold maxG Ki
 repeat' split
 all_goals omega
theorem Fy{l:List UInt8}(h:Yv l=0):Kg l=true:=by
 unfold Yv at h
 split at h
 ·assumption
 ·cases h
theorem Md{l:List UInt8}{tree:Int}(h:Qp l tree=0):Yv l=0:=by
 unfold Qp at h
 split at h
 ·assumption
 ·assumption
theorem Cg{l:List UInt8}{no tree:Int}(h:Xc l no tree=0):inE l 2 no=0∧Qp (inB l no) tree=0:=by
 unfold Xc at h
 split at h
 ·exact⟨by assumption,h⟩
 ·rename_i q;exact absurd h q
theorem Hw{l:List UInt8}{way:List Int}{no tree lo hi deep:Int}(h:Zx l way no tree lo hi deep=0):Xc l no tree=0∧Ys lo hi (Xs l no)=0∧Zn (inB l no)≤18:=by
 unfold Zx at h
 split at h
 ·cases h
 ·split at h
  ·cases h
  ·split at h
   ·rename_i q;exact absurd h q
   ·rename_i q
    split at h
    ·cases h
    ·rename_i q2
     have q1:Xc l no tree=0:=Decidable.not_not.1 q
     exact⟨q1,Decidable.not_not.1 q2,Nat.le_trans (Gj (Fy (Md (Cg q1).2))) (maxG_18 _ _)⟩
theorem Wd{lo hi:Int}{L:List Int}(h:Ys lo hi L=0):Qn lo hi=true∧Kt L∧∀ k∈L,lo≤k∧k<hi:=by
 unfold Ys at h
 split at h
 ·split at h
  ·split at h
   ·exact⟨by assumption,by assumption,by assumption⟩
   ·cases h
  ·cases h
 ·cases h
def InBlk(l:List UInt8)(tree:Int)(x:Ent):Prop :=
 Xc l x.2.2 tree=0∧Xl (inB l x.2.2)=true∧∃ k,k<Zn (inB l x.2.2)∧(Xs l x.2.2).getD k 0=x.1∧(Vb l x.2.2).getD k []=x.2.1∧∀ j,j<k→(Xs l x.2.2).getD j 0≠x.1
def Rise(lo hi:Int)(es:List Ent):Prop:=es.Pairwise (fun x y=>x.1<y.1)∧∀ x∈es,lo≤x.1∧x.1<hi
theorem Rise.nil(lo hi:Int):Rise lo hi []:=⟨.nil,fun _ h=>by cases h⟩
theorem Rise.app{lo mi hi:Int}{a b:List Ent}(h:Rise lo mi a)(k:Rise mi hi b)(h1:lo≤mi)(h2:mi≤hi):Rise lo hi (a++b):=by
 refine⟨List.pairwise_append.2 ⟨h.1,k.1,fun x hx y hy=>?_⟩,fun x hx=>?_⟩
 ·have:=(h.2 x hx).2;have:=(k.2 y hy).1;omega
 ·rcases List.mem_append.1 hx with q|q
  ·have:=h.2 x q;omega
  ·have:=k.2 x q;omega
structure Went(l:List UInt8)(tree fuel:Int)(hd:Option Int)(lo hi:Int)(s t:WS)(es:List Ent)(fs:List (List Int×Int)):Prop where
 esE:t.es=s.es++es
 fsE:t.fs=s.fs++fs
 rise:Rise lo hi es
 inb:∀ x∈es,InBlk l tree x
 flt:∀ f∈fs,f.1.head? = hd∧f.1≠[]∧f.2≠0
 dry:t.dry=true↔s.dry=true∨∃ f∈fs,f.2=12
 fuelE:t.dry=true→s.dry=true∨fuel≤t.looked
 look:s.looked≤fuel.toNat→t.looked≤fuel.toNat
 more:s.looked≤t.looked
 blks:t.bs.length+s.looked≤s.bs.length+t.looked
theorem Went.refl(l:List UInt8)(tree fuel:Int)(hd:Option Int)(lo hi:Int)(s:WS):Went l tree fuel hd lo hi s s [] [] :=
 ⟨by simp,by simp,Rise.nil _ _,by simp,by simp,by simp,fun h=>.inl h,fun h=>h,Nat.le_refl _,Nat.le_refl _⟩
theorem Went.trans{l:List UInt8}{tree fuel:Int}{hd:Option Int}{lo mi hi:Int}{s t u:WS}{es es2:List Ent}{fs fs2:List (List Int×Int)}(h:Went l tree fuel hd lo mi s t es fs)(k:Went l tree fuel hd mi hi t u es2 fs2)(h1:lo≤mi)(h2:mi≤hi) :
  Went l tree fuel hd lo hi s u (es++es2) (fs++fs2) where
 esE:=by rw[k.esE,h.esE,List.append_assoc]
 fsE:=by rw[k.fsE,h.fsE,List.append_assoc]
 rise:=h.rise.app k.rise h1 h2
 inb x hx:=by
  rcases List.mem_append.1 hx with q|q
  ·exact h.inb x q
  ·exact k.inb x q
 flt f hf:=by
  rcases List.mem_append.1 hf with q|q
  ·exact h.flt f q
  ·exact k.flt f q
 dry:=by
  rw[k.dry,h.dry]
  constructor
  ·rintro((q|⟨f,q1,q2⟩)|⟨f,q1,q2⟩)
   ·exact .inl q
   ·exact .inr ⟨f,List.mem_append_left _ q1,q2⟩
   ·exact .inr ⟨f,List.mem_append_right _ q1,q2⟩
  ·rintro(q|⟨f,q1,q2⟩)
   ·exact .inl (.inl q)
   ·rcases List.mem_append.1 q1 with q|q
    ·exact .inl (.inr ⟨f,q,q2⟩)
    ·exact .inr ⟨f,q,q2⟩
 fuelE h0:=by
  rcases k.fuelE h0 with q|q
  ·rcases h.fuelE q with q|q
   ·exact .inl q
   ·exact .inr (by have:=k.more;omega)
  ·exact .inr q
 look h0:=k.look (h.look h0)
 more:=Nat.le_trans h.more k.more
 blks:=by have:=h.blks;have:=k.blks;omega
theorem Went.wide{l:List UInt8}{tree fuel:Int}{hd:Option Int}{lo hi lo2 hi2:Int}{s t:WS}{es:List Ent}{fs:List (List Int×Int)}(h:Went l tree fuel hd lo hi s t es fs)(h1:lo2≤lo)(h2:hi≤hi2):Went l tree fuel hd lo2 hi2 s t es fs :=
 { h with rise:=⟨h.rise.1,fun x hx=>by have:=h.rise.2 x hx;omega⟩ }
theorem Went.note(l:List UInt8)(tree fuel:Int){hd:Option Int}(lo hi:Int)(way:List Int)(no c:Int)(s:WS)(hc:c≠0)(hc2:c≠12)(hh:(way++[no]).head? = hd):Went l tree fuel hd lo hi s (Yh way [no] c s) [] [(way++[no],c)] :=
 ⟨by simp[Yh],by simp[Yh],Rise.nil _ _,by simp,(fun f hf=>by rw[List.mem_singleton.1 hf];exact⟨hh,by simp,hc⟩),by simp[Yh,hc2],fun h=>.inl (by simpa [Yh] using h),fun h=>by simpa [Yh] using h,Nat.le_refl _,Nat.le_refl _⟩
theorem We{lo hi:Int}{L:List Int}(hf:Ys lo hi L=0){i:Nat}(h:i<L.length):lo≤(Xb hi L i).1∧(Xb hi L i).1≤(Xb hi L i).2∧(Xb hi L i).2≤hi∧(i+1<L.length→(Xb hi L i).2=(Xb hi L (i+1)).1):=by
 obtain⟨h1,h2,h3⟩:=Wd hf
 have h4:=h3 L[i] (List.getElem_mem _)
 unfold Xb
 simp only[List.getElem?_eq_getElem h,Option.getD_some]
 by_cases hn:i+1<L.length
 ·have h5:=h3 L[i+1] (List.getElem_mem _)
  have h6:=Kt.lt h2 (i+1) i (by omega) hn
  simp only[List.getElem?_eq_getElem h,List.getElem?_eq_getElem hn,Option.getD_some] at h6 ⊢
  exact⟨h4.1,by omega,by omega,fun _=>trivial⟩
 ·rw[List.getElem?_eq_none (by omega)]
  simp only[Option.getD_none]
  exact⟨h4.1,by omega,Int.le_refl _,fun h=>absurd h hn⟩
theorem leaf_rise{lo hi:Int}{l:List UInt8}{no:Int}(hf:Ys lo hi (Xs l no)=0)(Vs:List (List UInt8)):Rise lo hi (Ks (Xs l no) Vs no (Zn (inB l no))):=by
 obtain⟨h1,h2,h3⟩:=Wd hf
 have hl:(Xs l no).length=Zn (inB l no):=by simp[Xs,Yx]
 refine⟨?_,?_⟩
 ·unfold Ks
  rw[List.pairwise_map]
  refine List.Pairwise.imp_of_mem (R:=fun a b=>a<b) ?_ List.pairwise_lt_range
  intro a b ha hb hab
  have:=Kt.lt h2 b a hab (by rw[hl];simpa using hb)
  simpa [List.getD] using this
 ·intro x hx
  unfold Ks at hx
  obtain⟨j,hj,rfl⟩:=List.mem_map.1 hx
  have hj:j<(Xs l no).length:=by rw[hl];simpa using hj
  have:=h3 (Xs l no)[j] (List.getElem_mem _)
  simpa [List.getD,hj] using this
theorem leaf_inb{lo hi:Int}{l:List UInt8}{no tree:Int}(hn:Xc l no tree=0)(hl:Xl (inB l no)=true)(hf:Ys lo hi (Xs l no)=0):∀ x∈Ks (Xs l no) (Vb l no) no (Zn (inB l no)),InBlk l tree x:=by
 intro x hx
 obtain⟨h1,h2,h3⟩:=Wd hf
 have hk:(Xs l no).length=Zn (inB l no):=by simp[Xs,Yx]
 unfold Ks at hx
 obtain⟨j,hj,rfl⟩:=List.mem_map.1 hx
 have hj:j<Zn (inB l no):=by simpa using hj
 refine⟨hn,hl,j,hj,rfl,rfl,fun i hi=>?_⟩
 have:=Kt.lt h2 j i hi (by rw[hk];exact hj)
 simp only[List.getD]
 omega
theorem Fd(l:List UInt8)(tree fuel:Int):∀ (d:Nat) (way:List Int) (no lo hi:Int) (s:WS),s.dry=false→∃ es fs,Went l tree fuel (way++[no]).head? lo hi s (Zz l tree fuel d way no lo hi s) es fs
  | 0,way,no,lo,hi,s,_=>⟨[],[],Went.refl _ _ _ _ _ _ _⟩
  | d + 1, way, no, lo, hi, s, hs => by
    unfold Zz
    split
    · rename_i hf
      exact⟨[],[(way++[no],12)],by simp[Yh],by simp[Yh],Rise.nil _ _,by simp,by simp,by simp,fun _=>.inr hf,fun h=>h,Nat.le_refl _,Nat.le_refl _⟩
    · rename_i hf
      have hlk:s.looked+1≤fuel.toNat:=by omega
      split
      · rename_i he
        have:=Went.note l tree fuel lo hi way no _ { s with looked:=s.looked+1 } he (lookE_no _ _ _ _ _ _ _) rfl
        exact⟨_,_,this.esE,this.fsE,this.rise,this.inb,this.flt,this.dry,fun h=>by simp[Yh,hs] at h,fun _=>hlk,by simp[Yh],by simp[Yh]⟩
      · rename_i he
        have he:Zx l way no tree lo hi s.deep=0:=Decidable.not_not.1 he
        obtain⟨hn,hft,hc⟩:=Hw he
        split
        · rename_i hl
          exact⟨_,[],rfl,by simp,leaf_rise hft _,leaf_inb hn hl hft,by simp,by simp[hs],fun h=>by simp[hs] at h,fun _=>hlk,by simp,by simp;omega⟩
        · have hk:(Xs l no).length=Zn (inB l no):=by simp[Xs,Yx]
          have hfs:=Wd hft
          have hrt:lo≤hi:=by have:=hfs.1;unfold Qn at this;simp at this;omega
          have hloop:=Mu (V:=Zz l tree fuel d) (l:=l) (way:=way) (no:=no) (hi:=hi) (s:={ s with looked:=s.looked+1,bs:=s.bs++[no] })
            (fun i t=>∃ es fs,Went l tree fuel (way++[no]).head? lo (if i=0 then lo else(Xb hi (Xs l no) (i-1)).2) { s with looked:=s.looked+1,bs:=s.bs++[no] } t es fs)
            ⟨[],[],Went.refl _ _ _ _ _ _ _⟩ (Zn (inB l no)) ?_ ?_
          · obtain⟨es,fs,q⟩:=hloop
            refine⟨es,fs,q.esE,q.fsE,?_,q.inb,q.flt,q.dry,fun h=>?_,fun _=>q.look hlk,by have:=q.more;simp only at this;omega,by have:=q.blks;simp at this;omega⟩
            · refine⟨q.rise.1,fun x hx=>?_⟩
              have:=q.rise.2 x hx
              split at this
              · omega
              · rename_i h0
                have:=(We hft (i:=Zn (inB l no)-1) (by rw[hk];omega)).2.2.1
                omega
            · rcases q.fuelE h with q2|q2
              · exact .inl q2
              · exact .inr q2
          · rintro i t hi0 htd ⟨es,fs,q⟩
            have hp:=We hft (i:=i) (by rw[hk];exact hi0)
            have hmid:lo≤(if i=0 then lo else(Xb hi (Xs l no) (i-1)).2)∧(if i=0 then lo else(Xb hi (Xs l no) (i-1)).2)≤(Xb hi (Xs l no) i).1:=by
              split
              · exact⟨Int.le_refl _,hp.1⟩
              · rename_i h0
                have hp2:=We hft (i:=i-1) (by rw[hk];omega)
                have:=hp2.2.2.2 (by rw[hk];omega)
                rw[show i-1+1=i by omega] at this
                omega
            have q':=q.wide (Int.le_refl lo) hmid.2
            rw[if_neg (by omega),Nat.add_sub_cancel]
            unfold Jj
            split
            · obtain⟨es2,fs2,r⟩:=Fd l tree fuel d (way++[no]) (Kc ((Vb l no).getD i []):Int) (Xb hi (Xs l no) i).1 (Xb hi (Xs l no) i).2 t htd
              have hh:((way++[no])++[(Kc ((Vb l no).getD i []):Int)]).head? = (way++[no]).head? := by cases way<;>rfl
              rw[hh] at r
              exact⟨_,_,q'.trans r (by omega) hp.2.1⟩
            · rename_i hre
              have r:=Went.note l tree fuel (Xb hi (Xs l no) i).1 (Xb hi (Xs l no) i).2 way no (Yw ((Vb l no).getD i [])) t hre (by rcases rootE_no ((Vb l no).getD i []) with h|h|h<;>rw[h]<;>decide) rfl
              exact⟨_,_,q'.trans r (by omega) hp.2.1⟩
          · rintro i t hi0 htd ⟨es,fs,q⟩
            have hp:=We hft (i:=i) (by rw[hk];exact hi0)
            rw[if_neg (by omega),Nat.add_sub_cancel]
            refine⟨es,fs,q.wide (Int.le_refl _) ?_⟩
            split
            · omega
            · rename_i h0
              have hp2:=We hft (i:=i-1) (by rw[hk];omega)
              have:=hp2.2.2.2 (by rw[hk];omega)
              rw[show i-1+1=i by omega] at this
              omega
theorem Ds(l:List UInt8)(tree fuel:Int):∀ (d:Nat) (way:List Int) (no lo hi:Int) (s:WS),s.dry=false →
  (Zz l tree fuel d way no lo hi s).fs.length+(Zz l tree fuel d way no lo hi s).es.length+18*s.looked≤s.fs.length+s.es.length+18*(Zz l tree fuel d way no lo hi s).looked+(if(Zz l tree fuel d way no lo hi s).dry=true then 1 else 0)
 | 0,way,no,lo,hi,s,hs=>by simp[Zz,hs]
 | d+1,way,no,lo,hi,s,hs=>by
  unfold Zz
  split
  ·simp[Yh];omega
  ·split
   ·simp[Yh,hs];omega
   ·rename_i he
    have he:Zx l way no tree lo hi s.deep=0:=Decidable.not_not.1 he
    obtain⟨hn,hft,hc⟩:=Hw he
    split
    ·simp[Gl,hs];omega
    ·have hloop:=Mu (V:=Zz l tree fuel d) (l:=l) (way:=way) (no:=no) (hi:=hi) (s:={ s with looked:=s.looked+1,bs:=s.bs++[no] })
      (fun i t=>t.fs.length+t.es.length+18*(s.looked+1)≤s.fs.length+s.es.length+i+18*t.looked+(if t.dry=true then 1 else 0)) (by simp[hs]) (Zn (inB l no)) ?_ ?_
     ·omega
     ·intro i t hi0 htd q
      rw[htd] at q
      unfold Jj
      split
      ·have:=Ds l tree fuel d (way++[no]) (Kc ((Vb l no).getD i []):Int) (Xb hi (Xs l no) i).1 (Xb hi (Xs l no) i).2 t htd
       simp at q
       omega
      ·simp[Yh,htd] at q ⊢;omega
     ·intro i t hi0 htd q;omega
end Go.Proofs.YthlakkdgcgkcdaaGreatDoor
namespace Go.Proofs.YthlakkdgcgkcdaaGreatDoor
set_option maxHeartbeats 8000000
set_option maxRecDepth 100000
open Go.RowKit Go.Extern.Stop Go.Stop Go.Extern
set_option linter.unusedVariables false
attribute [local irreducible] wpList wpAnyH Code.wp Oper.wp Go
theorem Zcw{B bw Bi b:Nat}{pi:Option Addr}{ni ci:Nat}{l:List UInt8}{tree fuel:Int}(hBb:B≤bw)(hfu:fuel≤1000000):∀ d,VisitC B bw Bi b pi ni ci l tree fuel (d+1)
 | 0=>fun way no lo hi s pe pb pf pw ce cb cf cw fv w h1 h2 h3 h4 h5 h6 h7=>Dc B bw Bi b pi ni ci l tree fuel 0 (fun h=>absurd rfl h) way no lo hi s pe pb pf pw ce cb cf cw fv w hBb h2 h1 h3 hfu h4 h5 h6 h7
 | d+1=>fun way no lo hi s pe pb pf pw ce cb cf cw fv w h1 h2 h3 h4 h5 h6 h7=>Dc B bw Bi b pi ni ci l tree fuel (d+1) (fun _=>Zcw hBb hfu d) way no lo hi s pe pb pf pw ce cb cf cw fv w hBb h2 h1 h3 hfu h4 h5 h6 h7
def ws0:WS:=⟨[],[],0,0,[],false⟩
def Zj(l:List UInt8)(root tree fuel:Int):WS:=Zz l tree fuel 17 [] root 0 281474976710656 ws0
theorem Un(l:List UInt8)(root tree fuel:Int):∃ es fs,Went l tree fuel (some root) 0 281474976710656 ws0 (Zj l root tree fuel) es fs:=Fd l tree fuel 17 [] root 0 281474976710656 ws0 rfl
theorem Dk(l:List UInt8)(root tree fuel:Int):(Zj l root tree fuel).looked≤fuel.toNat:=by
 obtain⟨_,_,h⟩:=Un l root tree fuel
 exact h.look (Nat.zero_le _)
theorem Zb4(l:List UInt8)(root tree fuel:Int)(hf:fuel≤1000):(Zj l root tree fuel).es.length≤1000000∧(Zj l root tree fuel).bs.length≤1000000∧(Zj l root tree fuel).fs.length≤1000000:=by
 have h1:=Ds l tree fuel 17 [] root 0 281474976710656 ws0 rfl
 have h2:=Dk l root tree fuel
 obtain⟨_,_,h3⟩:=Un l root tree fuel
 have h4:=h3.blks
 simp only[ws0,List.length_nil] at h4
 change (Zj l root tree fuel).fs.length+(Zj l root tree fuel).es.length+18*0≤0+0+18*(Zj l root tree fuel).looked+(if(Zj l root tree fuel).dry=true then 1 else 0) at h1
 have h5:(if(Zj l root tree fuel).dry=true then 1 else 0)≤1:=by split<;>omega
 have h6:fuel.toNat≤1000:=by omega
 generalize (if(Zj l root tree fuel).dry=true then 1 else 0)=q at h1 h5
 omega
def walkC(t:WS)(pe pb pf:Option Addr)(ce cb cf:Nat):List Value:=[.slice pe t.es.length ce,.slice pb t.bs.length cb,.int .i64 t.deep,.int .i64 (t.looked:Int),.slice pf t.fs.length cf]
structure WalkV(B:Nat)(t:WS)(pe pb pf:Option Addr)(ce cb cf:Nat)(fv:List Value)(w:World):Prop where
 ents:w.ownsRow B 77 3 (.slice pe t.es.length ce) t.es.length (t.es.flatMap Ko)
 blks:w.ownsRow B 3 1 (.slice pb t.bs.length cb) t.bs.length (t.bs.map (Value.int .i64))
 flts:w.ownsRow B 39 1 (.slice pf t.fs.length cf) t.fs.length fv
 fltv:Ho w t.fs fv
def ScanP(l:List UInt8)(root tree fuel:Int)(w:World)(e:Ending)(w':World):Prop :=
 ∃ pe pb pf ce cb cf fv,e=.returned (.agg (walkC (Zj l root tree fuel) pe pb pf ce cb cf).toArray)∧Below w.heap.size w w'∧WalkV w.heap.size (Zj l root tree fuel) pe pb pf ce cb cf fv w'
theorem walk_Scan(Bi b:Nat)(pi:Option Addr)(ni ci:Nat)(l:List UInt8)(root tree fuel:Int)(w:World)(hfu:fuel≤1000)(hI:ImgR Bi b pi ni ci l w) :
 Calls Tryz.prog 56 #[.pointer (some ⟨b,0,none⟩),.int .i64 root,.int .i64 tree,.int .i64 fuel] w (ScanP l root tree fuel w):=by
 refine zin 23 Tryz.func56 ?_
 refine xa 2 [.slice none 0 0,.slice none 0 0,.int .i64 0,.int .i64 0,.slice none 0 0] 70 fun b1 W1 n1=>?_
 refine xa 8 [.slice none 0 0,.slice none 0 0,.int .i64 0,.int .i64 0,.slice none 0 0,.pointer (some ⟨b,0,none⟩),.int .i64 tree,.int .i64 fuel,.slice none 0 0,.bool false] 170 fun b2 W2 n2=>?_
 refine xr 7 (args:=#[]) (Zfl _) fun W3 hb3=>?_
 have hfew:=Zb4 l root tree fuel hfu
 have g2:=n2.ge n1.below
 have hB:=bln (bln n1.below n2.below) hb3
 have k2:=n2.blk.below hb3
 have hI'1:=((hI.below n1.below).below n2.below).below hb3
 refine xc 0 (args:=#[.pointer (some ⟨b2,0,none⟩),.int .i64 root,.agg #[.int .i64 0,.int .i64 281474976710656]]) (Zcw (B:=w.heap.size) (bw:=b2) (Bi:=Bi) (b:=b) (pi:=pi) (ni:=ni) (ci:=ci) (l:=l) (tree:=tree) (fuel:=fuel) g2 (by omega) 16 [] root 0 281474976710656 ws0 none none none none 0 0 0 0 [] _ rfl hB.size rfl ⟨k2,World.ownsRow_nil _ _ _ _,World.ownsRow_nil _ _ _ _,World.ownsRow_nil _ _ _ _,trivial,World.ownsRow_nil _ _ _ _,Kr.nil _,hI'1⟩ hfew.1 hfew.2.1 hfew.2.2) ?_
 rintro _ W4 ⟨u4,pe,pb,pf,pw,ce,cb,cf,cw,fv,rfl,hb4,hO4,hR⟩
 change WalkR _ _ _ _ _ _ _ _ _ _ _ (Zj l root tree fuel) _ _ _ _ _ _ _ _ _ _ at hR
 obtain⟨kW,hEn,hBl,hFl,hFv,hWy,hAp,hI⟩:=hR
 refine xlv 7 (kW.rpp 0 5) ?_
 have k1:=((n1.blk.below n2.below).below hb3).only hO4 (by decide)
 refine xsv 0 k1 [.slice pe ((Zj l root tree fuel).es.length) ce,.slice pb ((Zj l root tree fuel).bs.length) cb,.int .i64 (Zj l root tree fuel).deep,.int .i64 ((Zj l root tree fuel).looked:Int),.slice pf ((Zj l root tree fuel).fs.length) cf] fun W5 u5 k5=>?_
 have g1:=n1.ge (Below.refl w.heap.size _)
 have hB'1:=u5.below (hB.trans hb4) g1
 have hEn'1:=u5.own2 hEn k1 (by decide)
 have hBl'1:=u5.own2 hBl k1 (by decide)
 have hFl'1:=u5.own2 hFl k1 (by decide)
 have hFv'1:=hFv.only (Ze.of_upd (T:=[70]) u5 k1 (by decide)) (by decide)
 exact xec 3 k5 (.agg #[.slice pe ((Zj l root tree fuel).es.length) ce,.slice pb ((Zj l root tree fuel).bs.length) cb,.int .i64 (Zj l root tree fuel).deep,.int .i64 ((Zj l root tree fuel).looked:Int),.slice pf ((Zj l root tree fuel).fs.length) cf]) ⟨_,_,_,_,_,_,_,rfl,hB'1,⟨hEn'1,hBl'1,hFl'1,hFv'1⟩⟩
end Go.Proofs.YthlakkdgcgkcdaaGreatDoor
namespace Go.Proofs.YthlakkdgcgkcdaaGreatDoor
set_option maxHeartbeats 8000000
set_option maxRecDepth 100000
open Go.RowKit Go.Extern.Stop Go.Stop Go.Extern
set_option linter.unusedVariables false
structure Wt where
 no:Int
 lo:Int
 hi:Int
 way:List Int
 ft:Int
 wa:Option Addr
 wc:Nat
def Zg9(l:List UInt8)(tree fuel:Int)(s:WS)(t:Wt):WS :=
 if s.dry=true then s else if t.ft≠0 then Yh t.way [t.no] t.ft s else Zz l tree fuel (17-t.way.length) t.way t.no t.lo t.hi s
def Sc(l:List UInt8)(tree fuel:Int)(ts:List Wt)(s:WS):WS:=ts.foldl (Zg9 l tree fuel) s
theorem doneW_nil(l:List UInt8)(tree fuel:Int)(s:WS):Sc l tree fuel [] s=s:=rfl
theorem Bg(l:List UInt8)(tree fuel:Int)(t:Wt)(ts:List Wt)(s:WS):Sc l tree fuel (t::ts) s=Sc l tree fuel ts (Zg9 l tree fuel s t):=rfl
theorem doneW_app(l:List UInt8)(tree fuel:Int)(bs ts:List Wt)(s:WS):Sc l tree fuel (bs++ts) s=Sc l tree fuel ts (Sc l tree fuel bs s):=List.foldl_append
theorem Za9(l:List UInt8)(tree fuel:Int):∀ (ts:List Wt) (s:WS),s.dry=true→Sc l tree fuel ts s=s
 | [],_,_=>rfl
 | t::ts,s,h=>by rw[Bg,Zg9,if_pos h,Za9 l tree fuel ts s h]
theorem oneW_grow(l:List UInt8)(tree fuel:Int)(s:WS)(t:Wt):Ex s (Zg9 l tree fuel s t):=by
 unfold Zg9
 split
 ·exact Ex.refl _
 ·split
  ·exact Ay _ _ _ _
  ·exact Wq _ _ _ _ _ _ _ _ _
theorem Ab(l:List UInt8)(tree fuel:Int):∀ (ts:List Wt) (s:WS),Ex s (Sc l tree fuel ts s)
 | [],s=>Ex.refl s
 | t::ts,s=>(oneW_grow l tree fuel s t).trans (Ab l tree fuel ts _)
def Ke(l:List UInt8)(t:Wt)(p:Option Addr)(c i:Nat):Wt :=
 if Yw ((Vb l t.no).getD i [])=0 then⟨Kc ((Vb l t.no).getD i []),(Xb t.hi (Xs l t.no) i).1,(Xb t.hi (Xs l t.no) i).2,t.way++[t.no],0,p,c⟩ else⟨t.no,0,0,t.way,Yw ((Vb l t.no).getD i []),t.wa,t.wc⟩
def Yt(l:List UInt8)(t:Wt)(p:Option Addr)(c k:Nat):List Wt:=(List.range k).map (Ke l t p c)
theorem Jk(l:List UInt8)(t:Wt)(p:Option Addr)(c k:Nat):(Yt l t p c k).length=k:=by simp[Yt]
theorem Jl(l:List UInt8)(t:Wt)(p:Option Addr)(c k:Nat):Yt l t p c (k+1)=Yt l t p c k++[Ke l t p c k]:=by simp[Yt,List.range_succ]
theorem one_fault{l:List UInt8}{tree fuel:Int}{s:WS}{t:Wt}(hd:s.dry=false)(h:t.ft≠0):Zg9 l tree fuel s t=Yh t.way [t.no] t.ft s:=by
 rw[Zg9,if_neg (by rw[hd];decide),if_pos h]
theorem Wx{l:List UInt8}{tree fuel:Int}{s:WS}{t:Wt}(hd:s.dry=false)(h:t.ft=0):Zg9 l tree fuel s t=Zz l tree fuel (17-t.way.length) t.way t.no t.lo t.hi s:=by
 rw[Zg9,if_neg (by rw[hd];decide),if_neg (by omega)]
theorem one_fuel{l:List UInt8}{tree fuel:Int}{s:WS}{t:Wt}(hd:s.dry=false)(h:t.ft=0)(hw:t.way.length≤16)(hf:fuel≤s.looked):Zg9 l tree fuel s t={ Yh t.way [t.no] 12 s with dry:=true }:=by
 rw[Wx hd h,show 17-t.way.length=(16-t.way.length)+1 by omega,Zz,if_pos hf]
theorem one_err{l:List UInt8}{tree fuel:Int}{s:WS}{t:Wt}(hd:s.dry=false)(h:t.ft=0)(hw:t.way.length≤16)(hf:¬ fuel≤s.looked)(he:Zx l t.way t.no tree t.lo t.hi s.deep≠0) :
 Zg9 l tree fuel s t=Yh t.way [t.no] (Zx l t.way t.no tree t.lo t.hi s.deep) { s with looked:=s.looked+1 }:=by
 rw[Wx hd h,show 17-t.way.length=(16-t.way.length)+1 by omega,Zz,if_neg hf,if_pos he]
theorem Rg{l:List UInt8}{way:List Int}{no tree lo hi deep:Int}(h:Zx l way no tree lo hi deep=0):way.length<16:=by
 unfold Zx at h
 split at h
 ·cases h
 ·split at h
  ·cases h
  ·omega
theorem one_leaf{l:List UInt8}{tree fuel:Int}{s:WS}{t:Wt}(hd:s.dry=false)(h:t.ft=0)(hf:¬ fuel≤s.looked)(he:Zx l t.way t.no tree t.lo t.hi s.deep=0)(hl:Xl (inB l t.no)=true) :
 Zg9 l tree fuel s t={ s with looked:=s.looked+1,bs:=s.bs++[t.no],deep:=((t.way.length+1:Nat):Int),es:=s.es++Ks (Xs l t.no) (Vb l t.no) t.no (Zn (inB l t.no)) }:=by
 have:=Rg he
 rw[Wx hd h,show 17-t.way.length=(16-t.way.length)+1 by omega,Zz,if_neg hf,if_neg (by omega),if_pos hl]
theorem one_inner{l:List UInt8}{tree fuel:Int}{s:WS}{t:Wt}(p:Option Addr)(c:Nat)(hd:s.dry=false)(h:t.ft=0)(hf:¬ fuel≤s.looked)(he:Zx l t.way t.no tree t.lo t.hi s.deep=0)(hl:Xl (inB l t.no)=false) :
 Zg9 l tree fuel s t=Sc l tree fuel (Yt l t p c (Zn (inB l t.no))) { s with looked:=s.looked+1,bs:=s.bs++[t.no] }:=by
 have hw:=Rg he
 rw[Wx hd h,show 17-t.way.length=(16-t.way.length)+1 by omega,Zz,if_neg hf,if_neg (by omega),if_neg (by rw[hl];decide)]
 unfold Sc Yt Yj
 rw[List.foldl_map]
 congr 1
 funext u i
 unfold Np Zg9
 split
 ·rfl
 ·unfold Jj Ke
  by_cases hr:Yw ((Vb l t.no).getD i [])=0
  ·rw[if_pos hr,if_pos hr,if_neg (by simp)]
   simp only[List.length_append,List.length_cons,List.length_nil]
   rw[show 17-(t.way.length+(0+1))=16-t.way.length by omega]
  ·rw[if_neg hr,if_neg hr,if_pos hr]
theorem Sm{l:List UInt8}:∀ {n:Nat},Yd l n=0→∀ i,i<n→Nt l i=0
 | 0,_,i,h=>absurd h (by omega)
 | n+1,h,i,hi=>by
  by_cases h1:Yd l n=0
  ·rw[Yd,if_neg (by rw[h1];decide)] at h
   by_cases e:i=n
   ·rw[e];exact h
   ·exact Sm h1 i (by omega)
  ·rw[Yd,if_pos h1] at h
   exact absurd h h1
theorem nodeE_keys{l:List UInt8}(h:Yv l=0):Yd l (Zn l)=0:=by
 unfold Yv at h
 split at h
 ·split at h
  ·exact h
  ·cases h
 ·cases h
theorem keysI_sort{l:List UInt8}{n:Nat}(h:Yd l n=0):Kt (Yx l n):=by
 intro k hk h1
 rw[Yr] at hk
 have e:=Sm h k hk
 have g:∀ j,j<n→(Yx l n)[j]?.getD 0=(Dz l j:Int):=fun j hj=>by simp[Yx,List.getElem?_range hj]
 rw[g _ (by omega),g _ hk]
 unfold Nt at e
 split at e
 ·cases e
 ·split at e
  ·cases e
  ·rename_i q;omega
theorem nodK_sort{l:List UInt8}{no tree:Int}(h:Xc l no tree=0):Kt (Xs l no):=keysI_sort (nodeE_keys (Md (Cg h).2))
theorem Pg{l:List UInt8}{no tree lo hi:Int}(h:Xc l no tree=0)(hr:Qn lo hi=true)(hk:∀ i,i<Zn (inB l no)→Rj lo hi ((Xs l no).getD i 0)=true):Ys lo hi (Xs l no)=0:=by
 unfold Ys
 rw[if_pos hr,if_pos (nodK_sort h),if_pos]
 intro x hx
 obtain⟨i,hi',rfl⟩:=List.mem_iff_getElem.1 hx
 have hl:(Xs l no).length=Zn (inB l no):=by simp[Xs,Yx]
 have:=hk i (by omega)
 rw[show(Xs l no).getD i 0=(Xs l no)[i] by simp[List.getD,hi']] at this
 exact Lw.1 this
theorem Zg8{l:List UInt8}{no tree lo hi:Int}{i:Nat}(hn:i<Zn (inB l no))(hk:Rj lo hi ((Xs l no).getD i 0)=false):Ys lo hi (Xs l no)≠0:=by
 intro h
 have hl:(Xs l no).length=Zn (inB l no):=by simp[Xs,Yx]
 have h2:=(Wd h).2.2 ((Xs l no)[i]'(by omega)) (List.getElem_mem _)
 rw[show(Xs l no).getD i 0=(Xs l no)[i]'(by omega) by simp[List.getD,show i<(Xs l no).length by omega]] at hk
 exact absurd (Lw.2 h2) (by rw[hk];decide)
theorem part_right{lo hi:Int}{L:List Int}(hf:Ys lo hi L=0){i:Nat}(h:i<L.length):Qn (Xb hi L i).1 (Xb hi L i).2=true:=by
 obtain⟨h1,h2,h3,_⟩:=We hf h
 have hr:=of_decide_eq_true (Wd hf).1
 exact decide_eq_true ⟨by omega,by omega,by omega⟩
end Go.Proofs.YthlakkdgcgkcdaaGreatDoor
namespace Go.Proofs.YthlakkdgcgkcdaaGreatDoor
set_option maxHeartbeats 8000000
set_option maxRecDepth 100000
open Go.RowKit
set_option linter.unusedVariables false
theorem Mh(lo hi k:Int)(w:World):Calls Tryz.prog 148 #[spanV lo hi,.int .i64 k] w (Ret (.bool (Rj lo hi k)) w):=by
 unfold spanV
 go_enter Tryz.func148,Tryz.ntmps148
 go_wp2
 all_goals go_ret
 all_goals refine⟨?_,blx _ _⟩
 all_goals (unfold Rj;congr 2;simp;omega)
theorem Ms(lo hi:Int)(w:World):Calls Tryz.prog 193 #[spanV lo hi] w (Ret (.bool (Qn lo hi)) w):=by
 unfold spanV
 go_enter Tryz.func193,Tryz.ntmps193
 go_wp2_with fail
 all_goals go_ret
 all_goals refine⟨?_,blx _ _⟩
 all_goals (unfold Qn;congr 2;simp[*];try omega)
theorem fits_all{lo hi:Int}{l:List Int}(h:Qn lo hi=true)(hs:Kt l)(ha:∀ j:Nat,j<l.length→∀ x,l[j]? = some x→Rj lo hi x=true):Ys lo hi l=0:=by
 have hall:∀ k∈l,lo≤k∧k<hi:=fun k hk=>by
  obtain⟨i,hi',rfl⟩:=List.mem_iff_getElem.1 hk
  exact Lw.1 (ha i hi' _ (by simp))
 simp only[Ys,h,if_true,hs]
 rw[if_pos hall]
theorem Zcz(lo hi:Int)(v:Value)(l:List Int)(w:World)(hl:Ints w v l) :
 Calls Tryz.prog 150 #[spanV lo hi,v] w (Ret (.int .i64 (Ys lo hi l)) w):=by
 have hl0:=hl
 obtain⟨a,c,rfl⟩:=hl.slice
 by_cases hr:Qn lo hi=true
 case neg =>
  have hr':Qn lo hi=false:=by simpa using hr
  unfold spanV
  go_enter Tryz.func150,Tryz.ntmps150
  go_wp2_with fail
  refine(Ms _ _ _).mono ?_
  rintro e w' ⟨rfl,hb⟩
  go_wp2_with fail
  go_ret
  exact⟨by rw[Ad hr'];rfl,bln (blx w _) hb⟩
 unfold spanV
 go_enter Tryz.func150,Tryz.ntmps150
 go_wp2_with fail
 refine(Ms _ _ _).mono ?_
 rintro e w' ⟨rfl,hb⟩
 have k0:=Blk.below (Blk.new w [.int .i64 lo,.int .i64 hi] 173) hb
 have z0:=k0.lt
 have hB:=bln (blx w _) hb
 have hl1:=hl.below hB
 clear hb hl hl0
 have HC:Hid (∀ (j:Nat) x,l[j]? = some x→∃ b off,a=some ⟨b,off,none⟩∧w'.cell? ⟨b,off+j,none⟩=some (.int .i64 x)):=by
  intro j x hj
  rcases hl1 with ⟨_,_,_,h2,_⟩|⟨b,off,cap,h1,_,_,h4⟩
  ·rw[List.length_eq_zero_iff.1 h2] at hj;simp at hj
  ·simp only[Value.slice.injEq] at h1
   exact⟨b,off,h1.1,h4 j _ (by simp[hj])⟩
 have hmax:l.length≤9223372036854775807:=by
  rcases hl1 with ⟨_,_,_,h2,_⟩|⟨b,off,cap,h1,h2,h3,_⟩
  ·omega
  ·unfold maxLen at h3;omega
 clear hl1
 go_wp2_with fail
 go_loopw [5] (fun i wr=>∃ k:Nat,1≤k∧i=.int .i64 k∧Kt (l.take k)∧Below w'.heap.size w' wr) (fun i _=>l.length-(intOf i).toNat)
 case atStart=>exact⟨1,by omega,rfl,Kt.one l,Below.refl _ _⟩
 case round =>
  obtain⟨k,hk1,rfl,hs,hbr⟩:=hrel
  have HS:=Lib.hid hs;clear hs
  by_cases hlt:k<l.length
  ·obtain⟨x,hx⟩:∃ x,l[k-1]? = some x:=⟨l[k-1],by simp⟩
   obtain⟨y,hy⟩:∃ y,l[k]? = some y:=⟨l[k],by simp⟩
   obtain⟨b,off,rfl,hcx⟩:=HC.out _ _ hx
   obtain⟨b',off',e',hcy⟩:=HC.out _ _ hy
   simp only[Option.some.injEq,Addr.mk.injEq] at e'
   obtain⟨rfl,rfl,_⟩:=e'
   have hcx:=Mo hbr hcx
   have hcy:=Mo hbr hcy
   have HX:=Lib.hid hx;clear hx
   have HY:=Lib.hid hy;clear hy
   go_wp2_with fail
   go_quiet (fail)
   go_wp2_with fail
   ·go_ret
    exact⟨by rw[Au hr hk1 HX.out HY.out (by assumption)];rfl,bln hB (blD hbr _)⟩
   ·go_roundw
    case rel=>exact⟨k+1,by omega,by go_num,HS.out.succ HX.out HY.out (by assumption),blD hbr _⟩
    case measure=>simp[intOf];omega
  ·have HA:=Lib.hid (HS.out.all (show l.length≤k by omega));clear HS
   go_wp2_with fail
   go_loopw [6] (fun i w2=>∃ j:Nat,i=.int .i64 j∧(∀ q:Nat,q<j→∀ x,l[q]? = some x→Rj lo hi x=true)∧Below w'.heap.size w' w2) (fun i _=>l.length-(intOf i).toNat)
   case atStart=>exact⟨0,rfl,by omega,hbr⟩
   case round =>
    obtain⟨j,rfl,hj,hb2⟩:=hrel
    have HJ:=Lib.hid hj;clear hj
    by_cases hlt2:j<l.length
    ·obtain⟨x,hx⟩:∃ x,l[j]? = some x:=⟨l[j],by simp⟩
     obtain⟨b,off,rfl,hcx⟩:=HC.out _ _ hx
     have hcx:=Mo hb2 hcx
     have k2:=k0.below hb2
     have e0:∀ z:Ext wr,z.val.cell? ⟨w.heap.size,0,none⟩=some (.int .i64 lo):=fun z=>z.get (k2.cell (i:=0) rfl)
     have e1:∀ z:Ext wr,z.val.cell? ⟨w.heap.size,1,none⟩=some (.int .i64 hi):=fun z=>z.get (k2.cell (i:=1) rfl)
     have e2:∀ z:Ext wr,z.val.cell? ⟨b,off+j,none⟩=some (.int .i64 x):=fun z=>z.get hcx
     have HX:=Lib.hid hx;clear hx
     by_cases ha:Rj lo hi x=true
     ·go_wp2_with fail
      refine Qr (by kernel_rfl) (by kernel_rfl) ?_
      repeat (go_big_quiet_step (exact Ret.ext (Mh _ _ _ _)))
      refine wpQuiet_nil ?_
      intro wx
      go_wp2_with fail
      go_roundw
      case rel =>
       refine⟨j+1,by go_num,fun q hq y hy=>?_,hb2.trans (wx.below.mono hb2.size)⟩
       by_cases hqj:q=j
       ·subst hqj;rw[HX.out] at hy;cases hy;exact ha
       ·exact HJ.out q (by omega) y hy
      case measure=>simp[intOf];omega
     ·have ha:Rj lo hi x=false:=by simpa using ha
      go_wp2_with fail
      refine Qr (by kernel_rfl) (by kernel_rfl) ?_
      repeat (go_big_quiet_step (exact Ret.ext (Mh _ _ _ _)))
      refine wpQuiet_nil ?_
      intro wx
      go_wp2_with fail
      go_ret
      exact⟨by rw[Zan hr HA.out HX.out ha];rfl,bln (bln hB hb2) wx.below⟩
    ·go_wp2_with fail
     go_ret
     exact⟨by rw[fits_all hr HA.out (fun q hq=>HJ.out q (by omega))];rfl,bln hB hb2⟩
theorem Hg{w:World}{B2:Nat}{a b c:Int}{t2:TypeId}(h2:Blk w B2 [.int .i64 a,.int .i64 b] t2){tmps:Array Value}
 (e2:tmps.getD 6 undef=.pointer (some ⟨B2,0,none⟩)) (e3:tmps.getD 7 undef=.int .i64 c) :
 (results Tryz.f100 tmps).run Tryz.prog w=.ok (.tuple #[spanV a b,.int .i64 c]) w:=by
 have c20:=h2.cell (i:=0) rfl
 have c21:=h2.cell (i:=1) rfl
 have e2':tmps[6]?.getD undef=.pointer (some ⟨B2,0,none⟩):=by simpa using e2
 have e3':tmps[7]?.getD undef=.int .i64 c:=by simpa using e3
 simp[results,Tryz.results100,go_sem,c20,c21,e2',e3',spanV]
theorem Ul{w w':World}{B:Nat}(h:Below w.heap.size w w')(hB:w.heap.size≤B){i j:Nat}{x y:Value} :
 Below w.heap.size w ((w'.setCell ⟨B,i,none⟩ x).setCell ⟨B,j,none⟩ y):=(h.setCell hB _).setCell hB _
theorem Wl(lo hi i:Int)(v:Value)(l:List Int)(w:World)(hi64 : -9223372036854775808≤i∧i≤9223372036854775807)(hlen:l.length≤1000000)(hl:Ints w v l) :
 Calls Tryz.prog 100 #[spanV lo hi,v,.int .i64 i] w (Ret (.tuple #[spanV (Lq lo hi l i).1.1 (Lq lo hi l i).1.2,.int .i64 (Lq lo hi l i).2]) w):=by
 obtain⟨a,c,rfl⟩:=hl.slice
 unfold spanV
 go_enter Tryz.func100,Tryz.ntmps100
 go_wp2_with fail
 refine(Zcz lo hi _ l _ (hl.below ?_)).mono ?_
 ·exact bln (blx _ _) (blx _ _)
 rintro e w' ⟨rfl,hb⟩
 have k0:=Blk.below ((Blk.new w [.int .i64 lo,.int .i64 hi] 173).alloc (.cells #[.int .i64 0,.int .i64 0] 173)) hb
 have k1:=Blk.below (Blk.new (w.alloc (.cells #[.int .i64 lo,.int .i64 hi] 173)) [.int .i64 0,.int .i64 0] 173) hb
 simp only[World.size_alloc] at k1
 have hB:Below w.heap.size w w':=bln (bln (blx _ _) (blx _ _)) hb
 have hl1:=hl.below hB
 clear hb hl
 have z0:=k0.lt
 have z1:=k1.lt
 have c00:=k0.cell (i:=0) rfl
 have c01:=k0.cell (i:=1) rfl
 have c10:=k1.cell (i:=0) rfl
 have c11:=k1.cell (i:=1) rfl
 have f10:=k1.frozen 0
 have f11:=k1.frozen 1
 by_cases hf:Ys lo hi l=0
 case neg =>
  have hf2:(Ys lo hi l != 0)=true:=by simpa using hf
  have HF:=Lib.hid (child_bad (i:=i) hf);clear hf
  go_wp2_with fail
  refine bodyPost_ret (Hg ((k1.set 0 _).set 1 _) rfl rfl) rfl ?_
  rw[HF.out]
  exact⟨rfl,Ul hB (by omega)⟩
 have hf2:(Ys lo hi l != 0)=false:=by simpa using hf
 have HF:=Lib.hid hf;clear hf
 by_cases hin:0≤i∧i<l.length
 case neg =>
  have HO:=Lib.hid (child_out HF.out hin)
  by_cases h0:i<0
  ·have d0:decide (i<0)=true:=by simpa using h0
   go_wp2_with fail
   refine bodyPost_ret (Hg ((k1.set 0 _).set 1 _) rfl rfl) rfl ?_
   rw[HO.out]
   exact⟨rfl,Ul hB (by omega)⟩
  ·have d0:decide (i<0)=false:=by simpa using h0
   have d1:decide ((l.length:Int)≤i)=true:=by simp;omega
   go_wp2_with fail
   refine bodyPost_ret (Hg ((k1.set 0 _).set 1 _) rfl rfl) rfl ?_
   rw[HO.out]
   exact⟨rfl,Ul hB (by omega)⟩
 obtain⟨h1,h2⟩:=hin
 obtain⟨q,rfl⟩:=Int.eq_ofNat_of_zero_le h1
 have hq:q<l.length:=by omega
 have HO:=Lib.hid (En HF.out hq)
 have d0:decide ((q:Int)<0)=false:=by simp
 have d1:decide ((l.length:Int)≤(q:Int))=false:=by simp;omega
 rcases hl1 with ⟨_,_,_,h3,_⟩|⟨b,off,cap,h3,h4,h5,h6⟩
 ·omega
 simp only[Value.slice.injEq] at h3
 obtain⟨rfl,_,rfl⟩:=h3
 obtain⟨x,hx⟩:∃ x,l[q]? = some x:=⟨l[q],by simp⟩
 have hcx:=h6 q (.int .i64 x) (by simp[hx])
 by_cases hlast:q+1=l.length
 ·have dl:((q:Int)+1==(l.length:Int))=true:=by simp;omega
  have hp:Xb hi l q=(x,hi):=by unfold Xb;rw[hx,hlast];simp
  have HP:=Lib.hid hp;clear hp
  have HX:=Lib.hid hx;clear hx
  clear hlast h6
  go_wp2_with fail
  go_still_tail 7,(by kernel_rfl)
  change wpList _ _ _ _ _ w'.drew
  go_wp2_with fail
  have k1':Blk (((w'.setCell ⟨w.heap.size+1,0,none⟩ (.int .i64 x)).setCell ⟨w.heap.size+1,1,none⟩ (.int .i64 hi)).drew) (w.heap.size+1) [.int .i64 x,.int .i64 hi] 173:=(k1.set 0 _).set 1 _
  refine bodyPost_ret (Hg k1' rfl rfl) rfl ?_
  rw[HO.out,HP.out]
  exact⟨rfl,(Ul hB (by omega)).drew⟩
 ·have dl:((q:Int)+1==(l.length:Int))=false:=by simp;omega
  obtain⟨y,hy⟩:∃ y,l[q+1]? = some y:=⟨l[q+1],by simp⟩
  have hcy:=h6 (q+1) (.int .i64 y) (by simp[hy])
  have hp:Xb hi l q=(x,y):=by unfold Xb;rw[hx,hy];rfl
  have hq1:q+1<l.length:=by omega
  have HP:=Lib.hid hp;clear hp
  have HX:=Lib.hid hx;clear hx
  have HY:=Lib.hid hy;clear hy
  clear hlast h6
  go_wp2_with fail
  have hw:IntKind.i64.wrap ((q:Int)+1)=(q:Int)+1:=IntWalk.i64_in _ (by omega)
  have hn0:((q:Int)+1).toNat=q+1:=by omega
  have hb0:(0:Int)≤(q:Int)+1:=by omega
  have hb1:(q:Int)+1<(l.length:Int):=by omega
  go_still_tail 10,(by kernel_rfl)
  change wpList _ _ _ _ _ w'.drew
  clear hw hn0 hb0 hb1
  go_wp2_with fail
  have k1':Blk (((w'.setCell ⟨w.heap.size+1,0,none⟩ (.int .i64 x)).setCell ⟨w.heap.size+1,1,none⟩ (.int .i64 y)).drew) (w.heap.size+1) [.int .i64 x,.int .i64 y] 173:=(k1.set 0 _).set 1 _
  refine bodyPost_ret (Hg k1' rfl rfl) rfl ?_
  rw[HO.out,HP.out]
  exact⟨rfl,(Ul hB (by omega)).drew⟩
end Go.Proofs.YthlakkdgcgkcdaaGreatDoor
namespace Go.Proofs.YthlakkdgcgkcdaaGreatDoor
set_option maxHeartbeats 8000000
set_option maxRecDepth 100000
open Go.RowKit Go.Extern.Stop Go.Stop Go.Extern
set_option linter.unusedVariables false
section
variable {P:Program} {fn:Func} {R:Ending→World→Prop} {w:World} {s:Zs}
def BlksOf(w:World):List (Nat×List Value)→Prop
 | []=>True
 | p::r=>(∃ t,Blk w p.1 p.2 t)∧BlksOf w r
noncomputable def zrlm (P:Program) (n:Nat) (kv:List (Nat×Value)) (l:List ResultVar):List (List Value)→Option (List Nat×List Value):=List.rec (motive:=fun _=>List (List Value)→Option (List Nat×List Value)) (fun _=>some ([],[])) (fun r _ ih css=>match r with
 | .tmp t=>match ih css with
  | some r=>some (r.1,zget n kv t::r.2)
  | none=>none
 | .cell k t=>match css with
  | []=>none
  | p::css'=>match zget n kv k with
   | .pointer (some ⟨b,off,sp⟩)=>match sp with
    | none=>match Nat.beq off 0&&(zrow P t&&zsz P t p.length) with
     | true=>match ih css' with
      | some r=>some (b::r.1,.agg p.toArray::r.2)
      | none=>none
     | false=>none
    | some _=>none
   | _=>none) l
theorem Zas(n:Nat)(kv:List (Nat×Value))(w:World):∀ (l:List ResultVar) (css:List (Nat×List Value)) (vs:List Value),BlksOf w css→zrlm P n kv l (css.map Prod.snd)=some (css.map Prod.fst,vs)→(l.mapM (zrf (zact n kv).tmps)).run P w=.ok vs w
  | [],css,vs,_,h=>by
    have h':some (([]:List Nat),([]:List Value))=some (css.map Prod.fst,vs):=h
    simp only[Option.some.injEq,Prod.mk.injEq] at h'
    rw[←h'.2];rfl
  | r :: l, css, vs, hb, h => by
    rw[List.mapM_cons]
    cases r with
    | tmp t =>
      have h':(match zrlm P n kv l (css.map Prod.snd) with|some r=>some (r.1,zget n kv t::r.2)|none=>none)=some (css.map Prod.fst,vs):=h
      split at h'
      · rename_i r' hv
        simp only[Option.some.injEq,Prod.mk.injEq] at h'
        obtain⟨h1,rfl⟩:=h'
        have hv':zrlm P n kv l (css.map Prod.snd)=some (css.map Prod.fst,r'.2):=by rw[hv,←h1]
        simp only[zrf,Sem.run_bind,Sem.run_pure,Result.andThen_ok,Zas n kv w l css r'.2 hb hv',Wf]
      · cases h'
    | cell k t' =>
      cases css with
      | nil=>cases h
      | cons p css =>
      have h':(match zget n kv k with
      | .pointer (some ⟨b,off,sp⟩)=>match sp with
        | none=>match Nat.beq off 0&&(zrow P t'&&zsz P t' p.2.length) with
          | true=>match zrlm P n kv l (css.map Prod.snd) with
            | some r=>some (b::r.1,.agg p.2.toArray::r.2)
            | none=>none
          | false=>none
        | some _=>none
      | _=>none)=some (p.1::css.map Prod.fst,vs):=h
      split at h'
      · rename_i b' off sp hb'
        cases sp with
        | some _=>cases h'
        | none =>
          dsimp only at h'
          split at h'
          · rename_i hc
            simp only[Bool.and_eq_true] at hc
            split at h'
            · rename_i r' hv
              simp only[Option.some.injEq,Prod.mk.injEq,List.cons.injEq] at h'
              obtain⟨⟨rfl,h1⟩,rfl⟩:=h'
              obtain⟨⟨t,kb⟩,hb2⟩:=hb
              have hv':zrlm P n kv l (css.map Prod.snd)=some (css.map Prod.fst,r'.2):=by rw[hv,←h1]
              obtain rfl:off=0:=Nat.eq_of_beq_eq_true hc.1
              have hu:=hc.2.1
              unfold zrow at hu
              split at hu
              · rename_i d hd
                have hl:=run_loadVar_mid (P:=P) w p.1 0 t' p.2 d kb.whole hd hu (Zcd hc.2.2)
                have e:(zact n kv).tmps.getD k undef=.pointer (some ⟨p.1,0,none⟩):=by rw[Wf];exact hb'
                simp only[zrf,e,asAddr,Sem.run_bind,Sem.run_pure,Result.andThen_ok,hl,Zas n kv w l css r'.2 hb2 hv']
              · cases hu
            · cases h'
          · cases h'
      · cases h'
noncomputable def zresm (P:Program) (s:Zs) (fn:Func) (css:List (List Value)):Option (List Nat×Value):=match zfin s with
 | true=>match zrlm P s.n s.kv fn.results.toList css with
  | some r=>some (r.1,zvs r.2)
  | none=>none
 | false=>none
theorem Tn(q:Zq)(css:List (Nat×List Value))(hb:BlksOf w css)(v:Value)(hR:R (.returned v) w)(h:zresm P (zq P q s) fn (css.map Prod.snd)=some (css.map Prod.fst,v):=by kernel_rfl):Go P fn R s w:=by
 refine Zy q s ?_
 unfold zresm at h
 split at h
 ·rename_i hf
  split at h
  ·rename_i r hv
   simp only[Option.some.injEq,Prod.mk.injEq] at h
   obtain⟨h1,rfl⟩:=h
   have hv:zrlm P (zq P q s).n (zq P q s).kv fn.results.toList (css.map Prod.snd)=some (css.map Prod.fst,r.2):=by rw[hv,←h1]
   exact Zef hf (Nv (Zas _ _ _ _ _ _ hb hv)) hR
  ·cases h
 ·cases h
end
end Go.Proofs.YthlakkdgcgkcdaaGreatDoor
namespace Go.Proofs.YthlakkdgcgkcdaaGreatDoor
set_option maxHeartbeats 8000000
set_option maxRecDepth 100000
open Go.RowKit Go.Extern.Stop Go.Stop Go.Extern
set_option linter.unusedVariables false
attribute [local irreducible] wpList wpAnyH Code.wp Oper.wp Go
theorem ref08_inB(n lo hi:Int)(w:World) :
 Calls Tryz.prog 102 #[.int .i64 n,.int .i64 lo,.int .i64 hi] w (Ret (.bool (decide (lo≤n∧n≤hi))) w):=by
 refine zin 15 Tryz.func102 ?_
 refine xg 11 [9,10] (decide (n≥lo)) (fun hc1=>?_) (fun hc1=>?_)
 ·have hc1:=of_decide_eq_true hc1
  exact xe 8 (.bool (decide (n≤hi))) ⟨by rw[show decide (lo≤n∧n≤hi)=decide (n≤hi) from by simp;omega],(Below.refl w.heap.size _)⟩
 have hc1:=of_decide_eq_false hc1
 exact xe 8 (.bool false) ⟨by rw[show decide (lo≤n∧n≤hi)=false from decide_eq_false (by omega)],(Below.refl w.heap.size _)⟩
theorem Tt(s:List UInt8)(lo hi:Int)(w:World)(hs:s.length≤1000) :
 Calls Tryz.prog 149 #[.string ⟨s.toArray⟩,.int .i64 lo,.int .i64 hi] w (Ret (.tuple #[.int .i64 (if s.length=4∧lo≤(Zh s 0 4:Int)∧(Zh s 0 4:Int)≤hi then(Zh s 0 4:Int) else 0),.int .i64 (if s.length=4 then(if lo≤(Zh s 0 4:Int)∧(Zh s 0 4:Int)≤hi then 0 else 2) else 7)]) w):=by
 refine zin 25 Tryz.func149 ?_
 refine xin 14 (↑s.length:Int) (4:Int) (fun hc1=>?_) (fun hc1=>?_)
 ·refine xe 8 (.tuple #[.int .i64 0,.int .i64 7]) ?_
  rw[if_neg (by omega),if_neg (by omega)];exact⟨rfl,(Below.refl w.heap.size _)⟩
 refine xcf 5 fun _ _ _ zJ zQ zo zx zK=>Jq s zo zx Tryz.underlying9 Tryz.underlying22 Tryz.underlying5 (by omega) ?_
 intro bz cz W2 hb2 hbz
 refine zK _ _ ?_
 refine xr 0 (args:=#[.slice (some ⟨bz,0,none⟩) s.length cz,.int .i64 0,.int .i64 4]) (Lx (some ⟨bz,0,none⟩) s.length cz 0 4 0 4 s _ rfl rfl rfl (by decide) (by omega) (by omega) hbz) fun W3 hb3=>?_
 refine xr 13 (args:=#[.int .i64 (↑(Zh s 0 4):Int),.int .i64 lo,.int .i64 hi]) (ref08_inB (↑(Zh s 0 4):Int) lo hi _) fun W4 hb4=>?_
 refine xi 3 (!(decide (lo≤(Zh s 0 4:Int)∧(Zh s 0 4:Int)≤hi))) (fun hc5=>?_) (fun hc5=>?_)
 ·have hin:¬ (lo≤(Zh s 0 4:Int)∧(Zh s 0 4:Int)≤hi):=fun q=>absurd hc5 (by rw[decide_eq_true q];decide)
  have hB:=bln (bln hb2 hb3) hb4
  refine xe 8 (.tuple #[.int .i64 0,.int .i64 2]) ?_
  rw[if_neg fun q=>hin q.2,if_pos (by omega),if_neg hin];exact⟨rfl,hB⟩
 have hin:lo≤(Zh s 0 4:Int)∧(Zh s 0 4:Int)≤hi:=Decidable.byContradiction fun q=>absurd hc5 (by rw[decide_eq_false q];decide)
 have hB:=bln (bln hb2 hb3) hb4
 refine xe 10 (.tuple #[.int .i64 (↑(Zh s 0 4):Int),.int .i64 0]) ?_
 rw[if_pos ⟨by omega,hin⟩,if_pos (by omega),if_pos hin];exact⟨rfl,hB⟩
theorem Tc(s:List UInt8)(w:World)(hs:s.length≤1000) :
 Calls Tryz.prog 149 #[.string ⟨s.toArray⟩,.int .i64 1,.int .i64 14399] w (Ret (.tuple #[.int .i64 (Kc s:Int),.int .i64 (Yw s)]) w):=by
 refine(Tt s 1 14399 w hs).mono ?_
 rintro e W ⟨rfl,hb⟩
 refine⟨?_,hb⟩
 have e1:(if s.length=4 then(if(1:Int)≤(Zh s 0 4:Int)∧(Zh s 0 4:Int)≤14399 then(0:Int) else 2) else 7)=Yw s:=by
  unfold Yw
  by_cases h:s.length=4
  ·rw[if_pos h,if_pos h]
   by_cases q:1≤Zh s 0 4∧Zh s 0 4≤14399
   ·rw[if_pos q,if_pos ⟨by omega,by omega⟩]
   ·rw[if_neg q,if_neg (by omega)]
  ·rw[if_neg h,if_neg h]
 have e2:(if s.length=4∧(1:Int)≤(Zh s 0 4:Int)∧(Zh s 0 4:Int)≤14399 then(Zh s 0 4:Int) else 0)=(Kc s:Int):=by
  unfold Kc
  rw[←e1]
  by_cases h:s.length=4
  ·rw[if_pos h]
   by_cases q:(1:Int)≤(Zh s 0 4:Int)∧(Zh s 0 4:Int)≤14399
   ·rw[if_pos ⟨h,q⟩,if_pos q,if_pos rfl]
   ·rw[if_neg fun x=>q x.2,if_neg q,if_neg (by decide)];rfl
  ·rw[if_neg fun x=>h x.1,if_neg h,if_neg (by decide)];rfl
 rw[e1,e2]
theorem Cm(s:List UInt8)(w:World)(hs:s.length≤1000) :
 Calls Tryz.prog 99 #[.string ⟨s.toArray⟩] w (Ret (.tuple #[.int .i64 (Kc s:Int),.int .i64 (Yw s)]) w):=by
 refine zin 8 Tryz.func99 ?_
 refine xr 9 (args:=#[.string ⟨s.toArray⟩,.int .i64 1,.int .i64 14399]) (Tc s _ hs) fun W1 hb1=>?_
 exact xe 7 (.tuple #[.int .i64 (↑(Kc s):Int),.int .i64 (Yw s)]) ⟨rfl,hb1⟩
theorem Kh(no er:Int)(w:World)(he:er≠0):Calls Tryz.prog 36 #[.int .i64 no,.int .i64 er] w (Vn (fun w' r=>∃ a c,r=.agg #[.slice a 1 c,.int .i64 er]∧w'.ownsRow w.heap.size 3 1 (.slice a 1 c) 1 [.int .i64 no]) w):=by
 refine(Gv no er w).mono ?_
 rintro e W ⟨a,c,rfl,hb,ho⟩
 rw[Pj he] at ho ⊢
 exact⟨_,rfl,hb,a,c,rfl,ho⟩
theorem Kl(L:List Int):∀ u∈L.map (Value.int .i64),u.oneCell'=true:=by intro u hu;obtain⟨x,_,rfl⟩:=List.mem_map.1 hu;rfl
theorem Zdc(no er:Int)(a:Option Addr)(n c:Nat)(L:List Int)(w:World)(he:er≠0)(hL:L.length=n)(hn:n≤1000000)(hS:Sl w (.slice a n c) n (L.map (Value.int .i64))) :
 Calls Tryz.prog 63 #[.int .i64 no,.agg #[.slice a n c,.int .i64 er]] w (Vn (fun w' r=>∃ p c2,r=.agg #[.slice p (n+1) c2,.int .i64 er]∧w'.ownsRow w.heap.size 3 1 (.slice p (n+1) c2) (n+1) ((no::L).map (Value.int .i64))) w):=by
 refine zin 17 Tryz.func63 ?_
 refine xa 2 [.slice a n c,.int .i64 er] 43 fun b1 W1 n1=>?_
 refine xa 0 [.slice none 0 0,.int .i64 0] 43 fun b2 W2 n2=>?_
 have d2_b1:=n2.ne n1.blk
 have k1'1:=n1.blk.below n2.below
 refine xb 6 1 k1'1 ?_
 refine xk 3 (show((er==(0:Int)):Bool)=false from beq_false_of_ne he) ?_
 refine xd 3 (.t w.heap.size [3,43]) ?_
 refine xm3 (.b [0,2,5]) 1 3 6 ?_ ?_ ?_
 ·refine xbs 0 1 [.int .i64 no] 3 fun b3 W3 n3=>?_
  refine xm2 0 3 6 ?_ ?_
  ·have k1'2:=(k1'1.below (Za W2)).below n3.below
   refine xb 0 0 k1'2 ?_
   refine xm2 0 4 6 ?_ ?_
   ·have g3:=n3.ge (bln (bln n1.below n2.below) (Za W2))
    have o4:=Zw (size:=1) (n:=1) n3.blk g3 rfl (by decide)
    have hB:=bln (bln (bln n1.below n2.below) (Za W2)) n3.below
    refine ybi 0 (.t w.heap.size [3,43]) fun _ _ _ _ zJ zQ zo zx zy zK=>Zp (m:=n) (news:=(L.map (Value.int .i64))) (.int .i64 0) 1 8 ((n+1)) (((no::L).map (Value.int .i64))) zo Tryz.underlying30 (by kernel_rfl) rfl (by decide) zx o4 zy (hS.below hB) (by simp[hL]) (Kl L) (by unfold maxLen;omega) (by omega) hB.size (by omega) (by rfl) fun px5 cx5 W5 o5 hg5 hb5=>?_
    refine zK _ _ (Zr hb5 hg5 o4 (by decide)) ?_
    have k1'3:=k1'2.grown hg5 o4 (by decide)
    refine xb (.o [] 6) 1 k1'3 ?_
    have k2:=((n2.blk.below (Za W2)).below n3.below).grown hg5 o4 (by decide)
    have g2:=n2.ge n1.below
    refine ysv (.o [7] 8) k2 [.slice px5 (n+1) cx5,.int .i64 er] (.t w.heap.size [3,43]) fun W6 u6 k6=>⟨(Zi u6 k2 g2 (by decide)),?_⟩
    have hB'1:=u6.below (hB.trans hb5) g2
    have o5'1:=u6.own2 o5 k2 (by decide)
    exact xec 3 k6 (.agg #[.slice px5 (n+1) cx5,.int .i64 er]) ⟨_,rfl,hB'1,_,_,rfl,o5'1⟩
   refine xb 0 1 k1'2 ?_
   have g3:=n3.ge (bln (bln n1.below n2.below) (Za W2))
   have o7:=Zw (size:=1) (n:=1) n3.blk g3 rfl (by decide)
   have hB:=bln (bln (bln n1.below n2.below) (Za W2)) n3.below
   refine ybi (.o [] 4) (.t w.heap.size [3,43]) fun _ _ _ _ zJ zQ zo zx zy zK=>Zp (m:=n) (news:=(L.map (Value.int .i64))) (.int .i64 0) 1 8 ((n+1)) (((no::L).map (Value.int .i64))) zo Tryz.underlying30 (by kernel_rfl) rfl (by decide) zx o7 zy (hS.below hB) (by simp[hL]) (Kl L) (by unfold maxLen;omega) (by omega) hB.size (by omega) (by rfl) fun px8 cx8 W8 o8 hg8 hb8=>?_
   refine zK _ _ (Zr hb8 hg8 o7 (by decide)) ?_
   have k2:=((n2.blk.below (Za W2)).below n3.below).grown hg8 o7 (by decide)
   have g2:=n2.ge n1.below
   refine ysv (.o [7] 8) k2 [.slice px8 (n+1) cx8,.int .i64 er] (.t w.heap.size [3,43]) fun W9 u9 k9=>⟨(Zi u9 k2 g2 (by decide)),?_⟩
   have hB'2:=u9.below (hB.trans hb8) g2
   have o8'1:=u9.own2 o8 k2 (by decide)
   exact xec 3 k9 (.agg #[.slice px8 (n+1) cx8,.int .i64 er]) ⟨_,rfl,hB'2,_,_,rfl,o8'1⟩
  have k1'4:=(k1'1.below (Za W2)).below n3.below
  refine xb 0 1 k1'4 ?_
  refine xb (.o [] 3) 0 k1'4 ?_
  have g3:=n3.ge (bln (bln n1.below n2.below) (Za W2))
  have o10:=Zw (size:=1) (n:=1) n3.blk g3 rfl (by decide)
  have hB:=bln (bln (bln n1.below n2.below) (Za W2)) n3.below
  refine ybi (.o [] 4) (.t w.heap.size [3,43]) fun _ _ _ _ zJ zQ zo zx zy zK=>Zp (m:=n) (news:=(L.map (Value.int .i64))) (.int .i64 0) 1 8 ((n+1)) (((no::L).map (Value.int .i64))) zo Tryz.underlying30 (by kernel_rfl) rfl (by decide) zx o10 zy (hS.below hB) (by simp[hL]) (Kl L) (by unfold maxLen;omega) (by omega) hB.size (by omega) (by rfl) fun px11 cx11 W11 o11 hg11 hb11=>?_
  refine zK _ _ (Zr hb11 hg11 o10 (by decide)) ?_
  have k2:=((n2.blk.below (Za W2)).below n3.below).grown hg11 o10 (by decide)
  have g2:=n2.ge n1.below
  refine ysv (.o [7] 8) k2 [.slice px11 (n+1) cx11,.int .i64 er] (.t w.heap.size [3,43]) fun W12 u12 k12=>⟨(Zi u12 k2 g2 (by decide)),?_⟩
  have hB'3:=u12.below (hB.trans hb11) g2
  have o11'1:=u12.own2 o11 k2 (by decide)
  exact xec 3 k12 (.agg #[.slice px11 (n+1) cx11,.int .i64 er]) ⟨_,rfl,hB'3,_,_,rfl,o11'1⟩
 ·have k1'5:=k1'1.below (Za W2)
  refine xb 0 0 k1'5 ?_
  refine xm2 0 1 6 ?_ ?_
  ·refine xbs 0 1 [.int .i64 no] 3 fun b13 W13 n13=>?_
   refine xm2 0 4 6 ?_ ?_
   ·have g13:=n13.ge (bln (bln n1.below n2.below) (Za W2))
    have o14:=Zw (size:=1) (n:=1) n13.blk g13 rfl (by decide)
    have hB:=bln (bln (bln n1.below n2.below) (Za W2)) n13.below
    refine ybi 0 (.t w.heap.size [3,43]) fun _ _ _ _ zJ zQ zo zx zy zK=>Zp (m:=n) (news:=(L.map (Value.int .i64))) (.int .i64 0) 1 8 ((n+1)) (((no::L).map (Value.int .i64))) zo Tryz.underlying30 (by kernel_rfl) rfl (by decide) zx o14 zy (hS.below hB) (by simp[hL]) (Kl L) (by unfold maxLen;omega) (by omega) hB.size (by omega) (by rfl) fun px15 cx15 W15 o15 hg15 hb15=>?_
    refine zK _ _ (Zr hb15 hg15 o14 (by decide)) ?_
    have k1'6:=(k1'5.below n13.below).grown hg15 o14 (by decide)
    refine xb (.o [] 6) 1 k1'6 ?_
    have k2:=((n2.blk.below (Za W2)).below n13.below).grown hg15 o14 (by decide)
    have g2:=n2.ge n1.below
    refine ysv (.o [7] 8) k2 [.slice px15 (n+1) cx15,.int .i64 er] (.t w.heap.size [3,43]) fun W16 u16 k16=>⟨(Zi u16 k2 g2 (by decide)),?_⟩
    have hB'4:=u16.below (hB.trans hb15) g2
    have o15'1:=u16.own2 o15 k2 (by decide)
    exact xec 3 k16 (.agg #[.slice px15 (n+1) cx15,.int .i64 er]) ⟨_,rfl,hB'4,_,_,rfl,o15'1⟩
   have k1'7:=k1'5.below n13.below
   refine xb 0 1 k1'7 ?_
   have g13:=n13.ge (bln (bln n1.below n2.below) (Za W2))
   have o17:=Zw (size:=1) (n:=1) n13.blk g13 rfl (by decide)
   have hB:=bln (bln (bln n1.below n2.below) (Za W2)) n13.below
   refine ybi (.o [] 4) (.t w.heap.size [3,43]) fun _ _ _ _ zJ zQ zo zx zy zK=>Zp (m:=n) (news:=(L.map (Value.int .i64))) (.int .i64 0) 1 8 ((n+1)) (((no::L).map (Value.int .i64))) zo Tryz.underlying30 (by kernel_rfl) rfl (by decide) zx o17 zy (hS.below hB) (by simp[hL]) (Kl L) (by unfold maxLen;omega) (by omega) hB.size (by omega) (by rfl) fun px18 cx18 W18 o18 hg18 hb18=>?_
   refine zK _ _ (Zr hb18 hg18 o17 (by decide)) ?_
   have k2:=((n2.blk.below (Za W2)).below n13.below).grown hg18 o17 (by decide)
   have g2:=n2.ge n1.below
   refine ysv (.o [7] 8) k2 [.slice px18 (n+1) cx18,.int .i64 er] (.t w.heap.size [3,43]) fun W19 u19 k19=>⟨(Zi u19 k2 g2 (by decide)),?_⟩
   have hB'5:=u19.below (hB.trans hb18) g2
   have o18'1:=u19.own2 o18 k2 (by decide)
   exact xec 3 k19 (.agg #[.slice px18 (n+1) cx18,.int .i64 er]) ⟨_,rfl,hB'5,_,_,rfl,o18'1⟩
  refine xb 0 1 k1'5 ?_
  refine xbs (.o [] 1) 1 [.int .i64 no] 3 fun b20 W20 n20=>?_
  have g20:=n20.ge (bln (bln n1.below n2.below) (Za W2))
  have o21:=Zw (size:=1) (n:=1) n20.blk g20 rfl (by decide)
  have hB:=bln (bln (bln n1.below n2.below) (Za W2)) n20.below
  refine ybi (.o [] 4) (.t w.heap.size [3,43]) fun _ _ _ _ zJ zQ zo zx zy zK=>Zp (m:=n) (news:=(L.map (Value.int .i64))) (.int .i64 0) 1 8 ((n+1)) (((no::L).map (Value.int .i64))) zo Tryz.underlying30 (by kernel_rfl) rfl (by decide) zx o21 zy (hS.below hB) (by simp[hL]) (Kl L) (by unfold maxLen;omega) (by omega) hB.size (by omega) (by rfl) fun px22 cx22 W22 o22 hg22 hb22=>?_
  refine zK _ _ (Zr hb22 hg22 o21 (by decide)) ?_
  have k2:=((n2.blk.below (Za W2)).below n20.below).grown hg22 o21 (by decide)
  have g2:=n2.ge n1.below
  refine ysv (.o [7] 8) k2 [.slice px22 (n+1) cx22,.int .i64 er] (.t w.heap.size [3,43]) fun W23 u23 k23=>⟨(Zi u23 k2 g2 (by decide)),?_⟩
  have hB'6:=u23.below (hB.trans hb22) g2
  have o22'1:=u23.own2 o22 k2 (by decide)
  exact xec 3 k23 (.agg #[.slice px22 (n+1) cx22,.int .i64 er]) ⟨_,rfl,hB'6,_,_,rfl,o22'1⟩
 have k1'8:=k1'1.below (Za W2)
 refine xb 0 1 k1'8 ?_
 refine xm2 0 1 3 ?_ ?_
 ·refine xbs 0 1 [.int .i64 no] 3 fun b24 W24 n24=>?_
  have k1'9:=k1'8.below n24.below
  refine xb (.o [] 3) 0 k1'9 ?_
  have g24:=n24.ge (bln (bln n1.below n2.below) (Za W2))
  have o25:=Zw (size:=1) (n:=1) n24.blk g24 rfl (by decide)
  have hB:=bln (bln (bln n1.below n2.below) (Za W2)) n24.below
  refine ybi (.o [] 4) (.t w.heap.size [3,43]) fun _ _ _ _ zJ zQ zo zx zy zK=>Zp (m:=n) (news:=(L.map (Value.int .i64))) (.int .i64 0) 1 8 ((n+1)) (((no::L).map (Value.int .i64))) zo Tryz.underlying30 (by kernel_rfl) rfl (by decide) zx o25 zy (hS.below hB) (by simp[hL]) (Kl L) (by unfold maxLen;omega) (by omega) hB.size (by omega) (by rfl) fun px26 cx26 W26 o26 hg26 hb26=>?_
  refine zK _ _ (Zr hb26 hg26 o25 (by decide)) ?_
  have k2:=((n2.blk.below (Za W2)).below n24.below).grown hg26 o25 (by decide)
  have g2:=n2.ge n1.below
  refine ysv (.o [7] 8) k2 [.slice px26 (n+1) cx26,.int .i64 er] (.t w.heap.size [3,43]) fun W27 u27 k27=>⟨(Zi u27 k2 g2 (by decide)),?_⟩
  have hB'7:=u27.below (hB.trans hb26) g2
  have o26'1:=u27.own2 o26 k2 (by decide)
  exact xec 3 k27 (.agg #[.slice px26 (n+1) cx26,.int .i64 er]) ⟨_,rfl,hB'7,_,_,rfl,o26'1⟩
 refine xb 0 0 k1'8 ?_
 refine xbs (.o [] 1) 1 [.int .i64 no] 3 fun b28 W28 n28=>?_
 have g28:=n28.ge (bln (bln n1.below n2.below) (Za W2))
 have o29:=Zw (size:=1) (n:=1) n28.blk g28 rfl (by decide)
 have hB:=bln (bln (bln n1.below n2.below) (Za W2)) n28.below
 refine ybi (.o [] 4) (.t w.heap.size [3,43]) fun _ _ _ _ zJ zQ zo zx zy zK=>Zp (m:=n) (news:=(L.map (Value.int .i64))) (.int .i64 0) 1 8 ((n+1)) (((no::L).map (Value.int .i64))) zo Tryz.underlying30 (by kernel_rfl) rfl (by decide) zx o29 zy (hS.below hB) (by simp[hL]) (Kl L) (by unfold maxLen;omega) (by omega) hB.size (by omega) (by rfl) fun px30 cx30 W30 o30 hg30 hb30=>?_
 refine zK _ _ (Zr hb30 hg30 o29 (by decide)) ?_
 have k2:=((n2.blk.below (Za W2)).below n28.below).grown hg30 o29 (by decide)
 have g2:=n2.ge n1.below
 refine ysv (.o [7] 8) k2 [.slice px30 (n+1) cx30,.int .i64 er] (.t w.heap.size [3,43]) fun W31 u31 k31=>⟨(Zi u31 k2 g2 (by decide)),?_⟩
 have hB'8:=u31.below (hB.trans hb30) g2
 have o30'1:=u31.own2 o30 k2 (by decide)
 exact xec 3 k31 (.agg #[.slice px30 (n+1) cx30,.int .i64 er]) ⟨_,rfl,hB'8,_,_,rfl,o30'1⟩
theorem drop_pred{way:List Int}{i:Nat}(h:0<i∧i≤way.length):way.getD (i-1) 0::way.drop i=way.drop (i-1):=by
 obtain⟨j,rfl⟩:∃ j,i=j+1:=⟨i-1,by omega⟩
 rw[show j+1-1=j by omega,List.drop_eq_getElem_cons (show j<way.length by omega)]
 simp[List.getD,show j<way.length by omega]
theorem ref14_wrap(B:Nat)(wa:Option Addr)(wc:Nat)(way:List Int)(er:Int)(a0:Option Addr)(n0 c0:Nat)(L:List Int)(w:World)(hBw:B≤w.heap.size)(he:er≠0)(hw:Ints w (.slice wa way.length wc) way)(hwl:way.length≤100000)(hL:L.length=n0)(hn:n0≤100000)(h0:w.ownsRow B 3 1 (.slice a0 n0 c0) n0 (L.map (Value.int .i64))) :
 Calls Tryz.prog 97 #[.slice wa way.length wc,.agg #[.slice a0 n0 c0,.int .i64 er]] w (Vn (fun w' r=>∃ a n c,r=.agg #[.slice a n c,.int .i64 er]∧n=way.length+n0∧w'.ownsRow B 3 1 (.slice a n c) n ((way++L).map (Value.int .i64))) w):=by
 refine zin 20 Tryz.func97 ?_
 refine xa 2 [.slice a0 n0 c0,.int .i64 er] 43 fun b1 W1 n1=>?_
 refine xa 0 [.slice none 0 0,.int .i64 0] 43 fun b2 W2 n2=>?_
 have d2_b1:=n2.ne n1.blk
 refine xw 7 ((↑way.length:Int)-1) ?_
 have h0'1:=Zb (Zb h0 n1.below) n2.below
 have hB:=bln n1.below n2.below
 have k1'1:=n1.blk.below n2.below
 refine zl 4 20 (fun zm zkv V=>∃ (i nf:Nat) (af:Option Addr) (cf:Nat),zkv=[(0,.slice wa way.length wc),(3,.pointer (some ⟨b1,0,none⟩)),(4,.pointer (some ⟨b2,0,none⟩)),(5,.int .i64 ((↑i:Int)-1))]∧zm=(((↑i:Int)-1)+1).toNat∧Below w.heap.size w V∧Blk V b1 ([.slice af nf cf,.int .i64 er]) 43∧Blk V b2 ([.slice none 0 0,.int .i64 0]) 43∧V.ownsRow B 3 1 (.slice af nf cf) nf ((way.drop i++L).map (Value.int .i64))∧i≤way.length∧nf=way.length-i+L.length) ⟨way.length,n0,a0,c0,rfl,rfl,hB,k1'1,n2.blk,by rw[List.drop_length,List.nil_append];exact h0'1,Nat.le_refl _,by omega⟩ ?_
 rintro _ _ W3 ⟨i,nf,af,cf,rfl,rfl,hB_3,k3_b1,k3_b2,hf,hi,hnf⟩ J3 hJ3 r3
 refine xid 7 ((↑i:Int)-1≥(0:Int)) (fun hc4=>?_) (fun hc4=>?_)
 ·refine xd 4 (.t w.heap.size [43]) ?_
  refine xia (.e [0,1] 2) (fun _ _ _ _ zo zx zy V=>Bz (size:=1) (k:=(i-1)) (b:=wa) (n:=way.length) (c:=wc) (i:=((↑i:Int)-1)) (ki:=.i64) zo zx zy (by omega) (by omega) (Ints.elem hw (k:=(i-1)) (by omega)).1 Tryz.underlying30 (by kernel_rfl) V) ?_
  have hB'1:=bln hB_3 (Za W3)
  refine xlt (.e [] 3) (.t w.heap.size [43]) (fun V hV=>(Ints.elem (hw.below (Ky hB'1 hV (Nat.le_refl _))) (k:=(i-1)) (by omega)).2) ?_
  have k3_b1'1:=k3_b1.below (Za W3)
  refine xlv (.o [] 4) k3_b1'1.rp ?_
  have hf'1:=Zb hf (Za W3)
  refine yc (.o [] 5) (args:=#[.int .i64 (way.getD (i-1) 0),.agg #[.slice af nf cf,.int .i64 er]]) (.t w.heap.size [43]) (Zdc (way.getD (i-1) 0) er af nf cf (way.drop i++L) _ he (by simp;omega) (by omega) (Zf hf'1)) ?_
  rintro _ W5 ⟨_,rfl,hb5,p5,c5,rfl,ho5⟩
  refine⟨(SF.of_below _ hb5),?_⟩
  have k3_b1'2:=k3_b1'1.below hb5
  have g1:=n1.ge (Below.refl w.heap.size _)
  refine ysv (.o [] 6) k3_b1'2 [.slice p5 (nf+1) c5,.int .i64 er] (.t w.heap.size [43]) fun W6 u6 k6=>⟨(Zi u6 k3_b1'2 g1 (by decide)),?_⟩
  refine xq 5 (congrArg (Value.int .i64) (show IntKind.i64.wrap ((↑i:Int)-1-1)=((↑(i-1:Nat):Int)-1) from(show IntKind.i64.wrap ((↑i:Int)-1-1)=((↑i:Int)-1-1) from by first|exact IntWalk.i64_in _ (by omega)|(simp only[IntKind.wrap];omega)).trans (by omega))) ?_
  have ho5'1:=u6.own2 (Zd ho5 hB'1.size) k3_b1'2 (by decide)
  have hB'2:=u6.below (bln hB'1 hb5) g1
  have k3_b2'1:=u6.blk ((k3_b2.below (Za W3)).below hb5) (Ne.symm d2_b1)
  exact ze 2 (hJ3 _ _ _ ⟨i-1,_,_,_,rfl,rfl,hB'2,k6,k3_b2'1,(by have q:=Zd ho5'1 hBw;rw[show way.getD (i-1) 0::(way.drop i++L)=way.drop (i-1)++L from by rw[←List.cons_append,drop_pred (by omega)]] at q;exact q),by omega,by omega⟩ (by omega))
 refine xlv 7 k3_b1.rp ?_
 refine xsv 0 k3_b2 [.slice af nf cf,.int .i64 er] fun W7 u7 k7=>?_
 have g2:=n2.ge n1.below
 have hB'3:=u7.below hB_3 g2
 have hf'2:=u7.own2 hf k3_b2 (by decide)
 refine xec 3 k7 (.agg #[.slice af nf cf,.int .i64 er]) ?_
 obtain rfl:i=0:=by omega
 exact⟨_,rfl,hB'3,_,_,_,rfl,by omega,hf'2⟩
def RBlkNodeP(l:List UInt8)(no tree:Int)(w:World)(e:Ending)(w':World):Prop :=
 (Xc l no tree≠0∧∃ a c,e=.returned (.tuple #[.agg #[.int .i64 0,.bool false,.slice none 0 0,.slice none 0 0],.agg #[.slice a 1 c,.int .i64 (Xc l no tree)]])∧Below w.heap.size w w'∧w'.ownsRow w.heap.size 3 1 (.slice a 1 c) 1 [.int .i64 no]) ∨
 (Xc l no tree=0∧∃ kp kc vp vc,e=.returned (.tuple #[.agg #[.int .i64 (Xr (inB l no)),.bool (Xl (inB l no)),.slice kp (Zn (inB l no)) kc,.slice vp (Zn (inB l no)) vc],.agg #[.slice none 0 0,.int .i64 0]])∧Below w.heap.size w w'∧w'.ownsRow w.heap.size 3 1 (.slice kp (Zn (inB l no)) kc) (Zn (inB l no)) ((Yx (inB l no) (Zn (inB l no))).map (Value.int .i64))∧w'.ownsRow w.heap.size 9 1 (.slice vp (Zn (inB l no)) vc) (Zn (inB l no)) ((Kw (inB l no) (Zn (inB l no))).map sv))
theorem ref11_Node(B bm:Nat)(p:Option Addr)(k c:Nat)(l:List UInt8)(no tree:Int)(w:World)(hI:RefI B bm p k c l w) :
 Calls Tryz.prog 147 #[.pointer (some ⟨bm,0,none⟩),.int .i64 no,.int .i64 tree] w (RBlkNodeP l no tree w):=by
 refine zin 48 Tryz.func147 ?_
 refine xa 2 [.int .i64 0,.bool false,.slice none 0 0,.slice none 0 0] 188 fun b1 W1 n1=>?_
 refine xa 0 [.slice none 0 0,.int .i64 0] 43 fun b2 W2 n2=>?_
 have hI'1:=(hI.below n1.below).below n2.below
 refine xc 6 (args:=#[.pointer (some ⟨bm,0,none⟩),.int .i64 no,.int .i64 2]) (Zaf B bm p k c l _ hI'1 no 2) ?_
 rintro e W3 hq3
 rcases hq3 with ⟨hse,rfl,hb3⟩|⟨hse,hil,p3,c3,rfl,hb3,h3⟩
 ·refine xk 14 (show(((inE l 2 no) != (0:Int)):Bool)=true from bne_iff_ne.2 hse) ?_
  refine xc 5 (args:=#[.int .i64 no,.int .i64 (inE l 2 no)]) (Kh no (inE l 2 no) _ hse) ?_
  rintro _ W4 ⟨_,rfl,hb4,a5,c5,rfl,hs5⟩
  have hs4:=(bln (bln n1.below n2.below) hb3).size
  have k1:=((n1.blk.below n2.below).below hb3).below hb4
  refine xsv 0 k1 [.int .i64 0,.bool false,.slice none 0 0,.slice none 0 0] fun W5 u5 k5=>?_
  have g1:=n1.ge (Below.refl w.heap.size _)
  have k2:=u5.blkT ((n2.blk.below hb3).below hb4) k1 (by decide)
  refine xsv 0 k2 [.slice a5 1 c5,.int .i64 (inE l 2 no)] fun W6 u6 k6=>?_
  have g2:=n2.ge n1.below
  have hB:=u6.below (u5.below (bln (bln (bln n1.below n2.below) hb3) hb4) g1) g2
  have hs5'1:=u6.own2 (u5.own2 (Zd hs5 hs4) k1 (by decide)) k2 (by decide)
  have k5'1:=u6.blkT k5 k2 (by decide)
  refine Tn 4 [(b1,[.int .i64 0,.bool false,.slice none 0 0,.slice none 0 0]),(b2,[.slice a5 1 c5,.int .i64 (inE l 2 no)])] ⟨⟨_,k5'1⟩,⟨_,k6⟩,trivial⟩ (.tuple #[.agg #[.int .i64 0,.bool false,.slice none 0 0,.slice none 0 0],.agg #[.slice a5 1 c5,.int .i64 (inE l 2 no)]]) ?_
  have he:Xc l no tree=(inE l 2 no):=by unfold Xc;rw[if_neg hse]
  exact .inl ⟨by rw[he];exact hse,_,_,by rw[he],hB,hs5'1⟩
 have hs3:=(bln n1.below n2.below).size
 have h3'1:=Zd h3 hs3
 refine xc 20 (args:=#[.slice p3 244 c3]) (ref07_Read p3 c3 (inB l no) _ hil (Qk (Zf h3'1) hil)) ?_
 rintro e W7 hq7
 rcases hq7 with ⟨hz,rfl,hb7⟩|⟨hz,kp,kc,vp,vc,rfl,hb7,hk,hv_⟩
 ·refine xa 3 [.int .i64 0,.bool false,.slice none 0 0,.slice none 0 0] 188 fun b8 W8 n8=>?_
  have k1:=((n1.blk.below n2.below).below hb3).below hb7
  have d8_b1:=n8.ne k1
  refine xsv 0 n8.blk [.int .i64 0,.bool false,.slice none 0 0,.slice none 0 0] fun W9 u9 k9=>?_
  have g8:=n8.ge (bln (bln (bln n1.below n2.below) hb3) hb7)
  refine xk 10 (show(((Yv (inB l no)) != (0:Int)):Bool)=true from bne_iff_ne.2 hz) ?_
  refine xc 5 (args:=#[.int .i64 no,.int .i64 (Yv (inB l no))]) (Kh no (Yv (inB l no)) _ hz) ?_
  rintro _ W10 ⟨_,rfl,hb10,a5,c5,rfl,hs5⟩
  have hs10:=(u9.below (bln (bln (bln (bln n1.below n2.below) hb3) hb7) n8.below) g8).size
  have k1'1:=(u9.blk (k1.below n8.below) (Ne.symm (Ne.symm d8_b1))).below hb10
  refine xsv 0 k1'1 [.int .i64 0,.bool false,.slice none 0 0,.slice none 0 0] fun W11 u11 k11=>?_
  have g1:=n1.ge (Below.refl w.heap.size _)
  have k2:=u11.blkT ((u9.blkT (((n2.blk.below hb3).below hb7).below n8.below) n8.blk (by decide)).below hb10) k1'1 (by decide)
  refine xsv 0 k2 [.slice a5 1 c5,.int .i64 (Yv (inB l no))] fun W12 u12 k12=>?_
  have g2:=n2.ge n1.below
  have hB:=u12.below (u11.below (bln (u9.below (bln (bln (bln (bln n1.below n2.below) hb3) hb7) n8.below) g8) hb10) g1) g2
  have hs5'2:=u12.own2 (u11.own2 (Zd hs5 hs10) k1'1 (by decide)) k2 (by decide)
  have k11'1:=u12.blkT k11 k2 (by decide)
  refine Tn 4 [(b1,[.int .i64 0,.bool false,.slice none 0 0,.slice none 0 0]),(b2,[.slice a5 1 c5,.int .i64 (Yv (inB l no))])] ⟨⟨_,k11'1⟩,⟨_,k12⟩,trivial⟩ (.tuple #[.agg #[.int .i64 0,.bool false,.slice none 0 0,.slice none 0 0],.agg #[.slice a5 1 c5,.int .i64 (Yv (inB l no))]]) ?_
  have he:Xc l no tree=(Yv (inB l no)):=by unfold Xc Qp;rw[if_pos hse,if_neg hz]
  exact .inl ⟨by rw[he];exact hz,_,_,by rw[he],hB,hs5'2⟩
 have hs7:=(bln (bln n1.below n2.below) hb3).size
 refine xa 3 [.int .i64 0,.bool false,.slice none 0 0,.slice none 0 0] 188 fun b13 W13 n13=>?_
 have k1:=((n1.blk.below n2.below).below hb3).below hb7
 have d13_b1:=n13.ne k1
 refine xsv 0 n13.blk [.int .i64 (Xr (inB l no)),.bool (Xl (inB l no)),.slice kp (Zn (inB l no)) kc,.slice vp (Zn (inB l no)) vc] fun W14 u14 k14=>?_
 have g13:=n13.ge (bln (bln (bln n1.below n2.below) hb3) hb7)
 refine xg 19 [36,37] (tree != (0:Int)) (fun hc15=>?_) (fun hc15=>?_)
 ·have hc15:=Qx hc15
  refine xb 1 0 k14 ?_
  refine xin 5 (Xr (inB l no)) tree (fun hc16=>?_) (fun hc16=>?_)
  ·refine xc 4 (args:=#[.int .i64 no,.int .i64 6]) (Kh no 6 _ (by decide)) ?_
   rintro _ W17 ⟨_,rfl,hb17,a5,c5,rfl,hs5⟩
   have hs17:=(u14.below (bln (bln (bln (bln n1.below n2.below) hb3) hb7) n13.below) g13).size
   have k1'2:=(u14.blk (k1.below n13.below) (Ne.symm (Ne.symm d13_b1))).below hb17
   refine xsv 0 k1'2 [.int .i64 0,.bool false,.slice none 0 0,.slice none 0 0] fun W18 u18 k18=>?_
   have g1:=n1.ge (Below.refl w.heap.size _)
   have k2:=u18.blkT ((u14.blkT (((n2.blk.below hb3).below hb7).below n13.below) n13.blk (by decide)).below hb17) k1'2 (by decide)
   refine xsv 0 k2 [.slice a5 1 c5,.int .i64 6] fun W19 u19 k19=>?_
   have g2:=n2.ge n1.below
   have hB:=u19.below (u18.below (bln (u14.below (bln (bln (bln (bln n1.below n2.below) hb3) hb7) n13.below) g13) hb17) g1) g2
   have hs5'3:=u19.own2 (u18.own2 (Zd hs5 hs17) k1'2 (by decide)) k2 (by decide)
   have k18'1:=u19.blkT k18 k2 (by decide)
   refine Tn 4 [(b1,[.int .i64 0,.bool false,.slice none 0 0,.slice none 0 0]),(b2,[.slice a5 1 c5,.int .i64 6])] ⟨⟨_,k18'1⟩,⟨_,k19⟩,trivial⟩ (.tuple #[.agg #[.int .i64 0,.bool false,.slice none 0 0,.slice none 0 0],.agg #[.slice a5 1 c5,.int .i64 6]]) ?_
   have he:Xc l no tree=6:=by unfold Xc Qp;rw[if_pos hse,if_pos hz,if_neg (by omega)]
   exact .inl ⟨by rw[he];decide,_,_,by rw[he],hB,hs5'3⟩
  refine xlv 4 k14.rp ?_
  have k1'3:=u14.blk (k1.below n13.below) (Ne.symm (Ne.symm d13_b1))
  refine xsv 1 k1'3 [.int .i64 (Xr (inB l no)),.bool (Xl (inB l no)),.slice kp (Zn (inB l no)) kc,.slice vp (Zn (inB l no)) vc] fun W20 u20 k20=>?_
  have g1:=n1.ge (Below.refl w.heap.size _)
  have k2:=u20.blkT (u14.blkT (((n2.blk.below hb3).below hb7).below n13.below) n13.blk (by decide)) k1'3 (by decide)
  refine xsv 0 k2 [.slice none 0 0,.int .i64 0] fun W21 u21 k21=>?_
  have g2:=n2.ge n1.below
  have hB:=u21.below (u20.below (u14.below (bln (bln (bln (bln n1.below n2.below) hb3) hb7) n13.below) g13) g1) g2
  have hk'1:=u21.own2 (u20.own2 (u14.own2 (Zb (Zd hk hs7) n13.below) n13.blk (by decide)) k1'3 (by decide)) k2 (by decide)
  have hv_'1:=u21.own2 (u20.own2 (u14.own2 (Zb (Zd hv_ hs7) n13.below) n13.blk (by decide)) k1'3 (by decide)) k2 (by decide)
  have k20'1:=u21.blkT k20 k2 (by decide)
  exact Tn 3 [(b1,[.int .i64 (Xr (inB l no)),.bool (Xl (inB l no)),.slice kp (Zn (inB l no)) kc,.slice vp (Zn (inB l no)) vc]),(b2,[.slice none 0 0,.int .i64 0])] ⟨⟨_,k20'1⟩,⟨_,k21⟩,trivial⟩ (.tuple #[.agg #[.int .i64 (Xr (inB l no)),.bool (Xl (inB l no)),.slice kp (Zn (inB l no)) kc,.slice vp (Zn (inB l no)) vc],.agg #[.slice none 0 0,.int .i64 0]]) (.inr ⟨by unfold Xc Qp;rw[if_pos hse,if_pos hz,if_pos (by omega)],_,_,_,_,rfl,hB,hk'1,hv_'1⟩)
 have hc15:=Xk hc15
 refine xlv 12 k14.rp ?_
 have k1'4:=u14.blk (k1.below n13.below) (Ne.symm (Ne.symm d13_b1))
 refine xsv 1 k1'4 [.int .i64 (Xr (inB l no)),.bool (Xl (inB l no)),.slice kp (Zn (inB l no)) kc,.slice vp (Zn (inB l no)) vc] fun W22 u22 k22=>?_
 have g1:=n1.ge (Below.refl w.heap.size _)
 have k2:=u22.blkT (u14.blkT (((n2.blk.below hb3).below hb7).below n13.below) n13.blk (by decide)) k1'4 (by decide)
 refine xsv 0 k2 [.slice none 0 0,.int .i64 0] fun W23 u23 k23=>?_
 have g2:=n2.ge n1.below
 have hB:=u23.below (u22.below (u14.below (bln (bln (bln (bln n1.below n2.below) hb3) hb7) n13.below) g13) g1) g2
 have hk'2:=u23.own2 (u22.own2 (u14.own2 (Zb (Zd hk hs7) n13.below) n13.blk (by decide)) k1'4 (by decide)) k2 (by decide)
 have hv_'2:=u23.own2 (u22.own2 (u14.own2 (Zb (Zd hv_ hs7) n13.below) n13.blk (by decide)) k1'4 (by decide)) k2 (by decide)
 have k22'1:=u23.blkT k22 k2 (by decide)
 exact Tn 3 [(b1,[.int .i64 (Xr (inB l no)),.bool (Xl (inB l no)),.slice kp (Zn (inB l no)) kc,.slice vp (Zn (inB l no)) vc]),(b2,[.slice none 0 0,.int .i64 0])] ⟨⟨_,k22'1⟩,⟨_,k23⟩,trivial⟩ (.tuple #[.agg #[.int .i64 (Xr (inB l no)),.bool (Xl (inB l no)),.slice kp (Zn (inB l no)) kc,.slice vp (Zn (inB l no)) vc],.agg #[.slice none 0 0,.int .i64 0]]) (.inr ⟨by unfold Xc Qp;rw[if_pos hse,if_pos hz,if_pos (by omega)],_,_,_,_,rfl,hB,hk'2,hv_'2⟩)
theorem ref14_has(a:Option Addr)(c:Nat)(l:List Int)(x:Int)(w:World)(h:Ints w (.slice a l.length c) l)(hln:l.length≤1000000) :
 Calls Tryz.prog 146 #[.slice a l.length c,.int .i64 x] w (Ret (.bool (Va l x)) w):=by
 refine zin 18 Tryz.func146 ?_
 have hB:=Below.refl w.heap.size w
 refine zl 12 18 (fun zm zkv V=>∃ (i:Nat),zkv=[(0,.slice a l.length c),(1,.int .i64 x),(5,.int .i64 (↑i:Int))]∧zm=l.length-((↑i:Int)).toNat∧Below w.heap.size w V∧i≤l.length∧(∀ j,j<i→x≠l.getD j 0)) ⟨0,rfl,rfl,hB,Nat.zero_le _,?_⟩ ?_
 ·exact fun j hj=>absurd hj (by omega)
 rintro _ _ W1 ⟨i,rfl,rfl,hB_1,hi,hz⟩ J1 hJ1 r1
 refine xid 9 ((↑i:Int)<(↑l.length:Int)) (fun hc2=>?_) (fun hc2=>?_)
 ·refine xx 8 _ l.length i 1 (Ints.elem h (k:=i) (by omega)).1 ?_
  refine xl 0 ((Ints.elem (h.below hB_1) (k:=i) (by omega)).2) ?_
  refine xie 4 (l.getD i 0) x (fun hc3=>?_) (fun hc3=>?_)
  ·refine xe 11 (.bool true) ?_
   rw[Zbm (i:=i) (by omega) (by omega)];exact⟨rfl,hB_1⟩
  refine xwm 5 ((↑i:Int)+1) (↑(i+1):Int) ?_
  exact ze 2 (hJ1 _ _ _ ⟨i+1,rfl,rfl,hB_1,by omega,fun j hj=>(Nat.lt_or_ge j i).elim (hz j) (fun q=>by obtain rfl:j=i:=(by omega);omega)⟩ (by omega))
 refine xe 11 (.bool false) ?_
 rw[Ij (fun j hj=>hz j (by omega))];exact⟨rfl,hB_1⟩
def Zgj(l:List UInt8)(way:List Int)(no tree lo hi deep:Int)(w:World)(e:Ending)(w':World):Prop :=
 (Zx l way no tree lo hi deep≠0∧∃ a4 b4 k4 n4 c4 v4 m4 d4 a c,e=.returned (.tuple #[.agg #[.int .i64 a4,.bool b4,.slice k4 n4 c4,.slice v4 m4 d4],.agg #[.slice a 1 c,.int .i64 (Zx l way no tree lo hi deep)]])∧Below w.heap.size w w'∧w'.ownsRow w.heap.size 3 1 (.slice a 1 c) 1 [.int .i64 no]) ∨
 (Zx l way no tree lo hi deep=0∧∃ kp kc vp vc,e=.returned (.tuple #[.agg #[.int .i64 (Xr (inB l no)),.bool (Xl (inB l no)),.slice kp (Zn (inB l no)) kc,.slice vp (Zn (inB l no)) vc],.agg #[.slice none 0 0,.int .i64 0]])∧Below w.heap.size w w'∧w'.ownsRow w.heap.size 3 1 (.slice kp (Zn (inB l no)) kc) (Zn (inB l no)) ((Yx (inB l no) (Zn (inB l no))).map (Value.int .i64))∧w'.ownsRow w.heap.size 9 1 (.slice vp (Zn (inB l no)) vc) (Zn (inB l no)) ((Kw (inB l no) (Zn (inB l no))).map sv))
theorem ref14_look(B bm:Nat)(p:Option Addr)(k c:Nat)(l:List UInt8)(no tree:Int)(lo hi deep:Int)(way:List Int)(wa:Option Addr)(wc:Nat)(ft:Value)(w:World)(hI:RefI B bm p k c l w)(hw:Ints w (.slice wa way.length wc) way)(hwl:way.length≤100000)(hr:Qn lo hi=true) :
 Calls Tryz.prog 98 #[.pointer (some ⟨bm,0,none⟩),.agg #[.int .i64 no,.int .i64 lo,.int .i64 hi,.slice wa way.length wc,ft],.int .i64 tree,.int .i64 deep] w (Zgj l way no tree lo hi deep w):=by
 refine zin 84 Tryz.func98 ?_
 refine xa 2 [.int .i64 no,.int .i64 lo,.int .i64 hi,.slice wa way.length wc,ft] 184 fun b1 W1 n1=>?_
 refine xa 0 [.int .i64 0,.bool false,.slice none 0 0,.slice none 0 0] 188 fun b2 W2 n2=>?_
 refine xa 0 [.slice none 0 0,.int .i64 0] 43 fun b3 W3 n3=>?_
 have k1:=(n1.blk.below n2.below).below n3.below
 refine xb 6 3 k1 ?_
 refine xb 1 0 k1 ?_
 have hB:=bln (bln n1.below n2.below) n3.below
 refine xr 0 (args:=#[.slice wa way.length wc,.int .i64 no]) (ref14_has wa wc way no _ (hw.below hB) (by omega)) fun W4 hb4=>?_
 refine xi 2 (Va way no) (fun hc5=>?_) (fun hc5=>?_)
 ·have hh:Va way no=true:=hc5
  have k1'1:=k1.below hb4
  refine xb 4 0 k1'1 ?_
  refine xc 0 (args:=#[.int .i64 no,.int .i64 11]) (Kh no 11 _ (by decide)) ?_
  rintro _ W6 ⟨_,rfl,hb6,a5,c5,rfl,hs5⟩
  have hs6:=(bln hB hb4).size
  have k2:=((n2.blk.below n3.below).below hb4).below hb6
  refine xsv 0 k2 [.int .i64 0,.bool false,.slice none 0 0,.slice none 0 0] fun W7 u7 k7=>?_
  have g2:=n2.ge n1.below
  have k3:=u7.blkT ((n3.blk.below hb4).below hb6) k2 (by decide)
  refine xsv 0 k3 [.slice a5 1 c5,.int .i64 11] fun W8 u8 k8=>?_
  have g3:=n3.ge (bln n1.below n2.below)
  have hB'1:=u8.below (u7.below (bln (bln hB hb4) hb6) g2) g3
  have hs5'1:=u8.own2 (u7.own2 (Zd hs5 hs6) k2 (by decide)) k3 (by decide)
  have k7'1:=u8.blkT k7 k3 (by decide)
  refine Tn 4 [(b2,[.int .i64 0,.bool false,.slice none 0 0,.slice none 0 0]),(b3,[.slice a5 1 c5,.int .i64 11])] ⟨⟨_,k7'1⟩,⟨_,k8⟩,trivial⟩ (.tuple #[.agg #[.int .i64 0,.bool false,.slice none 0 0,.slice none 0 0],.agg #[.slice a5 1 c5,.int .i64 11]]) ?_
  have he:(Zx l way no tree lo hi deep)=11:=by unfold Zx;rw[if_pos hh]
  exact .inl ⟨by rw[he];decide,_,_,_,_,_,_,_,_,_,_,by rw[he],hB'1,hs5'1⟩
 have hh:Va way no=false:=hc5
 have k1'2:=k1.below hb4
 refine xb 6 3 k1'2 ?_
 refine xwm 1 ((↑way.length:Int)+1) (↑(way.length+1):Int) ?_
 refine xid 3 ((↑(way.length+1):Int)>(16:Int)) (fun hc9=>?_) (fun hc9=>?_)
 ·refine xb 4 0 k1'2 ?_
  refine xc 0 (args:=#[.int .i64 no,.int .i64 10]) (Kh no 10 _ (by decide)) ?_
  rintro _ W10 ⟨_,rfl,hb10,a5,c5,rfl,hs5⟩
  have hs10:=(bln hB hb4).size
  have k2:=((n2.blk.below n3.below).below hb4).below hb10
  refine xsv 0 k2 [.int .i64 0,.bool false,.slice none 0 0,.slice none 0 0] fun W11 u11 k11=>?_
  have g2:=n2.ge n1.below
  have k3:=u11.blkT ((n3.blk.below hb4).below hb10) k2 (by decide)
  refine xsv 0 k3 [.slice a5 1 c5,.int .i64 10] fun W12 u12 k12=>?_
  have g3:=n3.ge (bln n1.below n2.below)
  have hB'2:=u12.below (u11.below (bln (bln hB hb4) hb10) g2) g3
  have hs5'2:=u12.own2 (u11.own2 (Zd hs5 hs10) k2 (by decide)) k3 (by decide)
  have k11'1:=u12.blkT k11 k3 (by decide)
  refine Tn 4 [(b2,[.int .i64 0,.bool false,.slice none 0 0,.slice none 0 0]),(b3,[.slice a5 1 c5,.int .i64 10])] ⟨⟨_,k11'1⟩,⟨_,k12⟩,trivial⟩ (.tuple #[.agg #[.int .i64 0,.bool false,.slice none 0 0,.slice none 0 0],.agg #[.slice a5 1 c5,.int .i64 10]]) ?_
  have he:(Zx l way no tree lo hi deep)=10:=by unfold Zx;rw[if_neg (by rw[hh];decide),if_pos (by omega)]
  exact .inl ⟨by rw[he];decide,_,_,_,_,_,_,_,_,_,_,by rw[he],hB'2,hs5'2⟩
 refine xb 6 0 k1'2 ?_
 have hI'1:=(((hI.below n1.below).below n2.below).below n3.below).below hb4
 refine xc 1 (args:=#[.pointer (some ⟨bm,0,none⟩),.int .i64 no,.int .i64 tree]) (ref11_Node B bm p k c l no tree _ hI'1) ?_
 rintro e W13 hq13
 rcases hq13 with ⟨hne,a3,c3,rfl,hb13,hs3⟩|⟨hne,kp,kc,vp,vc,rfl,hb13,hk,hv_⟩
 ·have hs13:=(bln hB hb4).size
  refine xa 3 [.int .i64 0,.bool false,.slice none 0 0,.slice none 0 0] 188 fun b14 W14 n14=>?_
  have k2:=((n2.blk.below n3.below).below hb4).below hb13
  have d14_b2:=n14.ne k2
  have hB'3:=bln (bln hB hb4) hb13
  have g14:=n14.ge hB'3
  refine xa 0 [.slice none 0 0,.int .i64 0] 43 fun b15 W15 n15=>?_
  have k3:=((n3.blk.below hb4).below hb13).below n14.below
  have d15_b3:=n15.ne k3
  have hB'4:=bln hB'3 n14.below
  have g15:=n15.ge hB'4
  have k14:=n14.blk.below n15.below
  refine xsv 0 k14 [.int .i64 0,.bool false,.slice none 0 0,.slice none 0 0] fun W16 u16 k16=>?_
  have k15:=u16.blkT n15.blk k14 (by decide)
  refine xsv 0 k15 [.slice a3 1 c3,.int .i64 (Xc l no tree)] fun W17 u17 k17=>?_
  refine xb 6 1 k17 ?_
  refine xk 3 (show(((Xc l no tree) != (0:Int)):Bool)=true from bne_iff_ne.2 hne) ?_
  refine xd 1 (.t w.heap.size [188,43]) ?_
  refine xm2 0 0 1 ?_ ?_
  ·have k16'1:=(u17.blkT k16 k15 (by decide)).below (Za W17)
   refine xlv 0 k16'1.rp ?_
   refine xm2 0 1 2 ?_ ?_
   ·have k17'1:=k17.below (Za W17)
    refine xlv 0 k17'1.rp ?_
    have k2'1:=(u17.blkT (u16.blk ((k2.below n14.below).below n15.below) (Ne.symm (Ne.symm d14_b2))) k15 (by decide)).below (Za W17)
    have g2:=n2.ge n1.below
    refine ysv (.o [] 2) k2'1 [.int .i64 0,.bool false,.slice none 0 0,.slice none 0 0] (.t w.heap.size [188,43]) fun W18 u18 k18=>⟨(Zi u18 k2'1 g2 (by decide)),?_⟩
    have k3'1:=u18.blkT ((u17.blk (u16.blkT (k3.below n15.below) k14 (by decide)) (Ne.symm (Ne.symm d15_b3))).below (Za W17)) k2'1 (by decide)
    have g3:=n3.ge (bln n1.below n2.below)
    refine ysv (.o [] 3) k3'1 [.slice a3 1 c3,.int .i64 (Xc l no tree)] (.t w.heap.size [188,43]) fun W19 u19 k19=>⟨(Zi u19 k3'1 g3 (by decide)),?_⟩
    have hB'5:=u19.below (u18.below (bln (u17.below (u16.below (bln hB'4 n15.below) g14) g15) (Za W17)) g2) g3
    have hs3'1:=u19.own2 (u18.own2 (Zb (u17.own2 (u16.own2 (Zb (Zb (Zd hs3 hs13) n14.below) n15.below) k14 (by decide)) k15 (by decide)) (Za W17)) k2'1 (by decide)) k3'1 (by decide)
    have k18'1:=u19.blkT k18 k3'1 (by decide)
    refine Tn 4 [(b2,[.int .i64 0,.bool false,.slice none 0 0,.slice none 0 0]),(b3,[.slice a3 1 c3,.int .i64 (Xc l no tree)])] ⟨⟨_,k18'1⟩,⟨_,k19⟩,trivial⟩ (.tuple #[.agg #[.int .i64 0,.bool false,.slice none 0 0,.slice none 0 0],.agg #[.slice a3 1 c3,.int .i64 (Xc l no tree)]]) ?_
    have he:(Zx l way no tree lo hi deep)=Xc l no tree:=by unfold Zx;rw[if_neg (by rw[hh];decide),if_neg (by omega),if_pos hne]
    exact .inl ⟨by rw[he];exact hne,_,_,_,_,_,_,_,_,_,_,by rw[he],hB'5,hs3'1⟩
   have k2'2:=(u17.blkT (u16.blk ((k2.below n14.below).below n15.below) (Ne.symm (Ne.symm d14_b2))) k15 (by decide)).below (Za W17)
   have g2:=n2.ge n1.below
   refine ysv 0 k2'2 [.int .i64 0,.bool false,.slice none 0 0,.slice none 0 0] (.t w.heap.size [188,43]) fun W20 u20 k20=>⟨(Zi u20 k2'2 g2 (by decide)),?_⟩
   have k17'2:=u20.blkT (k17.below (Za W17)) k2'2 (by decide)
   refine xlv (.o [] 1) k17'2.rp ?_
   have k3'2:=u20.blkT ((u17.blk (u16.blkT (k3.below n15.below) k14 (by decide)) (Ne.symm (Ne.symm d15_b3))).below (Za W17)) k2'2 (by decide)
   have g3:=n3.ge (bln n1.below n2.below)
   refine ysv (.o [] 3) k3'2 [.slice a3 1 c3,.int .i64 (Xc l no tree)] (.t w.heap.size [188,43]) fun W21 u21 k21=>⟨(Zi u21 k3'2 g3 (by decide)),?_⟩
   have hB'6:=u21.below (u20.below (bln (u17.below (u16.below (bln hB'4 n15.below) g14) g15) (Za W17)) g2) g3
   have hs3'2:=u21.own2 (u20.own2 (Zb (u17.own2 (u16.own2 (Zb (Zb (Zd hs3 hs13) n14.below) n15.below) k14 (by decide)) k15 (by decide)) (Za W17)) k2'2 (by decide)) k3'2 (by decide)
   have k20'1:=u21.blkT k20 k3'2 (by decide)
   refine Tn 4 [(b2,[.int .i64 0,.bool false,.slice none 0 0,.slice none 0 0]),(b3,[.slice a3 1 c3,.int .i64 (Xc l no tree)])] ⟨⟨_,k20'1⟩,⟨_,k21⟩,trivial⟩ (.tuple #[.agg #[.int .i64 0,.bool false,.slice none 0 0,.slice none 0 0],.agg #[.slice a3 1 c3,.int .i64 (Xc l no tree)]]) ?_
   have he:(Zx l way no tree lo hi deep)=Xc l no tree:=by unfold Zx;rw[if_neg (by rw[hh];decide),if_neg (by omega),if_pos hne]
   exact .inl ⟨by rw[he];exact hne,_,_,_,_,_,_,_,_,_,_,by rw[he],hB'6,hs3'2⟩
  have k17'3:=k17.below (Za W17)
  refine xlv 0 k17'3.rp ?_
  have k16'2:=(u17.blkT k16 k15 (by decide)).below (Za W17)
  refine xlv (.o [] 0) k16'2.rp ?_
  have k2'3:=(u17.blkT (u16.blk ((k2.below n14.below).below n15.below) (Ne.symm (Ne.symm d14_b2))) k15 (by decide)).below (Za W17)
  have g2:=n2.ge n1.below
  refine ysv (.o [] 2) k2'3 [.int .i64 0,.bool false,.slice none 0 0,.slice none 0 0] (.t w.heap.size [188,43]) fun W22 u22 k22=>⟨(Zi u22 k2'3 g2 (by decide)),?_⟩
  have k3'3:=u22.blkT ((u17.blk (u16.blkT (k3.below n15.below) k14 (by decide)) (Ne.symm (Ne.symm d15_b3))).below (Za W17)) k2'3 (by decide)
  have g3:=n3.ge (bln n1.below n2.below)
  refine ysv (.o [] 3) k3'3 [.slice a3 1 c3,.int .i64 (Xc l no tree)] (.t w.heap.size [188,43]) fun W23 u23 k23=>⟨(Zi u23 k3'3 g3 (by decide)),?_⟩
  have hB'7:=u23.below (u22.below (bln (u17.below (u16.below (bln hB'4 n15.below) g14) g15) (Za W17)) g2) g3
  have hs3'3:=u23.own2 (u22.own2 (Zb (u17.own2 (u16.own2 (Zb (Zb (Zd hs3 hs13) n14.below) n15.below) k14 (by decide)) k15 (by decide)) (Za W17)) k2'3 (by decide)) k3'3 (by decide)
  have k22'1:=u23.blkT k22 k3'3 (by decide)
  refine Tn 4 [(b2,[.int .i64 0,.bool false,.slice none 0 0,.slice none 0 0]),(b3,[.slice a3 1 c3,.int .i64 (Xc l no tree)])] ⟨⟨_,k22'1⟩,⟨_,k23⟩,trivial⟩ (.tuple #[.agg #[.int .i64 0,.bool false,.slice none 0 0,.slice none 0 0],.agg #[.slice a3 1 c3,.int .i64 (Xc l no tree)]]) ?_
  have he:(Zx l way no tree lo hi deep)=Xc l no tree:=by unfold Zx;rw[if_neg (by rw[hh];decide),if_neg (by omega),if_pos hne]
  exact .inl ⟨by rw[he];exact hne,_,_,_,_,_,_,_,_,_,_,by rw[he],hB'7,hs3'3⟩
 have hs13:=(bln hB hb4).size
 have hcn:Zn (inB l no)≤18:=Nat.le_trans (Gj (Fy (Md (Cg hne).2))) (maxG_18 _ _)
 refine xa 3 [.int .i64 0,.bool false,.slice none 0 0,.slice none 0 0] 188 fun b24 W24 n24=>?_
 have k2:=((n2.blk.below n3.below).below hb4).below hb13
 have d24_b2:=n24.ne k2
 have hB'8:=bln (bln hB hb4) hb13
 have g24:=n24.ge hB'8
 refine xa 0 [.slice none 0 0,.int .i64 0] 43 fun b25 W25 n25=>?_
 have k3:=((n3.blk.below hb4).below hb13).below n24.below
 have d25_b3:=n25.ne k3
 have hB'9:=bln hB'8 n24.below
 have g25:=n25.ge hB'9
 have k24:=n24.blk.below n25.below
 refine xsv 0 k24 [.int .i64 (Xr (inB l no)),.bool (Xl (inB l no)),.slice kp (Zn (inB l no)) kc,.slice vp (Zn (inB l no)) vc] fun W26 u26 k26=>?_
 have k25:=u26.blkT n25.blk k24 (by decide)
 refine xsv 0 k25 [.slice none 0 0,.int .i64 0] fun W27 u27 k27=>?_
 refine xb 6 1 k27 ?_
 have hk'1:=u27.own2 (u26.own2 (Zb (Zb (Zd hk hs13) n24.below) n25.below) k24 (by decide)) k25 (by decide)
 have hv_'1:=u27.own2 (u26.own2 (Zb (Zb (Zd hv_ hs13) n24.below) n25.below) k24 (by decide)) k25 (by decide)
 have hB'10:=u27.below (u26.below (bln hB'9 n25.below) g24) g25
 have k1'3:=u27.blkT (u26.blkT (((k1'2.below hb13).below n24.below).below n25.below) k24 (by decide)) k25 (by decide)
 have k2'4:=u27.blkT (u26.blk ((k2.below n24.below).below n25.below) (Ne.symm (Ne.symm d24_b2))) k25 (by decide)
 have k3'4:=u27.blk (u26.blkT (k3.below n25.below) k24 (by decide)) (Ne.symm (Ne.symm d25_b3))
 have k26'1:=u27.blkT k26 k25 (by decide)
 refine zl 13 84 (fun zm zkv V=>∃ (i:Nat),zkv=[(3,.int .i64 deep),(5,.pointer (some ⟨b1,0,none⟩)),(8,.pointer (some ⟨b2,0,none⟩)),(9,.pointer (some ⟨b3,0,none⟩)),(10,.pointer (some ⟨b24,0,none⟩)),(12,.int .i64 (↑i:Int))]∧zm=Zn (inB l no)-((↑i:Int)).toNat∧Below w.heap.size w V∧Blk V b1 ([.int .i64 no,.int .i64 lo,.int .i64 hi,.slice wa way.length wc,ft]) 184∧Blk V b2 ([.int .i64 0,.bool false,.slice none 0 0,.slice none 0 0]) 188∧Blk V b3 ([.slice none 0 0,.int .i64 0]) 43∧Blk V b24 ([.int .i64 (Xr (inB l no)),.bool (Xl (inB l no)),.slice kp (Zn (inB l no)) kc,.slice vp (Zn (inB l no)) vc]) 188∧Blk V b25 ([.slice none 0 0,.int .i64 0]) 43∧V.ownsRow w.heap.size 3 1 (.slice kp (Zn (inB l no)) kc) (Zn (inB l no)) ((Yx (inB l no) (Zn (inB l no))).map (Value.int .i64))∧V.ownsRow w.heap.size 9 1 (.slice vp (Zn (inB l no)) vc) (Zn (inB l no)) ((Kw (inB l no) (Zn (inB l no))).map sv)∧i≤Zn (inB l no)∧(∀ j,j<i→Rj lo hi ((Xs l no).getD j 0)=true)) ⟨0,rfl,rfl,hB'10,k1'3,k2'4,k3'4,k26'1,k27,hk'1,hv_'1,Nat.zero_le _,?_⟩ ?_
 ·exact fun j hj=>absurd hj (by omega)
 rintro _ _ W28 ⟨i,rfl,rfl,hB_28,k28_b1,k28_b2,k28_b3,k28_b24,k28_b25,hk,hv_,hii,hall⟩ J28 hJ28 r28
 refine xb 5 2 k28_b24 ?_
 refine xid 4 ((↑i:Int)<(↑(Zn (inB l no)):Int)) (fun hc29=>?_) (fun hc29=>?_)
 ·refine xd 5 .z ?_
  have k28_b1'1:=k28_b1.below (Za W28)
  refine xlv (.e [0] 1) (k28_b1'1.rpp 1 2) ?_
  have k28_b24'1:=k28_b24.below (Za W28)
  refine xb (.e [2] 3) 2 k28_b24'1 ?_
  have hk'2:=Zb hk (Za W28)
  refine xx (.e [4] 5) _ (Zn (inB l no)) i 1 (IntsN.elem (l:=(Xs l no)) (Zf hk'2) (Yr _ _) (k:=i) (by omega)).1 ?_
  refine xl (.e [] 6) ((IntsN.elem (l:=(Xs l no)) (Zf hk'2) (Yr _ _) (k:=i) (by omega)).2) ?_
  refine xr (.o [] 7) (args:=#[.agg #[.int .i64 lo,.int .i64 hi],.int .i64 ((Xs l no).getD i 0)]) (Mh lo hi ((Xs l no).getD i 0) _) fun W30 hb30=>?_
  refine xi (.r [8] 2) (!(Rj lo hi ((Xs l no).getD i 0))) (fun hc31=>?_) (fun hc31=>?_)
  ·have hna:Rj lo hi ((Xs l no).getD i 0)=false:=by simpa using hc31
   refine xd 1 (.t w.heap.size [188,43]) ?_
   have k28_b1'2:=(k28_b1'1.below hb30).below (Za W30)
   refine xbt (.e [1] 2) 0 w.heap.size [188,43] k28_b1'2 ?_
   refine xm2 0 0 3 ?_ ?_
   ·have k28_b24'2:=(k28_b24'1.below hb30).below (Za W30)
    refine xlv 0 k28_b24'2.rp ?_
    refine yc (.o [] 3) (args:=#[.int .i64 no,.int .i64 9]) (.t w.heap.size [188,43]) (Kh no 9 _ (by decide)) ?_
    rintro _ W32 ⟨_,rfl,hb32,a5,c5,rfl,hs5⟩
    have hs32:=(bln (bln (bln hB_28 (Za W28)) hb30) (Za W30)).size
    refine⟨(SF.of_below _ hb32),?_⟩
    have k28_b2'1:=(((k28_b2.below (Za W28)).below hb30).below (Za W30)).below hb32
    have g2:=n2.ge n1.below
    refine ysv (.o [] 4) k28_b2'1 [.int .i64 (Xr (inB l no)),.bool (Xl (inB l no)),.slice kp (Zn (inB l no)) kc,.slice vp (Zn (inB l no)) vc] (.t w.heap.size [188,43]) fun W33 u33 k33=>⟨(Zi u33 k28_b2'1 g2 (by decide)),?_⟩
    have k28_b3'1:=u33.blkT ((((k28_b3.below (Za W28)).below hb30).below (Za W30)).below hb32) k28_b2'1 (by decide)
    have g3:=n3.ge (bln n1.below n2.below)
    refine ysv (.o [] 5) k28_b3'1 [.slice a5 1 c5,.int .i64 9] (.t w.heap.size [188,43]) fun W34 u34 k34=>⟨(Zi u34 k28_b3'1 g3 (by decide)),?_⟩
    have hB'11:=u34.below (u33.below (bln (bln (bln (bln hB_28 (Za W28)) hb30) (Za W30)) hb32) g2) g3
    have hs5'3:=u34.own2 (u33.own2 (Zd hs5 hs32) k28_b2'1 (by decide)) k28_b3'1 (by decide)
    have k33'1:=u34.blkT k33 k28_b3'1 (by decide)
    refine Tn 8 [(b2,[.int .i64 (Xr (inB l no)),.bool (Xl (inB l no)),.slice kp (Zn (inB l no)) kc,.slice vp (Zn (inB l no)) vc]),(b3,[.slice a5 1 c5,.int .i64 9])] ⟨⟨_,k33'1⟩,⟨_,k34⟩,trivial⟩ (.tuple #[.agg #[.int .i64 (Xr (inB l no)),.bool (Xl (inB l no)),.slice kp (Zn (inB l no)) kc,.slice vp (Zn (inB l no)) vc],.agg #[.slice a5 1 c5,.int .i64 9]]) ?_
    have he:(Zx l way no tree lo hi deep)=9:=by unfold Zx;rw[if_neg (by rw[hh];decide),if_neg (by omega),if_neg (by rw[hne];decide),if_pos (by have:=Zg8 (i:=i) (tree:=tree) (by omega) hna;exact this)]
    exact .inl ⟨by rw[he];decide,_,_,_,_,_,_,_,_,_,_,by rw[he],hB'11,hs5'3⟩
   refine yc 0 (args:=#[.int .i64 no,.int .i64 9]) (.t w.heap.size [188,43]) (Kh no 9 _ (by decide)) ?_
   rintro _ W35 ⟨_,rfl,hb35,a5,c5,rfl,hs5⟩
   have hs35:=(bln (bln (bln hB_28 (Za W28)) hb30) (Za W30)).size
   refine⟨(SF.of_below _ hb35),?_⟩
   have k28_b24'3:=((k28_b24'1.below hb30).below (Za W30)).below hb35
   refine xlv (.o [] 0) k28_b24'3.rp ?_
   have k28_b2'2:=(((k28_b2.below (Za W28)).below hb30).below (Za W30)).below hb35
   have g2:=n2.ge n1.below
   refine ysv (.o [] 4) k28_b2'2 [.int .i64 (Xr (inB l no)),.bool (Xl (inB l no)),.slice kp (Zn (inB l no)) kc,.slice vp (Zn (inB l no)) vc] (.t w.heap.size [188,43]) fun W36 u36 k36=>⟨(Zi u36 k28_b2'2 g2 (by decide)),?_⟩
   have k28_b3'2:=u36.blkT ((((k28_b3.below (Za W28)).below hb30).below (Za W30)).below hb35) k28_b2'2 (by decide)
   have g3:=n3.ge (bln n1.below n2.below)
   refine ysv (.o [] 5) k28_b3'2 [.slice a5 1 c5,.int .i64 9] (.t w.heap.size [188,43]) fun W37 u37 k37=>⟨(Zi u37 k28_b3'2 g3 (by decide)),?_⟩
   have hB'12:=u37.below (u36.below (bln (bln (bln (bln hB_28 (Za W28)) hb30) (Za W30)) hb35) g2) g3
   have hs5'4:=u37.own2 (u36.own2 (Zd hs5 hs35) k28_b2'2 (by decide)) k28_b3'2 (by decide)
   have k36'1:=u37.blkT k36 k28_b3'2 (by decide)
   refine Tn 8 [(b2,[.int .i64 (Xr (inB l no)),.bool (Xl (inB l no)),.slice kp (Zn (inB l no)) kc,.slice vp (Zn (inB l no)) vc]),(b3,[.slice a5 1 c5,.int .i64 9])] ⟨⟨_,k36'1⟩,⟨_,k37⟩,trivial⟩ (.tuple #[.agg #[.int .i64 (Xr (inB l no)),.bool (Xl (inB l no)),.slice kp (Zn (inB l no)) kc,.slice vp (Zn (inB l no)) vc],.agg #[.slice a5 1 c5,.int .i64 9]]) ?_
   have he:(Zx l way no tree lo hi deep)=9:=by unfold Zx;rw[if_neg (by rw[hh];decide),if_neg (by omega),if_neg (by rw[hne];decide),if_pos (by have:=Zg8 (i:=i) (tree:=tree) (by omega) hna;exact this)]
   exact .inl ⟨by rw[he];decide,_,_,_,_,_,_,_,_,_,_,by rw[he],hB'12,hs5'4⟩
  have hna:Rj lo hi ((Xs l no).getD i 0)=true:=by simpa using hc31
  refine xwm 5 ((↑i:Int)+1) (↑(i+1):Int) ?_
  have hB'13:=bln (bln hB_28 (Za W28)) hb30
  have k28_b1'3:=k28_b1'1.below hb30
  have k28_b2'3:=(k28_b2.below (Za W28)).below hb30
  have k28_b3'3:=(k28_b3.below (Za W28)).below hb30
  have k28_b24'4:=k28_b24'1.below hb30
  have k28_b25'1:=(k28_b25.below (Za W28)).below hb30
  have hk'3:=Zb hk'2 hb30
  have hv_'2:=Zb (Zb hv_ (Za W28)) hb30
  exact ze 2 (hJ28 _ _ _ ⟨i+1,rfl,rfl,hB'13,k28_b1'3,k28_b2'3,k28_b3'3,k28_b24'4,k28_b25'1,hk'3,hv_'2,by omega,fun j hj=>(Nat.lt_or_ge j i).elim (hall j) (fun q=>by obtain rfl:j=i:=(by omega);exact hna)⟩ (by omega))
 refine xb 9 1 k28_b24 ?_
 refine xg 1 [65,66] (Xl (inB l no)) (fun hc38=>?_) (fun hc38=>?_)
 ·refine xg 4 [68,69,70] (deep != (0:Int)) (fun hc39=>?_) (fun hc39=>?_)
  ·have hc39:=Qx hc39
   refine xb 1 3 k28_b1 ?_
   refine xwm 1 ((↑way.length:Int)+1) (↑(way.length+1):Int) ?_
   refine xin 5 (↑(way.length+1):Int) deep (fun hc40=>?_) (fun hc40=>?_)
   ·refine xd 1 (.t w.heap.size [188,43]) ?_
    have k28_b1'4:=k28_b1.below (Za W28)
    refine xbt (.e [1] 2) 0 w.heap.size [188,43] k28_b1'4 ?_
    refine xm2 0 0 3 ?_ ?_
    ·have k28_b24'5:=k28_b24.below (Za W28)
     refine xlv 0 k28_b24'5.rp ?_
     refine yc (.o [] 3) (args:=#[.int .i64 no,.int .i64 10]) (.t w.heap.size [188,43]) (Kh no 10 _ (by decide)) ?_
     rintro _ W41 ⟨_,rfl,hb41,a5,c5,rfl,hs5⟩
     have hs41:=(bln hB_28 (Za W28)).size
     refine⟨(SF.of_below _ hb41),?_⟩
     have k28_b2'4:=(k28_b2.below (Za W28)).below hb41
     have g2:=n2.ge n1.below
     refine ysv (.o [] 4) k28_b2'4 [.int .i64 (Xr (inB l no)),.bool (Xl (inB l no)),.slice kp (Zn (inB l no)) kc,.slice vp (Zn (inB l no)) vc] (.t w.heap.size [188,43]) fun W42 u42 k42=>⟨(Zi u42 k28_b2'4 g2 (by decide)),?_⟩
     have k28_b3'4:=u42.blkT ((k28_b3.below (Za W28)).below hb41) k28_b2'4 (by decide)
     have g3:=n3.ge (bln n1.below n2.below)
     refine ysv (.o [] 5) k28_b3'4 [.slice a5 1 c5,.int .i64 10] (.t w.heap.size [188,43]) fun W43 u43 k43=>⟨(Zi u43 k28_b3'4 g3 (by decide)),?_⟩
     have hB'14:=u43.below (u42.below (bln (bln hB_28 (Za W28)) hb41) g2) g3
     have hs5'5:=u43.own2 (u42.own2 (Zd hs5 hs41) k28_b2'4 (by decide)) k28_b3'4 (by decide)
     have k42'1:=u43.blkT k42 k28_b3'4 (by decide)
     refine Tn 4 [(b2,[.int .i64 (Xr (inB l no)),.bool (Xl (inB l no)),.slice kp (Zn (inB l no)) kc,.slice vp (Zn (inB l no)) vc]),(b3,[.slice a5 1 c5,.int .i64 10])] ⟨⟨_,k42'1⟩,⟨_,k43⟩,trivial⟩ (.tuple #[.agg #[.int .i64 (Xr (inB l no)),.bool (Xl (inB l no)),.slice kp (Zn (inB l no)) kc,.slice vp (Zn (inB l no)) vc],.agg #[.slice a5 1 c5,.int .i64 10]]) ?_
     have he:(Zx l way no tree lo hi deep)=10:=by unfold Zx;rw[if_neg (by rw[hh];decide),if_neg (by omega),if_neg (by rw[hne];decide),if_neg (by have:=Pg hne hr (fun j hj=>hall j (by omega));unfold Xs at this;rw[this];decide),if_pos ⟨by assumption,by omega,by omega⟩]
     exact .inl ⟨by rw[he];decide,_,_,_,_,_,_,_,_,_,_,by rw[he],hB'14,hs5'5⟩
    refine yc 0 (args:=#[.int .i64 no,.int .i64 10]) (.t w.heap.size [188,43]) (Kh no 10 _ (by decide)) ?_
    rintro _ W44 ⟨_,rfl,hb44,a5,c5,rfl,hs5⟩
    have hs44:=(bln hB_28 (Za W28)).size
    refine⟨(SF.of_below _ hb44),?_⟩
    have k28_b24'6:=(k28_b24.below (Za W28)).below hb44
    refine xlv (.o [] 0) k28_b24'6.rp ?_
    have k28_b2'5:=(k28_b2.below (Za W28)).below hb44
    have g2:=n2.ge n1.below
    refine ysv (.o [] 4) k28_b2'5 [.int .i64 (Xr (inB l no)),.bool (Xl (inB l no)),.slice kp (Zn (inB l no)) kc,.slice vp (Zn (inB l no)) vc] (.t w.heap.size [188,43]) fun W45 u45 k45=>⟨(Zi u45 k28_b2'5 g2 (by decide)),?_⟩
    have k28_b3'5:=u45.blkT ((k28_b3.below (Za W28)).below hb44) k28_b2'5 (by decide)
    have g3:=n3.ge (bln n1.below n2.below)
    refine ysv (.o [] 5) k28_b3'5 [.slice a5 1 c5,.int .i64 10] (.t w.heap.size [188,43]) fun W46 u46 k46=>⟨(Zi u46 k28_b3'5 g3 (by decide)),?_⟩
    have hB'15:=u46.below (u45.below (bln (bln hB_28 (Za W28)) hb44) g2) g3
    have hs5'6:=u46.own2 (u45.own2 (Zd hs5 hs44) k28_b2'5 (by decide)) k28_b3'5 (by decide)
    have k45'1:=u46.blkT k45 k28_b3'5 (by decide)
    refine Tn 4 [(b2,[.int .i64 (Xr (inB l no)),.bool (Xl (inB l no)),.slice kp (Zn (inB l no)) kc,.slice vp (Zn (inB l no)) vc]),(b3,[.slice a5 1 c5,.int .i64 10])] ⟨⟨_,k45'1⟩,⟨_,k46⟩,trivial⟩ (.tuple #[.agg #[.int .i64 (Xr (inB l no)),.bool (Xl (inB l no)),.slice kp (Zn (inB l no)) kc,.slice vp (Zn (inB l no)) vc],.agg #[.slice a5 1 c5,.int .i64 10]]) ?_
    have he:(Zx l way no tree lo hi deep)=10:=by unfold Zx;rw[if_neg (by rw[hh];decide),if_neg (by omega),if_neg (by rw[hne];decide),if_neg (by have:=Pg hne hr (fun j hj=>hall j (by omega));unfold Xs at this;rw[this];decide),if_pos ⟨by assumption,by omega,by omega⟩]
    exact .inl ⟨by rw[he];decide,_,_,_,_,_,_,_,_,_,_,by rw[he],hB'15,hs5'6⟩
   refine xlv 4 k28_b24.rp ?_
   refine xsv 1 k28_b2 [.int .i64 (Xr (inB l no)),.bool (Xl (inB l no)),.slice kp (Zn (inB l no)) kc,.slice vp (Zn (inB l no)) vc] fun W47 u47 k47=>?_
   have g2:=n2.ge n1.below
   have k28_b3'6:=u47.blkT k28_b3 k28_b2 (by decide)
   refine xsv 0 k28_b3'6 [.slice none 0 0,.int .i64 0] fun W48 u48 k48=>?_
   have g3:=n3.ge (bln n1.below n2.below)
   have hB'16:=u48.below (u47.below hB_28 g2) g3
   have hk'4:=u48.own2 (u47.own2 hk k28_b2 (by decide)) k28_b3'6 (by decide)
   have hv_'3:=u48.own2 (u47.own2 hv_ k28_b2 (by decide)) k28_b3'6 (by decide)
   have k47'1:=u48.blkT k47 k28_b3'6 (by decide)
   refine Tn 3 [(b2,[.int .i64 (Xr (inB l no)),.bool (Xl (inB l no)),.slice kp (Zn (inB l no)) kc,.slice vp (Zn (inB l no)) vc]),(b3,[.slice none 0 0,.int .i64 0])] ⟨⟨_,k47'1⟩,⟨_,k48⟩,trivial⟩ (.tuple #[.agg #[.int .i64 (Xr (inB l no)),.bool (Xl (inB l no)),.slice kp (Zn (inB l no)) kc,.slice vp (Zn (inB l no)) vc],.agg #[.slice none 0 0,.int .i64 0]]) ?_
   have he:(Zx l way no tree lo hi deep)=0:=by unfold Zx;rw[if_neg (by rw[hh];decide),if_neg (by omega),if_neg (by rw[hne];decide),if_neg (by have:=Pg hne hr (fun j hj=>hall j (by omega));unfold Xs at this;rw[this];decide),if_neg];rintro⟨q1,q2,q3⟩;omega
   exact .inr ⟨he,_,_,_,_,rfl,hB'16,hk'4,hv_'3⟩
  have hc39:=Xk hc39
  refine xlv 14 k28_b24.rp ?_
  refine xsv 1 k28_b2 [.int .i64 (Xr (inB l no)),.bool (Xl (inB l no)),.slice kp (Zn (inB l no)) kc,.slice vp (Zn (inB l no)) vc] fun W49 u49 k49=>?_
  have g2:=n2.ge n1.below
  have k28_b3'7:=u49.blkT k28_b3 k28_b2 (by decide)
  refine xsv 0 k28_b3'7 [.slice none 0 0,.int .i64 0] fun W50 u50 k50=>?_
  have g3:=n3.ge (bln n1.below n2.below)
  have hB'17:=u50.below (u49.below hB_28 g2) g3
  have hk'5:=u50.own2 (u49.own2 hk k28_b2 (by decide)) k28_b3'7 (by decide)
  have hv_'4:=u50.own2 (u49.own2 hv_ k28_b2 (by decide)) k28_b3'7 (by decide)
  have k49'1:=u50.blkT k49 k28_b3'7 (by decide)
  refine Tn 3 [(b2,[.int .i64 (Xr (inB l no)),.bool (Xl (inB l no)),.slice kp (Zn (inB l no)) kc,.slice vp (Zn (inB l no)) vc]),(b3,[.slice none 0 0,.int .i64 0])] ⟨⟨_,k49'1⟩,⟨_,k50⟩,trivial⟩ (.tuple #[.agg #[.int .i64 (Xr (inB l no)),.bool (Xl (inB l no)),.slice kp (Zn (inB l no)) kc,.slice vp (Zn (inB l no)) vc],.agg #[.slice none 0 0,.int .i64 0]]) ?_
  have he:(Zx l way no tree lo hi deep)=0:=by unfold Zx;rw[if_neg (by rw[hh];decide),if_neg (by omega),if_neg (by rw[hne];decide),if_neg (by have:=Pg hne hr (fun j hj=>hall j (by omega));unfold Xs at this;rw[this];decide),if_neg];rintro⟨q1,q2,q3⟩;omega
  exact .inr ⟨he,_,_,_,_,rfl,hB'17,hk'5,hv_'4⟩
 refine xlv 18 k28_b24.rp ?_
 refine xsv 1 k28_b2 [.int .i64 (Xr (inB l no)),.bool (Xl (inB l no)),.slice kp (Zn (inB l no)) kc,.slice vp (Zn (inB l no)) vc] fun W51 u51 k51=>?_
 have g2:=n2.ge n1.below
 have k28_b3'8:=u51.blkT k28_b3 k28_b2 (by decide)
 refine xsv 0 k28_b3'8 [.slice none 0 0,.int .i64 0] fun W52 u52 k52=>?_
 have g3:=n3.ge (bln n1.below n2.below)
 have hB'18:=u52.below (u51.below hB_28 g2) g3
 have hk'6:=u52.own2 (u51.own2 hk k28_b2 (by decide)) k28_b3'8 (by decide)
 have hv_'5:=u52.own2 (u51.own2 hv_ k28_b2 (by decide)) k28_b3'8 (by decide)
 have k51'1:=u52.blkT k51 k28_b3'8 (by decide)
 refine Tn 3 [(b2,[.int .i64 (Xr (inB l no)),.bool (Xl (inB l no)),.slice kp (Zn (inB l no)) kc,.slice vp (Zn (inB l no)) vc]),(b3,[.slice none 0 0,.int .i64 0])] ⟨⟨_,k51'1⟩,⟨_,k52⟩,trivial⟩ (.tuple #[.agg #[.int .i64 (Xr (inB l no)),.bool (Xl (inB l no)),.slice kp (Zn (inB l no)) kc,.slice vp (Zn (inB l no)) vc],.agg #[.slice none 0 0,.int .i64 0]]) ?_
 have he:(Zx l way no tree lo hi deep)=0:=by unfold Zx;rw[if_neg (by rw[hh];decide),if_neg (by omega),if_neg (by rw[hne];decide),if_neg (by have:=Pg hne hr (fun j hj=>hall j (by omega));unfold Xs at this;rw[this];decide),if_neg];rintro⟨q1,q2,q3⟩;exact absurd q1 (by simp_all)
 exact .inr ⟨he,_,_,_,_,rfl,hB'18,hk'6,hv_'5⟩
end Go.Proofs.YthlakkdgcgkcdaaGreatDoor
namespace Go.Proofs.YthlakkdgcgkcdaaGreatDoor
set_option maxHeartbeats 8000000
set_option maxRecDepth 100000
open Go.RowKit Go.Extern.Stop Go.Stop Go.Extern
set_option linter.unusedVariables false
structure Ft where
 bl:List Int
 c:Int
 fa:Option Addr
 fc:Nat
def Za4(f:Ft):List Value:=[.slice f.fa f.bl.length f.fc,.int .i64 f.c]
theorem Li(f:Ft):(Za4 f).length=2:=rfl
def fltP(f:Ft):List Int×Int:=(f.bl,f.c)
def wtC (t:Wt):List Value:=[.int .i64 t.no,.int .i64 t.lo,.int .i64 t.hi,.slice t.wa t.way.length t.wc,.int .i64 t.ft]
theorem Cc(t:Wt):(wtC t).length=5:=rfl
def Vf(B:Nat)(w:World)(a:Option Addr)(c:Nat)(l:List Int):Prop:=w.ownsRow B 3 1 (.slice a l.length c) l.length (l.map (Value.int .i64))
theorem Vf.below{B:Nat}{w W:World}{a:Option Addr}{c:Nat}{l:List Int}(h:Vf B w a c l)(hb:Below w.heap.size w W):Vf B W a c l:=Zb h hb
theorem Vf.only{B:Nat}{w W:World}{a:Option Addr}{c:Nat}{l:List Int}{T:List TypeId}(h:Vf B w a c l)(hO:Ze T w W)(hT:T.contains 3=false):Vf B W a c l:=Zl h hO hT
theorem Vf.mono{B B':Nat}{w:World}{a:Option Addr}{c:Nat}{l:List Int}(h:Vf B w a c l)(hB:B'≤B):Vf B' w a c l:=Zd h hB
theorem Vf.ints{B:Nat}{w:World}{a:Option Addr}{c:Nat}{l:List Int}(h:Vf B w a c l):Ints w (.slice a l.length c) l:=Zf h
theorem own_size{w:World}{base e size n:Nat}{v:Value}{xs:List Value}(h:w.ownsRow base e size v n xs)(hn:0<n):base≤w.heap.size:=by
 rcases h.2 with ⟨_,h0⟩|⟨g,cap,cur,hv,hb,hh,_⟩
 ·omega
 ·have:=(Array.getElem?_eq_some_iff.1 hh).1
  omega
abbrev RowK:=List Int×Option Addr×Nat
def Zf9(t:Wt):RowK:=(t.way,t.wa,t.wc)
def fltK(f:Ft):RowK:=(f.bl,f.fa,f.fc)
def Yc(B:Nat)(w:World)(u:Value)(L:List RowK):Prop:=∀ x∈L,Vf B w x.2.1 x.2.2 x.1∧Kr (.slice x.2.1 x.1.length x.2.2) u
theorem Yc.below{B:Nat}{w W:World}{u:Value}{L:List RowK}(h:Yc B w u L)(hb:Below w.heap.size w W):Yc B W u L:=fun x hx=>⟨(h x hx).1.below hb,(h x hx).2⟩
theorem Yc.only{B:Nat}{w W:World}{u:Value}{L:List RowK}{T:List TypeId}(h:Yc B w u L)(hO:Ze T w W)(hT:T.contains 3=false):Yc B W u L:=fun x hx=>⟨(h x hx).1.only hO hT,(h x hx).2⟩
theorem Yc.grow{B base e size n:Nat}{w W:World}{u u':Value}{xs:List Value}{L:List RowK}(h:Yc B w u L)(k:w.ownsRow base e size u n xs)(hg:w.grownBy W u.ownBlock)(ha:u'.ownBlock=u.ownBlock∨u'.ownBlock=some w.heap.size):Yc B W u' L :=
 fun x hx=>⟨(h x hx).2.symm.row (h x hx).1 hg,((h x hx).2.symm.grow (h x hx).1 ha).symm⟩
theorem Yc.sub{B:Nat}{w:World}{u:Value}{L L':List RowK}(h:Yc B w u L)(hs:∀ x∈L',x∈L):Yc B w u L':=fun x hx=>h x (hs x hx)
theorem Yc.snoc{B:Nat}{w:World}{u:Value}{L:List RowK}{x:RowK}(h:Yc B w u L)(k:Vf B w x.2.1 x.2.2 x.1)(ha:Kr (.slice x.2.1 x.1.length x.2.2) u):Yc B w u (L++[x]):=fun y hy=>by
 rcases List.mem_append.1 hy with hy|hy
 ·exact h y hy
 ·rw[List.mem_singleton.1 hy];exact⟨k,ha⟩
def Cr(B:Nat)(w:World)(a:Option Addr)(c:Nat)(ts:List Wt):Prop:=∃ v0 n0 xs0,w.ownsRow B 184 5 v0 n0 xs0∧∀ W,W.ownsRow B 184 5 v0 n0 xs0→Sts wtC W (.slice a ts.length c) ts
theorem Cr.below{B:Nat}{w W:World}{a:Option Addr}{c:Nat}{ts:List Wt}(h:Cr B w a c ts)(hb:Below w.heap.size w W):Cr B W a c ts:=by
 obtain⟨v0,n0,xs0,h1,h2⟩:=h
 exact⟨v0,n0,xs0,Zb h1 hb,h2⟩
theorem Cr.only{B:Nat}{w W:World}{a:Option Addr}{c:Nat}{ts:List Wt}{T:List TypeId}(h:Cr B w a c ts)(hO:Ze T w W)(hT:T.contains 184=false):Cr B W a c ts:=by
 obtain⟨v0,n0,xs0,h1,h2⟩:=h
 exact⟨v0,n0,xs0,Zl h1 hO hT,h2⟩
theorem Cr.sts{B:Nat}{w:World}{a:Option Addr}{c:Nat}{ts:List Wt}(h:Cr B w a c ts):Sts wtC w (.slice a ts.length c) ts:=by
 obtain⟨v0,n0,xs0,h1,h2⟩:=h
 exact h2 w h1
theorem Cr.of{B:Nat}{w:World}{a:Option Addr}{n c:Nat}{ts:List Wt}(h:w.ownsRow B 184 5 (.slice a n c) n (ts.flatMap wtC))(hn:n=ts.length):Cr B w a c ts:=by
 subst hn
 exact⟨_,_,_,h,fun W k=>Zf k⟩
theorem Cr.tail{B:Nat}{w:World}{a:Option Addr}{c:Nat}{t:Wt}{ts:List Wt}(h:Cr B w a c (t::ts)):Cr B w (Qm a 1 c 5) (c-1) ts:=by
 obtain⟨v0,n0,xs0,h1,h2⟩:=h
 exact⟨v0,n0,xs0,h1,fun W k=>Sts.cut Cc (h2 W k) 1 (by simp)⟩
theorem sts_eq{w:World}{a:Option Addr}{c:Nat}{ts us:List Wt}(h:Sts wtC w (.slice a ts.length c) ts)(e:ts=us):Sts wtC w (.slice a us.length c) us:=by subst e;exact h
theorem Zgj.or{base e size n:Nat}{u:Value}{xs:List Value}{l:List UInt8}{way:List Int}{no tree lo hi deep:Int}{w:World}{e':Ending}{w':World}(k:w.ownsRow base e size u n xs)(h:Zgj l way no tree lo hi deep w e' w') :
 (Zx l way no tree lo hi deep≠0∧∃ a4 b4 k4 n4 c4 v4 m4 d4 a c,e'=.returned (.tuple #[.agg #[.int .i64 a4,.bool b4,.slice k4 n4 c4,.slice v4 m4 d4],.agg #[.slice a 1 c,.int .i64 (Zx l way no tree lo hi deep)]])∧Below w.heap.size w w'∧Vf w.heap.size w' a c [no]) ∨
 (Zx l way no tree lo hi deep=0∧∃ kp kc vp vc,e'=.returned (.tuple #[.agg #[.int .i64 (Xr (inB l no)),.bool (Xl (inB l no)),.slice kp (Zn (inB l no)) kc,.slice vp (Zn (inB l no)) vc],.agg #[.slice none 0 0,.int .i64 0]])∧Below w.heap.size w w' ∧
 w'.ownsRow w.heap.size 3 1 (.slice kp (Zn (inB l no)) kc) (Zn (inB l no)) ((Xs l no).map (Value.int .i64))∧Kr u (.slice kp (Zn (inB l no)) kc)∧w'.ownsRow w.heap.size 9 1 (.slice vp (Zn (inB l no)) vc) (Zn (inB l no)) ((Vb l no).map sv)):=by
 rcases h with ⟨h0,a4,b4,k4,n4,c4,v4,m4,d4,a,c,h1,h2,h3⟩|⟨h0,kp,kc,vp,vc,h1,h2,h3,h4⟩
 ·exact .inl ⟨h0,a4,b4,k4,n4,c4,v4,m4,d4,a,c,h1,h2,h3⟩
 ·exact .inr ⟨h0,kp,kc,vp,vc,h1,h2,h3,Kr.of_lt k h3 (Nat.le_refl _),h4⟩
theorem Qs(wa:Option Addr)(wc:Nat)(way:List Int)(er:Int)(B:Nat)(a0:Option Addr)(c0:Nat)(no:Int)(w:World)(he:er≠0)(hw:Ints w (.slice wa way.length wc) way)(hwl:way.length≤100000)(h0:Vf B w a0 c0 [no]) :
 Calls Tryz.prog 97 #[.slice wa way.length wc,.agg #[.slice a0 1 c0,.int .i64 er]] w (fun e w'=>∃ a c,e=.returned (.agg #[.slice a (way++[no]).length c,.int .i64 er])∧Below w.heap.size w w'∧Vf B w' a c (way++[no])):=by
 refine(ref14_wrap B wa wc way er a0 1 c0 [no] w (own_size h0 (by simp)) he hw hwl rfl (by decide) h0).mono ?_
 rintro e W ⟨_,rfl,hb,a,n,c,rfl,hn,ho⟩
 obtain rfl:n=(way++[no]).length:=by simp[hn]
 exact⟨a,c,rfl,hb,ho⟩
theorem Ha(no er:Int)(w:World)(he:er≠0):Calls Tryz.prog 36 #[.int .i64 no,.int .i64 er] w (fun e w'=>∃ a c,e=.returned (.agg #[.slice a 1 c,.int .i64 er])∧Below w.heap.size w w'∧Vf w.heap.size w' a c [no]):=by
 refine(Kh no er w he).mono ?_
 rintro e W ⟨_,rfl,hb,a,c,rfl,ho⟩
 exact⟨a,c,rfl,hb,ho⟩
def Zg1(S:WS)(w:World)(e:Ending)(w':World):Prop :=
 ∃ (pe pb pf:Option Addr) (ce cb cf:Nat) (fv:List Ft),e=.returned (.agg #[.slice pe S.es.length ce,.slice pb S.bs.length cb,.int .i64 S.deep,.int .i64 (S.looked:Int),.slice pf fv.length cf])∧Below w.heap.size w w' ∧
  w'.ownsRow w.heap.size 77 3 (.slice pe S.es.length ce) S.es.length (S.es.flatMap Ko)∧w'.ownsRow w.heap.size 3 1 (.slice pb S.bs.length cb) S.bs.length (S.bs.map (Value.int .i64)) ∧
  w'.ownsRow w.heap.size 43 2 (.slice pf fv.length cf) fv.length (fv.flatMap Za4)∧fv.map fltP=S.fs∧Yc w.heap.size w' (.slice pb S.bs.length cb) (fv.map fltK)
structure WaitOk(l:List UInt8)(tree fuel:Int)(G:WS)(ts:List Wt)(s:WS):Prop where
 dry:s.dry=false
 all:Sc l tree fuel ts s=G
 way:∀ t∈ts,t.way.length≤16
 right:∀ t∈ts,t.ft=0→Qn t.lo t.hi=true
 few:ts.length+20*(fuel.toNat-s.looked)≤20*fuel.toNat+1
theorem WaitOk.grow{l:List UInt8}{tree fuel:Int}{G:WS}{ts:List Wt}{s:WS}(h:WaitOk l tree fuel G ts s):Ex s G:=h.all▸Ab l tree fuel ts s
theorem WaitOk.nil{l:List UInt8}{tree fuel:Int}{G:WS}{s:WS}(h:WaitOk l tree fuel G [] s):G=s:=h.all.symm
theorem WaitOk.fault{l:List UInt8}{tree fuel:Int}{G:WS}{t:Wt}{ts:List Wt}{s:WS}(h:WaitOk l tree fuel G (t::ts) s)(hf:t.ft≠0):WaitOk l tree fuel G ts (Yh t.way [t.no] t.ft s) :=
 ⟨h.dry,by rw[←one_fault h.dry hf];exact h.all,fun x hx=>h.way x (List.mem_cons_of_mem _ hx),fun x hx=>h.right x (List.mem_cons_of_mem _ hx),by have q:=h.few;simp only[List.length_cons] at q;show ts.length+20*(fuel.toNat-s.looked)≤_;omega⟩
theorem WaitOk.fuel{l:List UInt8}{tree fuel:Int}{G:WS}{t:Wt}{ts:List Wt}{s:WS}(h:WaitOk l tree fuel G (t::ts) s)(hf:t.ft=0)(hs:fuel≤s.looked):G={ Yh t.way [t.no] 12 s with dry:=true }:=by
 rw[←h.all,Bg,one_fuel h.dry hf (h.way t List.mem_cons_self) hs,Za9 _ _ _ _ _ rfl]
theorem WaitOk.err{l:List UInt8}{tree fuel:Int}{G:WS}{t:Wt}{ts:List Wt}{s:WS}(h:WaitOk l tree fuel G (t::ts) s)(hf:t.ft=0)(hs:¬ fuel≤s.looked)(he:Zx l t.way t.no tree t.lo t.hi s.deep≠0) :
 WaitOk l tree fuel G ts (Yh t.way [t.no] (Zx l t.way t.no tree t.lo t.hi s.deep) { s with looked:=s.looked+1 }) :=
 ⟨h.dry,by rw[←one_err h.dry hf (h.way t List.mem_cons_self) hs he];exact h.all,fun x hx=>h.way x (List.mem_cons_of_mem _ hx),fun x hx=>h.right x (List.mem_cons_of_mem _ hx),by have q:=h.few;simp only[List.length_cons] at q;show ts.length+20*(fuel.toNat-(s.looked+1))≤_;omega⟩
theorem WaitOk.leaf{l:List UInt8}{tree fuel:Int}{G:WS}{t:Wt}{ts:List Wt}{s:WS}(h:WaitOk l tree fuel G (t::ts) s)(hf:t.ft=0)(hs:¬ fuel≤s.looked)(he:Zx l t.way t.no tree t.lo t.hi s.deep=0)(hl:Xl (inB l t.no)=true) :
 WaitOk l tree fuel G ts { s with looked:=s.looked+1,bs:=s.bs++[t.no],deep:=((t.way.length+1:Nat):Int),es:=s.es++Ks (Xs l t.no) (Vb l t.no) t.no (Zn (inB l t.no)) } :=
 ⟨h.dry,by rw[←one_leaf h.dry hf hs he hl];exact h.all,fun x hx=>h.way x (List.mem_cons_of_mem _ hx),fun x hx=>h.right x (List.mem_cons_of_mem _ hx),by have q:=h.few;simp only[List.length_cons] at q;show ts.length+20*(fuel.toNat-(s.looked+1))≤_;omega⟩
theorem belowW_ok{l:List UInt8}{t:Wt}{p:Option Addr}{c i:Nat}(hw:t.way.length≤15)(hf:Ys t.lo t.hi (Xs l t.no)=0)(hi:i<Zn (inB l t.no)):(Ke l t p c i).way.length≤16∧((Ke l t p c i).ft=0→Qn (Ke l t p c i).lo (Ke l t p c i).hi=true):=by
 unfold Ke
 split
 ·exact⟨by simp;omega,fun _=>part_right hf (by simp[Xs,Yx];exact hi)⟩
 ·rename_i h
  refine⟨by show t.way.length≤16;omega,fun q=>?_⟩
  dsimp only at q
  exact absurd q h
theorem WaitOk.inner{l:List UInt8}{tree fuel:Int}{G:WS}{t:Wt}{ts:List Wt}{s:WS}(p:Option Addr)(c:Nat)(h:WaitOk l tree fuel G (t::ts) s)(hf:t.ft=0)(hs:¬ fuel≤s.looked)(he:Zx l t.way t.no tree t.lo t.hi s.deep=0)(hl:Xl (inB l t.no)=false) :
 WaitOk l tree fuel G (Yt l t p c (Zn (inB l t.no))++ts) { s with looked:=s.looked+1,bs:=s.bs++[t.no] }:=by
 have hw:=Rg he
 obtain⟨hn,hfi,hc⟩:=Hw he
 have hb:∀ x∈Yt l t p c (Zn (inB l t.no)),x.way.length≤16∧(x.ft=0→Qn x.lo x.hi=true):=by
  intro x hx
  obtain⟨i,hi,rfl⟩:=List.mem_map.1 hx
  exact belowW_ok (by omega) hfi (List.mem_range.1 hi)
 refine⟨h.dry,by rw[doneW_app,←one_inner p c h.dry hf hs he hl];exact h.all,fun x hx=>?_,fun x hx=>?_,?_⟩
 ·rcases List.mem_append.1 hx with hx|hx
  ·exact(hb x hx).1
  ·exact h.way x (List.mem_cons_of_mem _ hx)
 ·rcases List.mem_append.1 hx with hx|hx
  ·exact(hb x hx).2
  ·exact h.right x (List.mem_cons_of_mem _ hx)
 ·have q:=h.few
  simp only[List.length_cons] at q
  rw[List.length_append,Jk]
  show Zn (inB l t.no)+ts.length+20*(fuel.toNat-(s.looked+1))≤_
  omega
theorem wait0(l:List UInt8)(root tree fuel:Int):WaitOk l tree fuel (Zj l root tree fuel) [⟨root,0,281474976710656,[],0,none,0⟩] ws0 :=
 ⟨rfl,by rw[Bg,doneW_nil,Wx (show ws0.dry=false from rfl) (show(0:Int)=0 from rfl)];unfold Zj;rw[show 17-([]:List Int).length=17 from rfl],fun t ht=>by rw[List.mem_singleton.1 ht];exact Nat.zero_le _,fun t ht _=>by rw[List.mem_singleton.1 ht];rfl,by show 1+20*(fuel.toNat-0)≤20*fuel.toNat+1;omega⟩
theorem Yc.below_visits{B:Nat}{w:World}{u:Value}{l:List UInt8}{t:Wt}{ts:List Wt}{fv:List Ft}{p:Option Addr}{c n:Nat}(h:Yc B w u ((t::ts).map Zf9++fv.map fltK))(k:Vf B w p c (t.way++[t.no]))(ha:Kr (.slice p (t.way++[t.no]).length c) u) :
 Yc B w u ((Yt l t p c n++ts).map Zf9++fv.map fltK):=by
 intro x hx
 rcases List.mem_append.1 hx with hx|hx
 ·obtain⟨y,hy,rfl⟩:=List.mem_map.1 hx
  rcases List.mem_append.1 hy with hy|hy
  ·obtain⟨i,_,rfl⟩:=List.mem_map.1 hy
   unfold Ke
   split
   ·exact⟨k,ha⟩
   ·exact h (Zf9 t) (by simp)
  ·exact h (Zf9 y) (List.mem_append.2 (.inl (List.mem_map.2 ⟨y,List.mem_cons_of_mem _ hy,rfl⟩)))
 ·exact h x (List.mem_append.2 (.inr hx))
theorem Yc.note{B:Nat}{w:World}{u:Value}{t:Wt}{ts:List Wt}{fv:List Ft}{f:Ft}(h:Yc B w u ((t::ts).map Zf9++fv.map fltK))(k:Vf B w f.fa f.fc f.bl)(ha:Kr (.slice f.fa f.bl.length f.fc) u) :
 Yc B w u (ts.map Zf9++(fv++[f]).map fltK):=by
 intro x hx
 rcases List.mem_append.1 hx with hx|hx
 ·exact h x (List.mem_append.2 (.inl (by rw[List.map_cons];exact List.mem_cons_of_mem _ hx)))
 ·rw[List.map_append] at hx
  rcases List.mem_append.1 hx with hx|hx
  ·exact h x (List.mem_append.2 (.inr hx))
  ·rw[List.map_cons,List.map_nil,List.mem_singleton] at hx;rw[hx];exact⟨k,ha⟩
theorem Yc.drop1{B:Nat}{w:World}{u:Value}{t:Wt}{ts:List Wt}{fv:List Ft}(h:Yc B w u ((t::ts).map Zf9++fv.map fltK)):Yc B w u (ts.map Zf9++fv.map fltK):=h.sub fun x hx=>by
 rcases List.mem_append.1 hx with hx|hx
 ·exact List.mem_append.2 (.inl (by rw[List.map_cons];exact List.mem_cons_of_mem _ hx))
 ·exact List.mem_append.2 (.inr hx)
theorem Xu{fv:List Ft}{fs:List (List Int×Int)}{f:Ft}(h:fv.map fltP=fs):(fv++[f]).map fltP=fs++[(f.bl,f.c)]:=by rw[List.map_append,h];rfl
theorem Vf.apart{B base e size n c:Nat}{w W:World}{u:Value}{xs:List Value}{a:Option Addr}{l:List Int}(q:Vf B W a c l)(k:w.ownsRow base e size u n xs)(h:w.heap.size≤B):Kr (.slice a l.length c) u:=(Kr.of_lt k q h).symm
theorem Yc.hd{B:Nat}{w:World}{u:Value}{t:Wt}{ts:List Wt}{L:List RowK}(h:Yc B w u ((t::ts).map Zf9++L)):Vf B w t.wa t.wc t.way:=(h (Zf9 t) (by simp)).1
def Bo(B N:Nat)(w:World)(a:Option Addr)(c:Nat)(ts:List Wt):Prop:=∃ v0 n0 xs0,w.ownsRow B 184 5 v0 n0 xs0∧(∀ j,v0.ownBlock=some j→j<N)∧∀ W,W.ownsRow B 184 5 v0 n0 xs0→Sts wtC W (.slice a ts.length c) ts
theorem Cr.at_{B:Nat}{w:World}{a:Option Addr}{c:Nat}{ts:List Wt}(h:Cr B w a c ts):Bo B w.heap.size w a c ts:=by
 obtain⟨v0,n0,xs0,h1,h2⟩:=h
 exact⟨v0,n0,xs0,h1,fun j hj=>(h1.lt j hj).2,h2⟩
theorem Bo.un{B N:Nat}{w:World}{a:Option Addr}{c:Nat}{ts:List Wt}(h:Bo B N w a c ts):Cr B w a c ts:=by
 obtain⟨v0,n0,xs0,h1,_,h2⟩:=h
 exact⟨v0,n0,xs0,h1,h2⟩
theorem Bo.below{B N:Nat}{w W:World}{a:Option Addr}{c:Nat}{ts:List Wt}(h:Bo B N w a c ts)(hb:Below w.heap.size w W):Bo B N W a c ts:=by
 obtain⟨v0,n0,xs0,h1,h3,h2⟩:=h
 exact⟨v0,n0,xs0,Zb h1 hb,h3,h2⟩
theorem Bo.only{B N:Nat}{w W:World}{a:Option Addr}{c:Nat}{ts:List Wt}{T:List TypeId}(h:Bo B N w a c ts)(hO:Ze T w W)(hT:T.contains 184=false):Bo B N W a c ts:=by
 obtain⟨v0,n0,xs0,h1,h3,h2⟩:=h
 exact⟨v0,n0,xs0,Zl h1 hO hT,h3,h2⟩
theorem Bo.updN{B N:Nat}{w w0 W W2:World}{b:Nat}{cs:List Value}{e:TypeId}{a:Option Addr}{c:Nat}{ts:List Wt}(h:Bo B N w a c ts)(u:Upd w b W)(n:New w0 b cs e W2)(hN:N=w0.heap.size):Bo B N W a c ts:=by
 obtain⟨v0,n0,xs0,h1,h3,h2⟩:=h
 exact⟨v0,n0,xs0,u.own3 h1 (fun j hj=>by have:=h3 j hj;have:=n.at_;omega),h3,h2⟩
theorem Bo.sts{B N:Nat}{w:World}{a:Option Addr}{c:Nat}{ts us:List Wt}(h:Bo B N w a c ts)(e:ts=us):Sts wtC w (.slice a us.length c) us:=sts_eq h.un.sts e
theorem Bo.tail{B N:Nat}{w:World}{a:Option Addr}{c:Nat}{ts us:List Wt}{t:Wt}(h:Bo B N w a c ts)(e:ts=t::us):Cr B w (Qm a 1 c 5) (c-1) us:=by subst e;exact h.un.tail
theorem Bo.slN{B N:Nat}{w:World}{a:Option Addr}{c:Nat}{ts us:List Wt}{t:Wt}(h:Bo B N w a c ts)(e:ts=t::us):Sl w (.slice (Qm a 1 c 5) (ts.length-1) (c-1)) (ts.length-1) (us.flatMap wtC):=by subst e;exact h.un.tail.sts
theorem wt_one(ts:List Wt):∀ u∈ts.flatMap wtC,u.oneCell'=true:=by
 intro u hu
 obtain⟨t,_,h⟩:=List.mem_flatMap.1 hu
 simp only[wtC,List.mem_cons,List.not_mem_nil,or_false] at h
 rcases h with rfl|rfl|rfl|rfl|rfl<;>rfl
end Go.Proofs.YthlakkdgcgkcdaaGreatDoor
