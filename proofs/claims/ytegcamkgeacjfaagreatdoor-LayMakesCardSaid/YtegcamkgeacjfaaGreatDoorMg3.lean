/- build.Tree at entries that are right: with room, and without. -/
import Derived.Test.YtegcamkgeacjfaaGreatDoorRows
import Derived.RangeFuncNested
import Derived.RangeFuncBound
import Derived.RangeFuncCalls
import Derived.RangeFuncLeaves
import Derived.Shelf.Abstract
import Derived.Shelf.RegionOpen
import Derived.OwnWalkIn
import Derived.TacticsInMore
import Derived.LoopNIn
import Derived.LoopIn
import Derived.Sort.BigQuietIn
import Derived.Lib.AppendZerosOnto
import Derived.Test.YtegcamkgeacjfaaGreatDoorMg2
namespace Go.Proofs.YtegcamkgeacjfaaGreatDoor
set_option maxHeartbeats 8000000
set_option maxRecDepth 100000
open Go.RowKit Go.Extern.Stop Go.Stop Go.Extern
set_option linter.unusedVariables false
attribute [local irreducible] wpList wpAnyH Code.wp Oper.wp Go
theorem only_a3{w w':World}(h:Zd [153,5] w w'):Zd [153,5,29] w w':=h.mono fun t ht=>by simp at ht ⊢;exact⟨ht.1,ht.2.1⟩
def Tree1Post(B ba b g nn cc:Nat)(pa:O0)(ca f N k0:Nat)(bs:Bl)(t:Int)(leaf:Bool)(m v:Nat)(l:List Ent)(b8:Nat)(w:World)(e:Ending)(w':World):Prop :=
 ∃ p c,e=.returned (.slice p (ovN l.length m) c)∧Below B w w'∧Zd [153,5,29] w w'∧Fr [ba,g,b8] w w'∧Blk w' b8 [.nilIface] 29∧Al B ba b g nn cc pa ca f N (k0+ovN l.length m) (Iw t leaf m v l (f+k0) bs (ovN l.length m)) w'∧w'.ownsRow w.heap.size 123 3 (.slice p (ovN l.length m) c) (ovN l.length m) ((upE l m (f+k0) (ovN l.length m)).flatMap Yj)
theorem Cy(B ba b g nn cc:Nat)(pa:O0)(ca f N k0:Nat)(bs:Bl)(t:Int)(leaf:Bool)(m v:Nat)(a:O0)(c:Nat)(l:List Ent)(b3 b4 b8:Nat)(w:World)(k3:Blk w b3 [P0 ba] 74)(k4:Blk w b4 [V0 t] 3)(k8:Blk w b8 [.nilIface] 29)(h38:b3≠b8)(h48:b4≠b8)(hB8:B≤b8)(hC:AlC B ba nn cc ca f N)(hA:Al B ba b g nn cc pa ca f N k0 bs w)(ht1:1≤t)(ht2:t≤5)(hm:Qq t leaf=m)(hv:Pj t leaf=v)(E:EntsOk v l)(hl:leaf=false→1≤l.length)(hn:l.length≤32768)(hf1:1≤f)(hk:k0+ovN l.length m≤N)(hin:∀ W,Below B w W→Zd [153,5,29] w W→Sts Yj W (.slice a l.length c) l)(hBw:B≤w.heap.size) :
 C0 231 #[.bool leaf,.slice a l.length c,P0 b3,P0 b4,P0 b8] w (Tree1Post B ba b g nn cc pa ca f N k0 bs t leaf m v l b8 w):=by
 refine zin 20 Tryz.func231 ?_
 refine xb 7 0 k3 ?_
 refine xb 0 0 k4 ?_
 refine xc 2 (args:=#[P0 ba,V0 t,.bool leaf,.slice a l.length c]) (Za7 B ba b g nn cc pa ca f N k0 bs t leaf m v a c l _ hC hA ht1 ht2 hm hv E hl hn hf1 hk (fun W h1 h2=>hin W ((Below.refl B _).trans h1) ((Zd.refl _ _).trans (only_a3 h2))) (Nat.le_trans hBw (Below.refl B _).size)) ?_
 rintro _ W1 ⟨p4,c4,rfl,a6,a3,a7,hA,a5⟩
 have a4:=Nat.le_refl w.heap.size
 have a0:=k8.only a3 (by decide)
 refine xs 10 a0 [.nilIface] fun W2 u2 k2=>?_
 have hB:=u2.below a6 hB8
 have hO:=(show Zd [153,5,29] w _ from(only_a3 a3)).trans (Zd.of_upd u2 a0 (by decide))
 have hX:=(show Fr [ba,g,b8] w _ from(a7.mono (by simp))).trans (Fr.of_upd u2 (by simp))
 have a2:=hA.only (Zd.of_upd (T:=[29]) u2 a0 (by decide)) (by decide)
 have a1:=u2.own2 (Ze a5 a4) a0 (by decide)
 exact xe 9 (.slice p4 (ovN l.length m) c4) ⟨_,_,rfl,hB,hO,hX,k2,a2,a1⟩
def Zb1(B ba b g nn cc:Nat)(pa:O0)(ca f N k0:Nat)(bs:Bl)(t:Int)(l:List Ent)(w:World)(e:Ending)(w':World):Prop :=
 e=.returned (.tuple #[V0 (Yo t l (f+k0) bs).1,.nilIface])∧Below B w w'∧Zd [153,5,29] w w'∧Fr [ba,g] w w'∧Al B ba b g nn cc pa ca f N (k0+Zy t l.length) (Yo t l (f+k0) bs).2 w'
theorem Ze2(B ba b g nn cc:Nat)(pa:O0)(ca f N k0:Nat)(bs:Bl)(t:Int)(a:O0)(c:Nat)(l:List Ent)(w:World)(hC:AlC B ba nn cc ca f N)(hA:Al B ba b g nn cc pa ca f N k0 bs w)(ht1:1≤t)(ht2:t≤5)(E:EntsOk (Pj t true) l)(hn:l.length≤32768)(hf1:1≤f)(hkN:k0≤N)(hk:k0+Zy t l.length≤N)(hin:∀ W,Below B w W→Zd [153,5,29] w W→Sts Yj W (.slice a l.length c) l)(hBw:B≤w.heap.size) :
 C0 154 #[P0 ba,V0 t,.slice a l.length c] w (Zb1 B ba b g nn cc pa ca f N k0 bs t l w):=by
 have g1:=Ue t l.length
 have g2:(ovN l.length (Qq t true))≤Zy t l.length:=Lg _
 have f8:=Fh l.length (Qq t true) (Yt t true).1
 have f3:=Vf l.length (Qq t true)
 have f6:=hC.hf
 have g3:=hC.hn
 refine zin 52 Tryz.func154 ?_
 refine xa 2 [P0 ba] 74 fun b1 W1 n1=>?_
 refine xa 0 [V0 t] 3 fun b2 W2 n2=>?_
 have k1:=n1.blk.below n2.below
 refine xb 8 0 k1 ?_
 have c3:=(hA.below n1.below).below n2.below
 refine xr 0 (args:=#[P0 ba]) (Qb ba b _ _ _ c3.blkA) fun W3 b8=>?_
 have k2:=n2.blk.below b8
 refine xb 7 0 k2 ?_
 have hB:=blB (blB (blB (Below.refl B w) hBw n1.below) hBw n2.below) hBw b8
 have hO:=((show Zd [153,5,29] w _ from(Zd.of_below n1.below)).trans (Zd.of_below n2.below)).trans (Zd.of_below b8)
 refine xr 1 (args:=#[V0 t,.slice a l.length c]) (Zag t (Pj t true) a c l _ ht1 ht2 rfl E (hin _ hB hO) hn) fun W4 b5=>?_
 refine xd 6 .z ?_
 have c8:=((k1.below b8).below b5).below (Za W4)
 refine xb (.e [] 0) 0 c8 ?_
 have b9:=(k2.below b5).below (Za W4)
 refine xb (.e [] 2) 0 b9 ?_
 have c6:=((c3.below b8).below b5).below (Za W4)
 refine xr (.o [3,4] 1) (args:=#[P0 ba]) (Lm ba b pa N ca k0 _ c6.blkA hkN) fun W5 b6=>?_
 refine xr (.o [] 5) (args:=#[V0 t,V0 (l.length:Int)]) (Qj t l.length _ ht1 ht2 hn) fun W6 b4=>?_
 refine xk (.r [6,7] 2) (show(decide ((↑(N-k0):Int)<(↑(Zy t l.length):Int)):Bool)=false from decide_eq_false (by omega)) ?_
 refine xa 5 [.nilIface] 29 fun b7 W7 n7=>?_
 have a9:=blB (blB (blB (blB hB hBw b5) hBw (Za W4)) hBw b6) hBw b4
 have g7:=n7.ge0 a9
 have b0:=((c8.below b6).below b4).below n7.below
 have a8:=((b9.below b6).below b4).below n7.below
 have e5:=((c6.below b6).below b4).below n7.below
 have b3:=blB a9 hBw n7.below
 have c0:=((((hO.trans (Zd.of_below b5)).trans (Zd.of_below (Za W4))).trans (Zd.of_below b6)).trans (Zd.of_below b4)).trans (Zd.of_below n7.below)
 refine xc 12 (args:=#[.bool true,.slice a l.length c,P0 b1,P0 b2,P0 b7]) (Cy B ba b g nn cc pa ca f N k0 bs t true (Qq t true) (Pj t true) a c l b1 b2 b7 _ b0 a8 n7.blk (Blk.tne b0 n7.blk (by decide)) (Blk.tne a8 n7.blk (by decide)) (Nat.le_trans hBw g7) hC e5 ht1 ht2 rfl rfl E (by simp) hn hf1 (by omega) (fun W h1 h2=>hin W (b3.trans h1) (c0.trans h2)) (Nat.le_trans hBw b3.size)) ?_
 rintro _ W8 ⟨d1,d2,rfl,e9,d5,f1,d4,hA,a7⟩
 have f0:=(blB a9 hBw n7.below).size
 refine xv1 5 10 (show(.slice d1 (ovN l.length (Qq t true)) d2:Value)=.slice d1 ((upE l (Qq t true) (f+k0) (ovN l.length (Qq t true))).length) d2 from by rw[Xh]) ?_
 have c7:=Ze a7 f0
 have e4:=b3.trans e9
 have hX:=(Fr.trans_new ((((((((show Fr [ba,g] w _ from(Fr.of_below n1.below)).trans (Fr.of_below n2.below)).trans (Fr.of_below b8)).trans (Fr.of_below b5)).trans (Fr.of_below (Za W4))).trans (Fr.of_below b6)).trans (Fr.of_below b4)).trans (Fr.of_below n7.below)) f1 g7)
 have e3:=c0.trans d5
 have d7:=b0.only d5 (by decide)
 have d8:=a8.only d5 (by decide)
 refine zl 0 52 (fun zm f2 V=>∃ (u:List Ent) (K:Nat) (d0:Bl) (p:O0) (c2:Nat),f2=[(6,V0 0),(7,.nilIface),(8,P0 b7),(9,.func (.func 231) #[] #[P0 b1,P0 b2,P0 b7]),(10,.slice p u.length c2)]∧zm=u.length∧Below B w V∧Fr [ba,g] w V∧Zd [153,5,29] w V∧Blk V b1 ([P0 ba]) 74∧Blk V b2 ([V0 t]) 3∧Blk V b7 ([.nilIface]) 29∧V.ownsRow w.heap.size 123 3 (.slice p u.length c2) u.length (u.flatMap Yj)∧Al B ba b g nn cc pa ca f N K d0 V∧K+(Ri u.length).sum=k0+Zy t l.length+u.length∧1≤u.length∧u.length≤32768∧EntsOk 4 u∧Ux t u (f+K) d0=Yo t l (f+k0) bs) ⟨(upE l (Qq t true) (f+k0) (ovN l.length (Qq t true))),(k0+(ovN l.length (Qq t true))),(Iw t true (Qq t true) (Pj t true) l (f+k0) bs (ovN l.length (Qq t true))),d1,d2,rfl,rfl,e4,hX,e3,d7,d8,d4,(by rw[Xh];exact c7),hA,(by rw[Xh];unfold Zy Qw;omega),(by rw[Xh];exact f3),(by rw[Xh];omega),up_ok E (Yt t true).1,(by rw[←Nat.add_assoc];rfl)⟩ ?_
 rintro _ _ W9 ⟨u,K,d0,p,c2,rfl,rfl,a5,c5,c1,a1,a2,a0,a7,hA,hK,f5,g6,hE,c9⟩ J9 f4 r9
 have g0:¬ u.length≤1→(Ri u.length).sum=u.length+(Ri (ovN u.length 18)).sum:=fun h=>by rw[Kv h];rfl
 have f9:=Lg (ovN u.length 18)
 have g5:2≤u.length→ovN u.length 18≤u.length/2:=ov18
 have e0:=Vf u.length 18
 refine xb 3 0 a0 ?_
 refine xid 8 ((u.length:Int)>(1:Int)) (fun e1=>?_) (fun e1=>?_)
 ·refine xc 6 (args:=#[.bool false,.slice p u.length c2,P0 b1,P0 b2,P0 b7]) (Cy B ba b g nn cc pa ca f N K d0 t false 18 4 p c2 u b1 b2 b7 _ a1 a2 a0 (Blk.tne a1 a0 (by decide)) (Blk.tne a2 a0 (by decide)) (Nat.le_trans hBw g7) hC hA ht1 ht2 rfl rfl hE (fun _=>f5) (by omega) hf1 (by omega) (fun W _ h2=>Zf (Zi a7 h2 (by decide))) (Nat.le_trans hBw a5.size)) ?_
  rintro _ f7 ⟨e8,e7,rfl,d6,a6,e6,d4,hA,a7⟩
  refine xv1 3 10 (show(.slice e8 (ovN u.length 18) e7:Value)=.slice e8 ((upE u 18 (f+K) (ovN u.length 18)).length) e7 from by rw[Xh]) ?_
  have c4:=Ze a7 a5.size
  have e2:=a5.trans d6
  have d9:=(Fr.trans_new c5 e6 g7)
  have d3:=c1.trans a6
  have a3:=a1.only a6 (by decide)
  have a4:=a2.only a6 (by decide)
  refine ze 0 (f4 _ _ _ ⟨(upE u 18 (f+K) (ovN u.length 18)),(K+ovN u.length 18),_,_,_,rfl,rfl,e2,d9,d3,a3,a4,d4,(by rw[Xh];exact c4),hA,(by rw[Xh];omega),(by rw[Xh];exact e0),(by rw[Xh];omega),up_ok hE (by decide),(by rw[←c9,←Nat.add_assoc];exact(Nb (by omega)).symm)⟩ ?_)
  show((upE u 18 (f+K) (ovN u.length 18)).length)<u.length
  rw[Xh];omega
 refine xb 8 0 a0 ?_
 refine xx 9 _ u.length 0 3 (Sts.cell (Zf a7) Xg Xn (k:=0) (i:=0) (by omega) rfl).1 ?_
 refine xl 1 ((Sts.cell (Zf a7) Xg Xn (k:=0) (i:=2) (by omega) rfl).2) ?_
 refine xe 5 (.tuple #[V0 ((u.getD 0 Xn).2.2),.nilIface]) ?_
 have h1:u.length≤1:=by omega
 rw[Pd h1] at c9
 rw[Kq h1] at hK
 simp only[List.sum_cons,List.sum_nil] at hK
 obtain rfl:K=k0+Zy t l.length:=by omega
 refine⟨by rw[←c9],a5,c1,c5,by rw[←c9];exact hA⟩
theorem Al.mono{B B' ba b g n c:Nat}{pa:O0}{ca f N k:Nat}{l:Bl}{w:World}(h:Al B' ba b g n c pa ca f N k l w)(hB:B≤B'):Al B ba b g n c pa ca f N k l w:=⟨h.blkA,h.blkI,Ze h.data hB,Ze h.nums hB⟩
theorem AlC.mono{B B' ba n c ca f N:Nat}(h:AlC B' ba n c ca f N)(hB:B≤B'):AlC B ba n c ca f N:=⟨h.hn,h.hc,h.hca,h.hf,Nat.le_trans hB h.hB⟩
theorem row_at{w:World}{base g n c size:Nat}{e:TypeId}{xs:List Value}(h:w.ownsRow base e size (.slice (S1 g) n c) n xs):∃ cur,w.heap[g]? = some (.cells cur e (0,0)):=by
 rcases h.2 with ⟨hv,_⟩|⟨g2,a0,cur,hv,_,hh,_⟩
 ·cases hv
 ·simp only[Value.slice.injEq,Option.some.injEq,Addr.mk.injEq] at hv
  obtain⟨⟨rfl,_,_⟩,_⟩:=hv
  exact⟨cur,hh⟩
theorem Al.ne{B ba b g n c:Nat}{pa:O0}{ca f N k:Nat}{l:Bl}{B2 ba2 b2 g2 n2 c2:Nat}{pa2:O0}{ca2 f2 N2 k2:Nat}{l2:Bl}{w:World}(h:Al B ba b g n c pa ca f N k l w)(h2:Al B2 ba2 b2 g2 n2 c2 pa2 ca2 f2 N2 k2 l2 w):b2≠ba∧b2≠g:=by
 constructor
 ·rintro rfl
  exact absurd (h.blkA.ty h2.blkI) (by decide)
 ·rintro rfl
  obtain⟨a0,hh⟩:=row_at h.data
  have h3:w.heap[b2]? = some (.cells [.slice (S1 g2) n2 c2].toArray 95 (0,0)):=h2.blkI
  rw[hh] at h3
  simp only[Option.some.injEq,Obj.cells.injEq] at h3
  exact absurd h3.2.1 (by decide)
theorem Al.apart{B2 ba2 b2 g2 n2 c2:Nat}{pa2:O0}{ca2 f2 N2 k2:Nat}{l2:Bl}{w W:World}{ba g:Nat}(h:Al B2 ba2 b2 g2 n2 c2 pa2 ca2 f2 N2 k2 l2 w)(hC:AlC B2 ba2 n2 c2 ca2 f2 N2)(h1:ba<B2)(h2:g<B2)(hne:b2≠ba∧b2≠g)(hX:Fr [ba,g] w W):Al B2 ba2 b2 g2 n2 c2 pa2 ca2 f2 N2 k2 l2 W:=by
 have hB:=hC.hB
 refine⟨h.blkA.fr hX (by simp;omega),h.blkI.fr hX (by simp;exact hne),own_fr h.data hX fun k hk=>?_,own_fr h.nums hX fun k hk=>?_⟩
 ·have:=(h.data.lt k hk).1;simp;omega
 ·have:=(h.nums.lt k hk).1;simp;omega
theorem Ui(B ba b g nn cc:Nat)(pa:O0)(ca f N k0:Nat)(bs:Bl)(t:Int)(a:O0)(c:Nat)(l:List Ent)(n:Nat)(w:World)(hl:l.length=n)(hC:AlC B ba nn cc ca f N)(hA:Al B ba b g nn cc pa ca f N k0 bs w)(ht1:1≤t)(ht2:t≤5)(E:EntsOk (Pj t true) l)(hn:n≤32768)(hf1:1≤f)(hkN:k0≤N)(hk:k0+Zy t n≤N)(hin:∀ W,Below B w W→Zd [153,5,29] w W→Sts Yj W (.slice a l.length c) l)(hBw:B≤w.heap.size) :
 C0 154 #[P0 ba,V0 t,.slice a n c] w (Zb1 B ba b g nn cc pa ca f N k0 bs t l w):=by
 subst hl;exact Ze2 B ba b g nn cc pa ca f N k0 bs t a c l w hC hA ht1 ht2 E hn hf1 hkN hk hin hBw
theorem Gs{t:Int}{l:List Ent}{q:Nat}{bs:Bl}(hq:1≤q):(Yo t l q bs).1=((q+Zy t l.length-1:Nat):Int):=by
 have hp:=Vf l.length (Qq t true)
 have hg:=Lg (ovN l.length (Qq t true))
 unfold Yo
 rw[Zbj (by rw[Xh];exact hp) (by rw[Xh,Hx (by omega)];simp only[upX];congr 1;omega) (by omega),Xh]
 unfold Zy Qw
 congr 1;omega
abbrev Hg:=Int×List Ent
def Ns(x:Hg):Prop:=1≤x.1∧x.1≤5∧EntsOk (Pj x.1 true) x.2∧x.2.length≤32768
def By(x:Hg):Nat:=Zy x.1 x.2.length
def Xc:List Hg→Nat
 | []=>0
 | x::r=>By x+Xc r
def Lz:List Hg→Nat→Bl→Bl
 | [],_,bs=>bs
 | x::r,q,bs=>Lz r (q+By x) (Yo x.1 x.2 q bs).2
theorem Ex(a b:List Hg):Xc (a++b)=Xc a+Xc b:=by
 induction a with
 | nil=>simp[Xc]
 | cons x a ih=>simp only[List.cons_append,Xc,ih];omega
theorem Zaa(a b:List Hg):∀ (q:Nat) (bs:Bl),Lz (a++b) q bs=Lz b (q+Xc a) (Lz a q bs):=by
 induction a with
 | nil=>intro q bs;simp[Lz,Xc]
 | cons x a ih =>
  intro q bs
  simp only[List.cons_append,Lz,Xc,ih]
  rw[show q+By x+Xc a=q+(By x+Xc a) by omega]
theorem Oi(L:List Dv)(i:Nat):Km (L.take i)≤Km L:=by
 conv=>rhs;rw[←List.take_append_drop i L]
 unfold Km
 rw[List.map_append,List.sum_append];omega
theorem Nu{α:Type}{l:List α}{k:Nat}(d:α)(h:k<l.length):l.getD k d∈l:=by
 rw[show l.getD k d=l[k] from by simp[List.getD,h]];exact List.getElem_mem _
def Jd(L:List Dv):List Hg:=L.map fun d=>(2,Hp d.2)
def Ql(L:List Dv)(i:Nat):Nat:=Xc (Jd (L.take (i+1)))
theorem Dc(a b:List Dv):Jd (a++b)=Jd a++Jd b:=List.map_append ..
theorem Et{L:List Dv}{i:Nat}(h:i<L.length):Jd (L.take (i+1))=Jd (L.take i)++[(2,Hp (L.getD i dvD).2)]:=by
 rw[List.take_succ_eq_append_getElem h,Dc]
 simp[Jd,List.getD,h]
theorem Zdh{l:List Nat}{a:Nat}(h:a∈l):a≤l.sum:=by
 induction l with
 | nil=>cases h
 | cons b l ih =>
  rw[List.sum_cons]
  rcases List.mem_cons.1 h with rfl|h
  ·omega
  ·have:=ih h;omega
theorem devT_ok{data:Int}{L:List Dv}(h:DevsOk data L):∀ x∈Jd L,Ns x:=by
 intro x hx
 obtain⟨d,hd,rfl⟩:=List.mem_map.1 hx
 have hs:d.2.length≤Km L:=by
  unfold Km
  exact Zdh (List.mem_map.2 ⟨d,hd,rfl⟩)
 have:=h.sum
 exact⟨show(1:Int)≤2 by decide,show(2:Int)≤5 by decide,mapEs_ok (h.each d hd).maps,by rw[Qr];omega⟩
theorem forN_one(x:Hg):Xc [x]=By x:=by show By x+0=_;omega
theorem Ka(F:List Hg)(x:Hg):Xc (F++[x])=Xc F+By x:=by rw[Ex,forN_one]
theorem Of(F:List Hg)(x:Hg)(q:Nat)(bs:Bl):Lz (F++[x]) q bs=(Yo x.1 x.2 (q+Xc F) (Lz F q bs)).2:=by rw[Zaa];rfl
theorem Wo(x:Hg):1≤By x:=Ue _ _
def AlF (B ba b g nn cc:Nat)(pa:O0)(ca N:Nat)(bs:Bl)(F:List Hg)(w:World):Prop:=Al B ba b g nn cc pa ca 1 N (Xc F) (Lz F 1 bs) w
theorem AlF.below{B ba b g nn cc:Nat}{pa:O0}{ca N:Nat}{bs:Bl}{F:List Hg}{w W:World}(h:AlF B ba b g nn cc pa ca N bs F w)(hb:B3 w W):AlF B ba b g nn cc pa ca N bs F W:=Al.below h hb
theorem AlF.only{B ba b g nn cc:Nat}{pa:O0}{ca N:Nat}{bs:Bl}{F:List Hg}{w W:World}{T:List TypeId}(h:AlF B ba b g nn cc pa ca N bs F w)(hO:Zd T w W)(hT:(T.contains 153||(T.contains 95||(T.contains 5||T.contains 3)))=false):AlF B ba b g nn cc pa ca N bs F W:=by
 simp only[Bool.or_eq_false_iff] at hT
 exact⟨h.blkA.only hO hT.1,h.blkI.only hO hT.2.1,Zi h.data hO hT.2.2.1,Zi h.nums hO hT.2.2.2⟩
theorem build_F(B ba b g nn cc:Nat)(pa:O0)(ca N:Nat)(bs:Bl)(F:List Hg)(t:Int)(a:O0)(c n:Nat)(l:List Ent)(w:World)(hl:l.length=n)(hC:AlC B ba nn cc ca 1 N)(hA:AlF B ba b g nn cc pa ca N bs F w)(hok:Ns (t,l))(hr:Xc (F++[(t,l)])≤N)
 (hin:∀ W,Below B w W→Zd [153,5,29] w W→Sl W (.slice a n c) n (l.flatMap Yj)) (hBw:B≤w.heap.size) :
 C0 154 #[P0 ba,V0 t,.slice a n c] w (fun e w'=>e=.returned (.tuple #[V0 (Xc (F++[(t,l)]):Int),.nilIface])∧Below B w w'∧Zd [153,5,29] w w'∧Fr [ba,g] w w'∧AlF B ba b g nn cc pa ca N bs (F++[(t,l)]) w'):=by
 subst hl
 have hn:=Wo (t,l)
 rw[Ka] at hr
 refine(Ui B ba b g nn cc pa ca 1 N (Xc F) (Lz F 1 bs) t a c l l.length w rfl hC hA hok.1 hok.2.1 hok.2.2.1 (Nat.le_trans hok.2.2.2 (by decide)) (Nat.le_refl _) (by omega) hr hin hBw).mono ?_
 rintro e w' ⟨rfl,hb,hO,hX,a1⟩
 have a0:(Yo t l (1+Xc F) (Lz F 1 bs)).1=((Xc (F++[(t,l)]):Nat):Int):=by
  rw[Gs (by omega),Ka]
  show((1+Xc F+By (t,l)-1:Nat):Int)=_
  omega
 refine⟨by rw[a0],hb,hO,hX,?_⟩
 unfold AlF
 rw[Ka,Of]
 exact a1
theorem top_ok{data:Int}{L:List Dv}{R:Nat→Nat}(h:DevsOk data L):Ns (1,Uj L R):=by
 have:=h.few
 exact⟨show(1:Int)≤1 by decide,show(1:Int)≤5 by decide,topEs_ok h,by rw[Yp];omega⟩
theorem det_ok{data:Int}{L:List Dv}{C:Nat→Int}(h:DevsOk data L):Ns (3,Ud L C):=by
 have:=h.few
 exact⟨show(1:Int)≤3 by decide,show(3:Int)≤5 by decide,detEs_ok h,by rw[Yq];omega⟩
theorem Wf{E:List Ent}{i:Nat}(h:i<E.length){x:Ent}(hx:E.getD i Xn=x):(E.take i).flatMap Yj++Yj x=(E.take (i+1)).flatMap Yj:=by
 subst hx
 rw[List.take_succ_eq_append_getElem h,List.flatMap_append]
 simp[List.getD,h]
theorem Dz{L:List Dv}{i:Nat}(h:i<L.length):1≤Xc (Jd (L.take (i+1))):=by
 rw[Et h,Ka]
 have:=Wo (2,Hp (L.getD i dvD).2);omega
theorem Fx{data:Int}{L:List Dv}(hD:DevsOk data L){i:Nat}(h:i<L.length):Ns (2,Hp (L.getD i dvD).2):=devT_ok hD _ (List.mem_map.2 ⟨L.getD i dvD,by simp[List.getD,h],rfl⟩)
theorem Ph{L:List Dv}{i:Nat}(h:i<L.length):(L.getD i dvD).2.length≤Km L:=by
 have a:=Oi L (i+1)
 have e:Km (L.take (i+1))=Km (L.take i)+(L.getD i dvD).2.length:=by
  unfold Km
  rw[List.take_succ_eq_append_getElem h,List.map_append,List.sum_append]
  simp[List.getD,h]
 omega
def Kc(L:List Dv):Nat→Int:=fun i=>((L.getD i dvD).2.length:Int)
def F1 (L:List Dv):List Hg:=Jd L++[(1,Uj L (Ql L))]
def F2 (L:List Dv):List Hg:=F1 L++[(3,Ud L (Kc L))]
def Zb5(cs:List Nat)(k:Int):List Nat:=cs.set k.toNat (cs.getD k.toNat 0+1)
theorem Sn(cs:List Nat)(k:Int):(Zb5 cs k).length=cs.length:=by simp[Zb5]
theorem sum_set{cs:List Nat}{k:Nat}(h:k<cs.length)(v:Nat):(cs.set k v).sum+cs.getD k 0=cs.sum+v:=by
 induction cs generalizing k with
 | nil=>exact absurd h (by simp)
 | cons a cs ih =>
  cases k with
  | zero=>simp[List.getD];omega
  | succ k =>
   have:=ih (k:=k) (by simpa using h)
   simp only[List.set_cons_succ,List.sum_cons,List.getD_cons_succ]
   omega
theorem bump_sum{cs:List Nat}{k:Int}(h0:0≤k)(h:k<cs.length):(Zb5 cs k).sum=cs.sum+1:=by
 have:=sum_set (cs:=cs) (k:=k.toNat) (by omega) (cs.getD k.toNat 0+1)
 unfold Zb5;omega
def Qy:Nat→List Dv→List (Nat×Mp)
 | _,[]=>[]
 | i,d::r=>d.2.map (fun m=>(i,m))++Qy (i+1) r
theorem Wl(L:List Dv):∀ i,(Qy i L).length=Km L:=by
 induction L with
 | nil=>intro i;rfl
 | cons d r ih=>intro i;rw[Qy,List.length_append,List.length_map,ih];rfl
theorem Zdm(L:List Dv):∀ (b i:Nat),i≤L.length→(Qy b L).drop (Km (L.take i))=Qy (b+i) (L.drop i):=by
 induction L with
 | nil =>
  intro b i hi;obtain rfl:i=0:=by simpa using hi
  rfl
 | cons d r ih =>
   intro b i hi
   cases i with
   | zero=>rfl
   | succ i =>
    have e:Km ((d::r).take (i+1))=d.2.length+Km (r.take i):=rfl
    rw[e,Qy,List.drop_append,List.length_map,show d.2.length+Km (r.take i)-d.2.length=Km (r.take i) by omega,List.drop_eq_nil_of_le (by rw[List.length_map];omega),List.nil_append,ih (b+1) i (by simpa using hi)]
    rw[show b+1+i=b+(i+1) by omega];rfl
theorem Zbk{L:List Dv}{i j:Nat}(hi:i<L.length)(hj:j<(L.getD i dvD).2.length):(Qy 0 L)[Km (L.take i)+j]? = some (i,(L.getD i dvD).2.getD j (0,0,0)):=by
 have h:=Zdm L 0 i (by omega)
 rw[←List.getElem?_drop,h,List.drop_eq_getElem_cons hi,Qy,Nat.zero_add]
 have e:L.getD i dvD=L[i]:=by simp[List.getD,hi]
 rw[e] at hj ⊢
 rw[List.getElem?_append_left (by rw[List.length_map];exact hj),List.getElem?_map,List.getElem?_eq_getElem hj]
 simp[List.getD,hj]
def He(cs:List Nat)(R:List (Nat×Mp)):List Nat:=R.foldl (fun c x=>Zb5 c x.2.2.1) cs
def Yk(data:Nat)(L:List Dv):List Nat:=He (List.replicate data 0) (Qy 0 L)
theorem Eh(R:List (Nat×Mp)):∀ cs,(He cs R).length=cs.length:=by
 induction R with
 | nil=>intro cs;rfl
 | cons x r ih=>intro cs;show(He (Zb5 cs x.2.2.1) r).length=_;rw[ih,Sn]
theorem Yw(data:Nat)(L:List Dv):(Yk data L).length=data:=by unfold Yk;rw[Eh,List.length_replicate]
theorem Ro(cs:List Nat)(R:List (Nat×Mp)){k:Nat}{x:Nat×Mp}(h:R[k]? = some x):He cs (R.take (k+1))=Zb5 (He cs (R.take k)) x.2.2.1:=by
 have hk:k<R.length:=by
  rcases Nat.lt_or_ge k R.length with q|q
  ·exact q
  ·rw[List.getElem?_eq_none q] at h;cases h
 rw[List.getElem?_eq_getElem hk,Option.some.injEq] at h
 unfold He
 rw[List.take_succ_eq_append_getElem hk,List.foldl_append,h];rfl
theorem Oj{data:Int}:∀ (L:List Dv),(∀ d∈L,DevOk data d)→∀ (b:Nat),∀ x∈Qy b L,0≤x.2.2.1∧x.2.2.1<data
 | [],_,_,x,hx=>by cases hx
 | d::r,he,b,x,hx=>by
  rw[Qy] at hx
  rcases List.mem_append.1 hx with hx|hx
  ·obtain⟨m,hm,rfl⟩:=List.mem_map.1 hx
   exact((he d (List.mem_cons_self ..)).maps.each m hm).2.1
  ·exact Oj r (fun y hy=>he y (List.mem_cons_of_mem _ hy)) (b+1) x hx
theorem Tg{data:Int}{L:List Dv}(h:DevsOk data L)(b:Nat):∀ x∈Qy b L,0≤x.2.2.1∧x.2.2.1<data:=Oj L h.each b
theorem Dq{data:Nat}(R:List (Nat×Mp))(h:∀ x∈R,0≤x.2.2.1∧x.2.2.1<(data:Int)):∀ cs,cs.length=data→(He cs R).sum=cs.sum+R.length:=by
 induction R with
 | nil=>intro cs _;rfl
 | cons x r ih =>
  intro cs hc
  have hx:=h x (List.mem_cons_self ..)
  show(He (Zb5 cs x.2.2.1) r).sum=_
  rw[ih (fun y hy=>h y (List.mem_cons_of_mem _ hy)) _ (by rw[Sn];exact hc),bump_sum hx.1 (by omega),List.length_cons];omega
theorem Iu{data:Nat}{L:List Dv}(h:DevsOk (data:Int) L):(Yk data L).sum=Km L:=by
 unfold Yk
 rw[Dq _ (Tg h 0) _ List.length_replicate,List.sum_replicate_nat,Wl];omega
theorem Pv(l:List Nat)(i:Nat):l.getD i 0≤l.sum:=by
 induction l generalizing i with
 | nil=>simp[List.getD]
 | cons a l ih =>
  cases i with
  | zero=>simp[List.getD]
  | succ i=>have:=ih i;simp only[List.getD_cons_succ,List.sum_cons];omega
def Yi(data:Nat)(L:List Dv):List Int:=(Yk data L).map fun n:Nat=>(n:Int)
theorem Xy(data:Nat)(L:List Dv):(Yi data L).length=data:=by unfold Yi;rw[List.length_map,Yw]
theorem Em(data:Nat)(L:List Dv)(i:Nat):(Yi data L).getD i 0=((Yk data L).getD i 0:Nat):=by
 unfold Yi
 simp only[List.getD,List.getElem?_map]
 cases (Yk data L)[i]? <;> rfl
theorem Jy{data:Nat}{L:List Dv}(hd:data≤65536)(h:DevsOk (data:Int) L):Yu (Yi data L)=0:=by
 unfold Yu
 rw[Xy,if_neg (by omega),if_pos]
 intro k hk
 rw[Em]
 have a:=Pv (Yk data L) k
 rw[Iu h] at a
 have b:=h.sum
 unfold Kw;omega
def Ul(cs:List Nat)(k:Nat):Nat:=((cs.take k).filter fun n=>decide (3≤n)).length
theorem Gr{cs:List Nat}{k:Nat}(h:k<cs.length):Ul cs (k+1)=Ul cs k+if 3≤cs.getD k 0 then 1 else 0:=by
 unfold Ul
 rw[List.take_succ_eq_append_getElem h,List.filter_append,List.length_append,show cs.getD k 0=cs[k] from by simp[List.getD,h]]
 congr 1
 by_cases q:3≤cs[k]<;>simp[q]
theorem Zbp(cs:List Nat):∀ k,k≤cs.length→3*Ul cs k≤(cs.take k).sum
 | 0,_=>by simp[Ul]
 | k+1,h=>by
  have ih:=Zbp cs k (by omega)
  rw[Gr (by omega),List.take_succ_eq_append_getElem (by omega),List.sum_append]
  have e:cs.getD k 0=cs[k]:=by simp[List.getD,show k<cs.length by omega]
  rw[e]
  simp only[List.sum_cons,List.sum_nil,Nat.add_zero]
  split<;>omega
theorem Zcr(data:Nat)(L:List Dv):∀ k,k≤data→(Zm (Yi data L) k).length=Ul (Yk data L) k
 | 0,_=>by simp[Zm,Ul]
 | k+1,h=>by
  have ih:=Zcr data L k (by omega)
  rw[Gr (by rw[Yw];omega),←ih]
  by_cases q:3≤(Yi data L).getD k 0
  ·rw[Kg q,List.length_append,if_pos (by rw[Em] at q;omega)];rfl
  ·rw[Kr q,if_neg (by rw[Em] at q;omega),Nat.add_zero]
def Za2(data:Nat)(L:List Dv):Nat:=Ul (Yk data L) data
theorem Hy(data:Nat)(L:List Dv):(Zm (Yi data L) (Yi data L).length).length=Za2 data L:=by rw[Xy];exact Zcr data L data (Nat.le_refl _)
theorem Hm{data:Nat}{L:List Dv}(h:DevsOk (data:Int) L):Za2 data L≤5462:=by
 have a:=Zbp (Yk data L) data (by rw[Yw];exact Nat.le_refl _)
 rw[List.take_of_length_le (by rw[Yw];exact Nat.le_refl _),Iu h] at a
 have:=h.sum
 unfold Za2;omega
def Qu(L:List Dv):Nat:=(L.map fun d=>Zy 2 d.2.length).sum
def Wi(data:Nat)(L:List Dv):Nat:=1+Zy 3 L.length+Zy 1 L.length+Qu L+bmN data+Zy 4 (bmN data)+Zy 5 (Za2 data L)
theorem Zcy{L:List Dv}{i:Nat}(h:i<L.length):Qu (L.take (i+1))=Qu (L.take i)+Zy 2 (L.getD i dvD).2.length:=by
 unfold Qu
 rw[List.take_succ_eq_append_getElem h,List.map_append,List.sum_append,show L.getD i dvD=L[i] from by simp[List.getD,h]]
 simp
theorem Zd4(L:List Dv):Xc (Jd L)=Qu L:=by
 induction L with
 | nil=>rfl
 | cons d r ih =>
  have e:Xc (Jd (d::r))=Zy 2 (Hp d.2).length+Xc (Jd r):=rfl
  have e2:Qu (d::r)=Zy 2 d.2.length+Qu r:=rfl
  rw[e,e2,ih,Qr]
def Uo(m:Nat):Nat:=m+(m-1)/959+1
def Kk(data:Nat)(L:List Dv):Nat:=Uo (Wi data L+2)
theorem Tv{L:List Dv}:Qu L≤2*Km L+2*L.length:=by
 induction L with
 | nil=>exact Nat.zero_le _
 | cons d r ih =>
  have e2:Qu (d::r)=Zy 2 d.2.length+Qu r:=rfl
  have e3:Km (d::r)=d.2.length+Km r:=rfl
  have:=Yv 2 d.2.length
  rw[e2,e3,List.length_cons];omega
theorem Tb{data:Nat}{L:List Dv}(hd:data≤65536)(h:DevsOk (data:Int) L):1≤Wi data L∧Wi data L≤100000:=by
 have a:=Yv 3 L.length
 have b:=Yv 1 L.length
 have c:=@Tv L
 have d:=Yv 4 (bmN data)
 have e:=Yv 5 (Za2 data L)
 have f:=Hm h
 have g:=h.few
 have i:=h.sum
 have j:bmN data≤69:=by unfold bmN;omega
 unfold Wi;omega
theorem Zg5{m n:Nat}(h0:1≤m)(h1:m≤n)(h2:n<Uo m):n<m+bmN n:=by unfold Uo at h2;unfold bmN;omega
theorem Oq{m n:Nat}(h:Uo m≤n):m+bmN n≤n:=by unfold Uo at h;unfold bmN;omega
end Go.Proofs.YtegcamkgeacjfaaGreatDoor
namespace Go.Proofs.YtegcamkgeacjfaaGreatDoor
set_option maxHeartbeats 8000000
set_option maxRecDepth 100000
open Go.RowKit
set_option linter.unusedVariables false
def Bv(l:List Int):Prop:=∀ k,k<l.length→1≤k→l[k-1]?.getD 0<l[k]?.getD 0
instance (l:List Int):Decidable (Bv l):=by unfold Bv;infer_instance
theorem Bv.lt{l:List Int}(h:Bv l):∀ (j i:Nat),i<j→j<l.length→l[i]?.getD 0<l[j]?.getD 0:=by
 intro j
 induction j with
 | zero=>intro i h1;omega
 | succ j ih =>
  intro i h1 h2
  have h3:=h (j+1) h2 (by omega)
  simp only[Nat.add_sub_cancel] at h3
  by_cases hij:i=j
  ·subst hij;exact h3
  ·exact Int.lt_trans (ih i (by omega) (by omega)) h3
theorem Bv.one(l:List Int):Bv (l.take 1):=by
 intro k h1 h2;simp at h1;omega
theorem Bv.succ{l:List Int}{k:Nat}{x y:Int}(h:Bv (l.take k))(hx:l[k-1]? = some x)(hy:l[k]? = some y)(hxy:x<y):Bv (l.take (k+1)):=by
 intro j h1 h2
 have a0:j<k+1:=by simp at h1;omega
 rw[List.getElem?_take,List.getElem?_take,if_pos (by omega),if_pos a0]
 by_cases hj:j=k
 ·subst hj;rw[hx,hy];exact hxy
 ·have:=h j (by simp at h1 ⊢;omega) h2
  rw[List.getElem?_take,List.getElem?_take,if_pos (by omega),if_pos (by omega)] at this
  exact this
theorem Bv.all{l:List Int}{k:Nat}(h:Bv (l.take k))(hk:l.length≤k):Bv l:=by rwa [List.take_of_length_le hk] at h
end Go.Proofs.YtegcamkgeacjfaaGreatDoor
namespace Go.Proofs.YtegcamkgeacjfaaGreatDoor
set_option maxHeartbeats 8000000
set_option maxRecDepth 100000
open Go.RowKit
set_option linter.unusedVariables false
attribute [local go_sem] Oper.semAt_some
theorem Mf{n k:Nat}(h:k<n):(List.finRange n).take (k+1)=(List.finRange n).take k++[⟨k,h⟩]:=by
 rw[List.take_succ_eq_append_getElem (by simpa using h)];simp
theorem Ou(n:Nat):(List.finRange n).take n=List.finRange n:=List.take_of_length_le (by simp)
theorem Ek{n k:Nat}(h:k≤n):((List.finRange n).take k).length=k:=by simp[h]
theorem Sl.to{w W:World}{v:Value}{n:Nat}{xs:List Value}(h:Sl w v n xs)(hk:∀ a x,w.cell? a=some x→W.cell? a=some x):Sl W v n xs:=by
 rcases h with h|⟨b,a0,a1,h1,h2,h3,h4⟩
 ·exact .inl h
 ·exact .inr ⟨b,a0,a1,h1,h2,h3,fun j x hj=>hk _ _ (h4 j x hj)⟩
theorem DevsR.to{w W:World}{p:O0}{c:Nat}{Z:List Zv}(h:DevsR w p c Z)(hk:∀ a x,w.cell? a=some x→W.cell? a=some x):DevsR W p c Z:=⟨Sl.to h.row hk,fun i hi=>Sl.to (h.each i hi) hk⟩
def encM(x:Nat×Mp):Array Value:=#[V0 (x.1:Int),.agg #[V0 x.2.1,V0 x.2.2.1,V0 x.2.2.2]]
theorem Eb{q:Nat→Prop}{W V:World}(h:Keeps q W V)(hq:∀ b,q b→b<W.heap.size)(o:Obj):Keeps q W (V.alloc o):=by
 have hb:=(Below.refl V.heap.size V).alloc (Nat.le_refl _) o
 exact⟨Nat.le_trans h.size hb.size,fun b a0=>(hb.block b (Nat.lt_of_lt_of_le (hq b a0) h.size)).trans (h.block b a0)⟩
theorem sl_lit{α:Type}{f:α→List Value}{w:World}{p:O0}{n c:Nat}{l:List α}(h:Sl w (.slice p n c) n (l.flatMap f))(hn:0<n):∃ pb po,p=some ⟨pb,po,none⟩∧∀ j x,(l.flatMap f)[j]? = some x→w.cell? ⟨pb,po+j,none⟩=some x:=by
 rcases h with ⟨a,cc,h1,h2,_⟩|⟨pb,po,a0,h1,_,_,h4⟩
 ·omega
 ·simp only[Value.slice.injEq] at h1
  exact⟨pb,po,h1.1,h4⟩
theorem maps1_in(l B1:Nat)(pp:O0)(n c:Nat)(t u v x:Int)(Z:List Zv)(w:World)(hZ:Z.length=n)(hP:DevsR w pp c Z)(hn:n≤1000000000)(q:Nat→Prop)(hq:∀ b,b<w.heap.size→q b)(J Jx:Nat→World→Prop)(hJ:∀ k A B,J k A→Below A.heap.size A B→J k B)
 (hY:∀ k x V,(Qy 0 (Z.map Prod.fst))[k]? = some x→J k V→YieldAt Fence.wide 2 Tryz.prog l (encM x) V fun e U =>
 (e=.returned (.bool true)∧J (k+1) U∧Keeps q V U)∨(e=.returned (.bool false)∧Jx k U))
 (W:World) (hW:B3 w W) (hqlt:∀ b,q b→b<W.heap.size) (hk1:Blk W B1 [V0 t,V0 u,V0 v,V0 x,.slice pp n c] 24) (h0:J 0 W) :
 CallsIn Fence.wide 3 Tryz.prog 233 #[.func (.yield l) #[] #[],P0 B1] W fun e U=>(∃ v,e=.returned v)∧(J (Qy 0 (Z.map Prod.fst)).length U∨∃ k,k<(Qy 0 (Z.map Prod.fst)).length∧Jx k U):=by
 refine callsIn_of_wp Tryz.func233 rfl trivial ?_ rfl
 simp only[Tryz.ntmps233,List.size_toArray,List.length_cons,List.length_nil,Nat.reduceAdd,Nat.reduceSub,Array.replicate_succ,Array.replicate_zero,List.push_toArray,List.append_toArray,List.nil_append,List.cons_append]
 have z4:=hk1.cell (i:=4) rfl
 have c5:(Z.map Prod.fst).length=n:=by rw[List.length_map];exact hZ
 gi_wp2
 gi_loopw [10] (fun i wr=>∃ k:Nat,k≤n∧i=V0 (k:Int)∧J (Km ((Z.map Prod.fst).take k)) wr∧Keeps q W wr)
  (fun i _=>(n-(intOf i)).toNat)
 case atStart=>exact⟨0,Nat.zero_le _,rfl,h0,Keeps.refl _ _⟩
 case round =>
  obtain⟨k,hk,rfl,a0,b5⟩:=hrel
  by_cases hlt:k<n
  ·have b0:∀ {V:World},Keeps q W V→DevsR V pp c Z:=fun hV=>hP.to (fun a x ha=>(hV.cell (a:=a) (hq _ (ltC ha))).trans (Zfz hW ha))
   have b6:=b0 b5
   have a1:Sl wr (.slice pp n c) n (Z.flatMap devZ):=b6.rowN hZ
   obtain⟨pb,po,b9,hc⟩:=sl_lit a1 (by omega)
   have gz:∀ i x,i<5→(devZ (Z.getD k zvD))[i]? = some x→wr.cell? ⟨pb,po+k*5+i,none⟩=some x:=fun i x hi hx=>by
    rw[Nat.add_assoc]
    exact hc _ _ ((Cg Ye Z k i zvD (by omega) hi).trans hx)
   have a2:=fun j hj=>Zbk (L:=Z.map Prod.fst) (i:=k) (j:=j) (by omega) hj
   rw[zfst (by omega)] at a2
   have a6:=Gl (Z:=Z) (i:=k) (by omega)
   have b2:=fun {V:World} (hV:Keeps q W V)=>(b0 hV).each k (by omega)
   obtain⟨⟨⟨⟨i0,i1,i2,i3⟩,M⟩,mp,mc⟩,hz⟩:∃ z,Z.getD k zvD=z:=⟨_,rfl⟩
   rw[hz] at gz a2 a6
   simp only[hz] at b2
   have z5:=gz 0 _ (by decide) rfl
   have z6:=gz 1 _ (by decide) rfl
   have z7:=gz 2 _ (by decide) rfl
   have z8:=gz 3 _ (by decide) rfl
   have z9:=gz 4 _ (by decide) rfl
   rw[Nat.add_zero] at z5
   clear gz hc hz a1 b6
   subst b9
   obtain⟨S,hS⟩:∃ S,Km ((Z.map Prod.fst).take k)=S:=⟨_,rfl⟩
   rw[hS] at a0 a2 a6
   gi_wp2
   gi_loopw [18] (fun j b4=>∃ m:Nat,m≤M.length∧j=V0 (m:Int)∧J (S+m) b4∧Keeps q W b4)
    (fun j _=>(M.length-(intOf j)).toNat)
   case atStart=>exact⟨0,Nat.zero_le _,rfl,hJ _ _ _ a0 ((Below.refl _ wr).alloc (Nat.le_refl _) _),Eb b5 hqlt _⟩
   case round =>
    obtain⟨m,hm,rfl,b1,a5⟩:=hrel
    have hM:=b2 a5
    have c6:M.length≤9223372036854775807:=Sl.len hM
    by_cases hmt:m<M.length
    ·have a9:Sl wr (.slice mp M.length mc) M.length (M.flatMap mapC):=hM
     obtain⟨mb,mo,b8,b3⟩:=sl_lit a9 (by omega)
     have gm:∀ i x,i<3→(mapC (M.getD m (0,0,0)))[i]? = some x→wr.cell? ⟨mb,mo+m*3+i,none⟩=some x:=fun i x hi hx=>by
      rw[Nat.add_assoc]
      exact b3 _ _ ((Cg Xx M m i (0,0,0) hmt hi).trans hx)
     have hx:=a2 m hmt
     obtain⟨⟨m1,m2,m3⟩,a3⟩:∃ y,M.getD m (0,0,0)=y:=⟨_,rfl⟩
     rw[a3] at gm
     have a7:(Qy 0 (Z.map Prod.fst))[S+m]? = some (k,(m1,m2,m3)):=by rw[hx];exact congrArg (fun y=>some (k,y)) a3
     have y1:=gm 0 _ (by decide) rfl
     have y2:=gm 1 _ (by decide) rfl
     have y3:=gm 2 _ (by decide) rfl
     rw[Nat.add_zero] at y1
     clear gm b3 a9 hM hx a3
     subst b8
     have b7:=(Below.refl wr.heap.size wr).alloc (Nat.le_refl _) (.cells #[V0 m1,V0 m2,V0 m3] 164)
     obtain⟨fn,c0,a8,c3,hy,hR⟩:=hY _ _ (wr.alloc (.cells #[V0 m1,V0 m2,V0 m3] 164)) a7 (hJ _ _ _ b1 b7)
     have c4:=Eb a5 hqlt (.cells #[V0 m1,V0 m2,V0 m3] 164)
     simp only[encM] at hy
     gi_wp2
     refine hR.mono ?_
     rintro e W3 (⟨rfl,c1,c2⟩|⟨rfl,a4⟩)
     ·gi_wp2
      go_roundw
      case rel =>
       refine⟨m+1,by omega,?_,c1,c4.trans c2⟩
       exact congrArg V0 (by omega)
      case measure=>simp only[intOf];omega
     ·gi_wp2
      refine bodyPost_ret (results_none rfl _ _ _) rfl ?_
      refine⟨⟨_,rfl⟩,.inr ⟨_,?_,a4⟩⟩
      rcases Nat.lt_or_ge (S+m) (Qy 0 (Z.map Prod.fst)).length with h|h
      ·exact h
      ·rw[List.getElem?_eq_none h] at a7;cases a7
    ·obtain rfl:m=M.length:=by omega
     gi_wp2
     go_roundw
     case rel =>
      refine⟨k+1,by omega,?_,by rw[a6];exact b1,a5⟩
      exact congrArg V0 (by omega)
     case measure=>simp only[intOf];omega
  ·obtain rfl:k=n:=by omega
   have HJ:=Lib.hid a0;clear a0
   gi_wp2
   go_end0
   have a0:=HJ.out
   rw[List.take_of_length_le (by omega)] at a0
   exact⟨⟨_,rfl⟩,.inl (by rw[Wl];exact a0)⟩
end Go.Proofs.YtegcamkgeacjfaaGreatDoor
namespace Go.Proofs.YtegcamkgeacjfaaGreatDoor
set_option maxHeartbeats 8000000
set_option maxRecDepth 100000
open Go.RowKit Go.Extern.Stop Go.Stop Go.Extern
set_option linter.unusedVariables false
attribute [local irreducible] wpList wpAnyH Code.wp Oper.wp Go
section
variable {P:Program} {a:Act}
theorem shl_bd{n:Int}(h:0≤n∧n≤3){s:Nat}(hs:s≤6):0≤n*2 ^ s∧n*2 ^ s≤192:=by
 obtain rfl|rfl|rfl|rfl:n=0∨n=1∨n=2∨n=3:=by omega
 all_goals obtain rfl|rfl|rfl|rfl|rfl|rfl|rfl:s=0∨s=1∨s=2∨s=3∨s=4∨s=5∨s=6:=by omega
 all_goals decide
theorem run_shlS{o:Oper}{t t2:TypeId}{x y:Operand}{n:Int}{s:Nat}{j:Int}{kj:IntKind}(ho:o.op=.binOp .shl t x y t2)(hx:a.eval x=V0 n)(hy:a.eval y=.int kj j)(hj:j=(s:Int))(hn:0≤n∧n≤3)(hs:s≤6)(w:World):(execOp a.eval o).run P w=.ok (.value (V0 (n*2 ^ s))) w:=by
 subst hj
 have e:=shift_shl .i64 kj n (s:Int) (Int.natCast_nonneg s) (by show(s:Int)≤64;omega)
 rw[show((s:Int)).toNat=s from by omega] at e
 have hb:=shl_bd hn hs
 rw[IntWalk.i64_in _ (by omega)] at e
 simp only[execOp,ho,hx,hy,eqGuard_shl,binOp_shl,e]
 simp
end
section
variable {P:Program} {fn:Func} {R:Ending→World→Prop} {w:World} {s:Zs}
theorem xbot(q:Zq){b:BinOp}{t t2:TypeId}{u1 u2 v:Value}(hv:∀ (a:Act) (o:Oper) (x y:Operand),o.op=.binOp b t x y t2→a.eval x=u1→a.eval y=u2→∀ V,True→(execOp a.eval o).run P V=.ok (.value v) V)(g:Go P fn R (znx (zq P q s) v) w)(h:zk (zq P q s)=some (.bn b t t2 u1 u2):=by kernel_rfl):Go P fn R s w:=by
 refine Zu q s ?_
 obtain⟨o,ho,h⟩:=Vg h
 exact Zak ho (fun V _=>by
  obtain⟨x,y,h1,h2,h3⟩:=Wg h
  exact hv _ o x y h1 h2 h3 V trivial) g
end
theorem u8_shl{n:Int}(h:0≤n∧n≤3){s:Nat}(hs:s≤6):IntKind.u8.wrap (n*2 ^ s)=n*2 ^ s:=by
 have hb:=shl_bd h hs
 generalize n*2 ^ s=m at *
 simp[IntKind.wrap,IntKind.bits,IntKind.signed];omega
theorem bitsT_at(l:List Int)(i:Nat){k:Nat}(hk:k<240):(Nw l i).getD (4+k) 0=g4B l i k:=by
 unfold Nw
 rw[List.getD,List.getElem?_append_right (by rw[Zh];omega),Zh,Nat.add_sub_cancel_left]
 simp[hk]
theorem bits_or{l:List Int}(h:Hq l){i:Nat}(hi:i<960):IntKind.u8.wrap (↑(BitVec.ofInt 8 (↑((Nw l i).getD (4+(i/4)) 0).toNat:Int) ||| BitVec.ofInt 8 (l.getD i 0*2 ^ ((i%4)*2))).toNat:Int)=((g4B l (i+1) (i/4)).toNat:Int):=by
 rw[bitsT_at l i (by omega)]
 obtain⟨h1,h2⟩:=g4B_at h (i:=i)
 rw[h1]
 obtain⟨n,hn⟩:∃ n:Nat,l.getD i 0=n:=⟨(l.getD i 0).toNat,by have:=(Uf h i).1;omega⟩
 have hb:=Uf h i
 rw[hn] at hb ⊢
 generalize (g4B l i (i/4)).toNat=o at *
 have hr:i%4<4:=by omega
 generalize i%4=r at *
 have ho:o<64:=Nat.lt_of_lt_of_le h2 (by
  obtain rfl|rfl|rfl|rfl:r=0∨r=1∨r=2∨r=3:=by omega
  all_goals decide)
 have hs:=or_step ⟨r,hr⟩ ⟨n,by omega⟩ ⟨o,ho⟩ h2
 simp only at hs
 have e4:(4:Nat) ^ r=2 ^ (r*2):=by rw[Nat.mul_comm,Nat.pow_mul]
 have e:((n:Int)*2 ^ (r*2))=((n*4 ^ r:Nat):Int):=by rw[e4];simp
 have e':((n:Int)*4 ^ r)=((n*4 ^ r:Nat):Int):=by simp
 have hm:n*4 ^ r≤192:=by
   have h3:4 ^ r≤64:=by
    obtain rfl|rfl|rfl|rfl:r=0∨r=1∨r=2∨r=3:=by omega
    all_goals decide
   calc n*4 ^ r≤3*64:=Nat.mul_le_mul (by omega) h3
     _=192:=rfl
 rw[e,e',BitVec.ofInt_natCast,BitVec.ofInt_natCast,BitVec.toNat_or,BitVec.toNat_ofNat,BitVec.toNat_ofNat,Nat.mod_eq_of_lt (by omega),Nat.mod_eq_of_lt (by omega),hs]
 generalize n*4 ^ r=m at *
 simp[IntKind.wrap,IntKind.bits,IntKind.signed];omega
theorem bits_set{l:List Int}{i:Nat}(hi:i<960):((Nw l i).map bv).set (4+(i/4)) (.int .u8 ((g4B l (i+1) (i/4)).toNat:Int))=(Nw l (i+1)).map bv:=by
 rw[show Value.int .u8 ((g4B l (i+1) (i/4)).toNat:Int)=bv (g4B l (i+1) (i/4)) from rfl,←List.map_set]
 congr 1
 unfold Nw
 rw[List.set_append_right _ _ (by rw[Zh];omega),Zh,Nat.add_sub_cancel_left]
 congr 1
 apply List.ext_getElem
 ·simp
 ·intro k h1 h2
  rw[List.getElem_set]
  split
  ·rename_i e;subst e;simp
  ·rename_i e;simp only[List.getElem_map,List.getElem_range];unfold g4B;rw[g4_ne (by omega)]
theorem bits0(l:List Int):((List.replicate 244 (0:UInt8)).map bv).take 0++(leB (l.length:Int) 4).map bv++((List.replicate 244 (0:UInt8)).map bv).drop (0+4)=(Nw l 0).map bv:=by
 unfold Nw
 rw[List.map_append,List.take_zero,List.nil_append]
 congr 1
theorem BysN.elem{w:World}{b:O0}{n c:Nat}{l:Bl}(h:Sl w (.slice b n c) n (l.map bv))(hl:l.length=n){k:Nat}(hk:k<n):b.isSome=true∧w.cell? (Zz b (k*1))=some (.int .u8 ((l.getD k 0).toNat:Int)):=by
 subst hl;exact Bys.elem (Xp h rfl) hk
theorem bits_put1(n:Int)(w:World)(h0:0≤n)(h3:n≤3) :
 C0 271 #[V0 n] w (Ret (.bool false) w):=by
 refine zin 9 Tryz.func271 ?_
 refine xgk 10 [4,5] (show(decide (n<(0:Int)):Bool)=false from decide_eq_false (by omega)) ?_
 refine xe 7 (.bool (decide (n>(3:Int)))) ?_
 rw[show decide (n>(3:Int))=false from decide_eq_false (by omega)];exact⟨rfl,(B4 w)⟩
theorem Zez(a:O0)(c:Nat)(l:List Int)(w:World)(hS:Hq l)(hl:l.length≤960)(h:Sl w (.slice a l.length c) l.length (l.map V0)) :
 C0 218 #[.slice a l.length c,.func (.func 271) #[] #[]] w (Ret (V0 (-1)) w):=by
 refine zin 19 Tryz.func218 ?_
 have hB:=Below.refl w.heap.size w
 refine zl 14 19 (fun zm a2 V=>∃ (i:Nat),a2=[(0,.slice a l.length c),(1,.func (.func 271) #[] #[]),(7,V0 (l.length:Int)),(8,V0 (i:Int))]∧zm=l.length-((i:Int)).toNat∧B3 w V∧i≤l.length) ⟨0,rfl,rfl,hB,Nat.zero_le _⟩ ?_
 rintro _ _ W1 ⟨i,rfl,rfl,a0,hi⟩ J1 a4 r1
 refine xid 6 ((i:Int)<(l.length:Int)) (fun a5=>?_) (fun a5=>?_)
 ·refine xx 15 _ l.length i 1 (Ints.elem h (k:=i) (by omega)).1 ?_
  refine xl 0 ((Ints.elem (h.below a0) (k:=i) (by omega)).2) ?_
  refine xr 0 (args:=#[V0 (l.getD i 0)]) (bits_put1 (l.getD i 0) _ (Uf hS i).1 (Uf hS i).2) fun W3 a3=>?_
  refine xwm 7 ((i:Int)+1) (↑(i+1):Int) ?_
  have a1:=bln a0 a3
  exact ze 2 (a4 _ _ _ ⟨i+1,rfl,rfl,a1,by omega⟩ (by omega))
 exact xe 11 (V0 (-1)) ⟨rfl,a0⟩
theorem So(a:O0)(c:Nat)(l:List Int)(w:World)(hS:Hq l)(hl:l.length≤960)(h:Sl w (.slice a l.length c) l.length (l.map V0)) :
 C0 140 #[.slice a l.length c,.func (.func 271) #[] #[]] w (Ret (.bool false) w):=by
 refine zin 9 Tryz.func140 ?_
 refine xr 9 (args:=#[.slice a l.length c,.func (.func 271) #[] #[]]) (Zez a c l _ hS hl (h.below (B4 w))) fun W1 a0=>?_
 exact xe 5 (.bool false) ⟨rfl,a0⟩
theorem Ap(a:O0)(c:Nat)(l:List Int)(w:World)(hl:l.length≤960)(h:Sl w (.slice a l.length c) l.length (l.map V0)) :
 C0 228 #[.slice a l.length c] w (Ret (.tuple #[V0 (↑(Yb l):Int),V0 (↑(Xd l):Int)]) w):=by
 refine zin 27 Tryz.func228 ?_
 have hB:=Below.refl w.heap.size w
 refine zl 23 27 (fun zm a6 V=>∃ (i f g:Nat),a6=[(2,V0 0),(3,V0 0),(4,V0 (f:Int)),(5,V0 (g:Int)),(10,.slice a l.length c),(11,V0 (l.length:Int)),(12,V0 (i:Int))]∧zm=l.length-((i:Int)).toNat∧B3 w V∧i≤l.length∧f=Zbe l i∧((f=0∧g=l.length∧∀ j,j<i→l.getD j 0≠0)∨(0<f∧g=Xd l))) ⟨0,0,l.length,rfl,rfl,hB,Nat.zero_le _,rfl,?_⟩ ?_
 ·exact .inl ⟨rfl,rfl,fun j hj=>absurd hj (by omega)⟩
 rintro _ _ W1 ⟨i,f,g,rfl,rfl,a0,hi,hf,hg⟩ J1 a3 r1
 have a2:=fun(q:i<l.length)=>Rx q
 have a8:=Wt l i
 refine xid 6 ((i:Int)<(l.length:Int)) (fun a7=>?_) (fun a7=>?_)
 ·refine xx 7 _ l.length i 1 (Ints.elem h (k:=i) (by omega)).1 ?_
  refine xl 0 ((Ints.elem (h.below a0) (k:=i) (by omega)).2) ?_
  refine xin 11 (l.getD i 0) (0:Int) (fun a4=>?_) (fun a4=>?_)
  ·refine xwm 5 ((i:Int)+1) (↑(i+1):Int) ?_
   exact ze 2 (a3 _ _ _ ⟨i+1,f,g,rfl,rfl,a0,by omega,by rw[a2 (by omega),if_neg (by assumption)];exact hf,hg.elim (fun⟨h1,h2,h3⟩=>.inl ⟨h1,h2,fun j hj=>(Nat.lt_or_ge j i).elim (fun q=>h3 j q) (fun q=>by obtain rfl:j=i:=(by omega);assumption)⟩) .inr⟩ (by omega))
  refine xie 9 (f:Int) (0:Int) (fun a5=>?_) (fun a5=>?_)
  ·refine xwm 7 ((f:Int)+1) (↑(f+1):Int) ?_
   refine xwm 5 ((i:Int)+1) (↑(i+1):Int) ?_
   exact ze 2 (a3 _ _ _ ⟨i+1,f+1,i,rfl,rfl,a0,by omega,by rw[a2 (by omega),if_pos (by assumption),hf],.inr ⟨by omega,hg.elim (fun⟨_,_,h3⟩=>(Es (by omega) (by assumption) h3).symm) (fun q=>absurd q.1 (by omega))⟩⟩ (by omega))
  refine xwm 4 ((f:Int)+1) (↑(f+1):Int) ?_
  refine xwm 5 ((i:Int)+1) (↑(i+1):Int) ?_
  exact ze 2 (a3 _ _ _ ⟨i+1,f+1,g,rfl,rfl,a0,by omega,by rw[a2 (by omega),if_pos (by assumption),hf],.inr ⟨by omega,hg.elim (fun⟨h1,_,_⟩=>absurd h1 (by omega)) (fun q=>q.2)⟩⟩ (by omega))
 refine xe 14 (.tuple #[V0 (f:Int),V0 (g:Int)]) ?_
 obtain rfl:i=l.length:=by omega
 have a1:f=Yb l:=hf
 rcases hg with ⟨h1,h2,h3⟩|⟨h1,h2⟩
 ·exact⟨by rw[a1,h2,Nd h3],a0⟩
 ·exact⟨by rw[a1,h2],a0⟩
theorem Zcn(a:O0)(c:Nat)(l:List Int)(w:World)(hS:Hq l)(hl:l.length≤960)(h:Sl w (.slice a l.length c) l.length (l.map V0)) :
 C0 227 #[.slice a l.length c] w (Qn (fun w' r=>∃ g,r=.tuple #[.slice (S1 g) 244 244,V0 0]∧w'.ownsRow w.heap.size 5 1 (.slice (S1 g) 244 244) 244 ((Ia l).map bv)) w):=by
 refine zin 51 Tryz.func227 ?_
 refine xgk 13 [11,12] (show(decide ((l.length:Int)>(960:Int)):Bool)=false from decide_eq_false (by omega)) ?_
 refine xr 1 (args:=#[.slice a l.length c,.func (.func 271) #[] #[]]) (So a c l _ hS hl (h.below (B4 w))) fun W2 a7=>?_
 refine xbs 11 1 [V0 4,V0 (l.length:Int)] 271 fun b3 W3 n3=>?_
 refine xc 0 (args:=#[.slice (S1 b3) 1 1]) (Fg b3 (l.length:Int) (by omega) (by omega) _ n3.blk) ?_
 rintro _ W4 ⟨_,rfl,a6,p2,c2,rfl,h2⟩
 have c0:=(bln a7 n3.below).size
 refine xmk 9 fun _ _ _ _ zJ zQ zo zx zy zK=>Kn 244 (.int .u8 0) 1 1 ((List.replicate 244 (0:UInt8)).map bv) zo zx zy Tryz.underlying40 (by kernel_rfl) rfl (by omega) (by omega) (Dr 244) fun b5 W5 n5=>?_
 have a4:=Ze h2 c0
 have b2:=Zr a4 n5
 refine zK _ _ ?_
 have o5:=Zw (size:=1) (n:=244) n5.blk (n5.ge (bln (bln a7 n3.below) a6)) (by rw[List.length_map,List.length_replicate]) (by unfold maxLen;omega)
 have b1:=Zb a4 n5.below
 have hB:=bln (bln (bln a7 n3.below) a6) n5.below
 refine xbi 7 (t2:=40) fun _ _ _ _ zJ zQ zo zx zy zK=>Uw (dLen:=244) (dCap:=244) (off:=0) 4 ((leB (l.length:Int) 4).map bv) ((Nw l 0).map bv) zo Tryz.underlying40 (by kernel_rfl) zx zy (Zf b1) o5 (by simp[Zh]) (by omega) (by omega) (Xs _) hB.size (bits0 l) fun W6 o6 b6 b4=>?_
 refine zK _ _ ?_
 have a9:=hB.trans b4
 have a8:=((n3.blk.below a6).below n5.below).grown b6 o5 (by decide)
 refine zl 11 51 (fun zm b9 V=>∃ (i:Nat),b9=[(2,S0),(3,V0 0),(6,.slice (S1 b5) 244 244),(28,.slice a l.length c),(29,V0 (l.length:Int)),(30,V0 (i:Int))]∧zm=l.length-((i:Int)).toNat∧B3 w V∧Blk V b3 ([V0 4,V0 (l.length:Int)]) 271∧V.ownsRow w.heap.size 5 1 (.slice (S1 b5) 244 244) 244 ((Nw l i).map bv)∧i≤l.length) ⟨0,rfl,rfl,a9,a8,o6,Nat.zero_le _⟩ ?_
 rintro _ _ W7 ⟨i,rfl,rfl,a3,a5,ho,hi⟩ J7 b7 r7
 refine xid 6 ((i:Int)<(l.length:Int)) (fun b8=>?_) (fun b8=>?_)
 ·refine xx 7 _ l.length i 1 (Ints.elem h (k:=i) (by omega)).1 ?_
  refine xl 0 ((Ints.elem (h.below a3) (k:=i) (by omega)).2) ?_
  refine xd 4 (.t w.heap.size [5]) ?_
  refine xq (.e [0,1] 2) (congrArg V0 (show(IntKind.i64.wrap (Int.tdiv (i:Int) 4):Int)=(↑(i/4):Int) from Qx i 4 (by omega) (by decide))) ?_
  refine xwm (.e [] 3) (4+(↑(i/4):Int)) (↑(4+(i/4)):Int) ?_
  refine xx (.e [] 4) _ 244 (4+(i/4)) 1 (show(some (⟨b5,0,none⟩:Addr)).isSome=true from rfl) ?_
  refine xq (.e [6,7] 8) (congrArg V0 (show(Int.tmod (i:Int) 4:Int)=(↑(i%4):Int) from Mg i 4)) ?_
  refine xwm (.e [] 9) ((↑(i%4):Int)*2) (↑((i%4)*2):Int) ?_
  refine xbot (.e [] 10) (t:=3) (t2:=3) (fun _ _ _ _ zo zx zy V hV=>run_shlS (n:=(l.getD i 0)) (s:=((i%4)*2)) (kj:=.i64) (j:=(↑((i%4)*2):Int)) zo zx zy rfl (Uf hS i) (by omega) V) ?_
  refine xq (.e [] 11) (congrArg (Value.int .u8) (show(IntKind.u8.wrap (l.getD i 0*2 ^ ((i%4)*2)):Int)=l.getD i 0*2 ^ ((i%4)*2) from u8_shl (Uf hS i) (by omega))) ?_
  have a1:=Zb ho (Za W7)
  refine xl (.o [] 5) ((BysN.elem (Zf a1) (Kt l i) (k:=(4+(i/4))) (by omega)).2) ?_
  refine xq (.e [] 12) (congrArg (Value.int .u8) (show(IntKind.u8.wrap (↑(BitVec.ofInt 8 (↑((Nw l i).getD (4+(i/4)) 0).toNat:Int) ||| BitVec.ofInt 8 (l.getD i 0*2 ^ ((i%4)*2))).toNat:Int):Int)=(↑(g4B l (i+1) (i/4)).toNat:Int) from bits_or hS (by omega))) ?_
  refine xx (.e [] 13) _ 244 (4+(i/4)) 1 (show(some (⟨b5,0,none⟩:Addr)).isSome=true from rfl) ?_
  refine yst (.o [] 14) (.t w.heap.size [5]) fun _ _ _ _ zJ zQ zo zx zy zK=>Xz (t:=5) (k:=(4+(i/4))) (v:=.int .u8 (↑(g4B l (i+1) (i/4)).toNat:Int)) zo zx zy (by kernel_rfl) rfl a1 (by omega) fun W9 u9 o9=>?_
  rw[bits_set (l:=l) (i:=i) (by omega)] at o9
  have a0:=a5.below (Za W7)
  refine zK _ _ (Ki (T:=[5]) (u9.below (Below.refl _ _) (Vz a1)) (Zd.of_updRow u9 a1 (by decide))) ?_
  refine xwm 4 ((i:Int)+1) (↑(i+1):Int) ?_
  have b0:=u9.below (bln a3 (Za W7)) (Vz a1)
  have a2:=u9.blk a0 (Yx a0 a1 (by decide))
  exact ze 2 (b7 _ _ _ ⟨i+1,rfl,rfl,b0,a2,o9,by omega⟩ (by omega))
 refine xe 13 (.tuple #[.slice (S1 b5) 244 244,V0 0]) ?_
 obtain rfl:i=l.length:=by omega
 exact⟨_,rfl,a3,_,rfl,ho⟩
theorem Mq(p:Addr)(N c:Nat)(xs:List Value)(w:World)(h:Sl w (.slice (some p) N c) N xs)(hl:xs.length=N)(h1:∀ u∈xs,u.oneCell'=true)(hn:N≤1000000) :
 C0 160 #[.slice (some p) N c] w (Qn (fun w' r=>∃ q c2,r=.slice q N c2∧w'.ownsRow w.heap.size 3 1 (.slice q N c2) N xs) w):=by
 refine zin 8 Tryz.func160 ?_
 refine xb0 17 3 fun b1 W1 n1=>?_
 have o1:=Zw (size:=1) (n:=0) n1.blk (n1.ge (B4 w)) rfl (by decide)
 refine xbi 1 fun _ _ _ _ zJ zQ zo zx zy zK=>Zn (m:=N) (news:=xs) (V0 0) 1 8 (N) (xs) zo Tryz.underlying33 (by kernel_rfl) rfl (by decide) zx o1 zy (h.below n1.below) (by rw[hl,Nat.mul_one]) h1 (by unfold maxLen;omega) (by omega) n1.below.size (by omega) (by rfl) fun a1 a3 W2 o2 a4 a2=>?_
 refine zK _ _ ?_
 have a0:=n1.below.trans a2
 exact xe 4 (.slice a1 N a3) ⟨_,rfl,a0,_,_,rfl,o2⟩
end Go.Proofs.YtegcamkgeacjfaaGreatDoor
namespace Go.Proofs.YtegcamkgeacjfaaGreatDoor
set_option maxHeartbeats 8000000
set_option maxRecDepth 100000
open Go.RowKit Go.Extern.Stop Go.Stop Go.Extern
set_option linter.unusedVariables false
attribute [local irreducible] wpList wpAnyH Code.wp Oper.wp Go
theorem Ey(cs:List Nat):(cs.map fun c:Nat=>(c:Int)).map V0=cs.map nv:=by simp[nv]
theorem nv_get{cs:List Nat}{k:Nat}(h:k<cs.length):(cs.map nv)[k]? = some (V0 ((cs.getD k 0:Nat):Int)):=by simp[List.getD,h,nv]
theorem Zgj(cs:List Nat)(k:Nat):(cs.map nv).set k (V0 ((cs.getD k 0+1:Nat):Int))=(Zb5 cs (k:Int)).map nv:=by
 unfold Zb5;rw[Int.toNat_natCast,List.map_set];rfl
theorem bump_get{cs:List Nat}{k:Nat}(h:k<cs.length):(Zb5 cs (k:Int)).getD k 0=cs.getD k 0+1:=by
 unfold Zb5;rw[Int.toNat_natCast];simp[List.getD,h]
theorem Hk{w:World}{pc:O0}{n m:Nat}{cs:List Nat}(h:Sl w (.slice pc n m) n (cs.map nv)){k:Nat}(hk:k<cs.length):pc.isSome=true∧w.cell? (Zz pc (k*1))=some (V0 ((cs.getD k 0:Nat):Int)):=by
 rcases h with ⟨a,c,h1,h2,h3⟩|⟨b,a0,a1,h1,h2,h3,h4⟩
 ·simp only[Value.slice.injEq] at h1
  have:(cs.map nv).length=0:=by rw[h3];rfl
  rw[List.length_map] at this;omega
 ·simp only[Value.slice.injEq] at h1
  obtain⟨rfl,_,_⟩:=h1
  refine⟨rfl,?_⟩
  have:=h4 k _ (nv_get hk)
  simpa [Zz,Addr.add_mid] using this
theorem zerosV(n:Nat):Hs (Value.int .i64 0).cells.toList n=(List.replicate n (0:Nat)).map nv:=by
 rw[show(Value.int .i64 0).cells.toList=[Value.int .i64 0] from rfl,Hs,List.map_replicate]
 induction n with
 | zero=>rfl
 | succ n ih=>rw[List.replicate_succ,List.flatten_cons,ih,List.replicate_succ];rfl
theorem nv_one(cs:List Nat):∀ u∈cs.map nv,u.oneCell'=true:=fun u hu=>by obtain⟨y,_,rfl⟩:=List.mem_map.1 hu;rfl
theorem refs_NewI(n:Nat)(w:World)(h:n≤65536) :
 C0 155 #[V0 (n:Int)] w (Qn (fun w' r=>∃ br g,r=.tuple #[P0 br,V0 0]∧w.heap.size≤br∧Blk w' br [.slice (S1 g) n n] 349∧w'.ownsRow w.heap.size 3 1 (.slice (S1 g) n n) n ((List.replicate n (0:Nat)).map nv)) w):=by
 refine zin 14 Tryz.func155 ?_
 refine xgk 12 [5,6] (show(decide ((n:Int)<(0:Int)):Bool)=false from decide_eq_false (by omega)) ?_
 refine xk 5 (show(decide ((n:Int)>(65536:Int)):Bool)=false from decide_eq_false (by omega)) ?_
 refine xmk 5 fun _ _ _ _ zJ zQ zo zx zy zK=>Kn n (V0 0) 1 8 ((List.replicate n (0:Nat)).map nv) zo zx zy Tryz.underlying33 (by kernel_rfl) rfl (by omega) (by omega) ((zerosV n)) fun b2 W2 n2=>?_
 refine zK _ _ ?_
 refine xa 1 [.slice (S1 b2) n n] 349 fun b3 W3 n3=>?_
 have o2:=Zb (Zw (size:=1) (n:=n) n2.blk (n2.ge (B4 w)) (by rw[List.length_map,List.length_replicate,Nat.mul_one]) (by unfold maxLen;omega)) n3.below
 have hB:=bln n2.below n3.below
 have g3:=n3.ge n2.below
 exact xe 5 (.tuple #[P0 b3,V0 0]) ⟨_,rfl,hB,_,_,rfl,g3,n3.blk,o2⟩
theorem refs_own(br n:Nat)(p:O0)(w:World)(kr:Blk w br [.slice p n n] 349) :
 C0 234 #[P0 br] w (Ret (.slice p n n) w):=by
 refine zin 9 Tryz.func234 ?_
 refine xb 20 0 kr ?_
 exact xe 4 (.slice p n n) ⟨rfl,(B4 w)⟩
theorem Zga(br g n B0:Nat)(cs:List Nat)(w:World)(kr:Blk w br [.slice (S1 g) n n] 349)(hc:w.ownsRow B0 3 1 (.slice (S1 g) n n) n (cs.map nv))(hn:cs.length=n)(hn2:n≤100000) :
 C0 158 #[P0 br] w (Qn (fun w' r=>∃ q c2,r=.slice q n c2∧w'.ownsRow w.heap.size 3 1 (.slice q n c2) n (cs.map nv)) w):=by
 refine zin 6 Tryz.func158 ?_
 refine xr 8 (args:=#[P0 br]) (refs_own br n _ _ kr) fun W1 a0=>?_
 have a1:=Zb hc a0
 refine xc 0 (args:=#[.slice (S1 g) n n]) (Mq ⟨g,0,none⟩ n n (cs.map nv) _ (Zf a1) (by rw[List.length_map];exact hn) (nv_one _) (by omega)) ?_
 rintro _ W2 ⟨_,rfl,a3,q,c2,rfl,hq⟩
 have a2:=Ze hq a0.size
 have hB:=bln a0 a3
 exact xe 4 (.slice q n c2) ⟨_,rfl,hB,_,_,rfl,a2⟩
theorem Zhk(B br g n k:Nat)(cs:List Nat)(w:World)(kr:Blk w br [.slice (S1 g) n n] 349)(hBw:B≤w.heap.size)(hc:w.ownsRow B 3 1 (.slice (S1 g) n n) n (cs.map nv))(hn:cs.length=n)(hk:k<n)(hb:cs.getD k 0≤4000000000000000000) :
 C0 157 #[P0 br,V0 (k:Int)] w ((fun e w'=>e=.returned (.tuple #[V0 ((cs.getD k 0+1:Nat):Int),V0 0])∧Below B w w'∧Zd [3] w w'∧Fr [g] w w'∧w'.ownsRow B 3 1 (.slice (S1 g) n n) n ((Zb5 cs (k:Int)).map nv))):=by
 have a3:=Sn cs (k:Int)
 refine zin 37 Tryz.func157 ?_
 refine xg 21 [11,12] (decide ((k:Int)<(0:Int))) (fun a0=>?_) (fun a0=>?_)
 ·have a0:=of_decide_eq_true a0
  exact xe 21 (.tuple #[V0 0,V0 3]) (by exfalso;omega)
 have a0:=of_decide_eq_false a0
 refine xb 4 0 kr ?_
 refine xid 6 ((k:Int)≥(n:Int)) (fun a2=>?_) (fun a2=>?_)
 ·exact xe 9 (.tuple #[V0 0,V0 3]) (by exfalso;omega)
 refine xb 8 0 kr ?_
 refine xx 1 _ n k 1 (Hk (Zf hc) (k:=k) (by omega)).1 ?_
 refine xl 0 ((Hk (Zf hc) (k:=k) (by omega)).2) ?_
 refine xwm 0 ((↑(cs.getD k 0):Int)+1) (↑((cs.getD k 0)+1):Int) ?_
 refine xx 0 _ n k 1 (Hk (Zf hc) (k:=k) (by omega)).1 ?_
 refine xst 0 fun _ _ _ _ zJ zQ zo zx zy zK=>Xz (t:=3) (k:=k) (v:=V0 (↑((cs.getD k 0)+1):Int)) zo zx zy (by kernel_rfl) rfl hc (by omega) fun W3 u3 o3=>?_
 rw[Zgj cs k] at o3
 refine zK _ _ ?_
 have a1:=u3.blk kr (Yx kr hc (by decide))
 refine xb 7 0 a1 ?_
 refine xx 1 _ n k 1 (Hk (Zf o3) (k:=k) (by omega)).1 ?_
 refine xl 0 ((Hk (Zf o3) (k:=k) (by omega)).2) ?_
 have hB:=u3.below (Below.refl B w) (Vz hc)
 have hO:=(show Zd [3] w _ from(Zd.of_updRow u3 hc (by decide)))
 have hX:=(show Fr [g] w _ from(Fr.of_upd u3 (by simp)))
 exact xe 5 (.tuple #[V0 (↑((Zb5 cs (k:Int)).getD k 0):Int),V0 0]) ⟨by rw[bump_get (by omega)],hB,hO,hX,o3⟩
end Go.Proofs.YtegcamkgeacjfaaGreatDoor
namespace Go.Proofs.YtegcamkgeacjfaaGreatDoor
set_option maxHeartbeats 8000000
set_option maxRecDepth 100000
open Go.RowKit Go.Extern.Stop Go.Stop Go.Extern
set_option linter.unusedVariables false
attribute [local irreducible] wpList wpAnyH Code.wp Oper.wp Go
attribute [local go_sem] Oper.semAt_some
theorem Upd.of_put(w:World)(D:Nat)(o:Obj):Upd w D (w.putObj D o):=⟨rfl,rfl,rfl,by simp[World.putObj],fun k hk=>World.putObj_heap_other hk⟩
def Dfr (D:Nat)(w:World):Prop:=w.heap[D]? = some (.deferred (some []))
theorem Dfr.below{D:Nat}{w W:World}(h:Dfr D w)(hb:B3 w W):Dfr D W:=(hb.block D (Array.getElem?_eq_some_iff.1 h).1).trans h
theorem Dfr.ne{D b:Nat}{w:World}{cs:List Value}{t:TypeId}(h:Dfr D w)(k:Blk w b cs t):b≠D:=by
 rintro rfl
 have h':w.heap[b]? = _:=h
 rw[show w.heap[b]? = _ from k] at h'
 cases h'
theorem Dfr.upd{D b:Nat}{w W:World}{cs:List Value}{t:TypeId}(h:Dfr D w)(u:Upd w b W)(k:Blk w b cs t):Dfr D W:=(u.block D fun e=>h.ne k e.symm).trans h
theorem Dfr.row{D:Nat}{w:World}{base e size n:Nat}{v:Value}{xs:List Value}(h:Dfr D w)(k:w.ownsRow base e size v n xs):∀ g,v.ownBlock=some g→g≠D:=by
 rintro g hg rfl
 rcases k.2 with ⟨rfl,_⟩|⟨g',a0,a1,rfl,_,hh,_⟩
 ·cases hg
 ·simp only[Value.ownBlock,Option.some.injEq] at hg
  subst hg
  rw[show w.heap[g']? = _ from h] at hh
  cases hh
theorem Dfr.grown{D:Nat}{w W:World}{base e size n:Nat}{v:Value}{xs:List Value}(h:Dfr D w)(hg:w.grownBy W v.ownBlock)(k:w.ownsRow base e size v n xs):Dfr D W :=
 (hg.block D (Array.getElem?_eq_some_iff.1 h).1 fun q=>h.row k D q.symm rfl).trans h
theorem g_endM{P:Program}{fn:Func}{R:Ending→World→Prop}{a:Act}{w:World}{D:Nat}(hK:Dfr D w)(v:Value)(hd:a.defers=[{ target:=.collected D,args:=#[] }])(hr:(results fn a.tmps).run P (w.putObj D (.deferred none))=.ok v (w.putObj D (.deferred none)))(h:R (.returned v) (w.putObj D (.deferred none))):bodyPostM Fence.wide 4 P fn R .normal a w :=
 by
 show LeavesInM _ _ _ _ a.tmps R a.defers .returning w
 rw[hd]
 exact⟨by simp,.inl ⟨_,_,rfl,run_takeDeferred hK,_,hr,h⟩⟩
def noPan(Q:Exit→Act→World→Prop):Exit→Act→World→Prop
 | .normal,a,w=>Q .normal a w
 | .ret,a,w=>Q .ret a w
 | _,_,_=>False
theorem g_nopan{P:Program}{c:Code}{Q:Exit→Act→World→Prop}{a:Act}{w:World}(h:c.wp P (noPan Q) a w):c.wp P Q a w:=wp_mono h fun e a w q=>by cases e<;>first|exact q|exact q.elim
theorem Ec{w:World}{base size n b:Nat}{e t:TypeId}{v:Value}{xs cs:List Value}(k:w.ownsRow base e size v n xs)(q:Blk w b cs t)(hne:e≠t):∀ g,v.ownBlock=some g→g≠b:=by
 rintro g hg rfl
 rcases k.2 with ⟨rfl,_⟩|⟨g',a0,a1,rfl,_,hh,_⟩
 ·cases hg
 ·simp only[Value.ownBlock,Option.some.injEq] at hg
  subst hg
  rw[show w.heap[g']? = _ from q] at hh
  simp only[Option.some.injEq,Obj.cells.injEq] at hh
  exact hne hh.2.1.symm
theorem Ob{w W:World}(h:B3 w W):KeepsOthers w W:=⟨h.size,fun b o hb _=>(h.block b (Array.getElem?_eq_some_iff.1 hb).1).trans hb⟩
theorem Zeu{w W:World}{b:Nat}{cs:List Value}{t:TypeId}(u:Upd w b W)(k:Blk w b cs t):KeepsOthers w W:=⟨Nat.le_of_eq u.size.symm,fun d o hd ho=>(u.block d (by rintro rfl;rw[show w.heap[d]? = _ from k] at hd;cases hd;cases ho)).trans hd⟩
theorem BelowBut.own3{w W:World}{b base size n:Nat}{e:TypeId}{v:Value}{xs:List Value}(h:BelowBut w b W)(k:w.ownsRow base e size v n xs)(hs:∀ j,v.ownBlock=some j→j≠b):W.ownsRow base e size v n xs:=by
 obtain⟨h1,h2⟩:=k
 refine⟨h1,?_⟩
 rcases h2 with h2|⟨g,a0,a1,rfl,hg,hh,r⟩
 ·exact Or.inl h2
 ·exact Or.inr ⟨g,a0,a1,rfl,hg,by rw[h.block g (Array.getElem?_eq_some_iff.1 hh).1 (hs g rfl)];exact hh,r⟩
theorem Zan{β:Type}{w:World}{b B:Nat}(hB:w.heap.size≤B):OwnFrom B (fun(_:β) W=>BelowBut w b W):=fun _ W W' a1 hs hg hr =>
 ⟨hg.os.trans hs.os,hg.tape.trans hs.tape,hg.output.trans hs.output,Nat.le_trans hs.size hg.size,fun k hk a0=>(hg.block k (Nat.lt_of_lt_of_le hk hs.size) (fun e=>by have:=(hr k e.symm).1;omega)).trans (hs.block k hk a0)⟩
theorem Gw.turn{A B:World}{row:Option Nat}{l:List (Option Int)}{c:Option Int}{v:Value}(h:Gw A l c v)(hg:A.grownBy B row)(hr:∀ r,row=some r→∃ o:Obj,A.heap[r]? = some o∧o.isCells=false):Gw B l c v:=h.kept fun _ _ k=>k.turn hg hr
theorem Gw.one{w:World}{l:List (Option Int)}{c:Option Int}{v:Value}(h:Gw w l c v):v.oneCell'=true:=by
 rcases h.nil_or with ⟨_,rfl⟩|⟨_,t,x,rfl⟩<;>rfl
theorem Gw.iface{w:World}{l:List (Option Int)}{c:Int}{v:Value}(h:Gw w l (some c) v):∃ t x,v=.iface t x:=by
 rcases h.nil_or with ⟨q,_⟩|⟨_,q⟩
 ·simp[Bw] at q
 ·exact q
end Go.Proofs.YtegcamkgeacjfaaGreatDoor
namespace Go.Proofs.YtegcamkgeacjfaaGreatDoor
set_option maxHeartbeats 8000000
set_option maxRecDepth 100000
open Go.RowKit
set_option linter.unusedVariables false
theorem Ox{P:Program}{l n:Nat}{ops:Array Oper}{Q:Exit→Act→World→Prop}(hQ:¬ LetsOut Q):∀ (r:List Oper) (a:Act) (w:World),(∀ o∈r,∀ c,o.op≠.defer c)→wpList P ops Q r a w→wpListIn (Fence.wide.inRound l) n P ops Q r a w
 | [],_,_,_,h=>h
 | o::r,a,w,hd,h=>by
  unfold wpList at h
  unfold wpListIn
  split at h
  ·rename_i hw
   rw[if_pos hw]
   exact Oper.wpIn_mono (fun a w=>Ox hQ r a w (fun o ho=>hd o (by simp[ho]))) (oper_in (hd o (by simp)) (h.resolve_right fun q=>hQ q.2))
  ·rename_i hw
   rw[if_neg hw]
   exact⟨fun _ _=>trivial,Ox hQ r _ _ (fun o ho=>hd o (by simp[ho])) h⟩
theorem reg_in{P:Program}{l0 n0 id:Nat}{l:List Oper}{Q:Exit→Act→World→Prop}{a:Act}{w:World}(hQ:¬ LetsOut Q)(hd:∀ o∈l,∀ c,o.op≠.defer c)(h:wpList P l.toArray Q l a w):(Code.region id l.toArray false).wpIn (Fence.wide.inRound l0) n0 P Q a w :=
 wpIn_region_lit (Ox hQ l a w hd h)
def Turns(q:Nat→Prop)(n:Nat)(A:World)(row:Option Nat):Prop:=∀ r,row=some r→q r∨n≤r∧∃ o:Obj,A.heap[r]? = some o∧o.isCells=false
theorem below_ab{n m:Nat}{q:Nat→Prop}{w A B:World}{row:Option Nat}(h:Below n w A)(hg:A.grownBy B row)(hr:Turns q m A row)(hn:n≤w.heap.size)(hm:n≤m)(hq:∀ r,q r→n≤r):Below n w B :=
 h.grown hg (Nat.le_trans hn h.size) (fun r e=>by rcases hr r e with h1|h1;exact hq _ h1;omega)
theorem own_ab{q:Nat→Prop}{A B:World}{row:Option Nat}{base size n m:Nat}{e:TypeId}{v:Value}{xs:List Value}(k:A.ownsRow base e size v n xs)(hg:A.grownBy B row)(hr:Turns q m A row)(hq:∀ r,q r→r<base):B.ownsRow base e size v n xs:=by
 obtain⟨h1,h2⟩:=k
 refine⟨h1,?_⟩
 rcases h2 with h2|⟨g,a0,a1,hv,hb,hh,r⟩
 ·exact Or.inl h2
 ·refine Or.inr ⟨g,a0,a1,hv,hb,?_,r⟩
  rw[hg.block g (Array.getElem?_eq_some_iff.1 hh).1 (fun q=>by
   rcases hr g q.symm with h3|⟨_,o,ho,hc⟩
   ·have:=hq _ h3;omega
   ·rw[hh] at ho
    cases ho
    cases hc)]
  exact hh
theorem blk_ab{q:Nat→Prop}{A B:World}{row:Option Nat}{b m:Nat}{cs:List Value}{t:TypeId}(k:Blk A b cs t)(hg:A.grownBy B row)(hr:Turns q m A row)(hq:∀ r,q r→b≠r):Blk B b cs t :=
 k.kept hg (fun e'=>by
  rcases hr b e'.symm with h3|⟨_,o,ho,hc⟩
  ·exact hq _ h3 rfl
  ·rw[show A.heap[b]? = _ from k] at ho;cases ho;cases hc)
theorem zi_fr{F:Fence}{n:Nat}{P:Program}{c:Code}{Q:Exit→Act→World→Prop}{a:Act}{w:World}(a':Act)(h:a=a')(k:c.wpIn F n P Q a' w):c.wpIn F n P Q a w:=h▸k
theorem Dfr.put{D D2:Nat}{w:World}(h:Dfr D w)(hne:D≠D2)(o:Obj):Dfr D (w.putObj D2 o):=(World.putObj_heap_other hne).trans h
theorem Gw.pt{D:Nat}{w:World}{l:List (Option Int)}{c:Option Int}{v:Value}(h:Gw w l c v)(hK:Dfr D w)(o:Obj):Gw (w.putObj D o) l c v:=h.kept fun _ _ k=>k.put hK rfl o
end Go.Proofs.YtegcamkgeacjfaaGreatDoor
namespace Go.Proofs.YtegcamkgeacjfaaGreatDoor
set_option maxHeartbeats 8000000
set_option maxRecDepth 100000
open Go.RowKit Go.Extern.Stop Go.Stop Go.Extern
set_option linter.unusedVariables false
attribute [local irreducible] wpList wpAnyH Code.wp Oper.wp Go
theorem maps_seq(B1:Nat)(p:O0)(n c:Nat)(t u v x:Int)(Z:List Zv)(w w0:World)(hZ:Z.length=n)(hP:DevsR w p c Z)(hn:n≤1000000000)(hW:B3 w w0)(q:Nat→Prop)(hq:∀ b,b<w.heap.size→q b)(hqlt:∀ b,q b→b<w0.heap.size)(hk1:Blk w0 B1 [V0 t,V0 u,V0 v,V0 x,.slice p n c] 24) :
  SeqB Tryz.prog 233 #[P0 B1] encM (Keeps q) (Qy 0 (Z.map Prod.fst)) w0:=fun l J Jx W hw hJ hY h0 =>
 maps1_in l B1 p n c t u v x Z w hZ hP hn q hq J Jx hJ hY W (bln hW hw) (fun b hb=>Nat.lt_of_lt_of_le (hqlt b hb) hw.size) (hk1.below hw) h0
theorem frg_ko{g:Nat}{W V:World}{cs:List Value}{t:TypeId}(h:Fr [g] W V)(k:Blk W g cs t):KeepsOthers W V:=⟨h.size,fun i o hi ho=>(h.block i (Array.getElem?_eq_some_iff.1 hi).1 (by
 simp only[List.mem_singleton]
 rintro rfl
 rw[show W.heap[i]? = _ from k] at hi
 cases hi;cases ho)).trans hi⟩
theorem frg_keeps{p:Nat→Prop}{g:Nat}{W V:World}(h:Fr [g] W V)(hp:∀ b,p b→b<W.heap.size)(hg:¬ p g):Keeps p W V:=⟨h.size,fun b hb=>h.block b (hp b hb) (by simp only[List.mem_singleton];rintro rfl;exact hg hb)⟩
theorem pool_maps(t u v x:Int)(p:O0)(n c:Nat)(w:World) :
 C0 156 #[.agg #[V0 t,V0 u,V0 v,V0 x,.slice p n c]] w (Qn (fun w' r=>∃ b,r=.func (.func 233) #[] #[P0 b]∧w.heap.size≤b∧Blk w' b [V0 t,V0 u,V0 v,V0 x,.slice p n c] 24) w):=by
 refine zin 4 Tryz.func156 ?_
 refine xa 2 [V0 t,V0 u,V0 v,V0 x,.slice p n c] 24 fun b1 W1 n1=>?_
 exact xe 10 (.func (.func 233) #[] #[P0 b1]) ⟨_,rfl,n1.below,b1,rfl,(n1.ge (B4 w)),n1.blk⟩
theorem Md(p:O0)(c n x:Nat)(t u v:Int)(Z:List Zv)(w:World)(hZ:Z.length=n)(hP:DevsR w p c Z)(hk:PoolOk t u v (x:Int) (Z.map Prod.fst)) :
 C0 76 #[.agg #[V0 t,V0 u,V0 v,V0 (x:Int),.slice p n c]] w (Qn (fun w' r=>∃ q d,r=.slice q x d∧w'.ownsRow w.heap.size 3 1 (.slice q x d) x ((Yk x (Z.map Prod.fst)).map nv)) w):=by
 have hx:x≤65536:=by have:=hk.hdata;omega
 have d5:n≤1000000000:=by have:=hk.devs.few;rw[List.length_map] at this;omega
 have a4:=Tg hk.devs 0
 have c9:=hk.devs.sum
 refine Pt Tryz.func76 rfl ?_
 refine g_fr ⟨#[.agg #[V0 t,V0 u,V0 v,V0 (x:Int),.slice p n c],undef,undef,undef,undef,undef,undef,undef,undef,undef,undef,undef,undef,undef,undef,undef,undef,undef,undef,undef,undef,undef,undef,undef,undef,undef],[]⟩ (by kernel_rfl) ?_
 refine wp_seq ?_
 refine wp_region_lit ?_
 refine Qa (by kernel_rfl) (Ry [V0 t,V0 u,V0 v,V0 (x:Int),.slice p n c] rfl (by kernel_rfl) ?_)
 intro b1 W1 n1
 have g1:=n1.ge (B4 w)
 have hB:=n1.below
 have k1:=n1.blk
 refine Vy 1 [(2,S0)] (by kernel_rfl) ?_
 refine wpList_nil ?_
 refine wp_seq ?_
 refine wp_seq ?_
 refine wp_region_lit ?_
 refine Qa (by kernel_rfl) (Jf (b:=b1) (off:=0) [V0 t,V0 u,V0 v,V0 (x:Int),.slice p n c] _ rfl (by kernel_rfl) Tryz.underlying24 rfl (by kernel_rfl) k1.whole ?_)
 refine Qa (by kernel_rfl) (Yl (lb:=#[]) 29 #[.agg #[V0 t,V0 u,V0 v,V0 (x:Int),.slice p n c]] rfl (by kernel_rfl) (fun _ _=>by kernel_rfl) (by kernel_rfl) ((Jk p c n t u v (x:Int) Z _ hZ (hP.below hB)).mono ?_))
 rintro e W2 ⟨rfl,c0⟩
 refine⟨_,rfl,?_⟩
 replace hB:=bln hB c0
 replace k1:=k1.below c0
 refine Vy 1 [(9,.bool ((Xr t u v (x:Int) (Z.map Prod.fst)) != (0:Int)))] (by kernel_rfl) ?_
 refine wpList_nil ?_
 refine wp_cond_split (t:=((Xr t u v (x:Int) (Z.map Prod.fst)) != (0:Int))) (by kernel_rfl) (fun hh=>absurd (hh.symm.trans (show(((Xr t u v (x:Int) (Z.map Prod.fst)) != (0:Int)):Bool)=false from by rw[Ks.2 hk];rfl)) (by decide)) (fun _=>?_)
 refine wp_skip ?_
 refine wp_seq ?_
 refine wp_region_lit ?_
 refine Vy 1 [(11,.pointer (some ⟨b1,3,none⟩))] (by kernel_rfl) ?_
 refine Qa (by kernel_rfl) (Kz ⟨b1,3,none⟩ (V0 (x:Int)) rfl (by kernel_rfl) (by kernel_rfl) (k1.cell (i:=3) rfl) ?_)
 have d1:=hB.size
 have d2:w.heap.size≤(W2).heap.size:=hB.size
 refine Qa (by kernel_rfl) (Yl (lb:=#[]) 155 #[V0 (x:Int)] rfl (by kernel_rfl) (fun _ _=>by kernel_rfl) (by kernel_rfl) ((refs_NewI x _ hx).mono ?_))
 rintro e W4 ⟨_,rfl,b9,br,g,rfl,c3,a1,hc⟩
 refine⟨_,rfl,?_⟩
 replace hB:=bln hB b9
 replace k1:=k1.below b9
 replace hc:=Ze hc d2
 replace c3:=Nat.le_trans d1 c3
 refine Vy 3 [(10,.tuple #[P0 br,V0 0]),(14,P0 br),(15,V0 0)] (by kernel_rfl) ?_
 refine Qa (by kernel_rfl) (Vq [.pointer none] rfl (by kernel_rfl) ?_)
 intro b5 W5 n5
 have a5:=n5.ne k1
 have a3:=n5.ne a1
 have g5:=n5.ge hB
 replace hB:=bln hB n5.below
 replace k1:=k1.below n5.below
 replace a1:=a1.below n5.below
 replace hc:=Zb hc n5.below
 have k5:=n5.blk
 refine Qa (by kernel_rfl) (Yh (v:=P0 br) (b:=b5) (off:=0) rfl (by kernel_rfl) (by kernel_rfl) (by kernel_rfl) rfl k5 (by first|decide|simp) ?_)
 intro W6 u6 k6
 change Blk _ _ [P0 br] _ at k6
 replace hB:=u6.below hB g5
 replace k1:=u6.blk k1 (Ne.symm (Ne.symm a5))
 replace a1:=u6.blk a1 (Ne.symm (Ne.symm a3))
 replace hc:=u6.own2 hc k5 (by decide)
 refine Vy 1 [(4,V0 0)] (by kernel_rfl) ?_
 refine wpList_nil ?_
 refine wp_seq ?_
 refine wp_seq ?_
 refine wp_region_lit ?_
 refine Qa (by kernel_rfl) (Jf (b:=b1) (off:=0) [V0 t,V0 u,V0 v,V0 (x:Int),.slice p n c] _ rfl (by kernel_rfl) Tryz.underlying24 rfl (by kernel_rfl) k1.whole ?_)
 have c7:=hB.size
 refine Qa (by kernel_rfl) (Yl (lb:=#[]) 156 #[.agg #[V0 t,V0 u,V0 v,V0 (x:Int),.slice p n c]] rfl (by kernel_rfl) (fun _ _=>by kernel_rfl) (by kernel_rfl) ((pool_maps t u v (x:Int) p n c _).mono ?_))
 rintro e W7 ⟨_,rfl,a6,bm,rfl,c2,d4⟩
 refine⟨_,rfl,?_⟩
 replace hB:=bln hB a6
 replace k1:=k1.below a6
 replace a1:=a1.below a6
 replace k6:=k6.below a6
 replace hc:=Zb hc a6
 replace c2:=Nat.le_trans c7 c2
 refine wpList_nil ?_
 refine wp_block ?_
 have b4:=hB
 have a8:w.heap.size≤W7.heap.size:=b4.size
 have m3:=k6
 have mr:=a1
 have mm:=d4
 have mc:=hc
 have d3:w.heap.size≤g∧g<W7.heap.size:=mc.lt g rfl
 have hq:=maps_seq bm p n c t u v (x:Int) Z w W7 hZ hP d5 b4 (fun b=>b<w.heap.size) (fun b h=>h) (fun b h=>Nat.lt_of_lt_of_le h a8) mm
 refine g_fr ⟨#[.agg #[V0 t,V0 u,V0 v,V0 (x:Int),.slice p n c],P0 b1,S0,P0 b5,V0 0,undef,undef,.agg #[V0 t,V0 u,V0 v,V0 (x:Int),.slice p n c],V0 (Xr t u v (x:Int) (Z.map Prod.fst)),.bool ((Xr t u v (x:Int) (Z.map Prod.fst)) != (0:Int)),.tuple #[P0 br,V0 0],.pointer (some ⟨b1,3,none⟩),V0 (x:Int),.tuple #[P0 br,V0 0],P0 br,V0 0,.agg #[V0 t,V0 u,V0 v,V0 (x:Int),.slice p n c],.func (.func 233) #[] #[P0 bm],undef,undef,undef,undef,undef,undef,undef,undef],[]⟩ (by kernel_rfl) ?_
 refine wp_rangeD (g:=.tmp 17) (gf:=233) (lb:=#[P0 bm]) rfl (enters_of Tryz.func233 (by kernel_rfl) rfl) (fun b=>b<w.heap.size) (fun b h=>Nat.lt_of_lt_of_le h a8) hq (fun _=>rfl)
  (fun k V=>B3 w V∧Blk V b5 [P0 br] 257∧Blk V br [.slice (S1 g) x x] 349∧V.ownsRow w.heap.size 3 1 (.slice (S1 g) x x) x ((He (List.replicate x 0) ((Qy 0 (Z.map Prod.fst)).take k)).map nv))
  (fun _ _ _=>False) ?bel ?own (fun _ _ _ _ _ h _ _=>h.elim) ⟨b4,m3,mr,mc⟩
  (fun y a' V=>∃ b6,a'={ tmps:=#[.agg #[V0 t,V0 u,V0 v,V0 (x:Int),.slice p n c],P0 b1,S0,P0 b5,V0 0,undef,P0 b6,.agg #[V0 t,V0 u,V0 v,V0 (x:Int),.slice p n c],V0 (Xr t u v (x:Int) (Z.map Prod.fst)),.bool ((Xr t u v (x:Int) (Z.map Prod.fst)) != (0:Int)),.tuple #[P0 br,V0 0],.pointer (some ⟨b1,3,none⟩),V0 (x:Int),.tuple #[P0 br,V0 0],P0 br,V0 0,.agg #[V0 t,V0 u,V0 v,V0 (x:Int),.slice p n c],.func (.func 233) #[] #[P0 bm],V0 (y.1:Int),.agg #[V0 y.2.1,V0 y.2.2.1,V0 y.2.2.2],undef,undef,undef,undef,undef,undef],defers:=[] }∧Blk V b6 [V0 y.2.1,V0 y.2.2.1,V0 y.2.2.2] 164) ?two ?assign ?body ?done (fun _ _ _ _ _ _ h _=>h.elim)
 case bel=>exact fun k A B h hb=>⟨bln h.1 hb,h.2.1.below hb,h.2.2.1.below hb,Zb h.2.2.2 hb⟩
 case own=>exact fun k A B c6 h hg hr=>⟨below_ab (q:=fun _=>False) h.1 hg (fun r e=>.inr (hr r e)) (Nat.le_refl _) a8 (fun _ q=>q.elim),blk_ab (q:=fun _=>False) (m:=W7.heap.size) h.2.1 hg (fun r e=>.inr (hr r e)) (fun _ q=>q.elim),blk_ab (q:=fun _=>False) (m:=W7.heap.size) h.2.2.1 hg (fun r e=>.inr (hr r e)) (fun _ q=>q.elim),own_ab (q:=fun _=>False) (m:=W7.heap.size) h.2.2.2 hg (fun r e=>.inr (hr r e)) (fun _ q=>q.elim)⟩
 case two=>exact fun y a' A B c6 ⟨b6,ha,h6⟩ hg hr=>⟨b6,ha,blk_ab (q:=fun _=>False) (m:=W7.heap.size) h6 hg (fun r e=>.inr (hr r e)) (fun _ q=>q.elim)⟩
 case assign =>
  rintro lr k y W K hy hI hK
  refine zi_fr { tmps:=#[.agg #[V0 t,V0 u,V0 v,V0 (x:Int),.slice p n c],P0 b1,S0,P0 b5,V0 0,undef,undef,.agg #[V0 t,V0 u,V0 v,V0 (x:Int),.slice p n c],V0 (Xr t u v (x:Int) (Z.map Prod.fst)),.bool ((Xr t u v (x:Int) (Z.map Prod.fst)) != (0:Int)),.tuple #[P0 br,V0 0],.pointer (some ⟨b1,3,none⟩),V0 (x:Int),.tuple #[P0 br,V0 0],P0 br,V0 0,.agg #[V0 t,V0 u,V0 v,V0 (x:Int),.slice p n c],.func (.func 233) #[] #[P0 bm],V0 (y.1:Int),.agg #[V0 y.2.1,V0 y.2.2.1,V0 y.2.2.2],undef,undef,undef,undef,undef,undef],defers:=[] } (by kernel_rfl) ?_
  refine reg_in (fun⟨_,_,q⟩=>q) (by simp) ?_
  refine Qa (by kernel_rfl) (Vq [V0 0,V0 0,V0 0] rfl (by kernel_rfl) ?_)
  intro b8 W8 n8
  have g8:=n8.ge (B4 W)
  have hB:=n8.below
  have k8:=n8.blk
  refine Qa (by kernel_rfl) (Ig (b:=b8) (off:=0) [V0 y.2.1,V0 y.2.2.1,V0 y.2.2.2] rfl (by kernel_rfl) (by kernel_rfl) (by kernel_rfl) (by first|decide|simp[Value.oneCell']) k8 (by first|decide|simp) ?_)
  intro W9 u9 k9
  change Blk _ _ [V0 y.2.1,V0 y.2.2.1,V0 y.2.2.2] _ at k9
  replace hB:=u9.below hB g8
  refine wpList_nil ?_
  exact hK _ _ hB ⟨_,rfl,k9⟩
 case body =>
  rintro lr k y a' W e1 hy ⟨a7,n3,nr,nc⟩ ⟨b6,rfl,n6⟩
  have c1:w.heap.size≤W.heap.size:=a7.size
  obtain⟨d6,e0⟩:=a4 y (List.mem_of_getElem? hy)
  obtain⟨j,hj⟩:∃ j:Nat,y.2.2.1=(j:Int):=⟨y.2.2.1.toNat,by omega⟩
  have c8:(He (List.replicate x 0) ((Qy 0 (Z.map Prod.fst)).take k)).length=x:=by rw[Eh,List.length_replicate]
  have d8:=Pv (He (List.replicate x 0) ((Qy 0 (Z.map Prod.fst)).take k)) j
  have c4:=Dq (data:=x) ((Qy 0 (Z.map Prod.fst)).take k) (fun z hz=>a4 z (List.mem_of_mem_take hz)) (List.replicate x 0) List.length_replicate
  rw[List.sum_replicate_nat,List.length_take] at c4
  have d0:=Nat.min_le_right k (Qy 0 (Z.map Prod.fst)).length
  rw[Wl] at d0 c4
  rw[hj] at n6
  obtain⟨cg,kg⟩:=Ep nc
  refine wpIn_block ?_
  refine reg_in (fun⟨_,_,q⟩=>q) (by simp) ?_
  refine Qa (by kernel_rfl) (Kz ⟨b5,0,none⟩ (P0 br) rfl (by kernel_rfl) (by kernel_rfl) (n3.cell (i:=0) rfl) ?_)
  refine Vy 1 [(21,.pointer (some ⟨b6,1,none⟩))] (by kernel_rfl) ?_
  refine Qa (by kernel_rfl) (Kz ⟨b6,1,none⟩ (V0 (j:Int)) rfl (by kernel_rfl) (by kernel_rfl) (n6.cell (i:=1) rfl) ?_)
  refine Qa (by kernel_rfl) (Yl (lb:=#[]) 157 #[P0 br,V0 (j:Int)] rfl (by kernel_rfl) (fun _ _=>by kernel_rfl) (by kernel_rfl) ((Zhk w.heap.size br g x j (He (List.replicate x 0) ((Qy 0 (Z.map Prod.fst)).take k)) _ nr (Nat.le_trans c1 (Below.refl w.heap.size _).size) nc c8 (by omega) (by omega)).mono ?_))
  rintro e e2 ⟨rfl,b3,a2,b0,b7⟩
  refine⟨_,rfl,?_⟩
  have hX:Fr [g] W _:=b0
  have hB:=b3
  replace n3:=n3.only a2 (by decide)
  replace nr:=nr.only a2 (by decide)
  replace n6:=n6.only a2 (by decide)
  refine wpList_nil ?_
  exact⟨(frg_ko hX kg).from _,frg_keeps hX (fun b hb=>Nat.lt_of_lt_of_le hb c1) (Nat.not_lt.2 d3.1),a7.trans hB,n3,nr,by rw[Ro _ _ hy,hj];exact b7⟩
 case done =>
  rintro D W hD ⟨a7,n3,nr,nc⟩ c5
  have hK:Dfr D W:=c5;clear c5
  rw[List.take_of_length_le (Nat.le_refl _)] at nc
  refine g_nopan ?_
  have hB:=a7
  refine wp_seq ?_
  refine wp_region_lit ?_
  refine Qa (by kernel_rfl) (Kz ⟨b5,0,none⟩ (P0 br) rfl (by kernel_rfl) (by kernel_rfl) (n3.cell (i:=0) rfl) ?_)
  have b2:w.heap.size≤(W).heap.size:=hB.size
  refine Qa (by kernel_rfl) (Yl (lb:=#[]) 158 #[P0 br] rfl (by kernel_rfl) (fun _ _=>by kernel_rfl) (by kernel_rfl) ((Zga br g x w.heap.size (Yk x (Z.map Prod.fst)) _ nr nc (Yw _ _) (by omega)).mono ?_))
  rintro e d7 ⟨_,rfl,a0,q9,d9,rfl,a9⟩
  refine⟨_,rfl,?_⟩
  replace hB:=bln hB a0
  replace n3:=n3.below a0
  replace nr:=nr.below a0
  replace nc:=Zb nc a0
  replace hK:=hK.below a0
  replace a9:=Ze a9 b2
  refine Vy 1 [(2,.slice q9 x d9)] (by kernel_rfl) ?_
  refine wpList_nil ?_
  refine wp_ret ?_
  exact g_endM hK (.slice q9 x d9) (by kernel_rfl) (by kernel_rfl) ⟨_,rfl,(Upd.of_put _ _ _).below hB (Nat.le_trans a8 hD),_,_,rfl,(Upd.of_put _ _ _).own3 a9 (hK.row a9)⟩
end Go.Proofs.YtegcamkgeacjfaaGreatDoor
namespace Go.Proofs.YtegcamkgeacjfaaGreatDoor
set_option maxHeartbeats 8000000
set_option maxRecDepth 100000
open Go.RowKit
set_option linter.unusedVariables false
attribute [local go_sem] Oper.semAt_some
def encK(b off n:Nat)(j:Fin (bmN n)):Array Value:=#[.slice (some ⟨b,off+j.val*960,none⟩) (min 960 (n-j.val*960)) (min 960 (n-j.val*960))]
theorem chunk1_in(l B1 B2:Nat)(p:Nat→Prop)(b off n cap:Nat)(hlen:n≤1000000)(hcap:n≤cap)(hB1:p B1)(hB2:p B2)(J Jx:List (Fin (bmN n))→World→Prop)
  (hY:∀ pre x W,J pre W→pre.length<bmN n→YieldAt Fence.wide 2 Tryz.prog l (encK b off n x) W fun e W' =>
   (e=.returned (.bool true)∧J (pre++[x]) W'∧Keeps p W W')∨(e=.returned (.bool false)∧Jx (pre++[x]) W'))
  (W:World) (hck:W.cell? ⟨B1,0,none⟩=some (.slice (some ⟨b,off,none⟩) n cap)) (hcn:W.cell? ⟨B2,0,none⟩=some (V0 960)) (hJa:AbidesFrom W.heap.size J) (h0:J [] W) :
  CallsIn Fence.wide 3 Tryz.prog 268 #[.func (.yield l) #[] #[],P0 B1,P0 B2] W fun e W'=>(∃ v,e=.returned v) ∧
   ((∃ ys,ys=List.finRange (bmN n)∧J ys W')∨(∃ pre,(∃ k,k≤bmN n∧pre=(List.finRange (bmN n)).take k)∧Jx pre W')):=by
 refine callsIn_of_wp Tryz.func268 rfl trivial ?_ rfl
 simp only[Tryz.ntmps268,List.size_toArray,List.length_cons,List.length_nil,Nat.reduceAdd,Nat.reduceSub,Array.replicate_succ,Array.replicate_zero,List.push_toArray,List.append_toArray,List.nil_append,List.cons_append]
 gi_wp2
 gi_loopw [4] (fun i wr=>∃ k:Nat,k≤bmN n∧i=V0 ((k*960:Nat):Int)∧J ((List.finRange (bmN n)).take k) wr∧Keeps p W wr)
  (fun i _=>(n-(intOf i)).toNat)
 case atStart=>exact⟨0,Nat.zero_le _,by simp,h0,Keeps.refl _ _⟩
 case round =>
  obtain⟨k,hk,rfl,a0,a2⟩:=hrel
  have a8:=(a2.cell (a:=⟨B1,0,none⟩) hB1).trans hck
  have a3:=(a2.cell (a:=⟨B2,0,none⟩) hB2).trans hcn
  by_cases hlt:k<bmN n
  ·have b2:=bmN_lt hlt
   gi_wp2
   gi_big_quiet_th (fail)
   obtain⟨fn,a6,a4,a7,hy,hR⟩:=hY _ ⟨k,hlt⟩ (wr.drewN nq) (hJa _ wr _ none a0 ⟨rfl,rfl,rfl,Nat.le_refl _,fun _ _ _=>rfl⟩ (fun _ e=>by cases e)) (by rw[Ek hk];exact hlt)
   have hE:encK b off n ⟨k,hlt⟩=#[.slice (some ⟨b,off+k*960,none⟩) (min 960 (n-k*960)) (min 960 (n-k*960))]:=rfl
   rw[hE] at hy
   have HE:=Lib.hid hE;clear hE
   rw[show(if((n-k*960:Nat):Int)<960 then((n-k*960:Nat):Int) else 960)=((min 960 (n-k*960):Nat):Int) from by split<;>omega]
   obtain⟨m,hm⟩:∃ m,min 960 (n-k*960)=m:=⟨_,rfl⟩
   rw[hm] at hy ⊢
   have b1:k*960+m≤n:=by omega
   have b4:k*960+m≤cap:=by omega
   have b5:k*960+m-k*960=m:=by omega
   gi_wp2
   refine hR.mono ?_
   rintro e W3 (⟨rfl,a9,a5⟩|⟨rfl,a1⟩)
   ·have b0:W3.cell? ⟨B2,0,none⟩=some (V0 960):=(a5.cell (a:=⟨B2,0,none⟩) hB2).trans a3
    gi_wp2
    go_roundw
    case rel =>
     refine⟨k+1,by omega,?_,by rw[Mf hlt];exact a9,(a2.trans (show Keeps p wr (wr.drewN nq) from⟨Nat.le_refl _,fun _ _=>rfl⟩)).trans a5⟩
     exact congrArg V0 (by omega)
    case measure=>simp only[intOf];omega
   ·gi_wp2
    refine bodyPost_ret (results_none rfl _ _ _) rfl ?_
    exact⟨⟨_,rfl⟩,.inr ⟨_,⟨k+1,by omega,by rw[Mf hlt]⟩,a1⟩⟩
  ·obtain rfl:k=bmN n:=by omega
   have b3:=bmN_done (n:=n) rfl
   have b6:¬ (((bmN n*960:Nat):Int)<(n:Int)):=by omega
   rw[Ou] at a0
   have HJ:=Lib.hid a0;clear a0
   gi_wp2
   go_end0
   exact⟨⟨_,rfl⟩,.inl HJ.out⟩
theorem Th{α:Type}(l B1 B2:Nat)(J:List α→World→Prop)(W:World){a0:O0}{c0:Nat}(hck:W.cell? ⟨B1,0,none⟩=some (.slice a0 0 c0))(h0:J [] W) :
 CallsIn Fence.wide 3 Tryz.prog 268 #[.func (.yield l) #[] #[],P0 B1,P0 B2] W fun e W'=>(∃ v,e=.returned v)∧J [] W':=by
 refine callsIn_of_wp Tryz.func268 rfl trivial ?_ rfl
 simp only[Tryz.ntmps268,List.size_toArray,List.length_cons,List.length_nil,Nat.reduceAdd,Nat.reduceSub,Array.replicate_succ,Array.replicate_zero,List.push_toArray,List.append_toArray,List.nil_append,List.cons_append]
 gi_wp2
 gi_loopw [4] (fun i wr=>i=V0 0∧J [] wr∧wr.cell? ⟨B1,0,none⟩=some (.slice a0 0 c0)) (fun _ _=>0)
 case atStart=>exact⟨rfl,h0,hck⟩
 case round =>
  obtain⟨rfl,a1,a2⟩:=hrel
  have HJ:=Lib.hid a1;clear a1
  gi_wp2
  go_end0
  exact⟨⟨_,rfl⟩,HJ.out⟩
theorem Zbd(B1 B2:Nat)(p:Nat→Prop)(b off n cap:Nat)(v:Value)(w:World)(hp:∀ b,p b→b<w.heap.size)(h1:p B1)(h2:p B2)(hlen:n≤1000000)(hv:(n=0∧∃ a c,v=.slice a 0 c)∨v=.slice (some ⟨b,off,none⟩) n cap∧n≤cap)(hck:w.cell? ⟨B1,0,none⟩=some v)(hcn:w.cell? ⟨B2,0,none⟩=some (V0 960)) :
  SeqStopsK Fence.wide 3 Tryz.prog 268 #[P0 B1,P0 B2] (encK b off n) (Keeps p)
   (fun ys=>ys=List.finRange (bmN n)) (fun pre=>∃ k,k≤bmN n∧pre=(List.finRange (bmN n)).take k) (bmN n) w:=fun l J Jx W hW a3 _ hY h0=>by
 have a0:=Zfz hW hck
 have a2:=Zfz hW hcn
 rcases hv with ⟨rfl,a,c,rfl⟩|⟨rfl,a1⟩
 ·exact(Th l B1 B2 J W a0 h0).mono fun e W' ⟨he,hj⟩=>⟨he,.inl ⟨_,rfl,hj⟩⟩
 ·exact chunk1_in l B1 B2 p b off n cap hlen a1 h1 h2 J Jx hY W a0 a2 a3 h0
end Go.Proofs.YtegcamkgeacjfaaGreatDoor
namespace Go.Proofs.YtegcamkgeacjfaaGreatDoor
set_option maxHeartbeats 8000000
set_option maxRecDepth 100000
open Go.RowKit Go.Extern.Stop Go.Stop Go.Extern
set_option linter.unusedVariables false
attribute [local irreducible] wpList wpAnyH Code.wp Oper.wp Go
theorem Av(p:O0)(n c:Nat)(w:World) :
 C0 224 #[.slice p n c,V0 960] w (fun e w'=>∃ b1 b2,e=.returned (.func (.func 268) #[] #[P0 b1,P0 b2])∧B3 w w'∧w.heap.size≤b1∧w.heap.size≤b2∧b1≠b2∧Blk w' b1 [.slice p n c] 33∧Blk w' b2 [V0 960] 3):=by
 refine zin 9 Tryz.func224 ?_
 refine xa 2 [.slice p n c] 33 fun b1 W1 n1=>?_
 refine xa 0 [V0 960] 3 fun b2 W2 n2=>?_
 refine xb 6 0 n2.blk ?_
 have k1:=n1.blk.below n2.below
 have hB:=bln n1.below n2.below
 have g1:=n1.ge (B4 w)
 have g2:=n2.ge n1.below
 exact xe 13 (.func (.func 268) #[] #[P0 b1,P0 b2]) ⟨_,_,rfl,hB,g1,g2,(Blk.tne k1 n2.blk (by decide)),k1,n2.blk⟩
end Go.Proofs.YtegcamkgeacjfaaGreatDoor
namespace Go.Proofs.YtegcamkgeacjfaaGreatDoor
set_option maxHeartbeats 8000000
set_option maxRecDepth 100000
open Go.RowKit
set_option linter.unusedVariables false
theorem Zbl{A B:World}{row:Option Nat}{base size n:Nat}{e:TypeId}{v:Value}{xs:List Value}(k:A.ownsRow base e size v n xs)(hg:A.grownBy B row)(hr:∀ r,row=some r→∃ o:Obj,A.heap[r]? = some o∧o.isCells=false):B.ownsRow base e size v n xs:=by
 obtain⟨h1,h2⟩:=k
 refine⟨h1,?_⟩
 rcases h2 with h2|⟨g,a0,a1,hv,hb,hh,r⟩
 ·exact Or.inl h2
 ·refine Or.inr ⟨g,a0,a1,hv,hb,?_,r⟩
  rw[hg.block g (Array.getElem?_eq_some_iff.1 hh).1 (fun q=>by
   obtain⟨o,ho,hc⟩:=hr g q.symm
   rw[hh] at ho
   cases ho
   cases hc)]
  exact hh
theorem Lists.turn{A B:World}{row:Option Nat}{base:Nat}{v:Value}{gs:List (Nat×Nat)}{L:List (List Int)}(h:Lists A base v gs L)(hg:A.grownBy B row)(hr:∀ r,row=some r→∃ o:Obj,A.heap[r]? = some o∧o.isCells=false):Lists B base v gs L:=⟨Zbl h.row hg hr,fun i hi=>Zbl (h.each i hi) hg hr⟩
structure RdZ(w0:World)(b:Nat)(W V:World):Prop where
 bb:BelowBut w0 b V
 ko:KeepsOthers W V
 fr:∀ k,k<w0.heap.size→k≠b→V.heap[k]? = W.heap[k]?
 le:W.heap.size≤V.heap.size
theorem RdZ.refl{w0 W:World}{b:Nat}(h:BelowBut w0 b W):RdZ w0 b W W:=⟨h,⟨Nat.le_refl _,fun _ _ h _=>h⟩,fun _ _ _=>rfl,Nat.le_refl _⟩
theorem RdZ.below{w0 W V U:World}{b:Nat}(h:RdZ w0 b W V)(hb:Below V.heap.size V U):RdZ w0 b W U :=
 ⟨h.bb.next hb,h.ko.trans (Ob hb),fun k hk hn=>(hb.block k (Nat.lt_of_lt_of_le hk h.bb.size)).trans (h.fr k hk hn),Nat.le_trans h.le hb.size⟩
theorem RdZ.upd{w0 W V U:World}{b:Nat}{cs:List Value}{t:TypeId}(h:RdZ w0 b W V)(u:Upd V b U)(k:Blk V b cs t):RdZ w0 b W U :=
 ⟨h.bb.upd u,h.ko.trans (Zeu u k),fun k hk hn=>(u.block k hn).trans (h.fr k hk hn),Nat.le_trans h.le (Nat.le_of_eq u.size.symm)⟩
theorem RdZ.grown{w0 W V U:World}{b size n:Nat}{e:TypeId}{v:Value}{xs:List Value}(h:RdZ w0 b W V)(hg:V.grownBy U v.ownBlock)(k:V.ownsRow w0.heap.size e size v n xs):RdZ w0 b W U :=
 ⟨⟨hg.os.trans h.bb.os,hg.tape.trans h.bb.tape,hg.output.trans h.bb.output,Nat.le_trans h.bb.size hg.size,fun i hi hn=>(hg.block i (Nat.lt_of_lt_of_le hi h.bb.size) (fun e=>by have:=(k.lt i e.symm).1;omega)).trans (h.bb.block i hi hn)⟩,
  ⟨Nat.le_trans h.ko.size hg.size,fun i o hi ho=>by
   have h1:=h.ko.same i o hi ho
   rw[hg.block i (Array.getElem?_eq_some_iff.1 h1).1 (fun q=>by
    rcases k.2 with ⟨rfl,_⟩|⟨g,a0,a1,rfl,_,hh,_⟩
    ·cases q
    ·simp only[Value.ownBlock,Option.some.injEq] at q
     subst q
     rw[hh] at h1
     cases h1
     cases ho)]
   exact h1⟩,
  fun i hi hn=>(hg.block i (Nat.lt_of_lt_of_le hi h.bb.size) (fun e=>by have:=(k.lt i e.symm).1;omega)).trans (h.fr i hi hn),Nat.le_trans h.le hg.size⟩
theorem row_or{w:World}{base e n c:Nat}{p:O0}{xs:List Value}(k:w.ownsRow base e 1 (.slice p n c) n xs):∃ g,(n=0∧∃ a c',Value.slice p n c=.slice a 0 c')∨Value.slice p n c=.slice (S1 g) n c∧n≤c:=by
 rcases k.2 with ⟨h,_⟩|⟨g,a0,a1,hv,_,_,hc,_⟩
 ·simp only[Value.slice.injEq] at h
  exact⟨0,.inl ⟨h.2.1,none,0,by rw[h.1,h.2.1,h.2.2]⟩⟩
 ·simp only[Value.slice.injEq] at hv
  obtain⟨rfl,_,rfl⟩:=hv
  exact⟨g,.inr ⟨rfl,hc⟩⟩
def Each(w:World)(base:Nat)(gs:List (Nat×Nat))(L:List (List Int)):Prop:=∀ i,i<L.length→w.ownsRow base 3 1 (Bu gs L i) (L.getD i []).length ((L.getD i []).map V0)
theorem Each.below{w W:World}{base:Nat}{gs:List (Nat×Nat)}{L:List (List Int)}(h:Each w base gs L)(hb:B3 w W):Each W base gs L:=fun i hi=>Zb (h i hi) hb
theorem Each.only{T:List TypeId}{w W:World}{base:Nat}{gs:List (Nat×Nat)}{L:List (List Int)}(h:Each w base gs L)(hO:Zd T w W)(hT:T.contains 3=false):Each W base gs L:=fun i hi=>Zi (h i hi) hO hT
theorem Zbw{gs:List (Nat×Nat)}{L:List (List Int)}{g c i:Nat}{ch:List Int}(hg:gs.length=L.length)(hi:i<L.length):Bu (gs++[(g,c)]) (L++[ch]) i=Bu gs L i:=by
 unfold Bu
 simp[List.getD,List.getElem?_append_left,hi,hg]
theorem Zbm{gs:List (Nat×Nat)}{L:List (List Int)}{g c:Nat}{ch:List Int}(hg:gs.length=L.length):Bu (gs++[(g,c)]) (L++[ch]) L.length=.slice (S1 g) ch.length c:=by
 unfold Bu
 rw[show(gs++[(g,c)]).getD L.length (0,0)=(g,c) from by rw[←hg];simp[List.getD],show(L++[ch]).getD L.length []=ch from by simp[List.getD]]
theorem Lists.snoc{w:World}{base g c n:Nat}{v:Value}{gs:List (Nat×Nat)}{L:List (List Int)}{ch:List Int}(hn:n=L.length+1)(hrow:w.ownsRow base 33 1 v n ((List.range L.length).map (Bu gs L)++[.slice (S1 g) ch.length c]))(he:Each w base gs L)(hnew:w.ownsRow base 3 1 (.slice (S1 g) ch.length c) ch.length (ch.map V0))(hg:gs.length=L.length):Lists w base v (gs++[(g,c)]) (L++[ch]):=by
 subst hn
 refine⟨?_,fun i hi=>?_⟩
 ·rw[show(L++[ch]).length=L.length+1 from by simp,List.range_succ,List.map_append]
  rw[show(List.range L.length).map (Bu (gs++[(g,c)]) (L++[ch]))=(List.range L.length).map (Bu gs L) from List.map_congr_left fun i hi=>Zbw hg (List.mem_range.1 hi),List.map_singleton,Zbm hg]
  exact hrow
 ·by_cases h:i<L.length
  ·rw[Zbw hg h,show(L++[ch]).getD i []=L.getD i [] from by simp[List.getD,List.getElem?_append_left,h]]
   exact he i h
  ·obtain rfl:i=L.length:=by simp at hi;omega
   rw[Zbm hg,show(L++[ch]).getD L.length []=ch from by simp[List.getD]]
   exact hnew
theorem Sl.midI{w:World}{g n c:Nat}{xs:List Value}(h:Sl w (.slice (S1 g) n c) n xs)(hl:xs.length=n)(k m:Nat)(hm:0<m)(hk:k+m≤n):Sl w (.slice (some ⟨g,0+k,none⟩) m m) m ((xs.drop k).take m):=by
 rcases h with ⟨a',c',h1,h2,h3⟩|⟨g',a0,a2,h1,h2,h3,h4⟩
 ·omega
 ·simp only[Value.slice.injEq,Option.some.injEq,Addr.mk.injEq] at h1
  obtain⟨⟨rfl,rfl,_⟩,_,rfl⟩:=h1
  refine .inr ⟨g,0+k,m,rfl,Nat.le_refl _,by omega,fun j x hj=>?_⟩
  have a1:j<m:=by
   rcases Nat.lt_or_ge j m with q|q
   ·exact q
   ·rw[List.getElem?_eq_none (by simp;omega)] at hj;cases hj
  rw[List.getElem?_take_of_lt a1,List.getElem?_drop] at hj
  have:=h4 (k+j) x hj
  rw[show 0+k+j=0+(k+j) from by omega]
  exact this
end Go.Proofs.YtegcamkgeacjfaaGreatDoor
namespace Go.Proofs.YtegcamkgeacjfaaGreatDoor
set_option maxHeartbeats 8000000
set_option maxRecDepth 100000
open Go.RowKit Go.Extern.Stop Go.Stop Go.Extern
set_option linter.unusedVariables false
attribute [local irreducible] wpList wpAnyH Code.wp Oper.wp Go
theorem Zab(w:World) :
 C0 267 #[] w (Qn (fun w' r=>∃ b,r=.slice (S1 b) 1 1∧w.heap.size≤b∧Blk w' b [V0 4,V0 3,V0 2147483647] 377) w):=by
 refine zin 3 Tryz.func267 ?_
 refine xbs 8 1 [V0 4,V0 3,V0 2147483647] 377 fun b1 W1 n1=>?_
 have g1:=n1.ge (B4 w)
 exact xe 4 (.slice (S1 b1) 1 1) ⟨_,rfl,n1.below,_,rfl,g1,n1.blk⟩
theorem Di(gl gn:Nat)(n:Int)(h1:3≤n)(h2:n≤2147483647)(w:World)(hl:Blk w gl [V0 4,V0 3,V0 2147483647] 377)(hn:Blk w gn [V0 n] 3) :
 C0 222 #[.slice (S1 gl) 1 1,.slice (S1 gn) 1 1] w (Ret (.string ⟨(leB n 4).toArray⟩) w):=by
 refine zin 51 Tryz.func222 ?_
 refine xu 19 2 ?_
 refine xlv 15 hl.rp ?_
 refine xa 0 [V0 0,V0 0,V0 0] 377 fun b1 W1 n1=>?_
 have a7:=n1.ne hl
 refine xsv 1 n1.blk [V0 4,V0 3,V0 2147483647] fun W2 u2 k2=>?_
 have g1:=n1.ge (B4 w)
 refine xd 4 .z ?_
 have a0:=(u2.blkT (hn.below n1.below) n1.blk (by decide)).below (Za W2)
 refine xb (.e [0,1,2] 3) 0 a0 ?_
 have a1:=k2.below (Za W2)
 refine xb (.e [4] 5) 1 a1 ?_
 refine xgk (.b [6,7]) [23,24] (show(decide (n<(3:Int)):Bool)=false from decide_eq_false (by omega)) ?_
 refine xb (.e [8,9,10] 11) 0 a0 ?_
 refine xb (.e [12] 13) 2 a1 ?_
 refine xk (.r [14,15] 2) (show(decide (n>(2147483647:Int)):Bool)=false from decide_eq_false (by omega)) ?_
 refine xd 3 .z ?_
 have a6:=a1.below (Za W2.drew)
 refine xb (.e [0] 1) 0 a6 ?_
 have a4:=a0.below (Za W2.drew)
 refine xb (.e [2,3,4] 5) 0 a4 ?_
 refine xbs (.o [6] 7) 1 [V0 4,V0 n] 271 fun b4 W4 n4=>?_
 refine yc (.o [] 8) (args:=#[.slice (S1 b4) 1 1]) .z (Fg b4 n (by omega) (by omega) _ n4.blk) ?_
 rintro _ W5 ⟨_,rfl,a8,b0,b3,rfl,a3⟩
 have b2:=(bln (bln (bln (u2.below n1.below g1) (Za W2)) (Za W2.drew)) n4.below).size
 refine⟨a8,?_⟩
 have o6:=World.ownsRow_nil W5 w.heap.size 5 1
 have a2:=Ze a3 b2
 have hB:=bln (bln (bln (bln (u2.below n1.below g1) (Za W2)) (Za W2.drew)) n4.below) a8
 refine xbi (.r [9,10,11,12,13] 5) fun _ _ _ _ zJ zQ zo zx zy zK=>Zn (m:=4) (news:=(leB n 4).map bv) (.int .u8 0) 1 1 (4) ((leB n 4).map bv) zo Tryz.underlying40 (by kernel_rfl) rfl (by decide) zx o6 zy (Zf a2) (by simp[Zh]) (Xs _) (by unfold maxLen;omega) (by omega) hB.size (by rfl) (by simp) fun b7 b6 W7 o7 b5 a9=>?_
 refine zK _ _ ?_
 refine xcv0 24 (fun _ _ _ zo zx=>Yn zo zx (Xp (Zf o7) (by simp[Zh])) (by simp[Zh]) Tryz.underlying40 Tryz.underlying5 Tryz.underlying9) ?_
 have a5:=hB.trans a9
 exact xe 4 (.string ⟨(leB n 4).toArray⟩) ⟨rfl,a5⟩
theorem Zax(n:Int)(h1:3≤n)(h2:n≤2147483647)(w:World) :
 C0 223 #[V0 n] w (Ret (.string ⟨(leB n 4).toArray⟩) w):=by
 refine zin 7 Tryz.func223 ?_
 refine xc 7 (args:=#[]) (Zab _) ?_
 rintro _ W1 ⟨_,rfl,a1,gl,rfl,gg,kl⟩
 refine xbs 1 1 [V0 n] 3 fun b2 W2 n2=>?_
 have a0:=kl.below n2.below
 refine xr 0 (args:=#[.slice (S1 gl) 1 1,.slice (S1 b2) 1 1]) (Di gl b2 n h1 h2 _ a0 n2.blk) fun W3 a2=>?_
 have hB:=bln (bln a1 n2.below) a2
 exact xe 4 (.string ⟨(leB n 4).toArray⟩) ⟨rfl,hB⟩
theorem Rf(w:World) :
 C0 229 #[] w (Qn (fun w' r=>∃ b,r=.slice (S1 b) 3 3∧w.heap.size≤b∧Blk w' b [V0 8,V0 1,V0 14399,V0 4,V0 0,V0 960,V0 4,V0 0,V0 960] 377) w):=by
 refine zin 5 Tryz.func229 ?_
 refine xbs 10 3 [V0 8,V0 1,V0 14399,V0 4,V0 0,V0 960,V0 4,V0 0,V0 960] 377 fun b1 W1 n1=>?_
 have g1:=n1.ge (B4 w)
 exact xe 4 (.slice (S1 b1) 3 3) ⟨_,rfl,n1.below,_,rfl,g1,n1.blk⟩
theorem Pk(gl gn:Nat)(n f g:Int)(h1:1≤n)(h2:n≤14399)(h3:0≤f)(h4:f≤960)(h5:0≤g)(h6:g≤960)(w:World)(hl:Blk w gl [V0 8,V0 1,V0 14399,V0 4,V0 0,V0 960,V0 4,V0 0,V0 960] 377)(hn:Blk w gn [V0 n,V0 f,V0 g] 3) :
 C0 222 #[.slice (S1 gl) 3 3,.slice (S1 gn) 3 3] w (Ret (.string ⟨(leB n 8++leB f 4++leB g 4).toArray⟩) w):=by
 refine zin 51 Tryz.func222 ?_
 refine xu 19 4 ?_
 refine xlv 15 (hl.rpp 0 3) ?_
 refine xa 0 [V0 0,V0 0,V0 0] 377 fun b1 W1 n1=>?_
 have d0:=n1.ne hl
 refine xsv 1 n1.blk [V0 8,V0 1,V0 14399] fun W2 u2 k2=>?_
 have g1:=n1.ge (B4 w)
 refine xd 4 .z ?_
 have c1:=(u2.blkT (hn.below n1.below) n1.blk (by decide)).below (Za W2)
 refine xb (.e [0,1,2] 3) 0 c1 ?_
 have a9:=k2.below (Za W2)
 refine xb (.e [4] 5) 1 a9 ?_
 refine xgk (.b [6,7]) [23,24] (show(decide (n<(1:Int)):Bool)=false from decide_eq_false (by omega)) ?_
 refine xb (.e [8,9,10] 11) 0 c1 ?_
 refine xb (.e [12] 13) 2 a9 ?_
 refine xk (.r [14,15] 2) (show(decide (n>(14399:Int)):Bool)=false from decide_eq_false (by omega)) ?_
 refine xd 3 .z ?_
 have d3:=a9.below (Za W2.drew)
 refine xb (.e [0] 1) 0 d3 ?_
 have d9:=c1.below (Za W2.drew)
 refine xb (.e [2,3,4] 5) 0 d9 ?_
 refine xbs (.o [6] 7) 1 [V0 8,V0 n] 271 fun b4 W4 n4=>?_
 refine yc (.o [] 8) (args:=#[.slice (S1 b4) 1 1]) .z (Pack_8 b4 n (by omega) _ n4.blk) ?_
 rintro _ W5 ⟨_,rfl,c3,h9,i4,rfl,g0⟩
 have i6:=(bln (bln (bln (u2.below n1.below g1) (Za W2)) (Za W2.drew)) n4.below).size
 refine⟨c3,?_⟩
 have o6:=World.ownsRow_nil W5 w.heap.size 5 1
 have b9:=Ze g0 i6
 have hB:=bln (bln (bln (bln (u2.below n1.below g1) (Za W2)) (Za W2.drew)) n4.below) c3
 refine xbi (.r [9,10,11,12,13] 5) fun _ _ _ _ zJ zQ zo zx zy zK=>Zn (m:=8) (news:=(leB n 8).map bv) (.int .u8 0) 1 1 (8) ((leB n 8).map bv) zo Tryz.underlying40 (by kernel_rfl) rfl (by decide) zx o6 zy (Zf b9) (by simp[Zh]) (Xs _) (by unfold maxLen;omega) (by omega) hB.size (by rfl) (by simp) fun j9 j4 W7 o7 e2 i1=>?_
 refine zK _ _ ?_
 have b0:=(((((u2.blk (hl.below n1.below) (Ne.symm (Ne.symm d0))).below (Za W2)).below (Za W2.drew)).below n4.below).below c3).grown e2 o6 (by decide)
 refine xlv 24 (b0.rpp 3 3) ?_
 refine xa 0 [V0 0,V0 0,V0 0] 377 fun b8 W8 n8=>?_
 have c5:=n8.ne b0
 have d4:=((d3.below n4.below).below c3).grown e2 o6 (by decide)
 have c4:=n8.ne d4
 have c8:=hB.trans i1
 have g8:=n8.ge c8
 refine xsv 1 n8.blk [V0 4,V0 0,V0 960] fun W9 u9 k9=>?_
 refine xd 4 .z ?_
 have b6:=(u9.blkT ((((d9.below n4.below).below c3).grown e2 o6 (by decide)).below n8.below) n8.blk (by decide)).below (Za W9)
 refine xb (.e [0,1,2] 3) 1 b6 ?_
 have c2:=k9.below (Za W9)
 refine xb (.e [4] 5) 1 c2 ?_
 refine xgk (.b [6,7]) [23,24] (show(decide (f<(0:Int)):Bool)=false from decide_eq_false (by omega)) ?_
 refine xb (.e [8,9,10] 11) 1 b6 ?_
 refine xb (.e [12] 13) 2 c2 ?_
 refine xk (.r [14,15] 2) (show(decide (f>(960:Int)):Bool)=false from decide_eq_false (by omega)) ?_
 refine xd 3 .z ?_
 have d8:=c2.below (Za W9.drew)
 refine xb (.e [0] 1) 0 d8 ?_
 have c6:=b6.below (Za W9.drew)
 refine xb (.e [2,3,4] 5) 1 c6 ?_
 refine xbs (.o [6] 7) 1 [V0 4,V0 f] 271 fun g2 j8 a4=>?_
 have d2:=((u9.blkT (((n4.blk.below c3).grown e2 o6 (by decide)).below n8.below) n8.blk (by decide)).below (Za W9)).below (Za W9.drew)
 have f4:=a4.ne d2
 have a8:=bln (bln (u9.below (bln c8 n8.below) g8) (Za W9)) (Za W9.drew)
 have k0:=a4.ge a8
 refine yc (.o [] 8) (args:=#[.slice (S1 g2) 1 1]) .z (Fg g2 f (by omega) (by omega) _ a4.blk) ?_
 rintro _ j0 ⟨_,rfl,a0,i3,g9,rfl,e6⟩
 have f5:=(bln a8 a4.below).size
 refine⟨a0,?_⟩
 have a1:=Zb (Zb (Zb (Zb (u9.own2 (Zb o7 n8.below) n8.blk (by decide)) (Za W9)) (Za W9.drew)) a4.below) a0
 have a7:=Ze e6 f5
 have c9:=bln (bln a8 a4.below) a0
 refine xbi (.r [9,10,11,12,13] 5) fun _ _ _ _ zJ zQ zo zx zy zK=>Zn (m:=4) (news:=(leB f 4).map bv) (.int .u8 0) 1 1 (12) ((leB n 8++leB f 4).map bv) zo Tryz.underlying40 (by kernel_rfl) rfl (by decide) zx a1 zy (Zf a7) (by simp[Zh]) (Xs _) (by unfold maxLen;omega) (by omega) c9.size (by rfl) (by simp) fun g5 i8 i9 h7 a3 e7=>?_
 refine zK _ _ ?_
 have e0:=(((((u9.blk (b0.below n8.below) (Ne.symm (Ne.symm c5))).below (Za W9)).below (Za W9.drew)).below a4.below).below a0).grown a3 a1 (by decide)
 refine xlv 24 (e0.rpp 6 3) ?_
 refine xa 0 [V0 0,V0 0,V0 0] 377 fun j5 j7 a2=>?_
 have f7:=a2.ne e0
 have f1:=(((((u9.blk (d4.below n8.below) (Ne.symm (Ne.symm c4))).below (Za W9)).below (Za W9.drew)).below a4.below).below a0).grown a3 a1 (by decide)
 have e8:=a2.ne f1
 have f3:=((d8.below a4.below).below a0).grown a3 a1 (by decide)
 have e4:=a2.ne f3
 have d7:=c9.trans e7
 have g7:=a2.ge d7
 refine xsv 1 a2.blk [V0 4,V0 0,V0 960] fun a5 e1 h8=>?_
 refine xd 4 .z ?_
 have c0:=(e1.blkT ((((c6.below a4.below).below a0).grown a3 a1 (by decide)).below a2.below) a2.blk (by decide)).below (Za a5)
 refine xb (.e [0,1,2] 3) 2 c0 ?_
 have a6:=h8.below (Za a5)
 refine xb (.e [4] 5) 1 a6 ?_
 refine xgk (.b [6,7]) [23,24] (show(decide (g<(0:Int)):Bool)=false from decide_eq_false (by omega)) ?_
 refine xb (.e [8,9,10] 11) 2 c0 ?_
 refine xb (.e [12] 13) 2 a6 ?_
 refine xk (.r [14,15] 2) (show(decide (g>(960:Int)):Bool)=false from decide_eq_false (by omega)) ?_
 refine xd 3 .z ?_
 have d1:=a6.below (Za a5.drew)
 refine xb (.e [0] 1) 0 d1 ?_
 have f6:=c0.below (Za a5.drew)
 refine xb (.e [2,3,4] 5) 2 f6 ?_
 refine xbs (.o [6] 7) 1 [V0 4,V0 g] 271 fun g3 j2 b2=>?_
 have f2:=((e1.blkT ((((d2.below a4.below).below a0).grown a3 a1 (by decide)).below a2.below) a2.blk (by decide)).below (Za a5)).below (Za a5.drew)
 have f9:=b2.ne f2
 have c7:=((e1.blkT (((a4.blk.below a0).grown a3 a1 (by decide)).below a2.below) a2.blk (by decide)).below (Za a5)).below (Za a5.drew)
 have e3:=b2.ne c7
 have b7:=bln (bln (e1.below (bln d7 a2.below) g7) (Za a5)) (Za a5.drew)
 have j6:=b2.ge b7
 refine yc (.o [] 8) (args:=#[.slice (S1 g3) 1 1]) .z (Fg g3 g (by omega) (by omega) _ b2.blk) ?_
 rintro _ j1 ⟨_,rfl,b5,i5,h0,rfl,e9⟩
 have e5:=(bln b7 b2.below).size
 refine⟨b5,?_⟩
 have d5:=Zb (Zb (Zb (Zb (e1.own2 (Zb h7 a2.below) a2.blk (by decide)) (Za a5)) (Za a5.drew)) b2.below) b5
 have b3:=Ze e9 e5
 have d6:=bln (bln b7 b2.below) b5
 refine xbi (.r [9,10,11,12,13] 5) fun _ _ _ _ zJ zQ zo zx zy zK=>Zn (m:=4) (news:=(leB g 4).map bv) (.int .u8 0) 1 1 (16) ((leB n 8++leB f 4++leB g 4).map bv) zo Tryz.underlying40 (by kernel_rfl) rfl (by decide) zx d5 zy (Zf b3) (by simp[Zh]) (Xs _) (by unfold maxLen;omega) (by omega) d6.size (by rfl) (by simp) fun i2 i7 j3 i0 g6 f8=>?_
 refine zK _ _ ?_
 refine xcv0 24 (fun _ _ _ zo zx=>Yn zo zx (Xp (Zf i0) (by simp[Zh])) (by simp[Zh]) Tryz.underlying40 Tryz.underlying5 Tryz.underlying9) ?_
 have f0:=d6.trans f8
 exact xe 4 (.string ⟨(leB n 8++leB f 4++leB g 4).toArray⟩) ⟨rfl,f0⟩
theorem Jg(n f g:Int)(h1:1≤n)(h2:n≤14399)(h3:0≤f)(h4:f≤960)(h5:0≤g)(h6:g≤960)(w:World) :
 C0 153 #[.agg #[V0 n,V0 f,V0 g]] w (Ret (.string ⟨(leB n 8++leB f 4++leB g 4).toArray⟩) w):=by
 refine zin 12 Tryz.func153 ?_
 refine xa 2 [V0 n,V0 f,V0 g] 252 fun b1 W1 n1=>?_
 refine xd 4 .z ?_
 have k1:=n1.blk.below (Za W1)
 refine xb (.e [1] 2) 0 k1 ?_
 refine xb (.e [3] 4) 1 k1 ?_
 refine xb (.e [5] 6) 2 k1 ?_
 refine xm2 0 0 7 ?_ ?_
 ·refine yc 0 (args:=#[]) .z (Rf _) ?_
  rintro _ W2 ⟨_,rfl,a2,gl,rfl,gg,kl⟩
  refine⟨a2,?_⟩
  refine xbs (.o [] 7) 3 [V0 n,V0 f,V0 g] 3 fun b3 W3 n3=>?_
  have a0:=kl.below n3.below
  refine xr (.o [] 8) (args:=#[.slice (S1 gl) 3 3,.slice (S1 b3) 3 3]) (Pk gl b3 n f g h1 h2 h3 h4 h5 h6 _ a0 n3.blk) fun W4 a4=>?_
  have hB:=bln (bln (bln (bln n1.below (Za W1)) a2) n3.below) a4
  exact xe (.r [9] 3) (.string ⟨(leB n 8++leB f 4++leB g 4).toArray⟩) ⟨rfl,hB⟩
 refine xbs 0 3 [V0 n,V0 f,V0 g] 3 fun b5 W5 n5=>?_
 refine yc (.o [] 0) (args:=#[]) .z (Rf _) ?_
 rintro _ W6 ⟨_,rfl,a1,gl,rfl,gg,kl⟩
 refine⟨a1,?_⟩
 have k5:=n5.blk.below a1
 refine xr (.o [] 8) (args:=#[.slice (S1 gl) 3 3,.slice (S1 b5) 3 3]) (Pk gl b5 n f g h1 h2 h3 h4 h5 h6 _ kl k5) fun W7 a3=>?_
 have hB:=bln (bln (bln (bln n1.below (Za W1)) n5.below) a1) a3
 exact xe (.r [9] 3) (.string ⟨(leB n 8++leB f 4++leB g 4).toArray⟩) ⟨rfl,hB⟩
end Go.Proofs.YtegcamkgeacjfaaGreatDoor
namespace Go.Proofs.YtegcamkgeacjfaaGreatDoor
set_option maxHeartbeats 8000000
set_option maxRecDepth 100000
open Go.RowKit Go.Extern.Stop Go.Stop Go.Extern
set_option linter.unusedVariables false
attribute [local irreducible] wpList wpAnyH Code.wp Oper.wp Go
def SplitP(l:List Int)(w:World)(e:Ending)(w':World):Prop :=
 (Yu l≠0∧e=.returned (.tuple #[S0,S0,V0 2])∧B3 w w') ∨
 (Yu l=0∧∃ pb cb gs po co,e=.returned (.tuple #[.slice pb (bmN l.length) cb,.slice po (Zm l l.length).length co,V0 0])∧B3 w w'∧Lists w' w.heap.size (.slice pb (bmN l.length) cb) gs (Zl (Zg l) (bmN l.length))∧w'.ownsRow w.heap.size 123 3 (.slice po (Zm l l.length).length co) (Zm l l.length).length ((Zm l l.length).flatMap Yj))
theorem Rn{l:List Int}{i:Nat}(hl:l.length≤65536)(hi:i<l.length)(h:¬ Kw (l.getD i 0)):Yu l≠0:=fun q=>h ((Gk q).2 i hi)
theorem Za5{l:List Int}(hl:l.length≤65536)(h:∀ k,k<l.length→Kw (l.getD k 0)):Yu l=0:=by
 unfold Yu;rw[if_neg (by omega),if_pos h]
attribute [local go_sem] Oper.semAt_some
theorem g_retM{P:Program}{fn:Func}{R:Ending→World→Prop}{a:Act}{w:World}(v:Value)(hd:a.defers=[])(hr:(results fn a.tmps).run P w=.ok v w)(h:R (.returned v) w):bodyPostM Fence.wide 4 P fn R .ret a w:=by
 show LeavesInM _ _ _ _ a.tmps R a.defers .returning w
 rw[hd]
 exact⟨v,hr,h⟩
theorem Lists.put{W U:World}{D base:Nat}{v:Value}{gs:List (Nat×Nat)}{L:List (List Int)}(h:Lists W base v gs L)(u:Upd W D U)(hK:Dfr D W):Lists U base v gs L:=⟨u.own3 h.row (hK.row h.row),fun i hi=>u.own3 (h.each i hi) (hK.row (h.each i hi))⟩
theorem mn3_if(n:Int):(if 3<n then 3 else n)=mn3 n:=by unfold mn3;split<;>split<;>omega
def Hz(s:List Int){n:Nat}(pre:List (Fin n)):List (List Int):=pre.map fun j=>Vi s j.val
theorem Gv(s:List Int){n:Nat}(pre:List (Fin n))(x:Fin n):Hz s (pre++[x])=Hz s pre++[Vi s x.val]:=by simp[Hz]
theorem preC_all(s:List Int)(n:Nat):Hz s (List.finRange n)=Zl s n:=by
 unfold Hz Zl
 apply List.ext_getElem
 ·simp
 ·intro i h1 h2;simp
theorem Zbi(a:O0)(c:Nat)(l:List Int)(w:World)(h:Sl w (.slice a l.length c) l.length (l.map V0))(hl:l.length≤65536) :
 C0 148 #[.slice a l.length c] w (SplitP l w):=by
 refine Pt Tryz.func148 rfl ?_
 refine g_fr ⟨#[.slice a l.length c,undef,undef,undef,undef,undef,undef,undef,undef,undef,undef,undef,undef,undef,undef,undef,undef,undef,undef,undef,undef,undef,undef,undef,undef,undef,undef,undef,undef,undef,undef,undef,undef,undef,undef,undef,undef,undef,undef,undef,undef,undef,undef,undef,undef,undef,undef,undef,undef,undef,undef,undef],[]⟩ (by kernel_rfl) ?_
 refine wp_seq ?_
 refine wp_region_lit ?_
 refine Vy 3 [(2,S0),(3,S0),(4,V0 0)] (by kernel_rfl) ?_
 refine wpList_nil ?_
 refine wp_seq ?_
 refine wp_seq ?_
 refine wp_region_lit ?_
 refine Vy 3 [(11,.slice a l.length c),(12,V0 (l.length:Int)),(13,.bool (decide ((l.length:Int)>(65536:Int))))] (by kernel_rfl) ?_
 refine wpList_nil ?_
 refine wp_cond_split (t:=decide ((l.length:Int)>(65536:Int))) (by kernel_rfl) (fun hh=>absurd (hh.symm.trans (show(decide ((l.length:Int)>(65536:Int)):Bool)=false from decide_eq_false (by omega))) (by decide)) (fun _=>?_)
 refine wp_skip ?_
 refine wp_seq ?_
 refine wp_region_lit ?_
 refine Vy 1 [(5,S0)] (by kernel_rfl) ?_
 refine wpList_nil ?_
 refine wp_seq ?_
 refine wp_region_lit ?_
 refine Vy 1 [(6,S0)] (by kernel_rfl) ?_
 refine wpList_nil ?_
 refine wp_seq ?_
 refine wp_seq ?_
 refine wp_region_lit ?_
 refine Vy 3 [(14,.slice a l.length c),(15,V0 (l.length:Int)),(16,V0 0)] (by kernel_rfl) ?_
 refine wpList_nil ?_
 refine wp_block ?_
 refine g_fr ⟨#[.slice a l.length c,undef,S0,S0,V0 0,S0,S0,undef,undef,undef,undef,.slice a l.length c,V0 (l.length:Int),.bool (decide ((l.length:Int)>(65536:Int))),.slice a l.length c,V0 (l.length:Int),V0 0,undef,undef,undef,undef,undef,undef,undef,undef,undef,undef,undef,undef,undef,undef,undef,undef,undef,undef,undef,undef,undef,undef,undef,undef,undef,undef,undef,undef,undef,undef,undef,undef,undef,undef,undef],[]⟩ (by kernel_rfl) ?_
 have hB:=Below.refl w.heap.size w
 refine wp_loop (fun i0 V=>∃ (i:Nat) (ps:O0) (cs:Nat) (po:O0) (co:Nat) (x2:Nat→Value),i0=⟨#[.slice a l.length c,undef,(x2 0),(x2 1),(x2 2),.slice ps i cs,.slice po ((Zm l i).length) co,(x2 3),(x2 4),undef,undef,.slice a l.length c,V0 (l.length:Int),.bool (decide ((l.length:Int)>(65536:Int))),.slice a l.length c,V0 (l.length:Int),V0 (i:Int),(x2 5),(x2 6),(x2 7),(x2 8),(x2 9),(x2 10),(x2 11),(x2 12),(x2 13),(x2 14),(x2 15),(x2 16),(x2 17),(x2 18),(x2 19),(x2 20),(x2 21),(x2 22),(x2 23),(x2 24),(x2 25),(x2 26),(x2 27),(x2 28),(x2 29),undef,undef,undef,undef,undef,undef,undef,undef,undef,undef],[]⟩∧B3 w V∧V.ownsRow w.heap.size 3 1 (.slice ps i cs) i ((Zg (l.take i)).map V0)∧V.ownsRow w.heap.size 123 3 (.slice po (Zm l i).length co) (Zm l i).length ((Zm l i).flatMap Yj)∧i≤l.length∧((∀ j,j<i→Kw (l.getD j 0)))) (fun i0 V=>l.length-((intOf (i0.tmps.getD 16 undef))).toNat) ⟨0,none,0,none,0,(pk [S0,S0,V0 0,undef,undef,undef,undef,undef,undef,undef,undef,undef,undef,undef,undef,undef,undef,undef,undef,undef,undef,undef,undef,undef,undef,undef,undef,undef,undef,undef]),rfl,hB,World.ownsRow_nil _ _ _ _,World.ownsRow_nil _ _ _ _,Nat.zero_le _,?_⟩ ?_
 ·exact fun j hj=>absurd hj (by omega)
 rintro _ W2 ⟨i,ps,cs,po,co,x2,rfl,hB,hs,ho,hi,hz⟩
 refine wp_seq ?_
 refine wp_region_lit ?_
 refine Vy 1 [(17,.bool (decide ((i:Int)<(l.length:Int))))] (by kernel_rfl) ?_
 refine wpList_nil ?_
 refine wp_seq ?_
 refine wp_cond_split (t:=decide ((i:Int)<(l.length:Int))) (by kernel_rfl) (fun f5=>?_) (fun f5=>?_)
 ·have f5:=of_decide_eq_true f5
  refine wp_skip ?_
  refine wp_seq ?_
  refine wp_block ?_
  refine wp_seq ?_
  refine wp_region_lit ?_
  refine Vy 1 [(18,V0 (i:Int))] (by kernel_rfl) ?_
  refine Qa (by kernel_rfl) (Gp (Ra (size:=1) (k:=i) (b:=a) (n:=l.length) (c:=c) (i:=(i:Int)) (ki:=.i64) rfl (by kernel_rfl) (by kernel_rfl) rfl (by omega) (Ints.elem h (k:=i) (by omega)).1 Tryz.underlying33 (by kernel_rfl) W2) ?_)
  refine Qa (by kernel_rfl) (Kz (Zz a (i*1)) (V0 (l.getD i 0)) rfl (by kernel_rfl) (by kernel_rfl) (Ints.elem (h.below hB) (k:=i) (by omega)).2 ?_)
  refine Vy 2 [(7,V0 (i:Int)),(8,V0 (l.getD i 0))] (by kernel_rfl) ?_
  refine wpList_nil ?_
  refine wp_seq ?_
  refine wp_seq ?_
  refine wp_region_lit ?_
  refine Vy 3 [(21,V0 (l.getD i 0)),(22,.bool (decide ((l.getD i 0)<(0:Int)))),(23,.bool (decide ((l.getD i 0)<(0:Int))))] (by kernel_rfl) ?_
  rcases Bool.eq_false_or_eq_true (decide ((l.getD i 0)<(0:Int))) with d8|d8
  ·refine g_b [22,23] _ _ d8 (by kernel_rfl) ?_
   have d8:=of_decide_eq_true d8
   refine Vy 3 [(24,undef),(25,undef),(26,.bool true)] (by kernel_rfl) ?_
   refine wpList_nil ?_
   refine wp_cond_true (by kernel_rfl) ?_
   refine wp_seq ?_
   refine wp_region_lit ?_
   refine Vy 3 [(2,S0),(3,S0),(4,V0 2)] (by kernel_rfl) ?_
   refine wpList_nil ?_
   refine wp_ret (Kd (Ug (Kd (Kd (Ug (Kd ?_))))))
   exact g_retM (.tuple #[S0,S0,V0 2]) (by kernel_rfl) (by kernel_rfl) (.inl ⟨Rn (i:=i) hl (by omega) (fun q=>by unfold Kw at q;omega),rfl,hB⟩)
  ·refine g_b [22,23] _ _ d8 (by kernel_rfl) ?_
   have d8:=of_decide_eq_false d8
   refine Vy 3 [(24,V0 (l.getD i 0)),(25,.bool (decide ((l.getD i 0)>(2147483647:Int)))),(26,.bool (decide ((l.getD i 0)>(2147483647:Int))))] (by kernel_rfl) ?_
   refine wpList_nil ?_
   refine wp_cond_split (t:=decide ((l.getD i 0)>(2147483647:Int))) (by kernel_rfl) (fun f1=>?_) (fun f1=>?_)
   ·have f1:=of_decide_eq_true f1
    refine wp_seq ?_
    refine wp_region_lit ?_
    refine Vy 3 [(2,S0),(3,S0),(4,V0 2)] (by kernel_rfl) ?_
    refine wpList_nil ?_
    refine wp_ret (Kd (Ug (Kd (Kd (Ug (Kd ?_))))))
    exact g_retM (.tuple #[S0,S0,V0 2]) (by kernel_rfl) (by kernel_rfl) (.inl ⟨Rn (i:=i) hl (by omega) (fun q=>by unfold Kw at q;omega),rfl,hB⟩)
   ·have f1:=of_decide_eq_false f1
    refine wp_skip ?_
    refine wp_seq ?_
    refine wp_region_lit ?_
    refine Vy 3 [(27,.slice ps i cs),(28,V0 (l.getD i 0)),(29,V0 (if(3:Int)<(l.getD i 0) then(3:Int) else(l.getD i 0)))] (by kernel_rfl) ?_
    refine Qa (by kernel_rfl) (Qz 3 [V0 (if(3:Int)<(l.getD i 0) then(3:Int) else(l.getD i 0))] rfl (by kernel_rfl) ?_)
    intro b6 W6 n6
    have g6:=n6.ge hB
    have l1:=Zr hs n6
    replace hB:=bln hB n6.below
    replace hs:=Zb hs n6.below
    replace ho:=Zb ho n6.below
    have k6:=n6.blk
    refine Qa (by kernel_rfl) (Zn (e:=3) (n:=i) (xs:=(Zg (l.take i)).map V0) (m:=1) (news:=[V0 (if(3:Int)<(l.getD i 0) then(3:Int) else(l.getD i 0))]) (V0 0) 1 8 (i+1) ((Zg (l.take (i+1))).map V0) rfl Tryz.underlying33 (by kernel_rfl) rfl (by decide) (by kernel_rfl) hs (by kernel_rfl) (k6.sl 1 1 (by decide) (by decide)) rfl (by simp[Value.oneCell']) (by unfold maxLen;omega) (by omega) hB.size (by rfl) (by rw[mn3_if,Ze6 (by omega),List.map_append];rfl) ?_)
    intro p7 c7 W7 o7 l8 m5
    replace ho:=Zo ho l8 hs (by decide)
    replace hB:=hB.trans m5
    refine Vy 1 [(5,.slice p7 (i+1) c7)] (by kernel_rfl) ?_
    refine wpList_nil ?_
    refine wp_seq ?_
    refine wp_region_lit ?_
    refine Vy 2 [(32,V0 (l.getD i 0)),(33,.bool (decide ((l.getD i 0)≥(3:Int))))] (by kernel_rfl) ?_
    refine wpList_nil ?_
    refine wp_cond_split (t:=decide ((l.getD i 0)≥(3:Int))) (by kernel_rfl) (fun e7=>?_) (fun e7=>?_)
    ·have e7:=of_decide_eq_true e7
     refine wp_region_lit ?_
     refine Vy 3 [(34,.slice po ((Zm l i).length) co),(35,V0 (i:Int)),(36,V0 (l.getD i 0))] (by kernel_rfl) ?_
     refine Qa (by kernel_rfl) (Yl (lb:=#[]) 223 #[V0 (l.getD i 0)] rfl (by kernel_rfl) (fun _ _=>by kernel_rfl) (by kernel_rfl) ((Zax (l.getD i 0) (by omega) (by omega) _).mono ?_))
     rintro e W9 ⟨rfl,c0⟩
     refine⟨_,rfl,?_⟩
     replace hB:=bln hB c0
     replace ho:=Zb ho c0
     replace o7:=Zb o7 c0
     refine Vy 1 [(38,.agg #[V0 (i:Int),.string ⟨(leB (l.getD i 0) 4).toArray⟩,V0 0])] (by kernel_rfl) ?_
     refine Qa (by kernel_rfl) (Qz 123 [V0 (i:Int),.string ⟨(leB (l.getD i 0) 4).toArray⟩,V0 0] rfl (by kernel_rfl) ?_)
     intro l4 n9 e4
     have o6:=e4.ge hB
     have i5:=Zr ho e4
     replace hB:=bln hB e4.below
     replace ho:=Zb ho e4.below
     replace o7:=Zb o7 e4.below
     have m2:=e4.blk
     refine Qa (by kernel_rfl) (Zn (e:=123) (n:=(Zm l i).length) (xs:=(Zm l i).flatMap Yj) (m:=1) (news:=[V0 (i:Int),.string ⟨(leB (l.getD i 0) 4).toArray⟩,V0 0]) (.agg #[V0 0,.string ⟨#[]⟩,V0 0]) 3 32 ((Zm l (i+1)).length) ((Zm l (i+1)).flatMap Yj) rfl Tryz.underlying88 (by kernel_rfl) rfl (by decide) (by kernel_rfl) ho (by kernel_rfl) (m2.sl 1 1 (by decide) (by decide)) rfl (by simp[Value.oneCell']) (by have:=Ju l i;unfold maxLen;omega) (by have:=Ju l i;omega) hB.size (by rw[Kg (by omega)];simp) (by rw[Kg (by omega)];simp[Yj]) ?_)
     intro g7 f7 o5 n0 i4 h4
     replace o7:=Zo o7 i4 ho (by decide)
     replace hB:=hB.trans h4
     refine Vy 1 [(6,.slice g7 ((Zm l (i+1)).length) f7)] (by kernel_rfl) ?_
     refine wpList_nil ?_
     refine wp_region_lit ?_
     refine Qa (by kernel_rfl) (Zgh .i64 ((i:Int)+1) (↑(i+1):Int) (by kernel_rfl) ((show IntKind.i64.wrap ((i:Int)+1)=((i:Int)+1) from by first|exact IntWalk.i64_in _ (by omega)|(simp only[IntKind.wrap];omega)).trans (by omega)) ?_)
     refine Vy 1 [(16,V0 (↑(i+1):Int))] (by kernel_rfl) ?_
     refine wpList_nil ?_
     refine g_nfr ⟨#[.slice a l.length c,undef,(x2 0),(x2 1),(x2 2),.slice p7 (i+1) c7,.slice g7 ((Zm l (i+1)).length) f7,V0 (i:Int),V0 (l.getD i 0),undef,undef,.slice a l.length c,V0 (l.length:Int),.bool (decide ((l.length:Int)>(65536:Int))),.slice a l.length c,V0 (l.length:Int),V0 (↑(i+1):Int),.bool (decide ((i:Int)<(l.length:Int))),V0 (i:Int),.pointer (some (Zz a (i*1))),V0 (l.getD i 0),V0 (l.getD i 0),.bool false,.bool false,V0 (l.getD i 0),.bool (decide ((l.getD i 0)>(2147483647:Int))),.bool (decide ((l.getD i 0)>(2147483647:Int))),.slice ps i cs,V0 (l.getD i 0),V0 (if(3:Int)<(l.getD i 0) then(3:Int) else(l.getD i 0)),.slice (S1 b6) 1 1,.slice p7 (i+1) c7,V0 (l.getD i 0),.bool (decide ((l.getD i 0)≥(3:Int))),.slice po ((Zm l i).length) co,V0 (i:Int),V0 (l.getD i 0),.string ⟨(leB (l.getD i 0) 4).toArray⟩,.agg #[V0 (i:Int),.string ⟨(leB (l.getD i 0) 4).toArray⟩,V0 0],.slice (S1 l4) 1 1,.slice g7 ((Zm l (i+1)).length) f7,V0 (↑(i+1):Int),undef,undef,undef,undef,undef,undef,undef,undef,undef,undef],[]⟩ (by kernel_rfl) ?_
     refine⟨⟨i+1,_,_,_,_,(pk [(x2 0),(x2 1),(x2 2),V0 (i:Int),V0 (l.getD i 0),.bool (decide ((i:Int)<(l.length:Int))),V0 (i:Int),.pointer (some (Zz a (i*1))),V0 (l.getD i 0),V0 (l.getD i 0),.bool false,.bool false,V0 (l.getD i 0),.bool (decide ((l.getD i 0)>(2147483647:Int))),.bool (decide ((l.getD i 0)>(2147483647:Int))),.slice ps i cs,V0 (l.getD i 0),V0 (if(3:Int)<(l.getD i 0) then(3:Int) else(l.getD i 0)),.slice (S1 b6) 1 1,.slice p7 (i+1) c7,V0 (l.getD i 0),.bool (decide ((l.getD i 0)≥(3:Int))),.slice po ((Zm l i).length) co,V0 (i:Int),V0 (l.getD i 0),.string ⟨(leB (l.getD i 0) 4).toArray⟩,.agg #[V0 (i:Int),.string ⟨(leB (l.getD i 0) 4).toArray⟩,V0 0],.slice (S1 l4) 1 1,.slice g7 ((Zm l (i+1)).length) f7,V0 (↑(i+1):Int)]),rfl,hB,o7,n0,by omega,fun j hj=>(Nat.lt_or_ge j i).elim (hz j) (fun q=>by obtain rfl:j=i:=(by omega);exact⟨by omega,by omega⟩)⟩,?_⟩
     show l.length-((↑(i+1):Int)).toNat<l.length-((i:Int)).toNat
     omega
    ·have e7:=of_decide_eq_false e7
     refine wp_skip ?_
     refine wp_region_lit ?_
     refine Qa (by kernel_rfl) (Zgh .i64 ((i:Int)+1) (↑(i+1):Int) (by kernel_rfl) ((show IntKind.i64.wrap ((i:Int)+1)=((i:Int)+1) from by first|exact IntWalk.i64_in _ (by omega)|(simp only[IntKind.wrap];omega)).trans (by omega)) ?_)
     refine Vy 1 [(16,V0 (↑(i+1):Int))] (by kernel_rfl) ?_
     refine wpList_nil ?_
     refine g_nfr ⟨#[.slice a l.length c,undef,(x2 0),(x2 1),(x2 2),.slice p7 (i+1) c7,.slice po ((Zm l i).length) co,V0 (i:Int),V0 (l.getD i 0),undef,undef,.slice a l.length c,V0 (l.length:Int),.bool (decide ((l.length:Int)>(65536:Int))),.slice a l.length c,V0 (l.length:Int),V0 (↑(i+1):Int),.bool (decide ((i:Int)<(l.length:Int))),V0 (i:Int),.pointer (some (Zz a (i*1))),V0 (l.getD i 0),V0 (l.getD i 0),.bool false,.bool false,V0 (l.getD i 0),.bool (decide ((l.getD i 0)>(2147483647:Int))),.bool (decide ((l.getD i 0)>(2147483647:Int))),.slice ps i cs,V0 (l.getD i 0),V0 (if(3:Int)<(l.getD i 0) then(3:Int) else(l.getD i 0)),.slice (S1 b6) 1 1,.slice p7 (i+1) c7,V0 (l.getD i 0),.bool (decide ((l.getD i 0)≥(3:Int))),(x2 22),(x2 23),(x2 24),(x2 25),(x2 26),(x2 27),(x2 28),V0 (↑(i+1):Int),undef,undef,undef,undef,undef,undef,undef,undef,undef,undef],[]⟩ (by kernel_rfl) ?_
     refine g_nfr ⟨#[.slice a l.length c,undef,(x2 0),(x2 1),(x2 2),.slice p7 (i+1) c7,.slice po ((Zm l (i+1)).length) co,V0 (i:Int),V0 (l.getD i 0),undef,undef,.slice a l.length c,V0 (l.length:Int),.bool (decide ((l.length:Int)>(65536:Int))),.slice a l.length c,V0 (l.length:Int),V0 (↑(i+1):Int),.bool (decide ((i:Int)<(l.length:Int))),V0 (i:Int),.pointer (some (Zz a (i*1))),V0 (l.getD i 0),V0 (l.getD i 0),.bool false,.bool false,V0 (l.getD i 0),.bool (decide ((l.getD i 0)>(2147483647:Int))),.bool (decide ((l.getD i 0)>(2147483647:Int))),.slice ps i cs,V0 (l.getD i 0),V0 (if(3:Int)<(l.getD i 0) then(3:Int) else(l.getD i 0)),.slice (S1 b6) 1 1,.slice p7 (i+1) c7,V0 (l.getD i 0),.bool (decide ((l.getD i 0)≥(3:Int))),(x2 22),(x2 23),(x2 24),(x2 25),(x2 26),(x2 27),(x2 28),V0 (↑(i+1):Int),undef,undef,undef,undef,undef,undef,undef,undef,undef,undef],[]⟩ (by rw[Kr (by omega)]) ?_
     refine⟨⟨i+1,_,_,_,_,(pk [(x2 0),(x2 1),(x2 2),V0 (i:Int),V0 (l.getD i 0),.bool (decide ((i:Int)<(l.length:Int))),V0 (i:Int),.pointer (some (Zz a (i*1))),V0 (l.getD i 0),V0 (l.getD i 0),.bool false,.bool false,V0 (l.getD i 0),.bool (decide ((l.getD i 0)>(2147483647:Int))),.bool (decide ((l.getD i 0)>(2147483647:Int))),.slice ps i cs,V0 (l.getD i 0),V0 (if(3:Int)<(l.getD i 0) then(3:Int) else(l.getD i 0)),.slice (S1 b6) 1 1,.slice p7 (i+1) c7,V0 (l.getD i 0),.bool (decide ((l.getD i 0)≥(3:Int))),(x2 22),(x2 23),(x2 24),(x2 25),(x2 26),(x2 27),(x2 28),V0 (↑(i+1):Int)]),rfl,hB,o7,(by rw[Kr (by omega)];exact ho),by omega,fun j hj=>(Nat.lt_or_ge j i).elim (hz j) (fun q=>by obtain rfl:j=i:=(by omega);exact⟨by omega,by omega⟩)⟩,?_⟩
     show l.length-((↑(i+1):Int)).toNat<l.length-((i:Int)).toNat
     omega
 ·have f5:=of_decide_eq_false f5
  refine wp_exit ?_
  refine Oa ?_
  refine Oa ?_
  refine Zai ?_
  refine wp_seq ?_
  refine wp_region_lit ?_
  refine Qa (by kernel_rfl) (Vq [S0] rfl (by kernel_rfl) ?_)
  intro b7 n4 f2
  have j0:=f2.ge hB
  replace hB:=bln hB f2.below
  replace hs:=Zb hs f2.below
  replace ho:=Zb ho f2.below
  have c1:=f2.blk
  refine wpList_nil ?_
  refine wp_seq ?_
  refine wp_seq ?_
  refine wp_region_lit ?_
  refine Vy 1 [(42,.slice ps i cs)] (by kernel_rfl) ?_
  refine Qa (by kernel_rfl) (Yl (lb:=#[]) 224 #[.slice ps i cs,V0 960] rfl (by kernel_rfl) (fun _ _=>by kernel_rfl) (by kernel_rfl) ((Av ps i cs _).mono ?_))
  rintro e c9 ⟨b1,b2,rfl,c3,o0,n3,m8,d5,d7⟩
  refine⟨_,rfl,?_⟩
  replace hB:=bln hB c3
  replace c1:=c1.below c3
  replace hs:=Zb hs c3
  replace ho:=Zb ho c3
  refine wpList_nil ?_
  refine wp_block ?_
  have j2:i=l.length:=by omega
  obtain⟨g,hv⟩:=row_or hs
  have l9:=Zbd b1 b2 (fun b=>b<c9.heap.size∧b≠b7) g 0 i cs (.slice ps i cs) c9 (fun b h=>h.1) ⟨d5.lt,(by rintro rfl;exact absurd (d5.ty c1) (by decide))⟩ ⟨d7.lt,(by rintro rfl;exact absurd (d7.ty c1) (by decide))⟩ (by omega) hv (d5.cell (i:=0) rfl) (d7.cell (i:=0) rfl)
  refine g_fr ⟨#[.slice a l.length c,undef,(x2 0),(x2 1),(x2 2),.slice ps i cs,.slice po ((Zm l i).length) co,(x2 3),(x2 4),P0 b7,undef,.slice a l.length c,V0 (l.length:Int),.bool (decide ((l.length:Int)>(65536:Int))),.slice a l.length c,V0 (l.length:Int),V0 (i:Int),.bool (decide ((i:Int)<(l.length:Int))),(x2 6),(x2 7),(x2 8),(x2 9),(x2 10),(x2 11),(x2 12),(x2 13),(x2 14),(x2 15),(x2 16),(x2 17),(x2 18),(x2 19),(x2 20),(x2 21),(x2 22),(x2 23),(x2 24),(x2 25),(x2 26),(x2 27),(x2 28),(x2 29),.slice ps i cs,.func (.func 268) #[] #[P0 b1,P0 b2],undef,undef,undef,undef,undef,undef,undef,undef],[]⟩ (by kernel_rfl) ?_
  refine wp_range (g:=.tmp 43) (gf:=268) (lb:=#[P0 b1,P0 b2]) rfl (enters_of Tryz.func268 (by kernel_rfl) rfl) _ (fun b h=>h.1) l9 (fun _=>rfl)
   (fun a0 W=>(∃ pb cb gs,gs.length=a0.length∧Blk W b7 [.slice pb (Hz (Zg (l.take i)) a0).length cb] 247∧Lists W c9.heap.size (.slice pb (Hz (Zg (l.take i)) a0).length cb) gs (Hz (Zg (l.take i)) a0))∧BelowBut c9 b7 W)
   (fun _ _ _=>False) ?own (fun _ _ _ _ _ h _ _=>h) ⟨⟨none,0,[],rfl,c1,⟨World.ownsRow_nil _ _ _ _,fun i hi=>absurd hi (Nat.not_lt_zero _)⟩⟩,(Below.refl _ _).but _⟩
   (fun x a' _=>a'={ tmps:=#[.slice a l.length c,undef,(x2 0),(x2 1),(x2 2),.slice ps i cs,.slice po ((Zm l i).length) co,(x2 3),(x2 4),P0 b7,.slice (some ⟨g,0+x.val*960,none⟩) (min 960 (i-x.val*960)) (min 960 (i-x.val*960)),.slice a l.length c,V0 (l.length:Int),.bool (decide ((l.length:Int)>(65536:Int))),.slice a l.length c,V0 (l.length:Int),V0 (i:Int),.bool (decide ((i:Int)<(l.length:Int))),(x2 6),(x2 7),(x2 8),(x2 9),(x2 10),(x2 11),(x2 12),(x2 13),(x2 14),(x2 15),(x2 16),(x2 17),(x2 18),(x2 19),(x2 20),(x2 21),(x2 22),(x2 23),(x2 24),(x2 25),(x2 26),(x2 27),(x2 28),(x2 29),.slice ps i cs,.func (.func 268) #[] #[P0 b1,P0 b2],.slice (some ⟨g,0+x.val*960,none⟩) (min 960 (i-x.val*960)) (min 960 (i-x.val*960)),undef,undef,undef,undef,undef,undef,undef],defers:=[] }) (fun _ _ _ _ _ _ h _ _=>h) ?assign ?body ?done (fun _ _ _ _ _ _ h _=>h.elim)
  case own=>exact OwnFrom.and (Own.from (fun s A B o3 hs hg hr=>by obtain⟨pb,cb,gs,h0,h1,h2⟩:=hs;exact⟨pb,cb,gs,h0,h1.turn hg hr,h2.turn hg hr⟩) _) (Zan (Nat.le_refl _))
  case assign =>
   rintro lr a0 x W K hI hK
   unfold encK
   gi_wp2
   refine hK _ _ (KeepsFrom.refl _ _) (Keeps.refl _ _) hI ?_
   simp only[j2,Nat.zero_add,decide_eq_false (show ¬ ((l.length:Int)>65536) by omega),Int.lt_irrefl,decide_false]
  case body =>
   rintro lr a0 x a' W o1 ⟨⟨pb,cb,gs,d3,m9,hL⟩,e5⟩ rfl n5
   have hx:=bmN_lt x.isLt
   have m7:=hv.resolve_left (fun q=>by omega)
   have a2:=e5.own2 hs c1 (by decide)
   rw[m7.1] at a2
   obtain⟨m,hm⟩:∃ m,min 960 (i-x.val*960)=m:=⟨_,rfl⟩
   rw[hm]
   have e8:0<m:=by omega
   have l6:x.val*960+m≤i:=by omega
   have f8:(Zg (l.take i)).length=i:=by simp[Zg];omega
   have d1:(Vi (Zg (l.take i)) x.val).length=m:=by rw[Gd,f8];exact hm
   have j7:(((Zg (l.take i)).map V0).drop (x.val*960)).take m=(Vi (Zg (l.take i)) x.val).map V0:=by rw[←List.map_drop,←List.map_take];unfold Vi;rw[show((Zg (l.take i)).drop (x.val*960)).take m=((Zg (l.take i)).drop (x.val*960)).take 960 from by rw[List.take_eq_take_iff,List.length_drop,f8];omega]
   have i3:(Hz (Zg (l.take i)) a0).length=a0.length:=by simp[Hz]
   have n7:a0.length≤69:=by have:bmN i≤69:=(by unfold bmN;omega);omega
   have a1:=hL.row
   have hE:Each W c9.heap.size gs (Hz (Zg (l.take i)) a0):=hL.each
   have hZ:RdZ c9 b7 W W:=RdZ.refl e5
   have a6:c9.heap.size≤W.heap.size:=e5.size
   have a3:w.heap.size≤c9.heap.size:=hB.size
   have c0:=j0
   refine wpIn_block ?_
   have hB:=blB (Below.refl w.heap.size W) (Nat.le_trans a3 a6) (Za W)
   replace m9:=m9.below (Za W)
   replace a2:=Zb a2 (Za W)
   replace a1:=Zb a1 (Za W)
   replace hE:=hE.below (Za W)
   replace hZ:=hZ.below (Za W)
   refine h_regIn (fun V=>Below w.heap.size (W.drew) V∧Zd [247,33] (W.drew) V) 6 rfl #[false,false,false,false,false,false] rfl (by kernel_rfl) (fun⟨_,_,q⟩=>q) (by simp) ⟨Below.refl _ _,Zd.refl _ _⟩ ?_
   intro c4
   have a4:=hB
   have e6:=m9
   have h9:=a1
   refine h_pv [1] 5 rfl #[false,true,false,false,false,false] [(46,.slice (some ⟨g,0+x.val*960,none⟩) m m)] (by kernel_rfl) (fun _ _ _ _ _ h=>h) (by kernel_rfl) c4 ?_
   refine h_two 0 2 4 rfl (by kernel_rfl) rfl rfl (by kernel_rfl) (by kernel_rfl) ?_ ?_
   ·refine Kz ⟨b7,0,none⟩ (.slice pb ((Hz (Zg (l.take i)) a0).length) cb) rfl (by kernel_rfl) (by kernel_rfl) (m9.cell (i:=0) rfl) ?_
    have e0:Below w.heap.size (W.drew) (W.drew)∧Zd [247,33] (W.drew) (W.drew):=c4
    refine⟨e0,?_⟩
    have h5:W.heap.size≤(W.drew).heap.size:=hB.size
    refine Fs 2 3 rfl (by kernel_rfl) rfl (by kernel_rfl) (Yl (lb:=#[]) 160 #[.slice (some ⟨g,0+x.val*960,none⟩) m m] rfl (by kernel_rfl) (fun _ _=>by kernel_rfl) (by kernel_rfl) ((Mq ⟨g,0+x.val*960,none⟩ m m ((Vi (Zg (l.take i)) x.val).map V0) _ (j7▸Sl.midI (Zf a2) (by rw[List.length_map];exact f8) (x.val*960) m e8 l6) (by rw[List.length_map];exact d1) (fun u hu=>by obtain⟨y,_,rfl⟩:=List.mem_map.1 hu;rfl) (by omega)).mono ?_))
    rintro e j3 ⟨_,rfl,a7,q,c2,rfl,hq⟩
    refine⟨_,rfl,?_⟩
    replace hB:=blB hB (Nat.le_trans a3 a6) a7
    replace m9:=m9.below a7
    replace a2:=Zb a2 a7
    replace a1:=Zb a1 a7
    replace hE:=hE.below a7
    replace hZ:=hZ.below a7
    replace hq:=Ze hq h5
    have c5:Below w.heap.size (W.drew) (j3)∧Zd [247,33] (W.drew) (j3):=⟨blB e0.1 (Nat.le_trans (Nat.le_trans a3 a6) a4.size) a7,e0.2.trans (Zd.of_below a7)⟩
    refine⟨c5,?_⟩
    refine Fs 3 2 rfl (by kernel_rfl) rfl (by kernel_rfl) (Qz 33 [.slice q m c2] rfl (by kernel_rfl) ?_)
    intro m3 j5 b0
    have f6:=b0.ne m9
    have n8:=b0.ge0 hB
    have g8:=Zr a1 b0
    have h6:(W.drew).heap.size≤m3:=by have:=c5.1.size;have:=b0.at_;omega
    replace hB:=blB hB (Nat.le_trans a3 a6) b0.below
    replace m9:=m9.below b0.below
    replace a2:=Zb a2 b0.below
    replace a1:=Zb a1 b0.below
    replace hE:=hE.below b0.below
    replace hZ:=hZ.below b0.below
    replace hq:=Zb hq b0.below
    have m1:=b0.blk
    have d9:Below w.heap.size (W.drew) (j5)∧Zd [247,33] (W.drew) (j5):=⟨blB c5.1 (Nat.le_trans (Nat.le_trans a3 a6) a4.size) b0.below,c5.2.trans (Zd.of_below b0.below)⟩
    refine⟨d9,?_⟩
    refine Fs 4 1 rfl (by kernel_rfl) rfl (by kernel_rfl) (Zn (e:=33) (n:=(Hz (Zg (l.take i)) a0).length) (xs:=(List.range (Hz (Zg (l.take i)) a0).length).map (Bu gs (Hz (Zg (l.take i)) a0))) (m:=1) (news:=[.slice q m c2]) (S0) 1 24 ((Hz (Zg (l.take i)) a0).length+1) ((List.range (Hz (Zg (l.take i)) a0).length).map (Bu gs (Hz (Zg (l.take i)) a0))++[.slice q m c2]) rfl Tryz.underlying247 (by kernel_rfl) rfl (by decide) (by kernel_rfl) a1 (by kernel_rfl) (m1.sl 1 1 (by decide) (by decide)) rfl (by simp[Value.oneCell']) (by unfold maxLen;omega) (by omega) (Nat.le_trans a6 hZ.le) (by simp) (by simp) ?_)
    intro l0 k1 j9 h7 b5 f3
    replace m9:=m9.grown b5 a1 (by decide)
    replace a2:=Zo a2 b5 a1 (by decide)
    replace hE:=hE.only (Zd.of_grown (T:=[33]) b5 a1 (by decide)) (by decide)
    replace hZ:=hZ.grown b5 a1
    replace hq:=Zo hq b5 a1 (by decide)
    replace hB:=hB.trans (f3.mono a3)
    have e3:Below w.heap.size (W.drew) (j9)∧Zd [247,33] (W.drew) (j9):=⟨d9.1.trans (f3.mono a3),d9.2.trans (Zd.of_grown b5 a1 (by decide))⟩
    refine⟨e3,?_⟩
    refine Fs 5 0 rfl (by kernel_rfl) rfl (by kernel_rfl) (Yh (v:=.slice l0 ((Hz (Zg (l.take i)) a0).length+1) k1) (b:=b7) (off:=0) rfl (by kernel_rfl) (by kernel_rfl) (by kernel_rfl) rfl m9 (by first|decide|simp) ?_)
    intro k8 d0 k3
    change Blk _ _ [.slice l0 ((Hz (Zg (l.take i)) a0).length+1) k1] _ at k3
    replace hB:=d0.below hB c0
    replace a2:=d0.own2 a2 m9 (by decide)
    replace hE:=hE.only (Zd.of_upd (T:=[247]) d0 m9 (by decide)) (by decide)
    replace hZ:=hZ.upd d0 m9
    replace hq:=d0.own2 hq m9 (by decide)
    replace h7:=d0.own2 h7 m9 (by decide)
    have i6:Below w.heap.size (W.drew) (k8)∧Zd [247,33] (W.drew) (k8):=⟨d0.below e3.1 c0,e3.2.trans (Zd.of_upd d0 m9 (by decide))⟩
    refine⟨i6,?_⟩
    refine Zgv _ (by kernel_rfl) ?_
    obtain⟨g2,rfl,k2⟩:=Qf hq e8
    rw[←d1] at hq
    have a5:=h7
    rw[←d1] at a5
    have hS:=Lists.snoc (n:=(Hz (Zg (l.take i)) a0).length+1) rfl a5 hE (Ze hq a6) (by rw[d3,i3])
    exact⟨hZ.ko.from _,⟨hZ.le,fun b hb=>hZ.fr b hb.1 hb.2⟩,⟨_,_,gs++[(g2,_)],by simp[d3],by rw[Gv,List.length_append];exact k3,by rw[Gv,List.length_append];exact hS⟩,hZ.bb⟩
   ·have i7:W.heap.size≤(W.drew).heap.size:=hB.size
    refine Yl (lb:=#[]) 160 #[.slice (some ⟨g,0+x.val*960,none⟩) m m] rfl (by kernel_rfl) (fun _ _=>by kernel_rfl) (by kernel_rfl) ((Mq ⟨g,0+x.val*960,none⟩ m m ((Vi (Zg (l.take i)) x.val).map V0) _ (j7▸Sl.midI (Zf a2) (by rw[List.length_map];exact f8) (x.val*960) m e8 l6) (by rw[List.length_map];exact d1) (fun u hu=>by obtain⟨y,_,rfl⟩:=List.mem_map.1 hu;rfl) (by omega)).mono ?_)
    rintro e g1 ⟨_,rfl,a8,q,c2,rfl,hq⟩
    refine⟨_,rfl,?_⟩
    replace hB:=blB hB (Nat.le_trans a3 a6) a8
    replace m9:=m9.below a8
    replace a2:=Zb a2 a8
    replace a1:=Zb a1 a8
    replace hE:=hE.below a8
    replace hZ:=hZ.below a8
    replace hq:=Ze hq i7
    have b9:Below w.heap.size (W.drew) (g1)∧Zd [247,33] (W.drew) (g1):=⟨blB c4.1 (Nat.le_trans (Nat.le_trans a3 a6) a4.size) a8,c4.2.trans (Zd.of_below a8)⟩
    refine⟨b9,?_⟩
    refine h_two 0 3 3 rfl (by kernel_rfl) rfl rfl (by kernel_rfl) (by kernel_rfl) ?_ ?_
    ·refine Kz ⟨b7,0,none⟩ (.slice pb ((Hz (Zg (l.take i)) a0).length) cb) rfl (by kernel_rfl) (by kernel_rfl) (m9.cell (i:=0) rfl) ?_
     have c6:Below w.heap.size (W.drew) (g1)∧Zd [247,33] (W.drew) (g1):=b9
     refine⟨c6,?_⟩
     refine Fs 3 2 rfl (by kernel_rfl) rfl (by kernel_rfl) (Qz 33 [.slice q m c2] rfl (by kernel_rfl) ?_)
     intro n1 l2 b3
     have g0:=b3.ne m9
     have o2:=b3.ge0 hB
     have g5:=Zr a1 b3
     have h3:(W.drew).heap.size≤n1:=by have:=c6.1.size;have:=b3.at_;omega
     replace hB:=blB hB (Nat.le_trans a3 a6) b3.below
     replace m9:=m9.below b3.below
     replace a2:=Zb a2 b3.below
     replace a1:=Zb a1 b3.below
     replace hE:=hE.below b3.below
     replace hZ:=hZ.below b3.below
     replace hq:=Zb hq b3.below
     have m4:=b3.blk
     have d4:Below w.heap.size (W.drew) (l2)∧Zd [247,33] (W.drew) (l2):=⟨blB c6.1 (Nat.le_trans (Nat.le_trans a3 a6) a4.size) b3.below,c6.2.trans (Zd.of_below b3.below)⟩
     refine⟨d4,?_⟩
     refine Fs 4 1 rfl (by kernel_rfl) rfl (by kernel_rfl) (Zn (e:=33) (n:=(Hz (Zg (l.take i)) a0).length) (xs:=(List.range (Hz (Zg (l.take i)) a0).length).map (Bu gs (Hz (Zg (l.take i)) a0))) (m:=1) (news:=[.slice q m c2]) (S0) 1 24 ((Hz (Zg (l.take i)) a0).length+1) ((List.range (Hz (Zg (l.take i)) a0).length).map (Bu gs (Hz (Zg (l.take i)) a0))++[.slice q m c2]) rfl Tryz.underlying247 (by kernel_rfl) rfl (by decide) (by kernel_rfl) a1 (by kernel_rfl) (m4.sl 1 1 (by decide) (by decide)) rfl (by simp[Value.oneCell']) (by unfold maxLen;omega) (by omega) (Nat.le_trans a6 hZ.le) (by simp) (by simp) ?_)
     intro j8 k7 j1 i2 b4 f4
     replace m9:=m9.grown b4 a1 (by decide)
     replace a2:=Zo a2 b4 a1 (by decide)
     replace hE:=hE.only (Zd.of_grown (T:=[33]) b4 a1 (by decide)) (by decide)
     replace hZ:=hZ.grown b4 a1
     replace hq:=Zo hq b4 a1 (by decide)
     replace hB:=hB.trans (f4.mono a3)
     have e2:Below w.heap.size (W.drew) (j1)∧Zd [247,33] (W.drew) (j1):=⟨d4.1.trans (f4.mono a3),d4.2.trans (Zd.of_grown b4 a1 (by decide))⟩
     refine⟨e2,?_⟩
     refine Fs 5 0 rfl (by kernel_rfl) rfl (by kernel_rfl) (Yh (v:=.slice j8 ((Hz (Zg (l.take i)) a0).length+1) k7) (b:=b7) (off:=0) rfl (by kernel_rfl) (by kernel_rfl) (by kernel_rfl) rfl m9 (by first|decide|simp) ?_)
     intro l7 c8 k4
     change Blk _ _ [.slice j8 ((Hz (Zg (l.take i)) a0).length+1) k7] _ at k4
     replace hB:=c8.below hB c0
     replace a2:=c8.own2 a2 m9 (by decide)
     replace hE:=hE.only (Zd.of_upd (T:=[247]) c8 m9 (by decide)) (by decide)
     replace hZ:=hZ.upd c8 m9
     replace hq:=c8.own2 hq m9 (by decide)
     replace i2:=c8.own2 i2 m9 (by decide)
     have i1:Below w.heap.size (W.drew) (l7)∧Zd [247,33] (W.drew) (l7):=⟨c8.below e2.1 c0,e2.2.trans (Zd.of_upd c8 m9 (by decide))⟩
     refine⟨i1,?_⟩
     refine Zgv _ (by kernel_rfl) ?_
     obtain⟨g2,rfl,k2⟩:=Qf hq e8
     rw[←d1] at hq
     have a5:=i2
     rw[←d1] at a5
     have hS:=Lists.snoc (n:=(Hz (Zg (l.take i)) a0).length+1) rfl a5 hE (Ze hq a6) (by rw[d3,i3])
     exact⟨hZ.ko.from _,⟨hZ.le,fun b hb=>hZ.fr b hb.1 hb.2⟩,⟨_,_,gs++[(g2,_)],by simp[d3],by rw[Gv,List.length_append];exact k4,by rw[Gv,List.length_append];exact hS⟩,hZ.bb⟩
    ·refine Qz 33 [.slice q m c2] rfl (by kernel_rfl) ?_
     intro n2 f9 a9
     have g9:=a9.ne m9
     have o4:=a9.ge0 hB
     have g3:=Zr a1 a9
     have h8:(W.drew).heap.size≤n2:=by have:=b9.1.size;have:=a9.at_;omega
     replace hB:=blB hB (Nat.le_trans a3 a6) a9.below
     replace m9:=m9.below a9.below
     replace a2:=Zb a2 a9.below
     replace a1:=Zb a1 a9.below
     replace hE:=hE.below a9.below
     replace hZ:=hZ.below a9.below
     replace hq:=Zb hq a9.below
     have m0:=a9.blk
     have e9:Below w.heap.size (W.drew) (f9)∧Zd [247,33] (W.drew) (f9):=⟨blB b9.1 (Nat.le_trans (Nat.le_trans a3 a6) a4.size) a9.below,b9.2.trans (Zd.of_below a9.below)⟩
     refine⟨e9,?_⟩
     refine Fs 0 2 rfl (by kernel_rfl) rfl (by kernel_rfl) (Kz ⟨b7,0,none⟩ (.slice pb ((Hz (Zg (l.take i)) a0).length) cb) rfl (by kernel_rfl) (by kernel_rfl) (m9.cell (i:=0) rfl) ?_)
     have d6:Below w.heap.size (W.drew) (f9)∧Zd [247,33] (W.drew) (f9):=e9
     refine⟨d6,?_⟩
     refine Fs 4 1 rfl (by kernel_rfl) rfl (by kernel_rfl) (Zn (e:=33) (n:=(Hz (Zg (l.take i)) a0).length) (xs:=(List.range (Hz (Zg (l.take i)) a0).length).map (Bu gs (Hz (Zg (l.take i)) a0))) (m:=1) (news:=[.slice q m c2]) (S0) 1 24 ((Hz (Zg (l.take i)) a0).length+1) ((List.range (Hz (Zg (l.take i)) a0).length).map (Bu gs (Hz (Zg (l.take i)) a0))++[.slice q m c2]) rfl Tryz.underlying247 (by kernel_rfl) rfl (by decide) (by kernel_rfl) a1 (by kernel_rfl) (m0.sl 1 1 (by decide) (by decide)) rfl (by simp[Value.oneCell']) (by unfold maxLen;omega) (by omega) (Nat.le_trans a6 hZ.le) (by simp) (by simp) ?_)
     intro j4 k9 k5 i9 b8 f0
     replace m9:=m9.grown b8 a1 (by decide)
     replace a2:=Zo a2 b8 a1 (by decide)
     replace hE:=hE.only (Zd.of_grown (T:=[33]) b8 a1 (by decide)) (by decide)
     replace hZ:=hZ.grown b8 a1
     replace hq:=Zo hq b8 a1 (by decide)
     replace hB:=hB.trans (f0.mono a3)
     have e1:Below w.heap.size (W.drew) (k5)∧Zd [247,33] (W.drew) (k5):=⟨d6.1.trans (f0.mono a3),d6.2.trans (Zd.of_grown b8 a1 (by decide))⟩
     refine⟨e1,?_⟩
     refine Fs 5 0 rfl (by kernel_rfl) rfl (by kernel_rfl) (Yh (v:=.slice j4 ((Hz (Zg (l.take i)) a0).length+1) k9) (b:=b7) (off:=0) rfl (by kernel_rfl) (by kernel_rfl) (by kernel_rfl) rfl m9 (by first|decide|simp) ?_)
     intro j6 d2 k0
     change Blk _ _ [.slice j4 ((Hz (Zg (l.take i)) a0).length+1) k9] _ at k0
     replace hB:=d2.below hB c0
     replace a2:=d2.own2 a2 m9 (by decide)
     replace hE:=hE.only (Zd.of_upd (T:=[247]) d2 m9 (by decide)) (by decide)
     replace hZ:=hZ.upd d2 m9
     replace hq:=d2.own2 hq m9 (by decide)
     replace i9:=d2.own2 i9 m9 (by decide)
     have i8:Below w.heap.size (W.drew) (j6)∧Zd [247,33] (W.drew) (j6):=⟨d2.below e1.1 c0,e1.2.trans (Zd.of_upd d2 m9 (by decide))⟩
     refine⟨i8,?_⟩
     refine Zgv _ (by kernel_rfl) ?_
     obtain⟨g2,rfl,k2⟩:=Qf hq e8
     rw[←d1] at hq
     have a5:=i9
     rw[←d1] at a5
     have hS:=Lists.snoc (n:=(Hz (Zg (l.take i)) a0).length+1) rfl a5 hE (Ze hq a6) (by rw[d3,i3])
     exact⟨hZ.ko.from _,⟨hZ.le,fun b hb=>hZ.fr b hb.1 hb.2⟩,⟨_,_,gs++[(g2,_)],by simp[d3],by rw[Gv,List.length_append];exact k0,by rw[Gv,List.length_append];exact hS⟩,hZ.bb⟩
  case done =>
   rintro D xs W hD rfl ⟨⟨pb,cb,gs,d3,m9,hL⟩,e5⟩ l5
   rw[preC_all] at m9 hL
   have hK:Dfr D W:=l5;clear l5
   subst j2
   rw[List.take_length] at m9 hL
   rw[Xk] at m9 hL
   refine g_nopan ?_
   have m6:=hB
   replace hB:=e5.below hB j0 hB.size
   have l3:=e5.own2 ho c1 (by decide)
   have a3:=m6.size
   replace c1:=m9
   refine wp_seq ?_
   refine wp_region_lit ?_
   refine Qa (by kernel_rfl) (Kz ⟨b7,0,none⟩ (.slice pb (bmN l.length) cb) rfl (by kernel_rfl) (by kernel_rfl) (c1.cell (i:=0) rfl) ?_)
   refine Vy 4 [(51,.slice po ((Zm l l.length).length) co),(2,.slice pb (bmN l.length) cb),(3,.slice po ((Zm l l.length).length) co),(4,V0 0)] (by kernel_rfl) ?_
   refine wpList_nil ?_
   refine wp_ret ?_
   exact g_endM hK (.tuple #[.slice pb (bmN l.length) cb,.slice po ((Zm l l.length).length) co,V0 0]) (by kernel_rfl) (by kernel_rfl) (.inr ⟨Za5 hl (fun k hk=>hz k (by omega)),_,_,gs,_,_,rfl,(Upd.of_put _ _ _).below hB (Nat.le_trans a3 hD),(hL.mono a3).put (Upd.of_put _ _ _) hK,(Upd.of_put _ _ _).own3 l3 (hK.row l3)⟩)
end Go.Proofs.YtegcamkgeacjfaaGreatDoor
namespace Go.Proofs.YtegcamkgeacjfaaGreatDoor
set_option maxHeartbeats 8000000
set_option maxRecDepth 100000
open Go.RowKit Go.Extern.Stop Go.Stop Go.Extern
set_option linter.unusedVariables false
attribute [local irreducible] wpList wpAnyH Code.wp Oper.wp Go
def ClosP(B Bx bl:Nat)(L:List (List Int))(q i:Nat)(w:World)(e:Ending)(w':World):Prop :=
 ∃ u p c,e=.returned u∧Below B w w'∧Zd [88,123] w w'∧Blk w' bl [.slice p (i+1) c] 88∧w'.ownsRow Bx 123 3 (.slice p (i+1) c) (i+1) ((Xv L q (i+1)).flatMap Yj)∧FrB Bx [bl] w w'
theorem Ky(L:List (List Int))(q i:Nat):(Xv L q i).flatMap Yj++[V0 (i:Int),.string ⟨(leB ((q+i:Nat):Int) 8++leB (Yb (L.getD i []):Int) 4++leB (Xd (L.getD i []):Int) 4).toArray⟩,V0 0]=(Xv L q (i+1)).flatMap Yj:=by
 rw[Er];simp[Yj,Zfe,slotB]
structure FrZ(Bx:Nat)(S:List Nat)(a w:World):Prop where
 fr:FrB Bx S a w
 le:Bx≤a.heap.size
theorem FrZ.refl{Bx:Nat}{S:List Nat}{w:World}(h:Bx≤w.heap.size):FrZ Bx S w w:=⟨⟨Nat.le_refl _,fun _ _ _=>rfl⟩,h⟩
theorem FrZ.below{Bx:Nat}{S:List Nat}{a w W:World}(h:FrZ Bx S a w)(hb:B3 w W):FrZ Bx S a W:=⟨⟨Nat.le_trans h.fr.1 hb.size,fun k hk hn=>(hb.block k (by have:=h.fr.1;have:=h.le;omega)).trans (h.fr.2 k hk hn)⟩,h.le⟩
theorem FrZ.upd{Bx b:Nat}{S:List Nat}{a w W:World}(h:FrZ Bx S a w)(u:Upd w b W)(hb:b∈S):FrZ Bx S a W:=⟨⟨Nat.le_trans h.fr.1 (Nat.le_of_eq u.size.symm),fun k hk hn=>(u.block k fun e=>hn (e▸hb)).trans (h.fr.2 k hk hn)⟩,h.le⟩
theorem FrZ.grown{Bx:Nat}{S:List Nat}{a w W:World}{size n:Nat}{e:TypeId}{v:Value}{xs:List Value}(h:FrZ Bx S a w)(hg:w.grownBy W v.ownBlock)(hown:w.ownsRow Bx e size v n xs):FrZ Bx S a W:=⟨⟨Nat.le_trans h.fr.1 hg.size,fun k hk hn=>(hg.block k (by have:=h.fr.1;have:=h.le;omega) (fun e=>by have:=(hown.lt k e.symm).1;omega)).trans (h.fr.2 k hk hn)⟩,h.le⟩
theorem Zep(B Bx bl:Nat)(p:O0)(c:Nat)(L:List (List Int))(q i:Nat)(w:World)(hBm:B≤Bx)(hBx:Bx≤w.heap.size)(hBw:B≤w.heap.size)(hBl:B≤bl)(kl:Blk w bl [.slice p i c] 88)(hup:w.ownsRow Bx 123 3 (.slice p i c) i ((Xv L q i).flatMap Yj))(hq:1≤q+i)(hq2:q+i≤14399)(hi:i≤100000)(hf:Yb (L.getD i [])≤960)(hg:Xd (L.getD i [])≤960) :
 C0 152 #[.agg #[V0 (↑(q+i):Int),V0 (↑(Yb (L.getD i [])):Int),V0 (↑(Xd (L.getD i [])):Int)],P0 bl] w (ClosP B Bx bl L q i w):=by
 have hZ:FrZ Bx [bl] w w:=FrZ.refl hBx
 refine zin 11 Tryz.func152 ?_
 refine xa 2 [V0 (↑(q+i):Int),V0 (↑(Yb (L.getD i [])):Int),V0 (↑(Xd (L.getD i [])):Int)] 252 fun b1 W1 n1=>?_
 refine xd 2 (.t B [88,123]) ?_
 have k1:=n1.blk.below (Za W1)
 refine xlvt (.e [] 3) (.t B [88,123]) (fun V hV=>(k1.only hV.2 (by decide)).rp) ?_
 refine xm3 0 0 1 4 ?_ ?_ ?_
 ·have d1:=(kl.below n1.below).below (Za W1)
  refine xb 0 0 d1 ?_
  refine xm2 0 1 4 ?_ ?_
  ·refine xb 0 0 d1 ?_
   refine xr (.o [2] 4) (args:=#[.agg #[V0 (↑(q+i):Int),V0 (↑(Yb (L.getD i [])):Int),V0 (↑(Xd (L.getD i [])):Int)]]) (Jg (↑(q+i):Int) (↑(Yb (L.getD i [])):Int) (↑(Xd (L.getD i [])):Int) (by omega) (by omega) (by omega) (by omega) (by omega) (by omega) _) fun W2 f4=>?_
   refine xbs (.o [5] 6) 1 [V0 (i:Int),.string ⟨(leB (↑(q+i):Int) 8++leB (↑(Yb (L.getD i [])):Int) 4++leB (↑(Xd (L.getD i [])):Int) 4).toArray⟩,V0 0] 123 fun b3 W3 n3=>?_
   have e0:=Zb (Zb (Zb hup n1.below) (Za W1)) f4
   have i0:=Zr e0 n3
   have a9:=Zb e0 n3.below
   have hB:=blB (blB (blB (blB (Below.refl B w) hBw n1.below) hBw (Za W1)) hBw f4) hBw n3.below
   refine ybi (.o [] 7) (.t B [88,123]) fun _ _ _ _ zJ zQ zo zx zy zK=>Zn (m:=1) (news:=[V0 (i:Int),.string ⟨(leB (↑(q+i):Int) 8++leB (↑(Yb (L.getD i [])):Int) 4++leB (↑(Xd (L.getD i [])):Int) 4).toArray⟩,V0 0]) (.agg #[V0 0,.string ⟨#[]⟩,V0 0]) 3 32 (i+1) ((Xv L q (i+1)).flatMap Yj) zo Tryz.underlying88 (by kernel_rfl) rfl (by decide) zx a9 zy (n3.blk.sl 1 1 (by decide) (by decide)) rfl (by simp[Value.oneCell']) (by unfold maxLen;omega) (by omega) (Nat.le_trans hBx hB.size) (by rfl) (Ky L q i) fun m5 m3 W4 o4 h5 l4=>?_
   refine zK _ _ (Zt (l4.mono hBm) h5 a9 (by decide)) ?_
   have d4:=((d1.below f4).below n3.below).grown h5 a9 (by decide)
   refine ys (.o [] 8) d4 [.slice m5 (i+1) m3] (.t B [88,123]) fun W5 u5 k5=>⟨(Zx u5 d4 hBl (by decide)),?_⟩
   have i2:=u5.below (hB.trans (l4.mono hBm)) hBl
   have hO:=(((((show Zd [88,123] w _ from(Zd.of_below n1.below)).trans (Zd.of_below (Za W1))).trans (Zd.of_below f4)).trans (Zd.of_below n3.below)).trans (Zd.of_grown h5 a9 (by decide))).trans (Zd.of_upd u5 d4 (by decide))
   have i1:=u5.own2 o4 d4 (by decide)
   have j1:=(((((hZ.below n1.below).below (Za W1)).below f4).below n3.below).grown h5 a9).upd u5 (by simp)
   exact xe 1 (.tuple #[]) ⟨_,_,_,rfl,i2,hO,k5,i1,j1.fr⟩
  refine xr 0 (args:=#[.agg #[V0 (↑(q+i):Int),V0 (↑(Yb (L.getD i [])):Int),V0 (↑(Xd (L.getD i [])):Int)]]) (Jg (↑(q+i):Int) (↑(Yb (L.getD i [])):Int) (↑(Xd (L.getD i [])):Int) (by omega) (by omega) (by omega) (by omega) (by omega) (by omega) _) fun W6 g0=>?_
  have g6:=d1.below g0
  refine xb (.o [] 1) 0 g6 ?_
  refine xbs (.o [2,5] 6) 1 [V0 (i:Int),.string ⟨(leB (↑(q+i):Int) 8++leB (↑(Yb (L.getD i [])):Int) 4++leB (↑(Xd (L.getD i [])):Int) 4).toArray⟩,V0 0] 123 fun b7 W7 n7=>?_
  have d7:=Zb (Zb (Zb hup n1.below) (Za W1)) g0
  have l2:=Zr d7 n7
  have a6:=Zb d7 n7.below
  have hB:=blB (blB (blB (blB (Below.refl B w) hBw n1.below) hBw (Za W1)) hBw g0) hBw n7.below
  refine ybi (.o [] 7) (.t B [88,123]) fun _ _ _ _ zJ zQ zo zx zy zK=>Zn (m:=1) (news:=[V0 (i:Int),.string ⟨(leB (↑(q+i):Int) 8++leB (↑(Yb (L.getD i [])):Int) 4++leB (↑(Xd (L.getD i [])):Int) 4).toArray⟩,V0 0]) (.agg #[V0 0,.string ⟨#[]⟩,V0 0]) 3 32 (i+1) ((Xv L q (i+1)).flatMap Yj) zo Tryz.underlying88 (by kernel_rfl) rfl (by decide) zx a6 zy (n7.blk.sl 1 1 (by decide) (by decide)) rfl (by simp[Value.oneCell']) (by unfold maxLen;omega) (by omega) (Nat.le_trans hBx hB.size) (by rfl) (Ky L q i) fun m2 l7 W8 o8 h3 l5=>?_
  refine zK _ _ (Zt (l5.mono hBm) h3 a6 (by decide)) ?_
  have c5:=(g6.below n7.below).grown h3 a6 (by decide)
  refine ys (.o [] 8) c5 [.slice m2 (i+1) l7] (.t B [88,123]) fun W9 u9 k9=>⟨(Zx u9 c5 hBl (by decide)),?_⟩
  have i5:=u9.below (hB.trans (l5.mono hBm)) hBl
  have hO:=(((((show Zd [88,123] w _ from(Zd.of_below n1.below)).trans (Zd.of_below (Za W1))).trans (Zd.of_below g0)).trans (Zd.of_below n7.below)).trans (Zd.of_grown h3 a6 (by decide))).trans (Zd.of_upd u9 c5 (by decide))
  have j2:=u9.own2 o8 c5 (by decide)
  have k8:=(((((hZ.below n1.below).below (Za W1)).below g0).below n7.below).grown h3 a6).upd u9 (by simp)
  exact xe 1 (.tuple #[]) ⟨_,_,_,rfl,i5,hO,k9,j2,k8.fr⟩
 ·have c3:=(kl.below n1.below).below (Za W1)
  refine xb 0 0 c3 ?_
  refine xm2 (.b [2]) 0 4 ?_ ?_
  ·refine xb 0 0 c3 ?_
   refine xr (.o [] 4) (args:=#[.agg #[V0 (↑(q+i):Int),V0 (↑(Yb (L.getD i [])):Int),V0 (↑(Xd (L.getD i [])):Int)]]) (Jg (↑(q+i):Int) (↑(Yb (L.getD i [])):Int) (↑(Xd (L.getD i [])):Int) (by omega) (by omega) (by omega) (by omega) (by omega) (by omega) _) fun o1 b9=>?_
   refine xbs (.o [5] 6) 1 [V0 (i:Int),.string ⟨(leB (↑(q+i):Int) 8++leB (↑(Yb (L.getD i [])):Int) 4++leB (↑(Xd (L.getD i [])):Int) 4).toArray⟩,V0 0] 123 fun o5 q2 e1=>?_
   have d9:=Zb (Zb (Zb hup n1.below) (Za W1)) b9
   have h6:=Zr d9 e1
   have a7:=Zb d9 e1.below
   have hB:=blB (blB (blB (blB (Below.refl B w) hBw n1.below) hBw (Za W1)) hBw b9) hBw e1.below
   refine ybi (.o [] 7) (.t B [88,123]) fun _ _ _ _ zJ zQ zo zx zy zK=>Zn (m:=1) (news:=[V0 (i:Int),.string ⟨(leB (↑(q+i):Int) 8++leB (↑(Yb (L.getD i [])):Int) 4++leB (↑(Xd (L.getD i [])):Int) 4).toArray⟩,V0 0]) (.agg #[V0 0,.string ⟨#[]⟩,V0 0]) 3 32 (i+1) ((Xv L q (i+1)).flatMap Yj) zo Tryz.underlying88 (by kernel_rfl) rfl (by decide) zx a7 zy (e1.blk.sl 1 1 (by decide) (by decide)) rfl (by simp[Value.oneCell']) (by unfold maxLen;omega) (by omega) (Nat.le_trans hBx hB.size) (by rfl) (Ky L q i) fun j7 j8 n6 l6 d2 e8=>?_
   refine zK _ _ (Zt (e8.mono hBm) d2 a7 (by decide)) ?_
   have c4:=((c3.below b9).below e1.below).grown d2 a7 (by decide)
   refine ys (.o [] 8) c4 [.slice j7 (i+1) j8] (.t B [88,123]) fun n4 f2 m9=>⟨(Zx f2 c4 hBl (by decide)),?_⟩
   have i4:=f2.below (hB.trans (e8.mono hBm)) hBl
   have hO:=(((((show Zd [88,123] w _ from(Zd.of_below n1.below)).trans (Zd.of_below (Za W1))).trans (Zd.of_below b9)).trans (Zd.of_below e1.below)).trans (Zd.of_grown d2 a7 (by decide))).trans (Zd.of_upd f2 c4 (by decide))
   have g9:=f2.own2 l6 c4 (by decide)
   have i6:=(((((hZ.below n1.below).below (Za W1)).below b9).below e1.below).grown d2 a7).upd f2 (by simp)
   exact xe 1 (.tuple #[]) ⟨_,_,_,rfl,i4,hO,m9,g9,i6.fr⟩
  refine xr 0 (args:=#[.agg #[V0 (↑(q+i):Int),V0 (↑(Yb (L.getD i [])):Int),V0 (↑(Xd (L.getD i [])):Int)]]) (Jg (↑(q+i):Int) (↑(Yb (L.getD i [])):Int) (↑(Xd (L.getD i [])):Int) (by omega) (by omega) (by omega) (by omega) (by omega) (by omega) _) fun q1 a5=>?_
  refine xm2 (.b [5]) 0 6 ?_ ?_
  ·have g5:=c3.below a5
   refine xb 0 0 g5 ?_
   refine xbs (.o [] 6) 1 [V0 (i:Int),.string ⟨(leB (↑(q+i):Int) 8++leB (↑(Yb (L.getD i [])):Int) 4++leB (↑(Xd (L.getD i [])):Int) 4).toArray⟩,V0 0] 123 fun p2 q3 e4=>?_
   have d5:=Zb (Zb (Zb hup n1.below) (Za W1)) a5
   have h1:=Zr d5 e4
   have a8:=Zb d5 e4.below
   have hB:=blB (blB (blB (blB (Below.refl B w) hBw n1.below) hBw (Za W1)) hBw a5) hBw e4.below
   refine ybi (.o [] 7) (.t B [88,123]) fun _ _ _ _ zJ zQ zo zx zy zK=>Zn (m:=1) (news:=[V0 (i:Int),.string ⟨(leB (↑(q+i):Int) 8++leB (↑(Yb (L.getD i [])):Int) 4++leB (↑(Xd (L.getD i [])):Int) 4).toArray⟩,V0 0]) (.agg #[V0 0,.string ⟨#[]⟩,V0 0]) 3 32 (i+1) ((Xv L q (i+1)).flatMap Yj) zo Tryz.underlying88 (by kernel_rfl) rfl (by decide) zx a8 zy (e4.blk.sl 1 1 (by decide) (by decide)) rfl (by simp[Value.oneCell']) (by unfold maxLen;omega) (by omega) (Nat.le_trans hBx hB.size) (by rfl) (Ky L q i) fun l0 j9 p7 m8 c9 f8=>?_
   refine zK _ _ (Zt (f8.mono hBm) c9 a8 (by decide)) ?_
   have c7:=(g5.below e4.below).grown c9 a8 (by decide)
   refine ys (.o [] 8) c7 [.slice l0 (i+1) j9] (.t B [88,123]) fun o7 e9 m4=>⟨(Zx e9 c7 hBl (by decide)),?_⟩
   have k4:=e9.below (hB.trans (f8.mono hBm)) hBl
   have hO:=(((((show Zd [88,123] w _ from(Zd.of_below n1.below)).trans (Zd.of_below (Za W1))).trans (Zd.of_below a5)).trans (Zd.of_below e4.below)).trans (Zd.of_grown c9 a8 (by decide))).trans (Zd.of_upd e9 c7 (by decide))
   have f7:=e9.own2 m8 c7 (by decide)
   have i7:=(((((hZ.below n1.below).below (Za W1)).below a5).below e4.below).grown c9 a8).upd e9 (by simp)
   exact xe 1 (.tuple #[]) ⟨_,_,_,rfl,k4,hO,m4,f7,i7.fr⟩
  refine xbs 0 1 [V0 (i:Int),.string ⟨(leB (↑(q+i):Int) 8++leB (↑(Yb (L.getD i [])):Int) 4++leB (↑(Xd (L.getD i [])):Int) 4).toArray⟩,V0 0] 123 fun n9 o3 e5=>?_
  have d8:=Zb (Zb (Zb hup n1.below) (Za W1)) a5
  have h8:=Zr d8 e5
  have e7:=(c3.below a5).below e5.below
  refine xb (.o [] 0) 0 e7 ?_
  have a1:=Zb d8 e5.below
  have hB:=blB (blB (blB (blB (Below.refl B w) hBw n1.below) hBw (Za W1)) hBw a5) hBw e5.below
  refine ybi (.o [] 7) (.t B [88,123]) fun _ _ _ _ zJ zQ zo zx zy zK=>Zn (m:=1) (news:=[V0 (i:Int),.string ⟨(leB (↑(q+i):Int) 8++leB (↑(Yb (L.getD i [])):Int) 4++leB (↑(Xd (L.getD i [])):Int) 4).toArray⟩,V0 0]) (.agg #[V0 0,.string ⟨#[]⟩,V0 0]) 3 32 (i+1) ((Xv L q (i+1)).flatMap Yj) zo Tryz.underlying88 (by kernel_rfl) rfl (by decide) zx a1 zy (e5.blk.sl 1 1 (by decide) (by decide)) rfl (by simp[Value.oneCell']) (by unfold maxLen;omega) (by omega) (Nat.le_trans hBx hB.size) (by rfl) (Ky L q i) fun j5 l1 p5 m6 c6 g7=>?_
  refine zK _ _ (Zt (g7.mono hBm) c6 a1 (by decide)) ?_
  have b4:=e7.grown c6 a1 (by decide)
  refine ys (.o [] 8) b4 [.slice j5 (i+1) l1] (.t B [88,123]) fun o6 g8 m0=>⟨(Zx g8 b4 hBl (by decide)),?_⟩
  have j6:=g8.below (hB.trans (g7.mono hBm)) hBl
  have hO:=(((((show Zd [88,123] w _ from(Zd.of_below n1.below)).trans (Zd.of_below (Za W1))).trans (Zd.of_below a5)).trans (Zd.of_below e5.below)).trans (Zd.of_grown c6 a1 (by decide))).trans (Zd.of_upd g8 b4 (by decide))
  have f1:=g8.own2 m6 b4 (by decide)
  have i8:=(((((hZ.below n1.below).below (Za W1)).below a5).below e5.below).grown c6 a1).upd g8 (by simp)
  exact xe 1 (.tuple #[]) ⟨_,_,_,rfl,j6,hO,m0,f1,i8.fr⟩
 refine xr 0 (args:=#[.agg #[V0 (↑(q+i):Int),V0 (↑(Yb (L.getD i [])):Int),V0 (↑(Xd (L.getD i [])):Int)]]) (Jg (↑(q+i):Int) (↑(Yb (L.getD i [])):Int) (↑(Xd (L.getD i [])):Int) (by omega) (by omega) (by omega) (by omega) (by omega) (by omega) _) fun p0 a0=>?_
 refine xm2 0 0 1 ?_ ?_
 ·have c2:=((kl.below n1.below).below (Za W1)).below a0
  refine xb 0 0 c2 ?_
  refine xb (.o [] 1) 0 c2 ?_
  refine xbs (.o [2,5] 6) 1 [V0 (i:Int),.string ⟨(leB (↑(q+i):Int) 8++leB (↑(Yb (L.getD i [])):Int) 4++leB (↑(Xd (L.getD i [])):Int) 4).toArray⟩,V0 0] 123 fun n8 p1 e6=>?_
  have b8:=Zb (Zb (Zb hup n1.below) (Za W1)) a0
  have h2:=Zr b8 e6
  have a2:=Zb b8 e6.below
  have hB:=blB (blB (blB (blB (Below.refl B w) hBw n1.below) hBw (Za W1)) hBw a0) hBw e6.below
  refine ybi (.o [] 7) (.t B [88,123]) fun _ _ _ _ zJ zQ zo zx zy zK=>Zn (m:=1) (news:=[V0 (i:Int),.string ⟨(leB (↑(q+i):Int) 8++leB (↑(Yb (L.getD i [])):Int) 4++leB (↑(Xd (L.getD i [])):Int) 4).toArray⟩,V0 0]) (.agg #[V0 0,.string ⟨#[]⟩,V0 0]) 3 32 (i+1) ((Xv L q (i+1)).flatMap Yj) zo Tryz.underlying88 (by kernel_rfl) rfl (by decide) zx a2 zy (e6.blk.sl 1 1 (by decide) (by decide)) rfl (by simp[Value.oneCell']) (by unfold maxLen;omega) (by omega) (Nat.le_trans hBx hB.size) (by rfl) (Ky L q i) fun l3 k0 n5 n2 c8 h0=>?_
  refine zK _ _ (Zt (h0.mono hBm) c8 a2 (by decide)) ?_
  have b6:=(c2.below e6.below).grown c8 a2 (by decide)
  refine ys (.o [] 8) b6 [.slice l3 (i+1) k0] (.t B [88,123]) fun p6 f5 m7=>⟨(Zx f5 b6 hBl (by decide)),?_⟩
  have k2:=f5.below (hB.trans (h0.mono hBm)) hBl
  have hO:=(((((show Zd [88,123] w _ from(Zd.of_below n1.below)).trans (Zd.of_below (Za W1))).trans (Zd.of_below a0)).trans (Zd.of_below e6.below)).trans (Zd.of_grown c8 a2 (by decide))).trans (Zd.of_upd f5 b6 (by decide))
  have f0:=f5.own2 n2 b6 (by decide)
  have j0:=(((((hZ.below n1.below).below (Za W1)).below a0).below e6.below).grown c8 a2).upd f5 (by simp)
  exact xe 1 (.tuple #[]) ⟨_,_,_,rfl,k2,hO,m7,f0,j0.fr⟩
 have b2:=((kl.below n1.below).below (Za W1)).below a0
 refine xb 0 0 b2 ?_
 refine xm2 (.b [2,5]) 0 6 ?_ ?_
 ·refine xb 0 0 b2 ?_
  refine xbs (.o [] 6) 1 [V0 (i:Int),.string ⟨(leB (↑(q+i):Int) 8++leB (↑(Yb (L.getD i [])):Int) 4++leB (↑(Xd (L.getD i [])):Int) 4).toArray⟩,V0 0] 123 fun o9 p4 e2=>?_
  have c1:=Zb (Zb (Zb hup n1.below) (Za W1)) a0
  have h7:=Zr c1 e2
  have a3:=Zb c1 e2.below
  have hB:=blB (blB (blB (blB (Below.refl B w) hBw n1.below) hBw (Za W1)) hBw a0) hBw e2.below
  refine ybi (.o [] 7) (.t B [88,123]) fun _ _ _ _ zJ zQ zo zx zy zK=>Zn (m:=1) (news:=[V0 (i:Int),.string ⟨(leB (↑(q+i):Int) 8++leB (↑(Yb (L.getD i [])):Int) 4++leB (↑(Xd (L.getD i [])):Int) 4).toArray⟩,V0 0]) (.agg #[V0 0,.string ⟨#[]⟩,V0 0]) 3 32 (i+1) ((Xv L q (i+1)).flatMap Yj) zo Tryz.underlying88 (by kernel_rfl) rfl (by decide) zx a3 zy (e2.blk.sl 1 1 (by decide) (by decide)) rfl (by simp[Value.oneCell']) (by unfold maxLen;omega) (by omega) (Nat.le_trans hBx hB.size) (by rfl) (Ky L q i) fun k6 h9 p3 l8 d3 g3=>?_
  refine zK _ _ (Zt (g3.mono hBm) d3 a3 (by decide)) ?_
  have b5:=(b2.below e2.below).grown d3 a3 (by decide)
  refine ys (.o [] 8) b5 [.slice k6 (i+1) h9] (.t B [88,123]) fun p8 g1 l9=>⟨(Zx g1 b5 hBl (by decide)),?_⟩
  have i9:=g1.below (hB.trans (g3.mono hBm)) hBl
  have hO:=(((((show Zd [88,123] w _ from(Zd.of_below n1.below)).trans (Zd.of_below (Za W1))).trans (Zd.of_below a0)).trans (Zd.of_below e2.below)).trans (Zd.of_grown d3 a3 (by decide))).trans (Zd.of_upd g1 b5 (by decide))
  have g2:=g1.own2 l8 b5 (by decide)
  have j4:=(((((hZ.below n1.below).below (Za W1)).below a0).below e2.below).grown d3 a3).upd g1 (by simp)
  exact xe 1 (.tuple #[]) ⟨_,_,_,rfl,i9,hO,l9,g2,j4.fr⟩
 refine xbs 0 1 [V0 (i:Int),.string ⟨(leB (↑(q+i):Int) 8++leB (↑(Yb (L.getD i [])):Int) 4++leB (↑(Xd (L.getD i [])):Int) 4).toArray⟩,V0 0] 123 fun q0 o2 e3=>?_
 have c0:=Zb (Zb (Zb hup n1.below) (Za W1)) a0
 have h4:=Zr c0 e3
 have d6:=b2.below e3.below
 refine xb (.o [] 0) 0 d6 ?_
 have a4:=Zb c0 e3.below
 have hB:=blB (blB (blB (blB (Below.refl B w) hBw n1.below) hBw (Za W1)) hBw a0) hBw e3.below
 refine ybi (.o [] 7) (.t B [88,123]) fun _ _ _ _ zJ zQ zo zx zy zK=>Zn (m:=1) (news:=[V0 (i:Int),.string ⟨(leB (↑(q+i):Int) 8++leB (↑(Yb (L.getD i [])):Int) 4++leB (↑(Xd (L.getD i [])):Int) 4).toArray⟩,V0 0]) (.agg #[V0 0,.string ⟨#[]⟩,V0 0]) 3 32 (i+1) ((Xv L q (i+1)).flatMap Yj) zo Tryz.underlying88 (by kernel_rfl) rfl (by decide) zx a4 zy (e3.blk.sl 1 1 (by decide) (by decide)) rfl (by simp[Value.oneCell']) (by unfold maxLen;omega) (by omega) (Nat.le_trans hBx hB.size) (by rfl) (Ky L q i) fun j3 k3 p9 m1 d0 f9=>?_
 refine zK _ _ (Zt (f9.mono hBm) d0 a4 (by decide)) ?_
 have b0:=d6.grown d0 a4 (by decide)
 refine ys (.o [] 8) b0 [.slice j3 (i+1) k3] (.t B [88,123]) fun o0 f6 n0=>⟨(Zx f6 b0 hBl (by decide)),?_⟩
 have i3:=f6.below (hB.trans (f9.mono hBm)) hBl
 have hO:=(((((show Zd [88,123] w _ from(Zd.of_below n1.below)).trans (Zd.of_below (Za W1))).trans (Zd.of_below a0)).trans (Zd.of_below e3.below)).trans (Zd.of_grown d0 a4 (by decide))).trans (Zd.of_upd f6 b0 (by decide))
 have f3:=f6.own2 m1 b0 (by decide)
 have k7:=(((((hZ.below n1.below).below (Za W1)).below a0).below e3.below).grown d0 a4).upd f6 (by simp)
 exact xe 1 (.tuple #[]) ⟨_,_,_,rfl,i3,hO,n0,f3,k7.fr⟩
def LayPost(B ba b g nn cc:Nat)(pa:O0)(ca f N k0:Nat)(bs:Bl)(bl:Nat)(L:List (List Int))(w:World)(e:Ending)(w':World):Prop :=
 ∃ p c,e=.returned .nilIface∧Below B w w'∧Zd [153,5,88,123] w w'∧Fr [ba,g,bl] w w'∧Al B ba b g nn cc pa ca f N (k0+L.length) (Kl L (f+k0) bs L.length) w'∧Blk w' bl [.slice p L.length c] 88∧w'.ownsRow w.heap.size 123 3 (.slice p L.length c) L.length ((Xv L (f+k0) L.length).flatMap Yj)
theorem plot_layD(B ba b g nn cc:Nat)(pa:O0)(ca f N k0:Nat)(bs:Bl)(bl B2:Nat)(pl:O0)(cl:Nat)(gs:List (Nat×Nat))(L:List (List Int))(w:World)(hC:AlC B ba nn cc ca f N)(hA:Al B ba b g nn cc pa ca f N k0 bs w)(hL:Lists w B2 (.slice pl L.length cl) gs L)(hS:∀ i,i<L.length→Hq (L.getD i [])∧(L.getD i []).length≤960)(hf1:1≤f)(hk:k0+L.length≤N)(kl:Blk w bl [S0] 88)(hBl:B≤bl)(hBw:B≤w.heap.size) :
 C0 151 #[P0 ba,.slice pl L.length cl,.func (.func 152) #[] #[P0 bl]] w (LayPost B ba b g nn cc pa ca f N k0 bs bl L w):=by
 have d3:=hC.hf
 have d4:=hC.hn
 refine zin 51 Tryz.func151 ?_
 have hB:=Below.refl B w
 refine zl 14 51 (fun zm c7 V=>∃ (i:Nat) (p:O0) (c:Nat),c7=[(0,P0 ba),(2,.func (.func 152) #[] #[P0 bl]),(15,.slice pl L.length cl),(16,V0 (L.length:Int)),(17,V0 (i:Int))]∧zm=L.length-((i:Int)).toNat∧Below B w V∧Fr [ba,g,bl] w V∧Zd [153,5,88,123] w V∧Blk V bl ([.slice p i c]) 88∧Al B ba b g nn cc pa ca f N (k0+i) (Kl L (f+k0) bs i) V∧Lists V B2 (.slice pl L.length cl) gs L∧V.ownsRow w.heap.size 123 3 (.slice p i c) i ((Xv L (f+k0) i).flatMap Yj)∧i≤L.length) ⟨0,none,0,rfl,rfl,hB,(Fr.refl _ _),(Zd.refl _ _),kl,hA,hL,World.ownsRow_nil _ _ _ _,Nat.zero_le _⟩ ?_
 rintro _ _ W1 ⟨i,p,c,rfl,rfl,a3,a7,a8,a1,hA,hL,b2,hi⟩ J1 c5 r1
 refine xid 6 ((i:Int)<(L.length:Int)) (fun d2=>?_) (fun d2=>?_)
 ·refine xx 6 _ L.length i 1 (Lists.elem hL rfl (k:=i) (by omega)).1 ?_
  refine xl 0 ((Lists.elem hL rfl (k:=i) (by omega)).2) ?_
  refine xc 6 (args:=#[.slice (some ⟨(gs.getD i (0,0)).1,0,none⟩) ((L.getD i []).length) ((gs.getD i (0,0)).2)]) (Zcn _ _ (L.getD i []) _ (hS i (by omega)).1 (hS i (by omega)).2 (Zf (hL.each i (by omega)))) ?_
  rintro _ W3 ⟨_,rfl,a4,g6,rfl,h6⟩
  have b5:=hA.below a4
  have a2:=a8.trans (Zd.of_below a4)
  have b6:=Ze h6 a3.size
  have a9:=blB a3 hBw a4
  refine xc 21 (args:=#[P0 ba,V0 3,.slice (S1 g6) 244 244]) (Wu B ba b g nn cc pa ca f N (k0+i) (Kl L (f+k0) bs i) 3 (S1 g6) 244 (Ia (L.getD i [])) (f+k0+i) 244 _ (Nat.add_assoc _ _ _).symm (Kt _ _) hC b5 (by omega) (by decide) (by decide) (fun W _ a2=>Xp (Zf (Zi b6 a2 (by decide))) (Kt _ _)) (by decide) (Nat.le_trans hBw a9.size)) ?_
  rintro _ W4 ⟨rfl,c3,b3,d1,hA⟩
  have b0:=(hL.below a4).only b3 (by decide)
  refine xr 20 (args:=#[.slice (some ⟨(gs.getD i (0,0)).1,0,none⟩) ((L.getD i []).length) ((gs.getD i (0,0)).2)]) (Ap _ _ (L.getD i []) _ (hS i (by omega)).2 (Zf (b0.each i (by omega)))) fun W5 a5=>?_
  have c8:Yb (L.getD i [])≤960:=Nat.le_trans (Wt _ _) (hS i (by omega)).2
  have c6:Xd (L.getD i [])≤960:=Nat.le_trans (Nr _) (hS i (by omega)).2
  have a6:=blB (a9.trans c3) hBw a5
  have a0:=((a1.below a4).only b3 (by decide)).below a5
  have b1:=Zb (Zi (Zb b2 a4) b3 (by decide)) a5
  refine xc 13 (args:=#[.agg #[V0 (↑(f+k0+i):Int),V0 (↑(Yb (L.getD i [])):Int),V0 (↑(Xd (L.getD i [])):Int)],P0 bl]) (Zep B w.heap.size bl p c L (f+k0) i _ hBw a6.size (Nat.le_trans hBw a6.size) hBl a0 b1 (by omega) (by omega) (by omega) c8 c6) ?_
  rintro _ W6 ⟨_,p9,c9,rfl,c2,c1,d0,b2,c4⟩
  refine xwm 4 ((i:Int)+1) (↑(i+1):Int) ?_
  have b9:=(hA.below a5).only c1 (by decide)
  have b4:=(b0.below a5).only c1 (by decide)
  have c0:=a6.trans c2
  have b7:=(Fr.trans_B (((a7.trans (Fr.of_below a4)).trans (d1.mono (by simp))).trans (Fr.of_below a5)) c4 (by simp))
  have b8:=((a2.trans (b3.wide)).trans (Zd.of_below a5)).trans (c1.wide)
  exact ze 2 (c5 _ _ _ ⟨i+1,_,_,rfl,rfl,c0,b7,b8,d0,b9,b4,b2,by omega⟩ (by omega))
 refine xe 11 .nilIface ?_
 obtain rfl:i=L.length:=by omega
 exact⟨_,_,rfl,a3,a8,a7,hA,a1,b2⟩
theorem Pm(a:O0)(c:Nat)(l:List Int)(w:World)(h:Sl w (.slice a l.length c) l.length (l.map V0))(hl:l.length≤65536)(hs:Yu l=0):C0 148 #[.slice a l.length c] w (fun e w'=>∃ pb cb gs po co,e=.returned (.tuple #[.slice pb (bmN l.length) cb,.slice po (Zm l l.length).length co,V0 0])∧B3 w w'∧Lists w' w.heap.size (.slice pb (bmN l.length) cb) gs (Zl (Zg l) (bmN l.length))∧w'.ownsRow w.heap.size 123 3 (.slice po (Zm l l.length).length co) (Zm l l.length).length ((Zm l l.length).flatMap Yj)) :=
 (Zbi a c l w h hl).mono fun e w' q=>(q.resolve_left fun z=>z.1 hs).2
theorem Zey(B ba b g nn cc:Nat)(pa:O0)(ca f N k0:Nat)(bs:Bl)(bl B2:Nat)(pl:O0)(cl:Nat)(gs:List (Nat×Nat))(L:List (List Int))(n:Nat)(hn:L.length=n)(w:World)(hC:AlC B ba nn cc ca f N)(hA:Al B ba b g nn cc pa ca f N k0 bs w)(hL:Lists w B2 (.slice pl n cl) gs L)(hS:∀ i,i<L.length→Hq (L.getD i [])∧(L.getD i []).length≤960)(hf1:1≤f)(hk:k0+n≤N)(kl:Blk w bl [S0] 88)(hBl:B≤bl)(hBw:B≤w.heap.size) :
 C0 151 #[P0 ba,.slice pl n cl,.func (.func 152) #[] #[P0 bl]] w (fun e w'=>∃ p c,e=.returned .nilIface∧Below B w w'∧Zd [153,5,88,123] w w'∧Fr ([ba,g]++[bl]) w w'∧Al B ba b g nn cc pa ca f N (k0+n) (Kl L (f+k0) bs n) w'∧Blk w' bl [.slice p n c] 88∧w'.ownsRow w.heap.size 123 3 (.slice p n c) n ((Xv L (f+k0) n).flatMap Yj)):=by
 subst hn;exact plot_layD B ba b g nn cc pa ca f N k0 bs bl B2 pl cl gs L w hC hA hL hS hf1 hk kl hBl hBw
theorem Bs{l:List Int}(h:∀ k,k<l.length→Kw (l.getD k 0))(n:Nat):∀ i,i<(Zl (Zg l) n).length→Hq ((Zl (Zg l) n).getD i [])∧((Zl (Zg l) n).getD i []).length≤960:=fun i hi=>by
 rw[Xk] at hi
 rw[Ds hi]
 exact⟨Fb (Zbo h) i,by rw[Gd];omega⟩
theorem own_keep{w W:World}{B ba b g nn cc:Nat}{pa:O0}{ca f N k0 bl:Nat}{bs:Bl}{cs:List Value}{base n:Nat}{v:Value}{xs:List Value}(k:w.ownsRow base 123 3 v n xs)(hA:Al B ba b g nn cc pa ca f N k0 bs w)(kl:Blk w bl cs 88)(hX:Fr ([ba,g]++[bl]) w W):W.ownsRow base 123 3 v n xs:=own_fr k hX fun j hj hm=>by
 obtain⟨a0,kb⟩:=Ep hA.data
 simp only[List.cons_append,List.nil_append,List.mem_cons,List.not_mem_nil,or_false] at hm
 rcases hm with h|h|h
 ·exact Ec k hA.blkA (by decide) _ hj h
 ·exact Ec k kb (by decide) _ hj h
 ·exact Ec k kl (by decide) _ hj h
def DataP(B ba b g nn cc:Nat)(pa:O0)(ca f N k0:Nat)(bs:Bl)(l:List Int)(w:World)(e:Ending)(w':World):Prop :=
 e=.returned (.tuple #[V0 (Zaw l (f+k0) bs).1,V0 (Zaw l (f+k0) bs).2.1,.nilIface])∧Below B w w'∧Zd [153,5,88,123,29] w w'∧Fr [ba,g] w w'∧Al B ba b g nn cc pa ca f N (k0+Up l) (Zaw l (f+k0) bs).2.2 w'
theorem Bc(n:Nat)(w:World)(hn:n≤65536) :
 C0 159 #[V0 (n:Int)] w (Ret (V0 (↑(bmN n):Int)) w):=by
 refine zin 9 Tryz.func159 ?_
 refine xid 12 ((n:Int)<(1:Int)) (fun a0=>?_) (fun a0=>?_)
 ·exact xe 7 (V0 0) ⟨by rw[show bmN n=0 from by unfold bmN;omega];rfl,(B4 w)⟩
 refine xwm 5 ((n:Int)-1) (↑(n-1):Int) ?_
 refine xq 0 (congrArg V0 (show(IntKind.i64.wrap (Int.tdiv (↑(n-1):Int) 960):Int)=(↑((n-1)/960):Int) from Qx (n-1) 960 (by omega) (by decide))) ?_
 refine xw 0 ((↑((n-1)/960):Int)+1) ?_
 exact xe 4 (V0 ((↑((n-1)/960):Int)+1)) ⟨by rw[show bmN n=(n-1)/960+1 from by unfold bmN;omega,Int.natCast_add];rfl,(B4 w)⟩
theorem Ly{cs:List Nat}{i:Nat}(h:i<cs.length):(cs.take (i+1)).sum=(cs.take i).sum+cs.getD i 0:=by
 rw[List.take_succ_eq_append_getElem h,List.sum_append];simp[List.getD,h]
theorem Ze1(cs:List Nat)(i:Nat):(cs.take i).sum≤cs.sum:=by
 conv=>rhs;rw[←List.take_append_drop i cs]
 rw[List.sum_append];omega
theorem Gq{w:World}{pc:O0}{n m:Nat}{cs:List Nat}(h:Sl w (.slice pc n m) n (cs.map nv))(hn:cs.length=n){k:Nat}(hk:k<n):pc.isSome=true∧w.cell? (Zz pc (k*1))=some (V0 ((cs.getD k 0:Nat):Int)):=Hk h (by omega)
theorem Zck(a:O0)(n c:Nat)(cs:List Nat)(w:World)(hn:cs.length=n)(h:Sl w (.slice a n c) n (cs.map nv))(hs:cs.sum≤1000000000) :
 C0 219 #[.slice a n c] w (Ret (V0 (cs.sum:Int)) w):=by
 have a5:=Sl.len h
 refine zin 17 Tryz.func219 ?_
 have hB:=Below.refl w.heap.size w
 refine zl 19 17 (fun zm a1 V=>∃ (i:Nat),a1=[(2,V0 0),(3,V0 (↑((cs.take i).sum):Int)),(6,.slice a n c),(7,V0 (n:Int)),(8,V0 (i:Int))]∧zm=n-((i:Int)).toNat∧B3 w V∧i≤n) ⟨0,rfl,rfl,hB,Nat.zero_le _⟩ ?_
 rintro _ _ W1 ⟨i,rfl,rfl,a0,hi⟩ J1 a2 r1
 have a4:=Ze1 cs (i+1)
 refine xid 6 ((i:Int)<(n:Int)) (fun a3=>?_) (fun a3=>?_)
 ·have a6:=Ly (cs:=cs) (i:=i) (by omega)
  refine xx 6 _ n i 1 (Gq h hn (k:=i) (by omega)).1 ?_
  refine xl 0 ((Gq (h.below a0) hn (k:=i) (by omega)).2) ?_
  refine xwm 6 ((↑((cs.take i).sum):Int)+(↑(cs.getD i 0):Int)) (↑(((cs.take i).sum)+(cs.getD i 0)):Int) ?_
  refine xwm 5 ((i:Int)+1) (↑(i+1):Int) ?_
  refine xv1 2 3 (show(V0 (↑(((cs.take i).sum)+(cs.getD i 0)):Int):Value)=V0 (↑((cs.take (i+1)).sum):Int) from by rw[Ly (i:=i) (by omega)]) ?_
  exact ze 0 (a2 _ _ _ ⟨i+1,rfl,rfl,a0,by omega⟩ (by omega))
 exact xe 12 (V0 (↑((cs.take i).sum):Int)) ⟨by rw[List.take_of_length_le (by omega)],a0⟩
theorem Zfl(p:O0)(c n x:Nat)(t u v:Int)(Z:List Zv)(w:World)(hZ:Z.length=n)(hP:DevsR w p c Z)(hk:PoolOk t u v (x:Int) (Z.map Prod.fst)) :
 C0 220 #[.agg #[V0 t,V0 u,V0 v,V0 (x:Int),.slice p n c]] w (Ret (V0 (↑(Za2 x (Z.map Prod.fst)):Int)) w):=by
 have hx:x≤65536:=by have:=hk.hdata;omega
 refine zin 19 Tryz.func220 ?_
 refine xa 2 [V0 t,V0 u,V0 v,V0 (x:Int),.slice p n c] 24 fun b1 W1 n1=>?_
 refine xlv 11 n1.blk.rp ?_
 refine xc 0 (args:=#[.agg #[V0 t,V0 u,V0 v,V0 (x:Int),.slice p n c]]) (Md p c n x t u v Z _ hZ (hP.below n1.below) hk) ?_
 rintro _ W2 ⟨_,rfl,a6,q9,d9,rfl,a2⟩
 have a3:=Ze a2 n1.below.size
 have a5:=bln n1.below a6
 have a4:=n1.blk.below a6
 refine zl 5 19 (fun zm a9 V=>∃ (i:Nat),a9=[(2,V0 0),(3,V0 (↑(Ul (Yk x (Z.map Prod.fst)) i):Int)),(7,.slice q9 x d9),(8,V0 (x:Int)),(9,V0 (i:Int))]∧zm=x-((i:Int)).toNat∧B3 w V∧Blk V b1 ([V0 t,V0 u,V0 v,V0 (x:Int),.slice p n c]) 24∧V.ownsRow w.heap.size 3 1 (.slice q9 x d9) x ((Yk x (Z.map Prod.fst)).map nv)∧i≤x) ⟨0,rfl,rfl,a5,a4,a3,Nat.zero_le _⟩ ?_
 rintro _ _ W3 ⟨i,rfl,rfl,a1,a0,a2,hi⟩ J3 a7 r3
 refine xid 6 ((i:Int)<(x:Int)) (fun a8=>?_) (fun a8=>?_)
 ·have b2:Ul (Yk x (Z.map Prod.fst)) i≤i:=by unfold Ul;exact Nat.le_trans (List.length_filter_le _ _) (by rw[List.length_take];exact Nat.min_le_left _ _)
  refine xx 6 _ x i 1 (Gq (Zf a2) (Yw _ _) (k:=i) (by omega)).1 ?_
  refine xl 0 ((Gq (Zf a2) (Yw _ _) (k:=i) (by omega)).2) ?_
  refine xid 9 ((↑((Yk x (Z.map Prod.fst)).getD i 0):Int)≥(3:Int)) (fun b0=>?_) (fun b0=>?_)
  ·refine xwm 2 ((↑(Ul (Yk x (Z.map Prod.fst)) i):Int)+1) (↑((Ul (Yk x (Z.map Prod.fst)) i)+1):Int) ?_
   refine xwm 5 ((i:Int)+1) (↑(i+1):Int) ?_
   refine xv1 2 3 (show(V0 (↑((Ul (Yk x (Z.map Prod.fst)) i)+1):Int):Value)=V0 (↑(Ul (Yk x (Z.map Prod.fst)) (i+1)):Int) from by rw[Gr (k:=i) (by rw[Yw];omega),if_pos (by omega)]) ?_
   exact ze 0 (a7 _ _ _ ⟨i+1,rfl,rfl,a1,a0,a2,by omega⟩ (by omega))
  refine xwm 4 ((i:Int)+1) (↑(i+1):Int) ?_
  refine xv1 2 3 (show(V0 (↑(Ul (Yk x (Z.map Prod.fst)) i):Int):Value)=V0 (↑(Ul (Yk x (Z.map Prod.fst)) (i+1)):Int) from by rw[Gr (k:=i) (by rw[Yw];omega),if_neg (by omega),Nat.add_zero]) ?_
  exact ze 0 (a7 _ _ _ ⟨i+1,rfl,rfl,a1,a0,a2,by omega⟩ (by omega))
 exact xe 12 (V0 (↑(Ul (Yk x (Z.map Prod.fst)) i):Int)) ⟨by obtain rfl:i=x:=(by omega);rfl,a1⟩
theorem devs_row{Z:List Zv}{i:Nat}(h:i<Z.length):((((Z.map Prod.fst).map fun d=>Zy 2 d.2.length).take i).map nv)++[V0 (↑(Zy 2 (Z.getD i zvD).1.2.length):Int)]=((((Z.map Prod.fst).map fun d=>Zy 2 d.2.length).take (i+1)).map nv):=by
 rw[List.take_succ_eq_append_getElem (by simpa using h),List.map_append]
 simp[List.getD,h,nv]
theorem dev_few{data:Int}{Z:List Zv}(hk:DevsOk data (Z.map Prod.fst)){i:Nat}(h:i<Z.length):(Z.getD i zvD).1.2.length≤16384:=by
 have a:=hk.sum
 have b:=Ph (L:=Z.map Prod.fst) (i:=i) (by rw[List.length_map];exact h)
 rw[zfst h] at b
 omega
theorem Zbv{L:List Dv}:(L.map fun d=>Zy 2 d.2.length).length=L.length:=List.length_map ..
theorem size_sum7(b a1 a2 a3 a4 a5 a6:Nat)(w:World)(k:Blk w b [V0 1,V0 (a1:Int),V0 (a2:Int),V0 (a3:Int),V0 (a4:Int),V0 (a5:Int),V0 (a6:Int)] 3)(h:1+a1+a2+a3+a4+a5+a6≤1000000000) :
 C0 219 #[.slice (S1 b) 7 7] w (Ret (V0 (↑(1+a1+a2+a3+a4+a5+a6):Int)) w):=by
 have e:[1,a1,a2,a3,a4,a5,a6].sum=1+a1+a2+a3+a4+a5+a6:=by simp only[List.sum_cons,List.sum_nil];omega
 have q:=Zck (S1 b) 7 7 [1,a1,a2,a3,a4,a5,a6] w rfl (k.sl 7 7 (by decide) (by decide)) (by rw[e];exact h)
 rw[e] at q
 exact q
theorem Zhh{x n:Nat}{L:List Dv}(h:L.length=n):1+Zy 3 n+Zy 1 n+Qu L+bmN x+Zy 4 (bmN x)+Zy 5 (Za2 x L)=Wi x L:=by
 subst h;rfl
theorem Zf9(p:O0)(c n x:Nat)(t u v:Int)(Z:List Zv)(w:World)(hZ:Z.length=n)(hP:DevsR w p c Z)(hk:PoolOk t u v (x:Int) (Z.map Prod.fst)) :
 C0 142 #[.agg #[V0 t,V0 u,V0 v,V0 (x:Int),.slice p n c]] w (Ret (V0 (↑(Wi x (Z.map Prod.fst)):Int)) w):=by
 have hx:x≤65536:=by have:=hk.hdata;omega
 have c9:(Z.map Prod.fst).length=n:=by rw[List.length_map];exact hZ
 have d9:=hk.devs.few
 have f7:=hk.devs.sum
 rw[c9] at d9
 have e9:=Hm hk.devs
 have f1:=Tb hx hk.devs
 have e5:bmN x≤69:=by unfold bmN;omega
 have e3:=Sl.len (hP.rowN hZ)
 refine zin 46 Tryz.func142 ?_
 refine xa 2 [V0 t,V0 u,V0 v,V0 (x:Int),.slice p n c] 24 fun b1 W1 n1=>?_
 refine xlv 6 n1.blk.rp ?_
 refine xr 0 (args:=#[.agg #[V0 t,V0 u,V0 v,V0 (x:Int),.slice p n c]]) (Jk p c n t u v (x:Int) Z _ hZ (hP.below n1.below)) fun W2 d3=>?_
 refine xk 3 (show(((Xr t u v (x:Int) (Z.map Prod.fst)) != (0:Int)):Bool)=false from by rw[Ks.2 hk];rfl) ?_
 have c1:=n1.blk.below d3
 refine xb 11 4 c1 ?_
 have c8:=bln n1.below d3
 refine zl 5 46 (fun zm d8 V=>∃ (i:Nat) (p3:O0) (c3:Nat),d8=[(1,P0 b1),(2,V0 0),(3,.slice p3 i c3),(11,.slice p n c),(12,V0 (n:Int)),(13,V0 (i:Int))]∧zm=n-((i:Int)).toNat∧B3 w V∧Blk V b1 ([V0 t,V0 u,V0 v,V0 (x:Int),.slice p n c]) 24∧V.ownsRow w.heap.size 3 1 (.slice p3 i c3) i ((((Z.map Prod.fst).map fun d=>Zy 2 d.2.length).take i).map nv)∧i≤n) ⟨0,none,0,rfl,rfl,c8,c1,World.ownsRow_nil _ _ _ _,Nat.zero_le _⟩ ?_
 rintro _ _ W3 ⟨i,p3,c3,rfl,rfl,a3,a1,hl,hi⟩ J3 d7 r3
 refine xid 6 ((i:Int)<(n:Int)) (fun e0=>?_) (fun e0=>?_)
 ·have e2:=dev_few hk.devs (i:=i) (by omega)
  refine xx 6 _ n i 5 (hP.someN hZ (i:=i) (by omega)) ?_
  refine xlv 0 (Sts.rp (k:=i) (hP.below a3).row Ye zvD (by omega) (by decide)) ?_
  refine xa 0 [V0 0,V0 0,V0 0,V0 0,S0] 61 fun b5 W5 n5=>?_
  have g5:=n5.ge a3
  refine xsv 0 n5.blk [V0 ((Z.getD i zvD).1.1.1),V0 ((Z.getD i zvD).1.1.2.1),V0 ((Z.getD i zvD).1.1.2.2.1),V0 ((Z.getD i zvD).1.1.2.2.2),.slice ((Z.getD i zvD).2.1) ((Z.getD i zvD).1.2.length) ((Z.getD i zvD).2.2)] fun W6 u6 k6=>?_
  refine xb 5 4 k6 ?_
  refine xr 1 (args:=#[V0 2,V0 (↑((Z.getD i zvD).1.2.length):Int)]) (Qj 2 ((Z.getD i zvD).1.2.length) _ (by decide) (by decide) (by omega)) fun W7 d2=>?_
  refine xbs 0 1 [V0 (↑(Zy 2 ((Z.getD i zvD).1.2.length)):Int)] 3 fun b8 W8 n8=>?_
  have c0:=bln (u6.below (bln a3 n5.below) g5) d2
  have g8:=n8.ge c0
  have a8:=Zb (u6.own2 (Zb hl n5.below) n5.blk (by decide)) d2
  have d5:=Zr a8 n8
  have b6:=Zb a8 n8.below
  have b7:=bln c0 n8.below
  refine xbi 0 fun _ _ _ _ zJ zQ zo zx zy zK=>Zn (m:=1) (news:=[V0 (↑(Zy 2 ((Z.getD i zvD).1.2.length)):Int)]) (V0 0) 1 8 (i+1) (((((Z.map Prod.fst).map fun d=>Zy 2 d.2.length).take (i+1)).map nv)) zo Tryz.underlying33 (by kernel_rfl) rfl (by decide) zx b6 zy (n8.blk.sl 1 1 (by decide) (by decide)) rfl (by simp[Value.oneCell']) (by unfold maxLen;omega) (by omega) b7.size (by rfl) (by exact devs_row (by omega)) fun f8 f4 W9 o9 d6 e1=>?_
  refine zK _ _ ?_
  refine xwm 5 ((i:Int)+1) (↑(i+1):Int) ?_
  have d0:=b7.trans e1
  have a2:=(((u6.blkT (a1.below n5.below) n5.blk (by decide)).below d2).below n8.below).grown d6 b6 (by decide)
  exact ze 2 (d7 _ _ _ ⟨i+1,_,_,rfl,rfl,d0,a2,o9,by omega⟩ (by omega))
 obtain rfl:n=i:=by omega
 rw[List.take_of_length_le (by rw[Zbv,List.length_map];omega)] at hl
 refine xb 8 3 a1 ?_
 refine xr 0 (args:=#[V0 (x:Int)]) (Bc x _ hx) fun d1 a4=>?_
 refine xd 4 .z ?_
 have a0:=(a1.below a4).below (Za d1)
 refine xb (.e [0] 1) 4 a0 ?_
 refine xb (.e [2,4] 5) 4 a0 ?_
 refine xlv (.e [6,8,10,11] 13) a0.rp ?_
 refine xr (.o [] 3) (args:=#[V0 3,V0 (n:Int)]) (Qj 3 n _ (by decide) (by decide) (by omega)) fun e6 b0=>?_
 refine xr (.o [] 7) (args:=#[V0 1,V0 (n:Int)]) (Qj 1 n _ (by decide) (by decide) (by omega)) fun f0 a9=>?_
 have b9:=Zb (Zb (Zb (Zb hl a4) (Za d1)) b0) a9
 refine xr (.o [] 9) (args:=#[.slice p3 n c3]) (Zck p3 n c3 ((Z.map Prod.fst).map fun d=>Zy 2 d.2.length) _ (by rw[Zbv,List.length_map];exact hZ) (Zf b9) (by have:=Tv (L:=(Z.map Prod.fst));unfold Qu at this;omega)) fun e4 a7=>?_
 refine xr (.o [] 12) (args:=#[V0 4,V0 (↑(bmN x):Int)]) (Qj 4 (bmN x) _ (by decide) (by decide) (by omega)) fun f6 a5=>?_
 have b3:=bln (bln (bln (bln (bln (bln a3 a4) (Za d1)) b0) a9) a7) a5
 refine xr (.o [] 14) (args:=#[.agg #[V0 t,V0 u,V0 v,V0 (x:Int),.slice p n c]]) (Zfl p c n x t u v Z _ hZ (hP.below b3) hk) fun e7 a6=>?_
 refine xr (.o [] 15) (args:=#[V0 5,V0 (↑(Za2 x (Z.map Prod.fst)):Int)]) (Qj 5 (Za2 x (Z.map Prod.fst)) _ (by decide) (by decide) (by omega)) fun f2 b2=>?_
 refine xbs (.o [] 16) 7 [V0 1,V0 (↑(Zy 3 n):Int),V0 (↑(Zy 1 n):Int),V0 (↑(Qu (Z.map Prod.fst)):Int),V0 (↑(bmN x):Int),V0 (↑(Zy 4 (bmN x)):Int),V0 (↑(Zy 5 (Za2 x (Z.map Prod.fst))):Int)] 3 fun d4 e8 c2=>?_
 have b4:=bln (bln b3 a6) b2
 have f3:=c2.ge b4
 have c4:=Zb (Zb (Zb (Zb b9 a7) a5) a6) b2
 have c7:=Zr c4 c2
 refine xr (.o [] 17) (args:=#[.slice (S1 d4) 7 7]) (by have q:=size_sum7 d4 (Zy 3 n) (Zy 1 n) (Qu (Z.map Prod.fst)) (bmN x) (Zy 4 (bmN x)) (Zy 5 (Za2 x (Z.map Prod.fst))) _ c2.blk (by rw[Zhh c9];omega);rw[Zhh c9] at q;exact q) fun f5 c5=>?_
 have c6:=bln (bln b4 c2.below) c5
 exact xe (.r [18] 3) (V0 (↑(Wi x (Z.map Prod.fst)):Int)) ⟨rfl,c6⟩
theorem need_quo(bs:Nat)(h:bs≤100000):IntKind.i64.wrap (Int.tdiv (↑(bs+1):Int) 959)=(↑((bs+1)/959):Int):=by
 rw[show(959:Int)=((959:Nat):Int) from rfl,←Int.ofNat_tdiv]
 exact IntWalk.i64_in _ (by omega)
theorem Ie(p:O0)(c n x:Nat)(t u v:Int)(Z:List Zv)(w:World)(hZ:Z.length=n)(hP:DevsR w p c Z)(hk:PoolOk t u v (x:Int) (Z.map Prod.fst)) :
 C0 72 #[.agg #[V0 t,V0 u,V0 v,V0 (x:Int),.slice p n c]] w (Ret (V0 (↑(Kk x (Z.map Prod.fst)):Int)) w):=by
 have hx:x≤65536:=by have:=hk.hdata;omega
 have a2:=Tb hx hk.devs
 obtain⟨bs,a0⟩:∃ y,Wi x (Z.map Prod.fst)=y:=⟨_,rfl⟩
 rw[a0] at a2
 refine zin 17 Tryz.func72 ?_
 refine xa 2 [V0 t,V0 u,V0 v,V0 (x:Int),.slice p n c] 24 fun b1 W1 n1=>?_
 refine xlv 5 n1.blk.rp ?_
 refine xr 0 (args:=#[.agg #[V0 t,V0 u,V0 v,V0 (x:Int),.slice p n c]]) (by have q:=Zf9 p c n x t u v Z _ hZ (hP.below n1.below) hk;rw[a0] at q;exact q) fun W2 a3=>?_
 refine xk 10 (show(((bs:Int)==(0:Int)):Bool)=false from beq_false_of_ne (by omega)) ?_
 refine xwm 5 ((bs:Int)+2) (↑(bs+2):Int) ?_
 refine xwm 7 ((↑(bs+2):Int)-1) (↑((bs+2)-1):Int) ?_
 refine xq 0 (congrArg V0 (show(IntKind.i64.wrap (Int.tdiv (↑((bs+2)-1):Int) 959):Int)=(↑((bs+1)/959):Int) from need_quo bs a2.2)) ?_
 refine xwm 0 ((↑(bs+2):Int)+(↑((bs+1)/959):Int)) (↑((bs+2)+((bs+1)/959)):Int) ?_
 refine xwm 0 ((↑((bs+2)+((bs+1)/959)):Int)+1) (↑(((bs+2)+((bs+1)/959))+1):Int) ?_
 have a1:=bln n1.below a3
 exact xe 4 (V0 (↑(((bs+2)+((bs+1)/959))+1):Int)) ⟨by unfold Kk Uo;rw[a0];exact congrArg (fun z:Int=>Ending.returned (Value.int .i64 z)) (by omega),a1⟩
theorem Yr(k:Nat):Builtin.zeroCells #[Value.int .u8 0] k=(List.replicate k (Value.int .u8 0)).toArray:=by
 apply Array.ext'
 unfold Builtin.zeroCells
 simp only[List.size_toArray,List.length_cons,List.length_nil,Nat.zero_add,Nat.mul_one,Nat.mod_one]
 rw[Array.toList_map]
 simp only[Array.toList_range]
 apply List.ext_getElem?
 intro i
 simp only[List.getElem?_map,List.getElem?_replicate]
 by_cases h:i<k
 ·rw[List.getElem?_range h,if_pos h];rfl
 ·rw[if_neg h,List.getElem?_eq_none (by simpa using h)];rfl
theorem Wj{P:Program}(w:World)(t tn ty e:TypeId)(i:TypeInfo)(kq kn:IntKind)(ht:P.underlying t=some (.slice e))(htn:P.underlying tn=some (.int kn))(hi:P.info? e=some i)(hz:i.zero=some (.int .u8 0))(hs1:i.size=1)(hb1:i.bytes=1)
 (g n c k:Nat) (cur:Array Value) (hg:w.heap[g]? = some (.cells cur e (0,0))) (h0:0<k) (hroom:n+k≤c) (hfit:n+k≤cur.size) (hk:n+k≤1000000) :
 (Builtin.append_ #[t,tn] ty #[.slice (S1 g) n c,.int kq k]).run P w =
 .ok (.slice (S1 g) (n+k) c) (w.setRow g (cur.toList.take n++List.replicate k (Value.int .u8 0)++cur.toList.drop (n+k)).toArray):=by
 have a3:k≠0:=by omega
 have hw:IntKind.i64.wrap (k:Int)=k:=by rw[IntKind.wrap_i64];omega
 have a0:¬ (281474976710656<(k:Int)):=by omega
 have a1:¬ ((k:Int)<0):=by omega
 have a2:=run_storeCells_at P g n e (List.replicate k (.int .u8 0)) 0 cur w hg (by simpa using hfit) (by intro u hu;rw[(List.mem_replicate.1 hu).2];rfl)
 simp only[Nat.add_zero,List.length_replicate] at a2
 simp[Builtin.append_,run_underlying ht,run_underlying htn,sizeOf,typeInfo,zeroValue,hi,hz,hs1,hb1,asInt,asIntOf,hw,a1,a0,a3,hroom,Addr.add_lit,show(Value.int IntKind.u8 0).cells=#[Value.int .u8 0] from rfl,Yr,a2]
theorem Sw{P:Program}{a:Act}{w:World}{K:Act→World→Prop}{Q:Exit→Act→World→Prop}{o:Oper}{s x:Operand}{t tn e:TypeId}{kq kn:IntKind}{base:Nat}{v:Value}{n:Nat}{xs:List Value}(k n':Nat)(xs':List Value)
 (ho:o.op=.call { callee:=.builtin .append,args:=#[s,x],argTypes:=#[t,tn] }) (ht:P.underlying t=some (.slice e)) (htn:P.underlying tn=some (.int kn)) (hi:(P.info? e).map (fun i=>(i.zero,i.size,i.bytes))=some (some (.int .u8 0),1,1))
 (hs:a.eval s=v) (hown:w.ownsRow base e 1 v n xs) (hx:a.eval x=.int kq (k:Int)) (h0:0<k) (hk:n+k≤1000000) (hbase:base≤w.heap.size) (hn:n+k=n') (hxs:xs++List.replicate k (.int .u8 0)=xs')
 (h:∀ b c' W,W.ownsRow base e 1 (.slice b n' c') n' xs'→w.grownBy W v.ownBlock→Below base w W→K (a.put o.dst (.slice b n' c')) W):o.wp P a w K Q:=by
 subst hn hxs
 cases hq:P.info? e with
 | none=>simp[hq] at hi
 | some i =>
  simp only[hq,Option.map_some,Option.some.injEq,Prod.mk.injEq] at hi
  obtain⟨hz,h1,h2⟩:=hi
  have a5:xs.length=n:=by simpa using hown.1
  have a0:(xs++List.replicate k (Value.int .u8 0)).length=(n+k)*1:=by simp[a5]
  rcases hown.2 with ⟨rfl,rfl⟩|⟨g,c,a1,rfl,b0,hg,b4,a2,b3,a4⟩
  ·obtain rfl:xs=[]:=List.eq_nil_of_length_eq_zero a5
   have hr:=Lib.run_append_nil_zeros (P:=P) w t tn o.type e i (.int .u8 0) kq kn ht htn hq hz k h0 (by omega) (by omega) (by rw[h2];omega)
   unfold Oper.wp execOp
   simp only[ho,resolve,invoke,builtin,Sem.run_bind,Sem.run_pure,Result.andThen_ok,List.map_toArray,List.map_cons,List.map_nil,hs,hx,hr]
   have a6:=grownCap_ge w k 0 e
   have a2:grownCap w k 0 e≤maxLen:=grownCap_le_maxLen w k 0 e (by unfold maxLen;omega)
   simp only[Nat.zero_add,List.nil_append] at h
   refine h _ _ _ ⟨by simp,.inr ⟨w.heap.size,_,_,rfl,hbase,heap_alloc_new w.drew _,a6,a2,?_,?_⟩⟩ ⟨rfl,rfl,rfl,by simp,fun k hk _=>by first|exact heap_alloc_old w.drew _ k hk|exact heap_alloc_old w.drew _ hk⟩ (((Za w).trans (show Below w.drew.heap.size w.drew _ from blx w.drew _)).mono hbase)
   ·rw[show(Value.int .u8 0).cells=#[Value.int .u8 0] from rfl,Yr,Yr];simp;omega
   ·rw[show(Value.int .u8 0).cells=#[Value.int .u8 0] from rfl,Yr,Yr]
    simp only[Array.toList_append,Nat.mul_one]
    exact List.take_left' (by simp)
  by_cases hroom:n+k≤c
  ·have b2:a1.size=c:=by simpa using b3
   have hr:=Wj (P:=P) w t tn o.type e i kq kn ht htn hq hz h1 h2 g n c k a1 hg h0 hroom (by omega) hk
   unfold Oper.wp execOp
   simp only[ho,resolve,invoke,builtin,Sem.run_bind,Sem.run_pure,Result.andThen_ok,List.map_toArray,List.map_cons,List.map_nil,hs,hx,hr]
   have a8:w.grownBy (w.setRow g (a1.toList.take n++List.replicate k (Value.int .u8 0)++a1.toList.drop (n+k)).toArray) (Value.ownBlock (.slice (S1 g) n c)):=⟨rfl,rfl,rfl,by simp,fun k' _ a9=>setRow_other w g k' _ (fun e=>a9 (by simp[Value.ownBlock,e]))⟩
   refine h _ _ _ ⟨a0,.inr ⟨g,c,_,rfl,b0,setRow_heap w g a1 _ e _ hg,hroom,a2,?_,?_⟩⟩ a8 (Vu a8 hown (Nat.le_refl _) hbase)
   ·simp only[List.size_toArray,List.length_append,List.length_take,List.length_drop,Array.length_toList,List.length_replicate]
    omega
   ·have b1:a1.toList.take n=xs:=by simpa using a4
    rw[b1,←a0]
    exact List.take_left
  ·have a3:∀ j u,xs[j]? = some u→w.cell? ((⟨g,0,none⟩:Addr).add j)=some u:=hown.cells (g:=g) rfl
   have a7:=run_firstCells_some (P:=P) (w:=w.drew) i.size n ⟨g,0,none⟩ n c xs (by rw[a5,h1,Nat.mul_one]) (by simpa using a3)
   have hr:=Lib.run_append_grow_zeros (P:=P) w t tn o.type e i (.int .u8 0) kq kn ht htn hq hz (S1 g) n c xs a7 k h0 (by omega) (by omega) (by omega) (by rw[h2];omega) (by rw[h2];exact growslice_fits (by omega) (by omega))
   unfold Oper.wp execOp
   simp only[ho,resolve,invoke,builtin,Sem.run_bind,Sem.run_pure,Result.andThen_ok,List.map_toArray,List.map_cons,List.map_nil,hs,hx,hr]
   have a6:=grownCap_ge w (n+k) c e
   have a2:grownCap w (n+k) c e≤maxLen:=grownCap_le_maxLen w (n+k) c e (by unfold maxLen;omega)
   refine h _ _ _ ⟨a0,.inr ⟨w.heap.size,_,_,rfl,hbase,heap_alloc_new w.drew _,a6,a2,?_,?_⟩⟩ ⟨rfl,rfl,rfl,by simp,fun k hk _=>by first|exact heap_alloc_old w.drew _ k hk|exact heap_alloc_old w.drew _ hk⟩ (((Za w).trans (show Below w.drew.heap.size w.drew _ from blx w.drew _)).mono hbase)
   ·rw[show(Value.int .u8 0).cells=#[Value.int .u8 0] from rfl,Yr,Yr];simp[a5];omega
   ·rw[show(Value.int .u8 0).cells=#[Value.int .u8 0] from rfl,Yr,Yr]
    simp only[Array.toList_append,List.append_assoc]
    rw[←List.append_assoc,←a0]
    exact List.take_left
def Vv(kind no:Int)(li:Bl):Int:=if Qg kind no then(if li.length≤244 then 0 else 2) else 1
theorem Zfk{kind no:Int}(h:Qg kind no=true):1≤kind∧kind≤4∧0≤no∧no<14400:=of_decide_eq_true h
def SealP(kind no:Int)(li:Bl)(w:World)(e:Ending)(w':World):Prop :=
 (Vv kind no li≠0∧e=.returned (.tuple #[S0,V0 (Vv kind no li)])∧B3 w w') ∨
 (Vv kind no li=0∧Qg kind no=true∧li.length≤244∧∃ p c,e=.returned (.tuple #[.slice p 256 c,V0 0])∧B3 w w'∧w'.ownsRow w.heap.size 5 1 (.slice p 256 c) 256 ((Xw kind no li).map bv))
theorem step1_xor(a b:Nat):Gf (a ^^^ b)=Gf a ^^^ Gf b:=by
 have e:∀ r,Gf r=(r/2) ^^^ (if r%2=1 then 2197175160 else 0):=fun r=>by unfold Gf;split<;>simp
 rw[e,e,e,Nat.xor_div_two]
 have hp:=Nat.xor_mod_two_eq_one (a:=a) (b:=b)
 by_cases h1:a%2=1<;>by_cases h2:b%2=1
 ·rw[if_neg (by rw[hp];simp[h1,h2]),if_pos h1,if_pos h2,Nat.xor_zero]
  rw[show a/2 ^^^ 2197175160 ^^^ (b/2 ^^^ 2197175160)=a/2 ^^^ b/2 ^^^ (2197175160 ^^^ 2197175160) by ac_rfl];simp
 ·rw[if_pos (by rw[hp];simp[h1,h2]),if_pos h1,if_neg h2,Nat.xor_zero];ac_rfl
 ·rw[if_pos (by rw[hp];simp[h1,h2]),if_neg h1,if_pos h2,Nat.xor_zero];ac_rfl
 ·rw[if_neg (by rw[hp];simp[h1,h2]),if_neg h1,if_neg h2,Nat.xor_zero,Nat.xor_zero,Nat.xor_zero]
theorem stepN_xor(n a b:Nat):Xu n (a ^^^ b)=Xu n a ^^^ Xu n b:=by
 induction n with
 | zero=>rfl
 | succ n ih=>rw[Xu,ih,step1_xor];rfl
theorem Ww(q:Nat):Gf (2*q)=q:=by unfold Gf;rw[if_neg (by omega)];omega
theorem stepN_16(q:Nat):Xu 4 (16*q)=q:=by
 show Gf (Gf (Gf (Gf (16*q))))=q
 rw[show 16*q=2*(2*(2*(2*q))) by omega,Ww,Ww,Ww,Ww]
theorem split16(r:Nat):r=(16*(r/16)) ^^^ (r%16):=by
 apply Nat.eq_of_testBit_eq
 intro i
 rw[Nat.testBit_xor,show 16*(r/16)=2 ^ 4*(r/2 ^ 4) from rfl,Nat.testBit_two_pow_mul,Nat.testBit_div_two_pow,show r%16=r%2 ^ 4 from rfl,Nat.testBit_mod_two_pow]
 by_cases h:4≤i
 ·rw[show i-4+4=i by omega,show decide (i≥4)=true from decide_eq_true h,show decide (i<4)=false from decide_eq_false (by omega)];simp
 ·rw[show decide (i≥4)=false from decide_eq_false h,show decide (i<4)=true from decide_eq_true (by omega)];simp
theorem Zg0(r:Nat):Xu 4 r=(r/16) ^^^ Pz (r%16):=by
 conv=>lhs;rw[split16 r]
 rw[stepN_xor,stepN_16];rfl
theorem Zgp(m n r:Nat):Xu (m+n) r=Xu m (Xu n r):=by
 induction m with
 | zero=>simp[Xu]
 | succ m ih=>rw[Nat.succ_add,Xu,ih];rfl
theorem Zgu(r:Nat)(x:UInt8):Tq r x=Xu 8 (r ^^^ x.toNat):=by
 show _=Xu (4+4) (r ^^^ x.toNat)
 rw[Zgp,Zg0,Zg0];rfl
theorem step1_odd{r:Nat}(h:r%2=1):Gf r=(r/2) ^^^ 2197175160:=if_pos h
theorem step1_ev{r:Nat}(h:¬ r%2=1):Gf r=r/2:=if_neg h
theorem ref_Step(r:Nat)(w:World)(hr:r<4294967296) :
 C0 299 #[V0 (r:Int)] w (Ret (V0 (Xu 8 r:Int)) w):=by
 refine zin 18 Tryz.func299 ?_
 have hB:=Below.refl w.heap.size w
 refine zl 12 18 (fun zm a3 V=>∃ (j:Nat),a3=[(0,V0 (↑(Xu j r):Int)),(2,V0 0),(3,V0 (j:Int))]∧zm=8-((j:Int)).toNat∧B3 w V∧j≤8) ⟨0,rfl,rfl,hB,by decide⟩ ?_
 rintro _ _ W1 ⟨j,rfl,rfl,a0,hj⟩ J1 a1 r1
 refine xid 7 ((j:Int)<(8:Int)) (fun a4=>?_) (fun a4=>?_)
 ·refine xq 7 (congrArg V0 (show(Int.tmod (↑(Xu j r):Int) 2:Int)=(↑((Xu j r)%2):Int) from Mg (Xu j r) 2)) ?_
  refine xq 7 (congrArg V0 (show(IntKind.i64.wrap (Int.tdiv (↑(Xu j r):Int) 2):Int)=(↑((Xu j r)/2):Int) from Qx (Xu j r) 2 (by have:=Cj (j:=j) hr;omega) (by decide))) ?_
  refine xie 8 (↑((Xu j r)%2):Int) (1:Int) (fun a2=>?_) (fun a2=>?_)
  ·refine xq 2 (congrArg V0 (show(IntKind.i64.wrap (↑(BitVec.ofInt 64 (↑((Xu j r)/2):Int) ^^^ BitVec.ofInt 64 (2197175160:Int)).toNat:Int):Int)=(↑(((Xu j r)/2) ^^^ 2197175160):Int) from Ff (a:=(Xu j r)/2) (b:=2197175160) (by have:=Cj (j:=j) hr;omega) (by decide))) ?_
   refine xwm 6 ((j:Int)+1) (↑(j+1):Int) ?_
   refine xv1 2 0 (show(V0 (↑(((Xu j r)/2) ^^^ 2197175160):Int):Value)=V0 (↑(Xu (j+1) r):Int) from by rw[show Xu (j+1) r=Gf (Xu j r) from rfl,step1_odd (by omega)]) ?_
   exact ze 0 (a1 _ _ _ ⟨j+1,rfl,rfl,a0,by omega⟩ (by omega))
  refine xwm 5 ((j:Int)+1) (↑(j+1):Int) ?_
  refine xv1 2 0 (show(V0 (↑((Xu j r)/2):Int):Value)=V0 (↑(Xu (j+1) r):Int) from by rw[show Xu (j+1) r=Gf (Xu j r) from rfl,step1_ev (by omega)]) ?_
  exact ze 0 (a1 _ _ _ ⟨j+1,rfl,rfl,a0,by omega⟩ (by omega))
 refine xe 12 (V0 (↑(Xu j r):Int)) ?_
 obtain rfl:j=8:=by omega
 exact⟨rfl,a0⟩
theorem ref_More(a:O0)(c:Nat)(l:Bl)(w:World)(hl:l.length≤100000000)(h:Bys w (.slice a l.length c) l) :
 C0 277 #[V0 0,.slice a l.length c] w (Ret (V0 (Ke l:Int)) w):=by
 refine zin 31 Tryz.func277 ?_
 have hB:=Below.refl w.heap.size w
 refine zl 33 31 (fun zm a2 V=>∃ (i:Nat),a2=[(1,.slice a l.length c),(4,V0 0),(5,V0 (↑(Xa 4294967295 (l.take i)):Int)),(6,V0 (i:Int))]∧zm=l.length-((i:Int)).toNat∧B3 w V∧i≤l.length) ⟨0,rfl,rfl,hB,Nat.zero_le _⟩ ?_
 rintro _ _ W1 ⟨i,rfl,rfl,a0,hi⟩ J1 a4 r1
 refine xid 9 ((i:Int)<(l.length:Int)) (fun a5=>?_) (fun a5=>?_)
 ·refine xx 8 _ l.length i 1 (Bys.elem h (k:=i) (by omega)).1 ?_
  refine xl 0 ((Bys.elem (h.below a0) (k:=i) (by omega)).2) ?_
  refine xq 0 (congrArg V0 (show(IntKind.i64.wrap (↑(l.getD i 0).toNat:Int):Int)=(↑(l.getD i 0).toNat:Int) from Mz (by have:=(l.getD i 0).toNat_lt;omega))) ?_
  refine xq 0 (congrArg V0 (show(IntKind.i64.wrap (↑(BitVec.ofInt 64 (↑(Xa 4294967295 (l.take i)):Int) ^^^ BitVec.ofInt 64 (↑(l.getD i 0).toNat:Int)).toNat:Int):Int)=(↑((Xa 4294967295 (l.take i)) ^^^ (l.getD i 0).toNat):Int) from Ff (Ga (by decide) _) (Zfu _))) ?_
  refine xr 0 (args:=#[V0 (↑((Xa 4294967295 (l.take i)) ^^^ (l.getD i 0).toNat):Int)]) (ref_Step ((Xa 4294967295 (l.take i)) ^^^ (l.getD i 0).toNat) _ (Nat.xor_lt_two_pow (n:=32) (Ga (by decide) _) (Zfu _))) fun W3 a3=>?_
  refine xwm 6 ((i:Int)+1) (↑(i+1):Int) ?_
  refine xv1 2 5 (show(V0 (↑(Xu 8 ((Xa 4294967295 (l.take i)) ^^^ (l.getD i 0).toNat)):Int):Value)=V0 (↑(Xa 4294967295 (l.take (i+1))):Int) from by rw[Dl (by omega),Zgu]) ?_
  have a1:=bln a0 a3
  exact ze 0 (a4 _ _ _ ⟨i+1,rfl,rfl,a1,by omega⟩ (by omega))
 refine xq 8 (congrArg V0 (show(IntKind.i64.wrap (↑(BitVec.ofInt 64 (↑(Xa 4294967295 (l.take i)):Int) ^^^ BitVec.ofInt 64 (4294967295:Int)).toNat:Int):Int)=(↑((Xa 4294967295 (l.take i)) ^^^ 4294967295):Int) from Ff (b:=4294967295) (Ga (by decide) _) (by decide))) ?_
 refine xe 4 (V0 (↑((Xa 4294967295 (l.take i)) ^^^ 4294967295):Int)) ?_
 obtain rfl:i=l.length:=by omega
 rw[List.take_length]
 exact⟨rfl,a0⟩
theorem ref_Sum(a:O0)(c:Nat)(l:Bl)(w:World)(hl:l.length≤100000000)(h:Bys w (.slice a l.length c) l) :
 C0 249 #[.slice a l.length c] w (Ret (V0 (Ke l:Int)) w):=by
 refine zin 5 Tryz.func249 ?_
 refine xr 8 (args:=#[V0 0,.slice a l.length c]) (ref_More a c l _ hl (h.below (B4 w))) fun W1 a0=>?_
 exact xe 4 (V0 (↑(Ke l):Int)) ⟨rfl,a0⟩
theorem ref_SumN(a:O0)(n c:Nat)(l:Bl)(w:World)(hn:l.length=n)(hl:n≤100000000)(h:Bys w (.slice a n c) l):C0 249 #[.slice a n c] w (Ret (V0 (Ke l:Int)) w):=by
 subst hn;exact ref_Sum a c l w hl h
theorem leB_snoc(n:Int)(w:Nat):leB n (w+1)=leB n w++[Zp n w]:=by simp[leB,List.range_succ]
theorem Zha(m i:Nat):IntKind.u8.wrap (((m/256 ^ i)%256:Nat):Int)=((Zp (m:Int) i).toNat:Int):=by
 rw[Nv (Int.natCast_nonneg _)]
 unfold Zp
 simp only[Int.toNat_natCast,Nat.pow_zero,Nat.div_one]
 congr 2
 apply UInt8.toNat_inj.1
 simp[UInt8.toNat_ofNat']
theorem ref_Bytes(m w:Nat)(W:World)(hm:m<9223372036854775808)(hw:w≤8) :
 C0 91 #[V0 (m:Int),V0 (w:Int)] W (Qn (fun W' r=>∃ p c,r=.slice p w c∧W'.ownsRow W.heap.size 5 1 (.slice p w c) w ((leB (m:Int) w).map bv)) W):=by
 refine zin 21 Tryz.func91 ?_
 refine xv1 17 0 (show(V0 (m:Int):Value)=V0 ((m/256 ^ 0:Nat):Int) from by rw[Nat.pow_zero,Nat.div_one]) ?_
 have hB:=Below.refl W.heap.size W
 refine zl 0 21 (fun zm a6 V=>∃ (i:Nat) (p:O0) (c:Nat),a6=[(0,V0 (↑(m/256 ^ i):Int)),(1,V0 (w:Int)),(4,S0),(5,.slice p i c),(6,V0 (i:Int))]∧zm=w-((i:Int)).toNat∧B3 W V∧V.ownsRow W.heap.size 5 1 (.slice p i c) i ((leB (m:Int) i).map bv)∧i≤w) ⟨0,_,_,rfl,rfl,hB,World.ownsRow_nil _ _ _ _,Nat.zero_le _⟩ ?_
 rintro _ _ W1 ⟨i,p,c,rfl,rfl,a0,ho,hi⟩ J1 a7 r1
 refine xid 8 ((i:Int)<(w:Int)) (fun a8=>?_) (fun a8=>?_)
 ·refine xq 8 (congrArg V0 (show(Int.tmod (↑(m/256 ^ i):Int) 256:Int)=(↑((m/256 ^ i)%256):Int) from Mg (m/256 ^ i) 256)) ?_
  refine xq 0 (congrArg (Value.int .u8) (show(IntKind.u8.wrap (↑((m/256 ^ i)%256):Int):Int)=(↑(Zp (m:Int) i).toNat:Int) from Zha m i)) ?_
  refine xbs 0 1 [.int .u8 (↑(Zp (m:Int) i).toNat:Int)] 5 fun b3 W3 n3=>?_
  have g3:=n3.ge a0
  have a4:=Zr ho n3
  have a3:=Zb ho n3.below
  have a1:=bln a0 n3.below
  refine xbi 0 fun _ _ _ _ zJ zQ zo zx zy zK=>Zn (m:=1) (news:=[.int .u8 (↑(Zp (m:Int) i).toNat:Int)]) (.int .u8 0) 1 1 (i+1) ((leB (m:Int) (i+1)).map bv) zo Tryz.underlying40 (by kernel_rfl) rfl (by decide) zx a3 zy (n3.blk.sl 1 1 (by decide) (by decide)) rfl (by simp[Value.oneCell']) (by unfold maxLen;omega) (by omega) a1.size (by rfl) (by rw[leB_snoc,List.map_append];rfl) fun b1 b0 W4 o4 a9 a5=>?_
  refine zK _ _ ?_
  refine xq 5 (congrArg V0 (show(IntKind.i64.wrap (Int.tdiv (↑(m/256 ^ i):Int) 256):Int)=(↑((m/256 ^ i)/256):Int) from Qx (m/256 ^ i) 256 (Nat.lt_of_le_of_lt (Nat.div_le_self _ _) hm) (by decide))) ?_
  refine xwm 6 ((i:Int)+1) (↑(i+1):Int) ?_
  refine xv1 2 0 (show(V0 (↑((m/256 ^ i)/256):Int):Value)=V0 (↑(m/256 ^ (i+1)):Int) from by rw[Nat.pow_succ,←Nat.div_div_eq_div_mul]) ?_
  have a2:=a1.trans a5
  exact ze 0 (a7 _ _ _ ⟨i+1,_,_,rfl,rfl,a2,o4,by omega⟩ (by omega))
 refine xe 12 (.slice p i c) ?_
 obtain rfl:i=w:=by omega
 exact⟨_,rfl,a0,_,_,rfl,ho⟩
theorem Xe(n:Int)(w:Nat)(wi:Int)(W:World)(h0:0≤n)(hn:n<9223372036854775808)(hwi:wi=(w:Int))(hw:w≤8):C0 91 #[V0 n,V0 wi] W (Qn (fun W' r=>∃ p c,r=.slice p w c∧W'.ownsRow W.heap.size 5 1 (.slice p w c) w ((leB n w).map bv)) W):=by
 subst hwi
 obtain⟨m,rfl⟩:∃ m:Nat,n=m:=⟨n.toNat,by omega⟩
 exact ref_Bytes m w W (by omega) hw
theorem ref_Salt1(w:World) :
 C0 250 #[V0 1] w (Ret (V0 (Ho 1:Int)) w):=by
 refine zin 15 Tryz.func250 ?_
 refine xbs 7 5 [V0 0,V0 160774,V0 121107,V0 240779,V0 160478] 3 fun b1 W1 n1=>?_
 refine xb 22 1 n1.blk ?_
 exact xe 4 (V0 160774) ⟨rfl,n1.below⟩
theorem Zg8(w:World) :
 C0 250 #[V0 2] w (Ret (V0 (Ho 2:Int)) w):=by
 refine zin 15 Tryz.func250 ?_
 refine xbs 7 5 [V0 0,V0 160774,V0 121107,V0 240779,V0 160478] 3 fun b1 W1 n1=>?_
 refine xb 22 2 n1.blk ?_
 exact xe 4 (V0 121107) ⟨rfl,n1.below⟩
theorem ref_Salt3(w:World) :
 C0 250 #[V0 3] w (Ret (V0 (Ho 3:Int)) w):=by
 refine zin 15 Tryz.func250 ?_
 refine xbs 7 5 [V0 0,V0 160774,V0 121107,V0 240779,V0 160478] 3 fun b1 W1 n1=>?_
 refine xb 22 3 n1.blk ?_
 exact xe 4 (V0 240779) ⟨rfl,n1.below⟩
theorem Zg2(w:World) :
 C0 250 #[V0 4] w (Ret (V0 (Ho 4:Int)) w):=by
 refine zin 15 Tryz.func250 ?_
 refine xbs 7 5 [V0 0,V0 160774,V0 121107,V0 240779,V0 160478] 3 fun b1 W1 n1=>?_
 refine xb 22 4 n1.blk ?_
 exact xe 4 (V0 160478) ⟨rfl,n1.below⟩
theorem ref_Salt(kind:Int)(h1:1≤kind)(h2:kind≤4)(w:World):C0 250 #[V0 kind] w (Ret (V0 (Ho kind:Int)) w):=by
 obtain rfl|rfl|rfl|rfl:kind=1∨kind=2∨kind=3∨kind=4:=by omega
 ·exact ref_Salt1 w
 ·exact Zg8 w
 ·exact ref_Salt3 w
 ·exact Zg2 w
theorem Dw(kind no:Int)(w:World) :
 C0 248 #[V0 kind,V0 no] w (Ret (.bool (Qg kind no)) w):=by
 refine zin 19 Tryz.func248 ?_
 refine xg 10 [6,7] (decide (kind≥(1:Int))) (fun a0=>?_) (fun a0=>?_)
 ·have a0:=of_decide_eq_true a0
  refine xg 4 [9,10,11] (decide (kind≤(4:Int))) (fun a2=>?_) (fun a2=>?_)
  ·have a2:=of_decide_eq_true a2
   refine xg 4 [13,14,15] (decide (no≥(0:Int))) (fun a1=>?_) (fun a1=>?_)
   ·have a1:=of_decide_eq_true a1
    exact xe 7 (.bool (decide (no<(14400:Int)))) ⟨by rw[show Qg kind no=decide (no<14400) from decide_eq_decide.2 ⟨fun h=>h.2.2.2,fun h=>⟨by omega,by omega,by omega,h⟩⟩],(B4 w)⟩
   have a1:=of_decide_eq_false a1
   exact xe 7 (.bool false) ⟨by rw[show Qg kind no=false from decide_eq_false (by omega)],(B4 w)⟩
  have a2:=of_decide_eq_false a2
  exact xe 11 (.bool false) ⟨by rw[show Qg kind no=false from decide_eq_false (by omega)],(B4 w)⟩
 have a0:=of_decide_eq_false a0
 exact xe 15 (.bool false) ⟨by rw[show Qg kind no=false from decide_eq_false (by omega)],(B4 w)⟩
theorem Ak(kind no:Int)(a:O0)(c:Nat)(li:Bl)(w:World)(hk:Qg kind no=false) :
 C0 187 #[V0 kind,V0 no,.slice a li.length c] w (Ret (.tuple #[S0,V0 1]) w):=by
 refine zin 42 Tryz.func187 ?_
 refine xr 11 (args:=#[V0 kind,V0 no]) (Dw kind no _) fun W1 a0=>?_
 refine xk 3 (show(!(Qg kind no):Bool)=true from by rw[hk];rfl) ?_
 exact xe 8 (.tuple #[S0,V0 1]) ⟨rfl,a0⟩
theorem Te(kind no:Int)(a:O0)(c:Nat)(li:Bl)(w:World)(hk:Qg kind no=true)(hl:244<li.length) :
 C0 187 #[V0 kind,V0 no,.slice a li.length c] w (Ret (.tuple #[S0,V0 2]) w):=by
 refine zin 42 Tryz.func187 ?_
 refine xr 11 (args:=#[V0 kind,V0 no]) (Dw kind no _) fun W1 a0=>?_
 refine xk 3 (show(!(Qg kind no):Bool)=false from by rw[hk];rfl) ?_
 refine xk 10 (show(decide ((li.length:Int)>(244:Int)):Bool)=true from decide_eq_true (by omega)) ?_
 exact xe 8 (.tuple #[S0,V0 2]) ⟨rfl,a0⟩
def Lb(kind no:Int)(li:Bl):Bl:=leB no 4++leB kind 2++[0,0]++li
theorem Zbc(kind no:Int)(li:Bl):(Lb kind no li).length=8+li.length:=by simp[Lb,Zh];omega
def Vk(kind no:Int)(li:Bl)(m:Nat):Bl:=Lb kind no li++List.replicate (m-(8+li.length)) 0
theorem Pg{kind no:Int}{li:Bl}{m:Nat}(h:8+li.length≤m):(Vk kind no li m).length=m:=by simp[Vk,Zbc];omega
theorem Zae(kind no:Int)(li:Bl):Vk kind no li (8+li.length)=Lb kind no li:=by simp[Vk]
theorem Za3{kind no:Int}{li:Bl}{m:Nat}(h:8+li.length≤m):Vk kind no li (m+1)=Vk kind no li m++[0]:=by
 unfold Vk
 rw[show m+1-(8+li.length)=(m-(8+li.length))+1 by omega,List.replicate_succ',←List.append_assoc]
theorem Ae{kind no:Int}{li:Bl}(hl:li.length≤244):Vk kind no li 252=(Hv kind no li).take 252:=by
 have l1:=Js hl
 have l2:=Hc (no:=no) hl
 have l3:=Vh (kind:=kind) (no:=no) hl
 apply Sq
 ·rw[Pg (by omega)];simp[l3]
 ·intro j hj
  rw[Pg (by omega)] at hj
  have e:((Hv kind no li).take 252).getD j 0=(Hv kind no li).getD j 0:=by simp only[List.getD];rw[List.getElem?_take,if_pos hj]
  rw[e]
  unfold Hv
  rw[Hn (by rw[Zh];omega),Zh]
  unfold Vk Lb
  simp only[List.getD,List.append_assoc]
  rw[List.getElem?_append,Zh]
  by_cases h1:j<4
  ·rw[if_pos h1,if_neg (by omega)]
   have:=Hn (l:=Fk li) (k:=0) (x:=leB no 4) (by rw[Zh];omega) j
   rw[if_pos (by rw[Zh];omega)] at this
   unfold Sr
   simp only[List.getD] at this
   rw[this,Nat.sub_zero]
  ·rw[if_neg h1,List.getElem?_append,Zh]
   by_cases h2:j<6
   ·rw[if_pos (by omega),if_pos (by omega)]
   ·rw[if_neg (by omega),if_neg (by omega)]
    have:=Hn (l:=Fk li) (k:=0) (x:=leB no 4) (by rw[Zh];omega) j
    rw[if_neg (by rw[Zh];omega)] at this
    have h3:=Hn (l:=List.replicate 256 (0:UInt8)) (k:=8) (x:=li) (by rw[List.length_replicate];omega) j
    unfold Sr
    simp only[List.getD] at this h3
    rw[this]
    unfold Fk
    rw[h3,List.getElem?_append]
    have hz:=Dy 256 j
    simp only[List.getD] at hz
    by_cases h4:j<8
    ·rw[if_pos (by simp;omega),if_neg (by omega),hz]
     obtain rfl|rfl:j=6∨j=7:=by omega
     ·rfl
     ·rfl
    ·rw[if_neg (by simp;omega),List.getElem?_append]
     simp only[List.length_cons,List.length_nil]
     by_cases h5:j<8+li.length
     ·rw[if_pos (by omega),if_pos (by omega),show j-4-2-(0+1+1)=j-8 by omega]
     ·rw[if_neg (by omega),if_neg (by omega),hz]
      have:=Dy (252-(8+li.length)) (j-4-2-(0+1+1)-li.length)
      simpa only[List.getD] using this
theorem Zfp{kind no:Int}{li:Bl}(hl:li.length≤244):Vk kind no li 252++leB ((Ke (Vk kind no li 252) ^^^ Ho kind:Nat):Int) 4=Xw kind no li:=by
 have l3:=Vh (kind:=kind) (no:=no) hl
 rw[Ae hl]
 unfold Xw Vc Ik
 rw[Zh,List.drop_eq_nil_of_le (by omega),List.append_nil]
theorem Zbg(kind no:Int)(a:O0)(c:Nat)(li:Bl)(w:World)(h1:1≤kind)(h2:kind≤4)(h0:0≤no)(hno:no<14400)(hk:Qg kind no=true)(hl:li.length≤244)(h:Bys w (.slice a li.length c) li) :
 C0 187 #[V0 kind,V0 no,.slice a li.length c] w (Qn (fun w' r=>∃ p c,r=.tuple #[.slice p 256 c,V0 0]∧w'.ownsRow w.heap.size 5 1 (.slice p 256 c) 256 ((Xw kind no li).map bv)) w):=by
 refine zin 42 Tryz.func187 ?_
 refine xr 11 (args:=#[V0 kind,V0 no]) (Dw kind no _) fun W1 c0=>?_
 refine xk 3 (show(!(Qg kind no):Bool)=false from by rw[hk];rfl) ?_
 refine xk 10 (show(decide ((li.length:Int)>(244:Int)):Bool)=false from decide_eq_false (by omega)) ?_
 refine xc 5 (args:=#[V0 no,V0 4]) (Xe no 4 4 _ (h0) (by omega) rfl (by decide)) ?_
 rintro _ W2 ⟨_,rfl,c8,f0,g1,rfl,d9⟩
 refine xc 7 (args:=#[V0 kind,V0 2]) (Xe kind 2 2 _ (by omega) (by omega) rfl (by decide)) ?_
 rintro _ W3 ⟨_,rfl,d0,f7,g5,rfl,d6⟩
 have e7:=(bln c0 c8).size
 have a6:=Zb (Ze d9 c0.size) d0
 have a7:=Ze d6 e7
 have hB:=bln (bln c0 c8) d0
 refine xbi 0 fun _ _ _ _ zJ zQ zo zx zy zK=>Zn (m:=2) (news:=(leB kind 2).map bv) (.int .u8 0) 1 1 (6) ((leB no 4++leB kind 2).map bv) zo Tryz.underlying40 (by kernel_rfl) rfl (by decide) zx a6 zy (Zf a7) (by rw[List.length_map,Zh]) (Xs _) (by unfold maxLen;omega) (by omega) hB.size (by rfl) (by rw[List.map_append]) fun p4 c4 W4 o4 g6 d4=>?_
 refine zK _ _ ?_
 refine xbs 6 2 [.int .u8 0,.int .u8 0] 5 fun b5 W5 n5=>?_
 have d1:=Zr o4 n5
 have b8:=Zb o4 n5.below
 have a8:=bln (hB.trans d4) n5.below
 refine xbi 0 fun _ _ _ _ zJ zQ zo zx zy zK=>Zn (m:=2) (news:=[.int .u8 0,.int .u8 0]) (.int .u8 0) 1 1 (8) ((leB no 4++leB kind 2++[0,0]).map bv) zo Tryz.underlying40 (by kernel_rfl) rfl (by decide) zx b8 zy (n5.blk.sl 2 2 (by decide) (by decide)) rfl (by simp[Value.oneCell']) (by unfold maxLen;omega) (by omega) a8.size (by rfl) (by rw[List.map_append (l₂:=[0,0])];rfl) fun p6 c6 W6 o6 e9 d3=>?_
 refine zK _ _ ?_
 have a3:=a8.trans d3
 refine xbi 7 fun _ _ _ _ zJ zQ zo zx zy zK=>Zn (m:=li.length) (news:=li.map bv) (.int .u8 0) 1 1 (8+li.length) ((Vk kind no li (8+li.length)).map bv) zo Tryz.underlying40 (by kernel_rfl) rfl (by decide) zx o6 zy (h.below a3) (by simp) (Xs _) (by unfold maxLen;omega) (by omega) a3.size (by rfl) (by rw[Zae,Lb,List.map_append (l₂:=li)]) fun p7 c7 W7 o7 f1 e6=>?_
 refine zK _ _ ?_
 have c2:=a3.trans e6
 refine zl 5 42 (fun zm e3 V=>∃ (m:Nat) (p:O0) (c5:Nat),e3=[(0,V0 kind),(6,S0),(7,V0 0),(8,.slice p m c5)]∧zm=252-m∧B3 w V∧V.ownsRow w.heap.size 5 1 (.slice p m c5) m ((Vk kind no li m).map bv)∧8+li.length≤m∧m≤252) ⟨_,_,_,rfl,rfl,c2,o7,Nat.le_refl _,by omega⟩ ?_
 rintro _ _ W8 ⟨m,p,c5,rfl,rfl,a2,hm,c9,f3⟩ J8 e8 r8
 refine xid 8 ((m:Int)<(252:Int)) (fun d5=>?_) (fun d5=>?_)
 ·refine xbs 5 1 [.int .u8 0] 5 fun f8 g2 b1=>?_
  have b4:=Zr hm b1
  have c3:=Zb hm b1.below
  have b0:=bln a2 b1.below
  refine xbi 0 fun _ _ _ _ zJ zQ zo zx zy zK=>Zn (m:=1) (news:=[.int .u8 0]) (.int .u8 0) 1 1 (m+1) ((Vk kind no li (m+1)).map bv) zo Tryz.underlying40 (by kernel_rfl) rfl (by decide) zx c3 zy (b1.blk.sl 1 1 (by decide) (by decide)) rfl (by simp[Value.oneCell']) (by unfold maxLen;omega) (by omega) b0.size (by rfl) (by rw[Za3 (by omega),List.map_append];rfl) fun f5 g3 f4 e2 e0 b9=>?_
  refine zK _ _ ?_
  have c1:=b0.trans b9
  exact ze 3 (e8 _ _ _ ⟨m+1,_,_,rfl,rfl,c1,e2,by omega,by omega⟩ (by omega))
 have e1:m=252:=by omega
 refine xr 9 (args:=#[.slice p m c5]) (ref_SumN p m c5 (Vk kind no li m) _ (Pg c9) (by omega) (Xp (Zf hm) (Pg c9))) fun g0 a1=>?_
 refine xr 1 (args:=#[V0 kind]) (ref_Salt kind h1 h2 _) fun f2 a0=>?_
 refine xq 0 (congrArg V0 (show(IntKind.i64.wrap (↑(BitVec.ofInt 64 (↑(Ke (Vk kind no li m)):Int) ^^^ BitVec.ofInt 64 (↑(Ho kind):Int)).toNat:Int):Int)=(↑(Ke (Vk kind no li m) ^^^ Ho kind):Int) from Ff (Wd _) (Cx _))) ?_
 refine xc 0 (args:=#[V0 (↑(Ke (Vk kind no li m) ^^^ Ho kind):Int),V0 4]) (Xe ((Ke (Vk kind no li m) ^^^ Ho kind:Nat):Int) 4 4 _ (Int.natCast_nonneg _) (by have:=Nat.xor_lt_two_pow (n:=32) (Wd (Vk kind no li m)) (Cx kind);omega) rfl (by decide)) ?_
 rintro _ g7 ⟨_,rfl,a4,g8,f9,rfl,d2⟩
 have b7:=(bln (bln a2 a1) a0).size
 have b3:=Zb (Zb (Zb hm a1) a0) a4
 have a5:=Ze d2 b7
 have a9:=bln (bln (bln a2 a1) a0) a4
 refine xbi 0 fun _ _ _ _ zJ zQ zo zx zy zK=>Zn (m:=4) (news:=(leB ((Ke (Vk kind no li m) ^^^ Ho kind:Nat):Int) 4).map bv) (.int .u8 0) 1 1 (256) ((Xw kind no li).map bv) zo Tryz.underlying40 (by kernel_rfl) rfl (by decide) zx b3 zy (Zf a5) (by rw[List.length_map,Zh]) (Xs _) (by unfold maxLen;omega) (by omega) a9.size (by omega) (by rw[e1,←Zfp hl,List.map_append]) fun d7 e4 f6 d8 e5 b2=>?_
 refine zK _ _ ?_
 have b6:=a9.trans b2
 exact xe 5 (.tuple #[.slice d7 256 e4,V0 0]) ⟨_,rfl,b6,_,_,rfl,d8⟩
theorem Zce(kind no:Int)(a:O0)(c:Nat)(li:Bl)(w:World)(h:Bys w (.slice a li.length c) li) :
 C0 187 #[V0 kind,V0 no,.slice a li.length c] w (SealP kind no li w):=by
 cases hk:Qg kind no with
 | false =>
  refine(Ak kind no a c li w hk).mono ?_
  rintro e W ⟨rfl,hb⟩
  have he:Vv kind no li=1:=by simp[Vv,hk]
  exact .inl ⟨by rw[he];decide,by rw[he],hb⟩
 | true =>
  by_cases hl:li.length≤244
  ·obtain⟨h1,h2,h3,h4⟩:=Zfk hk
   refine(Zbg kind no a c li w h1 h2 h3 h4 hk hl h).mono ?_
   rintro e W ⟨_,rfl,hb,p,c2,rfl,ho⟩
   exact .inr ⟨by simp[Vv,hk,hl],hk,hl,p,c2,rfl,hb,ho⟩
  ·refine(Te kind no a c li w hk (by omega)).mono ?_
   rintro e W ⟨rfl,hb⟩
   have he:Vv kind no li=2:=by simp[Vv,hk,hl]
   exact .inl ⟨by rw[he];decide,by rw[he],hb⟩
end Go.Proofs.YtegcamkgeacjfaaGreatDoor
namespace Go.Proofs.YtegcamkgeacjfaaGreatDoor
set_option maxHeartbeats 8000000
set_option maxRecDepth 100000
open Go.RowKit Go.Extern.Stop Go.Stop Go.Extern
set_option linter.unusedVariables false
def FltV(w:World)(v:Value)(l:List Int)(c:Int):Prop:=∃ s,v=.agg #[s,V0 c]∧Ints w s l
theorem FltV.below{w w':World}{v:Value}{l:List Int}{c:Int}(h:FltV w v l c)(hb:B3 w w'):FltV w' v l c:=by
 obtain⟨s,rfl,hs⟩:=h
 exact⟨s,rfl,hs.below hb⟩
theorem Zcm{w:World}{B:Nat}{s:Value}{c:Int}{t:TypeId}(h:Blk w B [s,V0 c] t)(hs:∃ a n m,s=.slice a n m){tmps:Array Value}(e:tmps.getD 2 undef=P0 B) :
 (results Tryz.f11 tmps).run Tryz.prog w=.ok (.agg #[s,V0 c]) w:=by
 obtain⟨a,n,m,rfl⟩:=hs
 have c0:=h.cell (i:=0) rfl
 have c1:=h.cell (i:=1) rfl
 have e':tmps[2]?.getD undef=P0 B:=by simpa using e
 simp[results,Tryz.results11,go_sem,c0,c1,e']
theorem Zfv(t:Option Int)(l:List (Option Int))(v:Value)(w:World)(hlen:l.length≤1000000)(hg:Zhi w)(hv:Gw w l t v) :
 C0 11 #[v] w (Qn (fun w' r=>FltV w' r (Vo l) (Br l t)) w):=by
 have hB:=blx w (.cells #[S0,V0 0] 35)
 have k0:=Blk.new w [S0,V0 0] 35
 rcases hv.nil_or with ⟨hz,rfl⟩|⟨hz,ty,x,rfl⟩
 ·obtain⟨rfl,rfl⟩:=Fy hz
  go_enter Tryz.func11,Tryz.ntmps11
  go_wp2_with fail
  exact bodyPost_ret (Zcm k0 ⟨_,_,_,rfl⟩ rfl) rfl ⟨_,rfl,hB,_,rfl,.inl ⟨_,_,rfl,rfl,rfl⟩⟩
 ·go_enter Tryz.func11,Tryz.ntmps11
  have a4:=hv.below hB
  go_wp2_with fail
  refine(Ac t l _ _ hlen a4).mono ?_
  rintro e w1 ⟨r,rfl,a2,h1⟩
  have a0:=bln hB a2
  go_wp2_with fail
  refine(Zfq t l _ w1 (hg.below a0) (hv.below a0)).mono ?_
  rintro e w2 ⟨rfl,a1⟩
  have k2:=(k0.below a2).below a1
  obtain⟨a,m,rfl⟩:=(Zf h1).slice
  have d0:=k2.cell (i:=0) rfl
  have d1:=k2.cell (i:=1) rfl
  have f0:=k2.frozen 0
  have f1:=k2.frozen 1
  have a5:=bln a0 a1
  have a3:B3 w ((w2.setCell ⟨w.heap.size,0,none⟩ (.slice a (Vo l).length m)).setCell ⟨w.heap.size,1,none⟩ (V0 (Br l t))):=(a5.setCell (Nat.le_refl _) _).setCell (Nat.le_refl _) _
  have h3:=ownsRow_setCell_below (ownsRow_setCell_below (Zb h1 a1) (a:=⟨w.heap.size,0,none⟩) (by simp) (.slice a (Vo l).length m)) (a:=⟨w.heap.size,1,none⟩) (by simp) (V0 (Br l t))
  go_wp2_with fail
  exact bodyPost_ret (Zcm ((k2.set 0 _).set 1 _) ⟨_,_,_,rfl⟩ rfl) rfl ⟨_,rfl,a3,_,rfl,Zf h3⟩
theorem Wr(l:List Int)(c:Int)(v1 v2:Value)(w:World)(h1:FltV w v1 l c)(h2:FltV w v2 l c) :
 C0 10 #[v1,v2] w (Ret (.bool true) w):=by
 obtain⟨s1,rfl,k1⟩:=h1
 obtain⟨s2,rfl,k2⟩:=h2
 obtain⟨a1,p1,rfl⟩:=k1.slice
 obtain⟨a2,p2,rfl⟩:=k2.slice
 have a5:=k1.len
 have hB:B3 w ((w.alloc (.cells #[.slice a1 l.length p1,V0 c] 35)).alloc (.cells #[.slice a2 l.length p2,V0 c] 35)):=bln (blx _ _) (blx _ _)
 have b1:Blk ((w.alloc (.cells #[.slice a1 l.length p1,V0 c] 35)).alloc (.cells #[.slice a2 l.length p2,V0 c] 35)) w.heap.size [.slice a1 l.length p1,V0 c] 35:=(Blk.new _ _ _).alloc _
 have b2:=Blk.new (w.alloc (.cells #[.slice a1 l.length p1,V0 c] 35)) [.slice a2 l.length p2,V0 c] 35
 simp only[World.size_alloc] at b2
 go_enter Tryz.func10,Tryz.ntmps10
 go_wp2_with fail
 obtain⟨W,hW⟩:∃ W,(w.alloc (.cells #[.slice a1 l.length p1,V0 c] 35)).alloc (.cells #[.slice a2 l.length p2,V0 c] 35)=W:=⟨_,rfl⟩
 change Blk ((w.alloc (.cells #[.slice a1 l.length p1,V0 c] 35)).alloc (.cells #[.slice a2 l.length p2,V0 c] 35)) _ _ _ at b2
 rw[hW] at hB b1 b2 ⊢
 have k1:=k1.below hB
 have k2:=k2.below hB
 clear hW
 go_loopw [5] (fun i wr=>∃ k:Nat,k≤l.length∧i=V0 k∧B3 W wr) (fun i _=>l.length-(intOf i).toNat)
 case atStart=>exact⟨0,by omega,rfl,Below.refl _ _⟩
 case round =>
  obtain⟨k,hk,rfl,a0⟩:=hrel
  have q1:=b1.below a0
  have q2:=b2.below a0
  have c1:=q1.cell (i:=0) rfl
  have c2:=q2.cell (i:=0) rfl
  by_cases hlt:k<l.length
  ·rcases Sl.at (k1.below a0) with h0|⟨g1,o1,rfl,a3⟩
   ·rw[List.map_eq_nil_iff] at h0;subst h0;exact absurd hlt (by simp)
   rcases Sl.at (k2.below a0) with h0|⟨g2,o2,rfl,a4⟩
   ·rw[List.map_eq_nil_iff] at h0;subst h0;exact absurd hlt (by simp)
   have e1:∀ z:Ext wr,z.val.cell? ⟨w.heap.size,0,none⟩=some (.slice (some ⟨g1,o1,none⟩) l.length p1):=fun z=>z.get c1
   have e2:∀ z:Ext wr,z.val.cell? ⟨w.heap.size+1,0,none⟩=some (.slice (some ⟨g2,o2,none⟩) l.length p2):=fun z=>z.get c2
   have e3:∀ z:Ext wr,z.val.cell? ⟨g1,o1+k,none⟩=some (V0 l[k]):=fun z=>z.get (a3 k _ (by simp[hlt]))
   have e4:∀ z:Ext wr,z.val.cell? ⟨g2,o2+k,none⟩=some (V0 l[k]):=fun z=>z.get (a4 k _ (by simp[hlt]))
   have i1:(0:Int)≤(k:Int):=by omega
   have i2:(k:Int)<(l.length:Int):=by omega
   clear a3 a4
   go_wp2_with fail
   refine Sd (by kernel_rfl) (by kernel_rfl) ?_
   repeat (go_big_quiet_step (fail))
   refine wpQuiet_nil ?_
   intro wx
   go_wp2_with fail
   exact⟨⟨k+1,by omega,by go_num,bln a0 wx.below⟩,by simp[intOf];omega⟩
  ·go_wp2_with fail
   go_ret
   exact⟨rfl,bln hB a0⟩
end Go.Proofs.YtegcamkgeacjfaaGreatDoor
