/- (*Alloc).Image, and build.right at entries that are right. -/
import Derived.Laws.StructEq
import Derived.Test.YtgphgaehfdfjjaaGreatMg2
namespace Go.Proofs.YtgphgaehfdfjjaaGreat
set_option maxHeartbeats 8000000
set_option maxRecDepth 100000
open Go.RowKit Go.Extern.Stop Go.Stop Go.Extern
set_option linter.unusedVariables false
attribute [local irreducible] wpList wpAnyH Code.wp Oper.wp Go
theorem Qz(ba b:Nat)(v x:Value)(w:World)(hk:Blk w ba [v,x,P0 b] 72) :
 C0 15 #[P0 ba] w (Ret (P0 b) w):=by
 refine zin 9 Tryz.func15 ?_
 refine xr 9 (args:=#[P0 ba]) (Gx ba b _ _ _ hk) fun W1 a1=>?_
 have a0:=hk.below a1
 refine xb 10 2 a0 ?_
 exact xe 4 (P0 b) ⟨rfl,a1⟩
abbrev Ent:=Int×Bl×Int
def Zi:Ent:=(0,[],0)
def Va(x:Ent):List Value:=[V0 x.1,.string ⟨x.2.1.toArray⟩,V0 x.2.2]
theorem Xn(x:Ent):(Va x).length=3:=rfl
def Zf3(l:List Ent):Nat→Int
 | 0=>-1
 | i+1=>(l.getD i Zi).1
structure EntsOk(v:Nat)(l:List Ent):Prop where
 hk:∀ i,i<l.length→0≤(l.getD i Zi).1∧(l.getD i Zi).1≤281474976710655
 hs:∀ j,j+1<l.length→(l.getD j Zi).1<(l.getD (j+1) Zi).1
 hw:∀ i,i<l.length→(l.getD i Zi).2.1.length=v
theorem EntsOk.last{v:Nat}{l:List Ent}(E:EntsOk v l){i:Nat}(h:i<l.length):Zf3 l i<(l.getD i Zi).1:=by
 cases i with
 | zero=>have:=(E.hk 0 h).1;simp only[Zf3];omega
 | succ j=>exact E.hs j h
theorem Kd(x:Nat):x≤(Je x).sum:=by
 by_cases h:x≤1
 ·rw[Vq h];simp
 ·rw[Yw h];simp
theorem Fm(t:Int)(n:Nat):1≤Ka t n:=by
 have h1:=Kd (ovN n (Qq t true));have h2:=Xy n (Qq t true);unfold Ka Jk;omega
theorem Ik(t:Int)(v:Nat)(a:O0)(c:Nat)(l:List Ent)(w:World)(ht1:1≤t)(ht2:t≤5)(hv:Ht t true=v)(E:EntsOk v l)(h:Sts Va w (.slice a l.length c) l)(hn:l.length≤32768) :
 C0 27 #[V0 t,.slice a l.length c] w (Ret (.bool true) w):=by
 have a7:=Bf t true
 rw[hv] at a7
 have a8:=Fm t l.length
 refine zin 45 Tryz.func27 ?_
 refine xr 8 (args:=#[V0 t,.bool true]) (Wq t true v hv ht1 ht2 _) fun W1 a6=>?_
 refine xgk 9 [12,13] (show(((v:Int)==(0:Int)):Bool)=false from by simp;omega) ?_
 refine xr 3 (args:=#[V0 t,V0 (l.length:Int)]) (Ei t l.length _ ht1 ht2 hn) fun W3 a2=>?_
 refine xk 4 (show(((↑(Ka t l.length):Int)==(0:Int)):Bool)=false from by simp;omega) ?_
 have hB:=bln a6 a2
 refine zl 16 45 (fun zm a4 V=>∃ (i:Nat),a4=[(5,V0 (v:Int)),(6,V0 (Zf3 l i)),(20,.slice a l.length c),(21,V0 (l.length:Int)),(22,V0 (i:Int))]∧zm=l.length-((i:Int)).toNat∧B0 w V∧i≤l.length) ⟨0,rfl,rfl,hB,Nat.zero_le _⟩ ?_
 rintro _ _ W4 ⟨i,rfl,rfl,a0,hi⟩ J4 a5 r4
 refine xid 6 ((i:Int)<(l.length:Int)) (fun a3=>?_) (fun a3=>?_)
 ·refine xx 6 _ l.length i 3 (Sts.cell h Xn Zi (k:=i) (i:=0) (by omega) rfl).1 ?_
  refine xlv 0 (Sts.rp (k:=i) (h.below a0) Xn Zi (by omega) (by decide)) ?_
  refine xa 0 [V0 0,.string ⟨#[]⟩,V0 0] 45 fun b6 W6 n6=>?_
  have g6:=n6.ge a0
  refine xsv 0 n6.blk [V0 ((l.getD i Zi).1),.string ⟨((l.getD i Zi).2.1).toArray⟩,V0 ((l.getD i Zi).2.2)] fun W7 u7 k7=>?_
  refine xb 6 0 k7 ?_
  refine xgk 3 [29,30] (show(decide ((l.getD i Zi).1≤(Zf3 l i)):Bool)=false from decide_eq_false (by have:=E.last (i:=i) (by omega);omega)) ?_
  refine xb 1 0 k7 ?_
  refine xgk 3 [33,34,35] (show(decide ((l.getD i Zi).1>(281474976710655:Int)):Bool)=false from decide_eq_false (by have:=(E.hk i (by omega)).2;omega)) ?_
  refine xb 1 1 k7 ?_
  refine xk 6 (show(((↑((l.getD i Zi).2.1).length:Int) != (v:Int)):Bool)=false from by rw[E.hw i (by omega)];simp) ?_
  refine xb 4 0 k7 ?_
  refine xw 5 ((i:Int)+1) ?_
  have a1:=u7.below (bln a0 n6.below) g6
  exact ze 2 (a5 _ _ _ ⟨i+1,rfl,rfl,a1,by omega⟩ (by omega))
 exact xe 11 (.bool true) ⟨rfl,a0⟩
theorem Lq(p:O0)(n c:Nat)(w:World) :
 C0 114 #[.slice p n c] w (fun e w'=>∃ b,e=.returned (.func (.func 124) #[] #[P0 b])∧B0 w w'∧w.heap.size≤b∧Blk w' b [.slice p n c] 68):=by
 refine zin 4 Tryz.func114 ?_
 refine xa 2 [.slice p n c] 68 fun b1 W1 n1=>?_
 have g1:=n1.ge (B3 w)
 exact xe 10 (.func (.func 124) #[] #[P0 b1]) ⟨_,rfl,n1.below,g1,n1.blk⟩
end Go.Proofs.YtgphgaehfdfjjaaGreat
namespace Go.Proofs.YtgphgaehfdfjjaaGreat
set_option maxHeartbeats 8000000
set_option maxRecDepth 100000
open Go.RowKit Go.Extern.Stop Go.Stop Go.Extern
set_option linter.unusedVariables false
attribute [local irreducible] wpList wpAnyH Code.wp Oper.wp Go
attribute [local go_sem] Oper.semAt_some
theorem Upd.of_put(w:World)(D:Nat)(o:Obj):Upd w D (w.putObj D o):=⟨rfl,rfl,rfl,by simp[World.putObj],fun k hk=>World.putObj_heap_other hk⟩
def Dfr (D:Nat)(w:World):Prop:=w.heap[D]? = some (.deferred (some []))
theorem Dfr.below{D:Nat}{w W:World}(h:Dfr D w)(hb:B0 w W):Dfr D W:=(hb.block D (Array.getElem?_eq_some_iff.1 h).1).trans h
theorem Dfr.ne{D b:Nat}{w:World}{cs:List Value}{t:TypeId}(h:Dfr D w)(k:Blk w b cs t):b≠D:=by
 rintro rfl
 have h':w.heap[b]? = _:=h
 rw[show w.heap[b]? = _ from k] at h'
 cases h'
theorem Dfr.upd{D b:Nat}{w W:World}{cs:List Value}{t:TypeId}(h:Dfr D w)(u:Upd w b W)(k:Blk w b cs t):Dfr D W:=(u.block D fun e=>h.ne k e.symm).trans h
theorem Dfr.row{D:Nat}{w:World}{base e size n:Nat}{v:Value}{xs:List Value}(h:Dfr D w)(k:w.ownsRow base e size v n xs):∀ g,v.ownBlock=some g→g≠D:=by
 rintro g hg rfl
 rcases k.2 with ⟨rfl,_⟩|⟨g',a1,a0,rfl,_,hh,_⟩
 ·cases hg
 ·simp only[Value.ownBlock,Option.some.injEq] at hg
  subst hg
  rw[show w.heap[g']? = _ from h] at hh
  cases hh
theorem Dfr.grown{D:Nat}{w W:World}{base e size n:Nat}{v:Value}{xs:List Value}(h:Dfr D w)(hg:w.grownBy W v.ownBlock)(k:w.ownsRow base e size v n xs):Dfr D W :=
 (hg.block D (Array.getElem?_eq_some_iff.1 h).1 fun q=>h.row k D q.symm rfl).trans h
theorem Zha{P:Program}{fn:Func}{R:Ending→World→Prop}{a:Act}{w:World}{D:Nat}(hK:Dfr D w)(v:Value)(hd:a.defers=[{ target:=.collected D,args:=#[] }])(hr:(results fn a.tmps).run P (w.putObj D (.deferred none))=.ok v (w.putObj D (.deferred none)))(h:R (.returned v) (w.putObj D (.deferred none))):bodyPostM Fence.wide 4 P fn R .normal a w :=
 by
 show LeavesInM _ _ _ _ a.tmps R a.defers .returning w
 rw[hd]
 exact⟨by simp,.inl ⟨_,_,rfl,run_takeDeferred hK,_,hr,h⟩⟩
def noPan(Q:Exit→Act→World→Prop):Exit→Act→World→Prop
 | .normal,a,w=>Q .normal a w
 | .ret,a,w=>Q .ret a w
 | _,_,_=>False
theorem g_nopan{P:Program}{c:Code}{Q:Exit→Act→World→Prop}{a:Act}{w:World}(h:c.wp P (noPan Q) a w):c.wp P Q a w:=wp_mono h fun e a w q=>by cases e<;>first|exact q|exact q.elim
theorem Xc{w:World}{base size n b:Nat}{e t:TypeId}{v:Value}{xs cs:List Value}(k:w.ownsRow base e size v n xs)(q:Blk w b cs t)(hne:e≠t):∀ g,v.ownBlock=some g→g≠b:=by
 rintro g hg rfl
 rcases k.2 with ⟨rfl,_⟩|⟨g',a1,a0,rfl,_,hh,_⟩
 ·cases hg
 ·simp only[Value.ownBlock,Option.some.injEq] at hg
  subst hg
  rw[show w.heap[g']? = _ from q] at hh
  simp only[Option.some.injEq,Obj.cells.injEq] at hh
  exact hne hh.2.1.symm
theorem Nt{w W:World}(h:B0 w W):KeepsOthers w W:=⟨h.size,fun b o hb _=>(h.block b (Array.getElem?_eq_some_iff.1 hb).1).trans hb⟩
theorem Zb0{w W:World}{b:Nat}{cs:List Value}{t:TypeId}(u:Upd w b W)(k:Blk w b cs t):KeepsOthers w W:=⟨Nat.le_of_eq u.size.symm,fun d o hd ho=>(u.block d (by rintro rfl;rw[show w.heap[d]? = _ from k] at hd;cases hd;cases ho)).trans hd⟩
theorem Dfr.only_new{T:List TypeId}{a w W:World}{b:Nat}(h:Ze T a w)(hbb:BelowBut w b W)(hb:a.heap.size≤b):Ze T a W:=fun k cs t fr hk ht=>by
 have h0:=(Array.getElem?_eq_some_iff.1 hk).1
 have h1:=h k cs t fr hk ht
 rw[hbb.block k (Array.getElem?_eq_some_iff.1 h1).1 (by omega)];exact h1
theorem BelowBut.own3{w W:World}{b base size n:Nat}{e:TypeId}{v:Value}{xs:List Value}(h:BelowBut w b W)(k:w.ownsRow base e size v n xs)(hs:∀ j,v.ownBlock=some j→j≠b):W.ownsRow base e size v n xs:=by
 obtain⟨h1,h2⟩:=k
 refine⟨h1,?_⟩
 rcases h2 with h2|⟨g,a1,a0,rfl,hg,hh,r⟩
 ·exact Or.inl h2
 ·exact Or.inr ⟨g,a1,a0,rfl,hg,by rw[h.block g (Array.getElem?_eq_some_iff.1 hh).1 (hs g rfl)];exact hh,r⟩
theorem Tx{β:Type}{w:World}{b B:Nat}(hB:w.heap.size≤B):OwnFrom B (fun(_:β) W=>BelowBut w b W):=fun _ W W' a1 hs hg hr =>
 ⟨hg.os.trans hs.os,hg.tape.trans hs.tape,hg.output.trans hs.output,Nat.le_trans hs.size hg.size,fun k hk a0=>(hg.block k (Nat.lt_of_lt_of_le hk hs.size) (fun e=>by have:=(hr k e.symm).1;omega)).trans (hs.block k hk a0)⟩
theorem Vx.turn{A B:World}{row:Option Nat}{l:List (Option Int)}{c:Option Int}{v:Value}(h:Vx A l c v)(hg:A.grownBy B row)(hr:∀ r,row=some r→∃ o:Obj,A.heap[r]? = some o∧o.isCells=false):Vx B l c v:=h.kept fun _ _ k=>k.turn hg hr
def atW (way:List Int)(pre:List (Fin way.length))(bs:List Int):List Int:=(pre.map fun j=>way[qOf j]?.getD 0).reverse++bs
theorem atW_snoc(way:List Int)(pre:List (Fin way.length))(x:Fin way.length)(bs:List Int):atW way (pre++[x]) bs=(way[qOf x]?.getD 0)::atW way pre bs:=by simp[atW]
theorem atW_all(way bs:List Int):atW way (List.finRange way.length) bs=way++bs:=by
 unfold atW
 congr 1
 apply List.ext_getElem
 ·simp
 ·intro i h1 h2
  simp only[List.length_reverse,List.length_map,List.length_finRange] at h1
  rw[List.getElem_reverse,List.getElem_map]
  simp only[List.length_map,List.length_finRange,List.getElem_finRange,qOf]
  have e:way.length-1-(way.length-1-i)=i:=by omega
  simp[e,h2]
theorem Vx.one{w:World}{l:List (Option Int)}{c:Option Int}{v:Value}(h:Vx w l c v):v.oneCell'=true:=by
 rcases h.nil_or with ⟨_,rfl⟩|⟨_,t,x,rfl⟩<;>rfl
theorem Vx.iface{w:World}{l:List (Option Int)}{c:Int}{v:Value}(h:Vx w l (some c) v):∃ t x,v=.iface t x:=by
 rcases h.nil_or with ⟨q,_⟩|⟨_,q⟩
 ·simp[Ad] at q
 ·exact q
theorem Qk{b c:Int}{l:List (Option Int)}:atL b l (some c)=some b::l:=by simp[atL,Ad]
theorem Ao{v:Value}(h:v.oneCell'=true):∀ u∈[v],u.oneCell'=true:=by simpa using h
def NoteP(B bw:Nat)(c0 c1 c2 c3 c5 c6 c7 c8 c9:Value)(nf:Nat)(fs:List Value)(l:List Int)(ec:Int)(w:World)(e:Ending)(w':World):Prop :=
 ∃ u p c ty x,e=.returned u∧Below B w w'∧Ze [145,31] w w'∧Blk w' bw [c0,c1,c2,c3,.slice p (nf+1) c,c5,c6,c7,c8,c9] 145∧w'.ownsRow B 31 1 (.slice p (nf+1) c) (nf+1) (fs++[.iface ty x])∧Vx w' (l.map some) (some ec) (.iface ty x)
theorem Wn(B bw:Nat)(c0 c1 c2 c3 c5 c6 c7 c9:Value)(pf:O0)(nf cf:Nat)(fs:List Value)(pw:O0)(cw:Nat)(way bs:List Int)(ec:Int)(ty:TypeId)(ev:Value)(w:World)(hBb:B≤bw)(hBw:B≤w.heap.size)(kW:Blk w bw [c0,c1,c2,c3,.slice pf nf cf,c5,c6,c7,.slice pw way.length cw,c9] 145)(hF:w.ownsRow B 31 1 (.slice pf nf cf) nf fs)(hway:w.ownsRow B 3 1 (.slice pw way.length cw) way.length (way.map V0))(hE:Vx w (bs.map some) (some ec) (.iface ty ev))(hwl:way.length≤1000000)(hnf:nf≤1000000) :
 C0 92 #[P0 bw,.iface ty ev] w (NoteP B bw c0 c1 c2 c3 c5 c6 c7 (.slice pw way.length cw) c9 nf fs (way++bs) ec w):=by
 refine Hh Tryz.func92 rfl ?_
 refine g_fr ⟨#[P0 bw,.iface ty ev,undef,undef,undef,undef,undef,undef,undef,undef,undef,undef,undef,undef,undef,undef,undef,undef,undef,undef,undef,undef,undef,undef,undef,undef,undef,undef],[]⟩ (by kernel_rfl) ?_
 refine wp_seq ?_
 refine wp_region_lit ?_
 refine Qn (by kernel_rfl) (Tp [.iface ty ev] rfl (by kernel_rfl) ?_)
 intro b1 W1 n1
 have d1_bw:=n1.ne kW
 have g1:=n1.ge0 (Below.refl B _)
 have r1_hF:=Xa hF n1
 have hO:Ze [145,31] w _:=(Ze.of_below n1.below)
 have hB:=blB (Below.refl B w) hBw n1.below
 replace kW:=kW.below n1.below
 replace hF:=Zb hF n1.below
 replace hway:=Zb hway n1.below
 replace hE:=hE.below n1.below
 have k1:=n1.blk
 refine wpList_nil ?_
 refine wp_seq ?_
 refine wp_seq ?_
 refine wp_region_lit ?_
 refine Hj 3 [(6,P0 bw),(7,P0 bw),(8,.pointer (some ⟨bw,8,none⟩))] (by kernel_rfl) ?_
 refine Qn (by kernel_rfl) (Yk ⟨bw,8,none⟩ (.slice pw way.length cw) rfl (by kernel_rfl) (by kernel_rfl) (kW.cell (i:=8) rfl) ?_)
 have lt2_bw:=kW.lt
 have lt2_b1:=k1.lt
 have hs2:w.heap.size≤(W1).heap.size:=hB.size
 refine Qn (by kernel_rfl) (Kj (lb:=#[]) 114 #[.slice pw way.length cw] rfl (by kernel_rfl) (fun _ _=>by kernel_rfl) (by kernel_rfl) ((Lq pw way.length cw _).mono ?_))
 rintro e W2 ⟨bk2,rfl,hb2,hg2,kk2⟩
 refine⟨_,rfl,?_⟩
 replace hO:=hO.trans (Ze.of_below hb2)
 replace hB:=blB hB hBw hb2
 replace kW:=kW.below hb2
 replace k1:=k1.below hb2
 replace hF:=Zb hF hb2
 replace hway:=Zb hway hb2
 replace hE:=hE.below hb2
 have gb2:w.heap.size≤bk2:=Nat.le_trans hs2 hg2
 have nb2_bw:bk2≠bw:=by omega
 have nb2_b1:bk2≠b1:=by omega
 refine wpList_nil ?_
 refine wp_block ?_
 have hzk:=kk2.lt
 have hz3:=k1.lt
 have hst:=Zdq bk2 (fun b=>b<W2.heap.size∧b≠b1) (.slice pw way.length cw) way W2 (fun b h=>h.1) ⟨hzk,nb2_b1⟩ (by omega) (Zf hway) (fun _ b off n cap q=>by cases q;exact⟨(hway.lt b rfl).2,Xc hway k1 (by decide) b rfl⟩) (kk2.cell (i:=0) rfl)
 refine g_fr ⟨#[P0 bw,.iface ty ev,undef,P0 b1,undef,undef,P0 bw,P0 bw,.pointer (some ⟨bw,8,none⟩),.slice pw way.length cw,.func (.func 124) #[] #[P0 bk2],undef,undef,undef,undef,undef,undef,undef,undef,undef,undef,undef,undef,undef,undef,undef,undef,undef],[]⟩ (by kernel_rfl) ?_
 refine Zag (g:=.tmp 10) (gf:=124) (lb:=#[P0 bk2]) rfl (enters_of Tryz.func124 (by kernel_rfl) rfl) _ (fun b h=>h.1) hst (fun _=>rfl)
  (fun pre W=>(∃ v',Blk W b1 [v'] 31∧Vx W ((atW way pre bs).map some) (some ec) v')∧BelowBut W2 b1 W)
  (fun _ _ _=>False) ?own (fun _ _ _ _ _ h _ _=>h) ⟨⟨_,k1,hE⟩,(Below.refl _ _).but _⟩
  (fun x a' _=>a'={ tmps:=#[P0 bw,.iface ty ev,undef,P0 b1,undef,V0 (way[qOf x]?.getD 0),P0 bw,P0 bw,.pointer (some ⟨bw,8,none⟩),.slice pw way.length cw,.func (.func 124) #[] #[P0 bk2],V0 (qOf x:Int),V0 (way[qOf x]?.getD 0),undef,undef,undef,undef,undef,undef,undef,undef,undef,undef,undef,undef,undef,undef,undef],defers:=[] }) (fun _ _ _ _ _ _ h _ _=>h) ?assign ?body ?done (fun _ _ _ _ _ _ h _=>h.elim)
 case own=>exact OwnFrom.and (Own.from (fun s A B row hs hg hr=>by obtain⟨v',h1,h2⟩:=hs;exact⟨v',h1.turn hg hr,h2.turn hg hr⟩) _) (Tx (Nat.le_refl _))
 case assign =>
  rintro lr pre x W K hI hK
  unfold encB
  gi_wp2
  exact hK _ _ (KeepsFrom.refl _ _) (Keeps.refl _ _) hI rfl
 case body =>
  rintro lr pre x a' W hlr ⟨⟨v',m3,hv'⟩,hbb⟩ rfl hlt
  have mc:=m3.cell (i:=0) rfl
  gi_wp2_with (refine⟨trivial,?_⟩;gi_at_call 55;refine(CallsIn.inRound lr (callsIn_wide.2 (Ym _ _ _ _ _ hv'))).mono ?_;rintro e w2 ⟨r2,rfl,hb2,hE2⟩;obtain⟨t2,x2,rfl⟩:=hE2.iface;have m4:=m3.below hb2;have mg:=m4.frozen 0;have md:=m4.cell (i:=0) rfl)
  have hb2s:=hb2.size
  have u2:=Upd.setCell w2 b1 0 (.iface t2 x2)
  exact⟨((Nt hb2).trans (KeepsOthers.setCell _ _ _)).from _,Keeps.setCell (Keeps.of_below hb2 (fun b hb=>by have:=hbb.size;have:=hb.1;omega)) (fun hb=>hb.2 rfl) _,⟨_,m4.set 0 _,by rw[atW_snoc,List.map_cons,←Qk (c:=ec)];exact(hE2.upd u2 m4 (by decide))⟩,(hbb.next hb2).upd u2⟩
 case done =>
 rintro D xs W hD rfl ⟨⟨v',m3,hv'⟩,hbb⟩ hK0
 rw[atW_all] at hv'
 have hK:Dfr D W:=hK0;clear hK0
 refine g_nopan ?_
 refine g_fr ⟨#[P0 bw,.iface ty ev,undef,P0 b1,undef,undef,P0 bw,P0 bw,.pointer (some ⟨bw,8,none⟩),.slice pw way.length cw,.func (.func 124) #[] #[P0 bk2],undef,undef,undef,undef,undef,undef,undef,undef,undef,undef,undef,undef,undef,undef,undef,undef,undef],[{ target:=.collected D,args:=#[] }]⟩ (by kernel_rfl) ?_
 have hv1:=hv'.one
 obtain⟨ty',x',rfl⟩:=hv'.iface
 have hDB:w.heap.size≤D:=Nat.le_trans (Nat.le_trans (by have:=hz3;have:=g1;omega) (Nat.le_refl _)) hD
 replace kW:=hbb.blk kW (Ne.symm (Ne.symm d1_bw))
 replace kk2:=hbb.blk kk2 nb2_b1
 replace hF:=hbb.own3 hF r1_hF
 replace hway:=hbb.own2 hway k1 (by decide)
 have hB0:=hB
 replace hB:=hbb.below hB (Nat.le_trans hBw g1) (Nat.le_trans hBw hB0.size)
 replace hO:=Dfr.only_new hO hbb g1
 replace k1:=m3
 replace hO:=hO.trans (Ze.of_below (Za W))
 replace hB:=blB hB hBw (Za W)
 replace kW:=kW.below (Za W)
 replace k1:=k1.below (Za W)
 replace kk2:=kk2.below (Za W)
 replace hF:=Zb hF (Za W)
 replace hway:=Zb hway (Za W)
 replace hv':=hv'.below (Za W)
 replace hK:=hK.below (Za W)
 refine h_reg (Below B (W.drew)) 13 rfl #[false,false,false,false,false,false,false,false,false,false,false,false,false] rfl (by kernel_rfl) (Below.refl _ _) ?_
 intro hS3
 have hBd5:=hB
 have kd5_bw:=kW
 have kd5_b1:=k1
 have kd5_bk2:=kk2
 have hOd5:=hO
 refine Zan [0,1,2,3,4] 8 rfl #[true,true,true,true,true,false,false,false,false,false,false,false,false] [(16,P0 bw),(17,P0 bw),(18,P0 bw),(19,P0 bw),(20,.pointer (some ⟨bw,4,none⟩))] (by kernel_rfl) (fun _ _ _ _ _ h=>h) (by kernel_rfl) hS3 ?_
 refine h_two 5 6 7 rfl (by kernel_rfl) rfl rfl (by kernel_rfl) (by kernel_rfl) ?_ ?_
 ·refine Yk ⟨bw,4,none⟩ (.slice pf nf cf) rfl (by kernel_rfl) (by kernel_rfl) (kW.cell (i:=4) rfl) ?_
  have hS6:Below B (W.drew) (W.drew):=hS3
  refine⟨hS6,?_⟩
  refine Gs 6 6 rfl (by kernel_rfl) rfl (by kernel_rfl) (Yk ⟨b1,0,none⟩ (.iface ty' x') rfl (by kernel_rfl) (by kernel_rfl) (k1.cell (i:=0) rfl) ?_)
  have hS7:Below B (W.drew) (W.drew):=hS6
  refine⟨hS7,?_⟩
  refine Gs 7 5 rfl (by kernel_rfl) rfl (by kernel_rfl) (Ql 31 [.iface ty' x'] rfl (by kernel_rfl) ?_)
  intro b8 W8 n8
  have d8_bw:=n8.ne kW
  have d8_b1:=n8.ne k1
  have d8_bk2:=n8.ne kk2
  have g8:=n8.ge0 hB
  have r8_hF:=Xa hF n8
  replace hO:=hO.trans (Ze.of_below n8.below)
  replace hB:=blB hB hBw n8.below
  replace kW:=kW.below n8.below
  replace k1:=k1.below n8.below
  replace kk2:=kk2.below n8.below
  replace hF:=Zb hF n8.below
  replace hway:=Zb hway n8.below
  replace hv':=hv'.below n8.below
  replace hK:=hK.below n8.below
  have k8:=n8.blk
  have hS9:Below B (W.drew) (W8):=blB hS7 (Nat.le_trans hBw hBd5.size) n8.below
  refine⟨hS9,?_⟩
  refine Gs 8 4 rfl (by kernel_rfl) rfl (by kernel_rfl) (Xk (e:=31) (n:=nf) (xs:=fs) (m:=1) (news:=[.iface ty' x']) (.nilIface) 1 16 (nf+1) (fs++[.iface ty' x']) rfl Tryz.underlying85 (by kernel_rfl) rfl (by decide) (by kernel_rfl) hF (by kernel_rfl) (k8.sl 1 1 (by decide) (by decide)) rfl (Ao hv1) (by unfold maxLen;omega) (by omega) (Nat.le_trans hBw hB.size) (by simp) (by simp) ?_)
  intro p10 c10 W10 o10 hg10 hb10
  replace hO:=hO.trans (Ze.of_grown hg10 hF (by decide))
  replace kW:=kW.grown hg10 hF (by decide)
  replace k1:=k1.grown3 hg10 r1_hF
  replace kk2:=kk2.grown hg10 hF (by decide)
  replace hway:=Zz hway hg10 hF (by decide)
  replace hv':=hv'.grown hg10 hF (by decide)
  replace hK:=hK.grown hg10 hF
  replace hB:=hB.trans hb10
  have hS11:Below B (W.drew) (W10):=hS9.trans hb10
  refine⟨hS11,?_⟩
  refine Zan [9,10,11] 1 rfl #[true,true,true,true,true,true,true,true,true,true,true,true,false] [(25,P0 bw),(26,P0 bw),(27,.pointer (some ⟨bw,4,none⟩))] (by kernel_rfl) (fun _ _ _ _ _ h=>h) (by kernel_rfl) hS11 ?_
  refine Gs 12 0 rfl (by kernel_rfl) rfl (by kernel_rfl) (Xj (v:=.slice p10 (nf+1) c10) (b:=bw) (off:=4) rfl (by kernel_rfl) (by kernel_rfl) (by kernel_rfl) rfl kW (by first|decide|simp) ?_)
  intro W12 u12 k12
  change Blk _ _ [c0,c1,c2,c3,.slice p10 (nf+1) c10,c5,c6,c7,.slice pw way.length cw,c9] _ at k12
  replace hO:=hO.trans (Ze.of_upd u12 kW (by decide))
  replace hB:=u12.below hB hBb
  replace k1:=u12.blk k1 (Ne.symm d1_bw)
  replace kk2:=u12.blk kk2 nb2_bw
  replace hway:=u12.own2 hway kW (by decide)
  replace hv':=hv'.upd u12 kW (by decide)
  replace hK:=hK.upd u12 kW
  replace o10:=u12.own2 o10 kW (by decide)
  have hS13:Below B (W.drew) (W12):=u12.below hS11 hBb
  refine⟨hS13,?_⟩
  refine Lj _ (by kernel_rfl) ?_
  exact Zha hK (.tuple #[]) (by kernel_rfl) (by kernel_rfl) ⟨_,_,_,_,_,rfl,(Upd.of_put _ _ _).below hB (Nat.le_trans hBw hDB),Ze.upd_new hO (Upd.of_put _ _ _) hDB,(Upd.of_put _ _ _).blk k12 (hK.ne k12),(Upd.of_put _ _ _).own3 o10 (hK.row o10),hv'.kept fun _ _ q=>(Upd.of_put _ _ _).blk q (hK.ne q)⟩
 ·refine Yk ⟨b1,0,none⟩ (.iface ty' x') rfl (by kernel_rfl) (by kernel_rfl) (k1.cell (i:=0) rfl) ?_
  have hS14:Below B (W.drew) (W.drew):=hS3
  refine⟨hS14,?_⟩
  refine h_two 5 7 6 rfl (by kernel_rfl) rfl rfl (by kernel_rfl) (by kernel_rfl) ?_ ?_
  ·refine Yk ⟨bw,4,none⟩ (.slice pf nf cf) rfl (by kernel_rfl) (by kernel_rfl) (kW.cell (i:=4) rfl) ?_
   have hS15:Below B (W.drew) (W.drew):=hS14
   refine⟨hS15,?_⟩
   refine Gs 7 5 rfl (by kernel_rfl) rfl (by kernel_rfl) (Ql 31 [.iface ty' x'] rfl (by kernel_rfl) ?_)
   intro b16 W16 n16
   have d16_bw:=n16.ne kW
   have d16_b1:=n16.ne k1
   have d16_bk2:=n16.ne kk2
   have g16:=n16.ge0 hB
   have r16_hF:=Xa hF n16
   replace hO:=hO.trans (Ze.of_below n16.below)
   replace hB:=blB hB hBw n16.below
   replace kW:=kW.below n16.below
   replace k1:=k1.below n16.below
   replace kk2:=kk2.below n16.below
   replace hF:=Zb hF n16.below
   replace hway:=Zb hway n16.below
   replace hv':=hv'.below n16.below
   replace hK:=hK.below n16.below
   have k16:=n16.blk
   have hS17:Below B (W.drew) (W16):=blB hS15 (Nat.le_trans hBw hBd5.size) n16.below
   refine⟨hS17,?_⟩
   refine Gs 8 4 rfl (by kernel_rfl) rfl (by kernel_rfl) (Xk (e:=31) (n:=nf) (xs:=fs) (m:=1) (news:=[.iface ty' x']) (.nilIface) 1 16 (nf+1) (fs++[.iface ty' x']) rfl Tryz.underlying85 (by kernel_rfl) rfl (by decide) (by kernel_rfl) hF (by kernel_rfl) (k16.sl 1 1 (by decide) (by decide)) rfl (Ao hv1) (by unfold maxLen;omega) (by omega) (Nat.le_trans hBw hB.size) (by simp) (by simp) ?_)
   intro p18 c18 W18 o18 hg18 hb18
   replace hO:=hO.trans (Ze.of_grown hg18 hF (by decide))
   replace kW:=kW.grown hg18 hF (by decide)
   replace k1:=k1.grown3 hg18 r1_hF
   replace kk2:=kk2.grown hg18 hF (by decide)
   replace hway:=Zz hway hg18 hF (by decide)
   replace hv':=hv'.grown hg18 hF (by decide)
   replace hK:=hK.grown hg18 hF
   replace hB:=hB.trans hb18
   have hS19:Below B (W.drew) (W18):=hS17.trans hb18
   refine⟨hS19,?_⟩
   refine Zan [9,10,11] 1 rfl #[true,true,true,true,true,true,true,true,true,true,true,true,false] [(25,P0 bw),(26,P0 bw),(27,.pointer (some ⟨bw,4,none⟩))] (by kernel_rfl) (fun _ _ _ _ _ h=>h) (by kernel_rfl) hS19 ?_
   refine Gs 12 0 rfl (by kernel_rfl) rfl (by kernel_rfl) (Xj (v:=.slice p18 (nf+1) c18) (b:=bw) (off:=4) rfl (by kernel_rfl) (by kernel_rfl) (by kernel_rfl) rfl kW (by first|decide|simp) ?_)
   intro W20 u20 k20
   change Blk _ _ [c0,c1,c2,c3,.slice p18 (nf+1) c18,c5,c6,c7,.slice pw way.length cw,c9] _ at k20
   replace hO:=hO.trans (Ze.of_upd u20 kW (by decide))
   replace hB:=u20.below hB hBb
   replace k1:=u20.blk k1 (Ne.symm d1_bw)
   replace kk2:=u20.blk kk2 nb2_bw
   replace hway:=u20.own2 hway kW (by decide)
   replace hv':=hv'.upd u20 kW (by decide)
   replace hK:=hK.upd u20 kW
   replace o18:=u20.own2 o18 kW (by decide)
   have hS21:Below B (W.drew) (W20):=u20.below hS19 hBb
   refine⟨hS21,?_⟩
   refine Lj _ (by kernel_rfl) ?_
   exact Zha hK (.tuple #[]) (by kernel_rfl) (by kernel_rfl) ⟨_,_,_,_,_,rfl,(Upd.of_put _ _ _).below hB (Nat.le_trans hBw hDB),Ze.upd_new hO (Upd.of_put _ _ _) hDB,(Upd.of_put _ _ _).blk k20 (hK.ne k20),(Upd.of_put _ _ _).own3 o18 (hK.row o18),hv'.kept fun _ _ q=>(Upd.of_put _ _ _).blk q (hK.ne q)⟩
  ·refine Ql 31 [.iface ty' x'] rfl (by kernel_rfl) ?_
   intro b22 W22 n22
   have d22_bw:=n22.ne kW
   have d22_b1:=n22.ne k1
   have d22_bk2:=n22.ne kk2
   have g22:=n22.ge0 hB
   have r22_hF:=Xa hF n22
   replace hO:=hO.trans (Ze.of_below n22.below)
   replace hB:=blB hB hBw n22.below
   replace kW:=kW.below n22.below
   replace k1:=k1.below n22.below
   replace kk2:=kk2.below n22.below
   replace hF:=Zb hF n22.below
   replace hway:=Zb hway n22.below
   replace hv':=hv'.below n22.below
   replace hK:=hK.below n22.below
   have k22:=n22.blk
   have hS23:Below B (W.drew) (W22):=blB hS14 (Nat.le_trans hBw hBd5.size) n22.below
   refine⟨hS23,?_⟩
   refine Gs 5 5 rfl (by kernel_rfl) rfl (by kernel_rfl) (Yk ⟨bw,4,none⟩ (.slice pf nf cf) rfl (by kernel_rfl) (by kernel_rfl) (kW.cell (i:=4) rfl) ?_)
   have hS24:Below B (W.drew) (W22):=hS23
   refine⟨hS24,?_⟩
   refine Gs 8 4 rfl (by kernel_rfl) rfl (by kernel_rfl) (Xk (e:=31) (n:=nf) (xs:=fs) (m:=1) (news:=[.iface ty' x']) (.nilIface) 1 16 (nf+1) (fs++[.iface ty' x']) rfl Tryz.underlying85 (by kernel_rfl) rfl (by decide) (by kernel_rfl) hF (by kernel_rfl) (k22.sl 1 1 (by decide) (by decide)) rfl (Ao hv1) (by unfold maxLen;omega) (by omega) (Nat.le_trans hBw hB.size) (by simp) (by simp) ?_)
   intro p25 c25 W25 o25 hg25 hb25
   replace hO:=hO.trans (Ze.of_grown hg25 hF (by decide))
   replace kW:=kW.grown hg25 hF (by decide)
   replace k1:=k1.grown3 hg25 r1_hF
   replace kk2:=kk2.grown hg25 hF (by decide)
   replace hway:=Zz hway hg25 hF (by decide)
   replace hv':=hv'.grown hg25 hF (by decide)
   replace hK:=hK.grown hg25 hF
   replace hB:=hB.trans hb25
   have hS26:Below B (W.drew) (W25):=hS24.trans hb25
   refine⟨hS26,?_⟩
   refine Zan [9,10,11] 1 rfl #[true,true,true,true,true,true,true,true,true,true,true,true,false] [(25,P0 bw),(26,P0 bw),(27,.pointer (some ⟨bw,4,none⟩))] (by kernel_rfl) (fun _ _ _ _ _ h=>h) (by kernel_rfl) hS26 ?_
   refine Gs 12 0 rfl (by kernel_rfl) rfl (by kernel_rfl) (Xj (v:=.slice p25 (nf+1) c25) (b:=bw) (off:=4) rfl (by kernel_rfl) (by kernel_rfl) (by kernel_rfl) rfl kW (by first|decide|simp) ?_)
   intro W27 u27 k27
   change Blk _ _ [c0,c1,c2,c3,.slice p25 (nf+1) c25,c5,c6,c7,.slice pw way.length cw,c9] _ at k27
   replace hO:=hO.trans (Ze.of_upd u27 kW (by decide))
   replace hB:=u27.below hB hBb
   replace k1:=u27.blk k1 (Ne.symm d1_bw)
   replace kk2:=u27.blk kk2 nb2_bw
   replace hway:=u27.own2 hway kW (by decide)
   replace hv':=hv'.upd u27 kW (by decide)
   replace hK:=hK.upd u27 kW
   replace o25:=u27.own2 o25 kW (by decide)
   have hS28:Below B (W.drew) (W27):=u27.below hS26 hBb
   refine⟨hS28,?_⟩
   refine Lj _ (by kernel_rfl) ?_
   exact Zha hK (.tuple #[]) (by kernel_rfl) (by kernel_rfl) ⟨_,_,_,_,_,rfl,(Upd.of_put _ _ _).below hB (Nat.le_trans hBw hDB),Ze.upd_new hO (Upd.of_put _ _ _) hDB,(Upd.of_put _ _ _).blk k27 (hK.ne k27),(Upd.of_put _ _ _).own3 o25 (hK.row o25),hv'.kept fun _ _ q=>(Upd.of_put _ _ _).blk q (hK.ne q)⟩
end Go.Proofs.YtgphgaehfdfjjaaGreat
namespace Go.Proofs.YtgphgaehfdfjjaaGreat
set_option maxHeartbeats 8000000
set_option maxRecDepth 100000
open Go.RowKit Go.Extern.Stop Go.Stop Go.Extern
set_option linter.unusedVariables false
attribute [local irreducible] wpList wpAnyH Code.wp Oper.wp Go
def Qf(l:List Int)(x:Int):Bool:=l.any fun y=>decide (x=y)
theorem Zgp{l:List Int}{x:Int}{i:Nat}(hi:i<l.length)(h:x=l.getD i 0):Qf l x=true:=by
 unfold Qf
 rw[List.any_eq_true]
 exact⟨l[i],List.getElem_mem _,by rw[decide_eq_true_iff,h];simp[hi]⟩
theorem Zcn{l:List Int}{x:Int}(h:∀ j,j<l.length→x≠l.getD j 0):Qf l x=false:=by
 unfold Qf
 rw[List.any_eq_false]
 intro y hy
 obtain⟨j,hj,rfl⟩:=List.getElem_of_mem hy
 have:=h j hj
 simpa [hj] using this
theorem indexI(a:O0)(c:Nat)(l:List Int)(x:Int)(w:World)(h:Ints w (.slice a l.length c) l)(hln:l.length≤1000000) :
 C0 125 #[.slice a l.length c,V0 x] w (fun e w'=>(Qf l x=false∧e=.returned (V0 (-1))∧B0 w w')∨(Qf l x=true∧∃ i:Nat,e=.returned (V0 (i:Int))∧B0 w w')):=by
 refine zin 19 Tryz.func125 ?_
 have hB:=Below.refl w.heap.size w
 refine zl 14 19 (fun zm a1 V=>∃ (i:Nat),a1=[(0,.slice a l.length c),(1,V0 x),(7,V0 (l.length:Int)),(8,V0 (i:Int))]∧zm=l.length-((i:Int)).toNat∧B0 w V∧i≤l.length∧(∀ j,j<i→x≠l.getD j 0)) ⟨0,rfl,rfl,hB,Nat.zero_le _,?_⟩ ?_
 ·exact fun j hj=>absurd hj (by omega)
 rintro _ _ W1 ⟨i,rfl,rfl,a0,hi,hz⟩ J1 a4 r1
 refine xid 6 ((i:Int)<(l.length:Int)) (fun a2=>?_) (fun a2=>?_)
 ·refine xx 15 _ l.length i 1 (Ints.elem h (k:=i) (by omega)).1 ?_
  refine xl 0 ((Ints.elem (h.below a0) (k:=i) (by omega)).2) ?_
  refine xie 3 x (l.getD i 0) (fun a3=>?_) (fun a3=>?_)
  ·exact xe 12 (V0 (i:Int)) (.inr ⟨Zgp (i:=i) (by omega) (by omega),_,rfl,a0⟩)
  refine xwm 4 ((i:Int)+1) (↑(i+1):Int) ?_
  exact ze 2 (a4 _ _ _ ⟨i+1,rfl,rfl,a0,by omega,fun j hj=>(Nat.lt_or_ge j i).elim (hz j) (fun q=>by obtain rfl:j=i:=(by omega);omega)⟩ (by omega))
 exact xe 11 (V0 (-1)) (.inl ⟨Zcn (fun j hj=>hz j (by omega)),rfl,a0⟩)
theorem Zf6(a:O0)(c:Nat)(l:List Int)(x:Int)(w:World)(h:Ints w (.slice a l.length c) l)(hln:l.length≤1000000) :
 C0 115 #[.slice a l.length c,V0 x] w (Ret (.bool (Qf l x)) w):=by
 refine zin 9 Tryz.func115 ?_
 refine xc 9 (args:=#[.slice a l.length c,V0 x]) (indexI a c l x _ (h.below (B3 w)) hln) ?_
 rintro e W1 a1
 rcases a1 with ⟨hz,rfl,a0⟩|⟨hz,i0,rfl,a0⟩
 ·refine xe 5 (.bool false) ?_
  rw[hz];exact⟨rfl,a0⟩
 refine xe 5 (.bool (decide ((i0:Int)≥(0:Int)))) ?_
 rw[hz,show decide ((i0:Int)≥(0:Int))=true from decide_eq_true (by omega)];exact⟨rfl,a0⟩
end Go.Proofs.YtgphgaehfdfjjaaGreat
namespace Go.Proofs.YtgphgaehfdfjjaaGreat
set_option maxHeartbeats 8000000
set_option maxRecDepth 100000
open Go.RowKit
set_option linter.unusedVariables false
attribute [local go_sem] Oper.semAt_some
def Qc(hi:Int)(l:List Int):List (Int×Int):=(List.range l.length).map (Xi hi l)
def Jj(hi:Int)(l:List Int)(cs:List Value)(x:Fin l.length):List Value :=
 (cs.set (qOf x*2) (V0 (Xi hi l (qOf x)).1)).set (qOf x*2+1) (V0 (Xi hi l (qOf x)).2)
def outC(hi:Int)(l:List Int)(pre:List (Fin l.length)):List Value:=pre.foldl (Jj hi l) (Jv [V0 0,V0 0] l.length)
theorem Zf7(hi:Int)(l:List Int)(pre:List (Fin l.length))(x:Fin l.length):outC hi l (pre++[x])=Jj hi l (outC hi l pre) x:=by simp[outC]
theorem Ux(hi:Int)(l:List Int):∀ (pre:List (Fin l.length)) (cs:List Value),(pre.foldl (Jj hi l) cs).length=cs.length
 | [],_=>rfl
 | x::pre,cs=>by rw[List.foldl_cons,Ux hi l pre];simp[Jj]
theorem Ch(hi:Int)(l:List Int)(pre:List (Fin l.length)):(outC hi l pre).length=l.length*2:=by
 rw[outC,Ux,Ml];rfl
theorem Cr(hi:Int)(l:List Int)(q:Nat)(hq:q<l.length):∀ (pre:List (Fin l.length)) (cs:List Value),cs.length=l.length*2 →
  ((∃ x∈pre,qOf x=q)∨(cs[q*2]? = some (V0 (Xi hi l q).1)∧cs[q*2+1]? = some (V0 (Xi hi l q).2))) →
  (pre.foldl (Jj hi l) cs)[q*2]? = some (V0 (Xi hi l q).1)∧(pre.foldl (Jj hi l) cs)[q*2+1]? = some (V0 (Xi hi l q).2)
 | [],cs,hl,h=>by
  rcases h with ⟨x,hx,_⟩|h
  ·cases hx
  ·exact h
 | x::pre,cs,hl,h=>by
  rw[List.foldl_cons]
  refine Cr hi l q hq pre _ (by simp[Jj,hl]) ?_
  by_cases hx:qOf x=q
  ·subst hx
   refine .inr ⟨?_,?_⟩
   ·simp only[Jj];rw[List.getElem?_set_ne (by omega),List.getElem?_set_self (by omega)]
   ·simp only[Jj];rw[List.getElem?_set_self (by simp;omega)]
  ·rcases h with ⟨y,hy,a0⟩|h
   ·rcases List.mem_cons.1 hy with rfl|hy
    ·exact absurd a0 hx
    ·exact .inl ⟨y,hy,a0⟩
   ·refine .inr ⟨?_,?_⟩
    ·simp only[Jj];rw[List.getElem?_set_ne (by omega),List.getElem?_set_ne (by omega)];exact h.1
    ·simp only[Jj];rw[List.getElem?_set_ne (by omega),List.getElem?_set_ne (by omega)];exact h.2
theorem outC_all(hi:Int)(l:List Int):outC hi l (List.finRange l.length)=Gk (Qc hi l):=by
 have hs:(Qc hi l).length=l.length:=by simp[Qc]
 have hg:∀ q,q<l.length→(Qc hi l)[q]? = some (Xi hi l q):=fun q hq=>by simp[Qc,hq]
 apply List.ext_getElem?
 intro j
 by_cases hj:j<l.length*2
 ·have hq:j/2<l.length:=by omega
  have h:=Cr hi l (j/2) hq (List.finRange l.length) (Jv [V0 0,V0 0] l.length) (by rw[Ml];rfl)
   (.inl ⟨⟨l.length-1-j/2,by omega⟩,by simp,by simp only[qOf];omega⟩)
  by_cases h2:j%2=0
  ·have e:j=j/2*2:=by omega
   rw[e,Pw,hg _ hq];exact h.1
  ·have e:j=j/2*2+1:=by omega
   rw[e,Rv,hg _ hq];exact h.2
 ·rw[List.getElem?_eq_none (by rw[Ch];omega),List.getElem?_eq_none (by rw[Nz,hs];omega)]
def Tq(lo hi:Int)(l:List Int):List (Int×Int):=if Vh lo hi l=0 then Qc hi l else []
theorem Tryz.info148:(Tryz.prog.info? 148).map (fun i=>(i.zero,i.size,i.bytes))=some (some (.agg #[V0 0,V0 0]),2,16):=by kernel_rfl
theorem Ar(lo hi:Int)(v:Value)(l:List Int)(w:World)(hlen:l.length≤1000000)(hl:Ints w v l) :
 C0 95 #[spanV lo hi,v] w (Ky (fun w' r=>Pairs w' r (Tq lo hi l)∧(Vh lo hi l=0→∃ g,r=.slice (S1 g) l.length l.length∧w.heap.size≤g∧Blk w' g (Gk (Qc hi l)) 148)) w):=by
 obtain⟨i0,a8,b2,b5,b4⟩:=info_parts Tryz.info148
 have b8:=fun w=>Dl (P:=Tryz.prog) (t:=176) (e:=148) (i:=i0) [V0 0,V0 0] Tryz.underlying176 a8 b2 rfl b5 b4 l.length (by omega) (by omega) w
 clear a8 b2 b5 b4
 unfold spanV
 refine Hh Tryz.func95 rfl ?_
 simp only[Tryz.ntmps95,List.size_toArray,List.length_cons,List.length_nil,Nat.reduceAdd,Nat.reduceSub,Array.replicate_succ,Array.replicate_zero,List.push_toArray,List.append_toArray,List.nil_append,List.cons_append]
 go_wp2_with fail
 refine(Ln lo hi v l _ (hl.below (blx _ _))).mono ?_
 rintro e w' ⟨rfl,hb⟩
 have k0:=Blk.below (Blk.new w [V0 lo,V0 hi] 148) hb
 have hB:B0 w w':=bln (blx _ _) hb
 have a7:=hl.below hB
 have HB:l.length≠0→∀ {b b3 n a6:Nat},v=.slice (some ⟨b,b3,none⟩) n a6→b<w.heap.size:=fun h _ _ _ _ e=>hl.blk h e
 clear hb hl
 obtain⟨a,c,rfl⟩:=a7.slice
 have z0:=k0.lt
 have c4:=k0.cell (i:=0) rfl
 have d2:=k0.cell (i:=1) rfl
 by_cases hf:Vh lo hi l=0
 case neg =>
  have c0:(Vh lo hi l != 0)=true:=by simpa using hf
  have HF:=Lib.hid hf;clear hf
  go_wp2_with fail
  refine⟨_,results_tmp rfl _ _ _,?_⟩
  have e:Tq lo hi l=[]:=by simp[Tq,HF.out]
  rw[e]
  exact⟨_,rfl,hB,.inl ⟨_,_,rfl,rfl,rfl⟩,fun q=>absurd q HF.out⟩
 have c0:(Vh lo hi l != 0)=false:=by simpa using hf
 have HF:=Lib.hid hf;clear hf
 go_wp2_with fail
 refine(Zd5 lo hi a l.length c _).mono ?_
 rintro e W1 ⟨rfl,a0⟩
 have hz:w'.heap.size+4=W1.heap.size:=by rw[a0];simp
 have a5:Below w'.heap.size w' W1:=by rw[a0];exact bln (bln (bln (blx _ _) (blx _ _)) (blx _ _)) (blx _ _)
 have s1:W1.cell? ⟨w'.heap.size+1+1,1,none⟩=some (V0 hi):=by rw[a0];simp[go_sem]
 have s2:W1.cell? ⟨w'.heap.size+1+1+1,0,none⟩=some (.slice a l.length c):=by rw[a0];simp[go_sem]
 have m1:Blk W1 w'.heap.size (Jv [V0 0,V0 0] l.length) 148:=by rw[a0];exact(((Blk.new w' _ _).alloc _).alloc _).alloc _
 have m2:Blk W1 (w'.heap.size+1) [.slice (some ⟨w'.heap.size,0,none⟩) l.length l.length] 176:=by
  rw[a0];have:=((Blk.new (w'.alloc (.cells (Jv [V0 0,V0 0] l.length).toArray 148)) [.slice (some ⟨w'.heap.size,0,none⟩) l.length l.length] 176).alloc (.cells #[V0 lo,V0 hi] 148)).alloc (.cells #[.slice a l.length c] 68)
  simpa using this
 have a4:=bln hB a5
 have c2:=a7.below a5
 have b7:=Zby (w'.heap.size+1+1) (w'.heap.size+1+1+1) (fun b=>b<W1.heap.size∧b≠w'.heap.size) hi (.slice a l.length c) l W1 (fun b h=>h.1) (by omega) (by omega) (by omega) c2 ?hvp s1 s2
 case hvp=>exact fun h b b3 n' a6 e=>by have:=HB h e;have:=a4.size;exact⟨by omega,by omega⟩
 clear a0 s1 s2 b8
 go_wp2_with fail
 refine Zag (g:=.tmp 17) (gf:=131) (lb:=#[.pointer (some ⟨w'.heap.size+1+1,0,none⟩),.pointer (some ⟨w'.heap.size+1+1+1,0,none⟩)]) rfl (enters_of Tryz.func131 (by kernel_rfl) rfl) _ (fun b h=>h.1) b7 (fun _=>rfl)
  (fun a1 W=>(Blk W w'.heap.size (outC hi l a1) 148∧Blk W (w'.heap.size+1) [.slice (some ⟨w'.heap.size,0,none⟩) l.length l.length] 176)∧(B0 w W∧W1.heap.size≤W.heap.size))
  (fun _ _ _=>False) ?own (fun _ _ _ _ _ h _ _=>h) ⟨⟨m1,m2⟩,a4,Nat.le_refl _⟩
  (fun x a' W=>∃ Bx,W1.heap.size≤Bx∧Blk W Bx [V0 (Xi hi l (qOf x)).1,V0 (Xi hi l (qOf x)).2] 148 ∧
   a'={ tmps:=#[.agg #[V0 lo,V0 hi],.slice a l.length c,.pointer (some ⟨w.heap.size,0,none⟩),undef,S0,.pointer (some ⟨w'.heap.size+1,0,none⟩),V0 (qOf x:Int),P0 Bx,.agg #[V0 lo,V0 hi],.slice a l.length c,V0 (Vh lo hi l),.bool false,.slice a l.length c,V0 l.length,.slice (some ⟨w'.heap.size,0,none⟩) l.length l.length,.agg #[V0 lo,V0 hi],.slice a l.length c,.func (.func 131) #[] #[.pointer (some ⟨w'.heap.size+1+1,0,none⟩),.pointer (some ⟨w'.heap.size+1+1+1,0,none⟩)],V0 (qOf x:Int),spanV (Xi hi l (qOf x)).1 (Xi hi l (qOf x)).2,undef,undef,undef,undef,undef],defers:=[] }) ?ownax ?assign ?body ?done ?stop
 case own=>exact OwnFrom.and (Own.from (fun s A B b6 hs hg hr=>⟨hs.1.turn hg hr,hs.2.turn hg hr⟩) _) (OwnFrom.and (ownFrom_below (Nat.le_refl _) a4.size) Rl)
 case ownax=>exact fun x a'=>Own.from (fun s A B b6 hs hg hr=>by obtain⟨Bx,h1,h2,h3⟩:=hs;exact⟨Bx,h1,h2.turn hg hr,h3⟩) _
 case assign =>
  rintro lr a1 x W K ⟨⟨h1,h2⟩,a2,a3⟩ hK
  unfold encE
  gi_wp2
  exact hK _ _ ((KeepsOthers.alloc _ _).from _) (Keeps.of_below (blx W _) (fun b hb=>by have:=hb.1;omega)) ⟨⟨h1.alloc _,h2.alloc _⟩,bln a2 (blx _ _),by simp;omega⟩ ⟨W.heap.size,a3,Blk.new W _ _,rfl⟩
 case body =>
  rintro lr a1 x a' W c8 ⟨⟨h1,h2⟩,a2,a3⟩ ⟨Bx,c5,hx,rfl⟩ b0
  have d1:=hx.cell (i:=0) rfl
  have c9:=hx.cell (i:=1) rfl
  have ci:=h2.cell (i:=0) rfl
  have hq:qOf x<l.length:=by have:=x.2;simp only[qOf];omega
  have c3:=Ch hi l a1
  obtain⟨u0,b1⟩:∃ u0,(outC hi l a1)[qOf x*2]? = some u0:=⟨_,List.getElem?_eq_getElem (by omega)⟩
  obtain⟨u1,a9⟩:∃ u1,(outC hi l a1)[qOf x*2+1]? = some u1:=⟨_,List.getElem?_eq_getElem (by omega)⟩
  have c6:=h1.cell b1
  have c7:=h1.cell a9
  have d0:=h1.frozen (qOf x*2)
  have d3:=h1.frozen (qOf x*2+1)
  clear b1 a9 c3
  gi_wp2
  refine⟨((KeepsOthers.setCell _ _ _).trans (KeepsOthers.setCell _ _ _)).from _,((Keeps.refl _ W).setCell (by simp) _).setCell (by simp) _,⟨by rw[Zf7];exact(h1.set _ _).set _ _,(h2.other (by simp) _).other (by simp) _⟩,(a2.setCell (Nat.le_of_lt z0) _).setCell (Nat.le_of_lt z0) _,by simpa [World.setCell] using a3⟩
 case done =>
  rintro D xs W hD rfl ⟨⟨h1,h2⟩,a2,a3⟩ hK
  have ci:=h2.cell (i:=0) rfl
  have b0:D<W.heap.size:=(Array.getElem?_eq_some_iff.1 hK).1
  rw[outC_all] at h1
  have hs:(Qc hi l).length=l.length:=by simp[Qc]
  have hR:Pairs (W.putObj D (.deferred none)) (.slice (some ⟨w'.heap.size,0,none⟩) l.length l.length) (Qc hi l):=by
   have b9:=h1.put hK rfl (.deferred none)
   exact .inr ⟨_,0,l.length,by rw[hs],by omega,by unfold maxLen;omega,fun j x hj=>by rw[Nat.zero_add];exact b9.cell hj⟩
  have HR:=Lib.hid hR
  have c1:=Lib.hid (h1.put hK rfl (.deferred none))
  clear hR h1 hs
  go_wp2_with fail
  refine⟨by simp,.inl ⟨_,_,rfl,run_takeDeferred hK,_,results_tmp rfl _ _ _,?_⟩⟩
  have e:Tq lo hi l=Qc hi l:=by simp[Tq,HF.out]
  rw[e]
  exact⟨_,rfl,Zfl a2 (by have:=a4.size;omega) b0 _,HR.out,fun _=>⟨_,rfl,hB.size,c1.out⟩⟩
 case stop=>exact fun _ _ _ _ _ _ h _=>h.elim
end Go.Proofs.YtgphgaehfdfjjaaGreat
namespace Go.Proofs.YtgphgaehfdfjjaaGreat
set_option maxHeartbeats 8000000
set_option maxRecDepth 100000
open Go.RowKit Go.Extern.Stop Go.Stop Go.Extern
set_option linter.unusedVariables false
attribute [local irreducible] wpList wpAnyH Code.wp Oper.wp Go
def Xt(l:Bl)(way:List Int)(no tree lo hi deep:Int):Int :=
 if Qf way no=true then 11 else if 16≤way.length then 10 else if Xl l no tree≠0 then Xl l no tree else if Vh lo hi (Vp (inB l no) (Zn (inB l no)))≠0 then 9 else
  if Xp (inB l no)=true∧deep≠0∧deep≠((way.length+1:Nat):Int) then 10 else 0
def LookP(B bw:Nat)(cs:List Value)(l:Bl)(way:List Int)(no tree lo hi deep:Int)(w:World)(e:Ending)(w':World):Prop :=
 Below B w w'∧Ze [145] w w'∧Blk w' bw cs 145 ∧
 ((Xt l way no tree lo hi deep≠0∧∃ a4 b4 k4 n4 c4 v4 m4 d4 ty x,e=.returned (.tuple #[.agg #[V0 a4,.bool b4,.slice k4 n4 c4,.slice v4 m4 d4],.iface ty x])∧Vx w' [some no] (some (Xt l way no tree lo hi deep)) (.iface ty x)) ∨
  (Xt l way no tree lo hi deep=0∧Xl l no tree=0∧∃ kp kc vp vc,e=.returned (.tuple #[.agg #[V0 (Qb (inB l no)),.bool (Xp (inB l no)),.slice kp (Zn (inB l no)) kc,.slice vp (Zn (inB l no)) vc],.nilIface]) ∧
   w'.ownsRow w.heap.size 3 1 (.slice kp (Zn (inB l no)) kc) (Zn (inB l no)) ((Vp (inB l no) (Zn (inB l no))).map V0)∧w'.ownsRow w.heap.size 9 1 (.slice vp (Zn (inB l no)) vc) (Zn (inB l no)) ((Ho (inB l no) (Zn (inB l no))).map sv)))
theorem Fu{w:World}{v:Value}{n:Nat}{l:List Int}(h:Sl w v n (l.map V0))(hl:l.length=n):Ints w v l:=by subst hl;exact h
theorem Tv(B Bi b bw:Nat)(p:O0)(n c:Nat)(l:Bl)(c0 c1 c4 c7 c9:Value)(pw:O0)(cw:Nat)(way:List Int)(no tree lo hi deep looked:Int)(w:World)(hBb:B≤bw)(hBw:B≤w.heap.size)(kW:Blk w bw [c0,c1,V0 deep,V0 looked,c4,P0 b,V0 tree,c7,.slice pw way.length cw,c9] 145)(hway:w.ownsRow B 3 1 (.slice pw way.length cw) way.length (way.map V0))(hI:ImgR Bi b p n c l w)(hwl:way.length≤1000000)(hl0:0≤looked)(hl1:looked<9223372036854775807) :
 C0 93 #[P0 bw,V0 no,.agg #[V0 lo,V0 hi]] w (LookP B bw [c0,c1,V0 deep,V0 (looked+1),c4,P0 b,V0 tree,c7,.slice pw way.length cw,c9] l way no tree lo hi deep w):=by
 refine zin 97 Tryz.func93 ?_
 refine xa 2 [V0 lo,V0 hi] 148 fun b1 W1 n1=>?_
 refine xa 0 [V0 0,.bool false,S0,S0] 117 fun b2 W2 n2=>?_
 have a3:=(kW.below n1.below).below n2.below
 refine xb 9 3 a3 ?_
 refine xw 0 (looked+1) ?_
 refine xs 3 a3 [c0,c1,V0 deep,V0 (looked+1),c4,P0 b,V0 tree,c7,.slice pw way.length cw,c9] fun W3 u3 k3=>?_
 refine xb 8 8 k3 ?_
 have f8:=u3.own2 (Zb (Zb hway n1.below) n2.below) a3 (by decide)
 refine xr 1 (args:=#[.slice pw way.length cw,V0 no]) (Zf6 pw cw way no _ (Zf f8) hwl) fun W4 a9=>?_
 refine xi 2 (Qf way no) (fun v2=>?_) (fun v2=>?_)
 ·refine xc 5 (args:=#[V0 no,.iface 26 (V0 11)]) (Ym no (some 11) [] _ _ rfl) ?_
  rintro _ W6 ⟨r6,rfl,n9,p7⟩
  rw[Qk] at p7
  obtain⟨t6,x6,rfl⟩:=p7.iface
  have k2:=((u3.blkT n2.blk a3 (by decide)).below a9).below n9
  refine xsv 0 k2 [V0 0,.bool false,S0,S0] fun W7 u7 k7=>?_
  have g2:=n2.ge0 (blB (Below.refl B w) hBw n1.below)
  have hB:=u7.below (blB (blB (u3.below (blB (blB (Below.refl B w) hBw n1.below) hBw n2.below) hBb) hBw a9) hBw n9) (Nat.le_trans hBw g2)
  have hO:=(Ze.upd_new (((((show Ze [145] w _ from(Ze.of_below n1.below)).trans (Ze.of_below n2.below)).trans (Ze.of_upd u3 a3 (by decide))).trans (Ze.of_below a9)).trans (Ze.of_below n9)) u7 g2)
  have p9:=u7.blkT ((k3.below a9).below n9) k2 (by decide)
  have j8:=p7.upd u7 k2 (by decide)
  exact xec 5 k7 (.tuple #[.agg #[V0 0,.bool false,S0,S0],.iface t6 (x6)]) ⟨hB,hO,p9,.inl ⟨by(unfold Xt;(repeat' split)<;>first|rfl|assumption|decide|omega|exact absurd (Eq.trans (Eq.symm ‹Qf _ _=true›) ‹Qf _ _=false›) (by decide)|(rename_i q;exact absurd ⟨by assumption,by assumption,by assumption⟩ q)|(rename_i q;obtain⟨q1,q2,q3⟩:=q;exact absurd (Eq.trans (Eq.symm q1) ‹Xp _=false›) (by decide))|(rename_i q;obtain⟨q1,q2,q3⟩:=q;omega)),_,_,_,_,_,_,_,_,_,_,rfl,by(unfold Xt;(repeat' split)<;>first|exact j8|(exfalso;omega)|contradiction|exact absurd (Eq.trans (Eq.symm ‹Qf _ _=true›) ‹Qf _ _=false›) (by decide)|(rename_i q;exact absurd ⟨by assumption,by assumption,by assumption⟩ q)|(rename_i q;obtain⟨q1,q2,q3⟩:=q;exact absurd (Eq.trans (Eq.symm q1) ‹Xp _=false›) (by decide))|(rename_i q;obtain⟨q1,q2,q3⟩:=q;omega))⟩⟩
 have h6:=k3.below a9
 refine xb 8 8 h6 ?_
 refine xid 4 ((way.length:Int)≥(16:Int)) (fun t8=>?_) (fun t8=>?_)
 ·refine xc 5 (args:=#[V0 no,.iface 26 (V0 10)]) (Ym no (some 10) [] _ _ rfl) ?_
  rintro _ W9 ⟨r9,rfl,o1,r1⟩
  rw[Qk] at r1
  obtain⟨t9,x9,rfl⟩:=r1.iface
  have k2:=((u3.blkT n2.blk a3 (by decide)).below a9).below o1
  refine xsv 0 k2 [V0 0,.bool false,S0,S0] fun y2 o5 t5=>?_
  have g2:=n2.ge0 (blB (Below.refl B w) hBw n1.below)
  have hB:=o5.below (blB (blB (u3.below (blB (blB (Below.refl B w) hBw n1.below) hBw n2.below) hBb) hBw a9) hBw o1) (Nat.le_trans hBw g2)
  have hO:=(Ze.upd_new (((((show Ze [145] w _ from(Ze.of_below n1.below)).trans (Ze.of_below n2.below)).trans (Ze.of_upd u3 a3 (by decide))).trans (Ze.of_below a9)).trans (Ze.of_below o1)) o5 g2)
  have r4:=o5.blkT (h6.below o1) k2 (by decide)
  have l2:=r1.upd o5 k2 (by decide)
  exact xec 5 t5 (.tuple #[.agg #[V0 0,.bool false,S0,S0],.iface t9 (x9)]) ⟨hB,hO,r4,.inl ⟨by(unfold Xt;(repeat' split)<;>first|rfl|assumption|decide|omega|exact absurd (Eq.trans (Eq.symm ‹Qf _ _=true›) ‹Qf _ _=false›) (by decide)|(rename_i q;exact absurd ⟨by assumption,by assumption,by assumption⟩ q)|(rename_i q;obtain⟨q1,q2,q3⟩:=q;exact absurd (Eq.trans (Eq.symm q1) ‹Xp _=false›) (by decide))|(rename_i q;obtain⟨q1,q2,q3⟩:=q;omega)),_,_,_,_,_,_,_,_,_,_,rfl,by(unfold Xt;(repeat' split)<;>first|exact l2|(exfalso;omega)|contradiction|exact absurd (Eq.trans (Eq.symm ‹Qf _ _=true›) ‹Qf _ _=false›) (by decide)|(rename_i q;exact absurd ⟨by assumption,by assumption,by assumption⟩ q)|(rename_i q;obtain⟨q1,q2,q3⟩:=q;exact absurd (Eq.trans (Eq.symm q1) ‹Xp _=false›) (by decide))|(rename_i q;obtain⟨q1,q2,q3⟩:=q;omega))⟩⟩
 refine xd 3 (.t B [117]) ?_
 have b6:=h6.below (Za W4)
 refine xbt (.e [0,1,2] 3) 5 B [117] b6 ?_
 refine xbt (.e [4,5,6,7] 8) 6 B [117] b6 ?_
 refine xm2 0 9 13 ?_ ?_
 ·have s2:=((((hI.below n1.below).below n2.below).only (Ze.of_upd (T:=[145]) u3 a3 (by decide)) (by decide)).below a9).below (Za W4)
  refine yc 0 (args:=#[P0 b,V0 no,V0 tree]) (.t B [117]) (Eg Bi b p n c l no tree _ s2) ?_
  rintro e z2 q5
  rcases q5 with ⟨he,bf,rfl,a7,hv⟩|⟨he,kp,kc,vp,vc,rfl,a7,hk,g9⟩
  ·refine⟨(SF.of_below _ a7),?_⟩
   refine xa (.o [10,11,12] 13) [V0 0,.bool false,S0,S0] 117 fun ac aa e6=>?_
   have k2:=(((u3.blkT n2.blk a3 (by decide)).below a9).below (Za W4)).below a7
   have h5:=e6.ne k2
   have hB:=blB (blB (blB (u3.below (blB (blB (Below.refl B w) hBw n1.below) hBw n2.below) hBb) hBw a9) hBw (Za W4)) hBw a7
   have s3:=e6.ge0 hB
   refine ysv (.o [] 14) e6.blk [V0 0,.bool false,S0,S0] (.t B [117]) fun w8 i3 w3=>⟨(Xd i3 e6.blk (Nat.le_trans hBw s3) (by decide)),?_⟩
   refine xlv (.r [15] 14) w3.rp ?_
   have g0:=i3.blk (k2.below e6.below) (Ne.symm (Ne.symm h5))
   refine xsv 1 g0 [V0 0,.bool false,S0,S0] fun x1 o2 w2=>?_
   have g2:=n2.ge0 (blB (Below.refl B w) hBw n1.below)
   have r5:=o2.below (i3.below (blB hB hBw e6.below) (Nat.le_trans hBw s3)) (Nat.le_trans hBw g2)
   have hO:=(Ze.upd_new (Ze.upd_new (((((((show Ze [145] w _ from(Ze.of_below n1.below)).trans (Ze.of_below n2.below)).trans (Ze.of_upd u3 a3 (by decide))).trans (Ze.of_below a9)).trans (Ze.of_below (Za W4))).trans (Ze.of_below a7)).trans (Ze.of_below e6.below)) i3 s3) o2 g2)
   have o6:=o2.blkT (i3.blkT ((b6.below a7).below e6.below) e6.blk (by decide)) g0 (by decide)
   have q0:=((hv.below e6.below).upd i3 e6.blk (by decide)).upd o2 g0 (by decide)
   exact xec 6 w2 (.tuple #[.agg #[V0 0,.bool false,S0,S0],.iface 150 (P0 bf)]) ⟨r5,hO,o6,.inl ⟨by(unfold Xt;(repeat' split)<;>first|rfl|assumption|decide|omega|exact absurd (Eq.trans (Eq.symm ‹Qf _ _=true›) ‹Qf _ _=false›) (by decide)|(rename_i q;exact absurd ⟨by assumption,by assumption,by assumption⟩ q)|(rename_i q;obtain⟨q1,q2,q3⟩:=q;exact absurd (Eq.trans (Eq.symm q1) ‹Xp _=false›) (by decide))|(rename_i q;obtain⟨q1,q2,q3⟩:=q;omega)),_,_,_,_,_,_,_,_,_,_,rfl,by(unfold Xt;(repeat' split)<;>first|exact q0|(exfalso;omega)|contradiction|exact absurd (Eq.trans (Eq.symm ‹Qf _ _=true›) ‹Qf _ _=false›) (by decide)|(rename_i q;exact absurd ⟨by assumption,by assumption,by assumption⟩ q)|(rename_i q;obtain⟨q1,q2,q3⟩:=q;exact absurd (Eq.trans (Eq.symm q1) ‹Xp _=false›) (by decide))|(rename_i q;obtain⟨q1,q2,q3⟩:=q;omega))⟩⟩
  have f4:=(blB (blB (u3.below (blB (blB (Below.refl B w) hBw n1.below) hBw n2.below) hBb) hBw a9) hBw (Za W4)).size
  refine⟨(SF.of_below _ a7),?_⟩
  refine xa (.o [10,11,12] 13) [V0 0,.bool false,S0,S0] 117 fun ad ab a6=>?_
  have k2:=(((u3.blkT n2.blk a3 (by decide)).below a9).below (Za W4)).below a7
  have b4:=a6.ne k2
  have hB:=blB (blB (blB (u3.below (blB (blB (Below.refl B w) hBw n1.below) hBw n2.below) hBb) hBw a9) hBw (Za W4)) hBw a7
  have c6:=a6.ge0 hB
  refine ysv (.o [] 14) a6.blk [V0 (Qb (inB l no)),.bool (Xp (inB l no)),.slice kp (Zn (inB l no)) kc,.slice vp (Zn (inB l no)) vc] (.t B [117]) fun y0 b5 o3=>⟨(Xd b5 a6.blk (Nat.le_trans hBw c6) (by decide)),?_⟩
  have k1:=b5.blkT (((((u3.blkT (n1.blk.below n2.below) a3 (by decide)).below a9).below (Za W4)).below a7).below a6.below) a6.blk (by decide)
  refine xlv (.r [15] 14) k1.rp ?_
  refine xb 1 2 o3 ?_
  have e7:=b5.own2 (Zb (Zh hk f4) a6.below) a6.blk (by decide)
  refine xr 0 (args:=#[.agg #[V0 lo,V0 hi],.slice kp (Zn (inB l no)) kc]) (Ln lo hi _ (Vp (inB l no) (Zn (inB l no))) _ (Fu (Zf e7) (Ue _ _))) fun a5 a2=>?_
  refine xin 4 (Vh lo hi (Vp (inB l no) (Zn (inB l no)))) (0:Int) (fun p6=>?_) (fun p6=>?_)
  ·refine xd 1 (.t B [117]) ?_
   refine xm2 (.b [1,2]) 0 3 ?_ ?_
   ·have m8:=(o3.below a2).below (Za a5)
    refine xlv 0 m8.rp ?_
    refine yc (.o [] 3) (args:=#[V0 no,.iface 26 (V0 9)]) (.t B [117]) (Ym no (some 9) [] _ _ rfl) ?_
    rintro _ x7 ⟨z3,rfl,e0,g8⟩
    refine⟨(SF.of_below _ e0),?_⟩
    rw[Qk] at g8
    obtain⟨t2,w7,rfl⟩:=g8.iface
    have f7:=(((b5.blk (k2.below a6.below) (Ne.symm (Ne.symm b4))).below a2).below (Za a5)).below e0
    have g2:=n2.ge0 (blB (Below.refl B w) hBw n1.below)
    refine ysv (.o [] 4) f7 [V0 (Qb (inB l no)),.bool (Xp (inB l no)),.slice kp (Zn (inB l no)) kc,.slice vp (Zn (inB l no)) vc] (.t B [117]) fun z5 m4 t4=>⟨(Xd m4 f7 (Nat.le_trans hBw g2) (by decide)),?_⟩
    have o9:=m4.below (blB (blB (blB (b5.below (blB hB hBw a6.below) (Nat.le_trans hBw c6)) hBw a2) hBw (Za a5)) hBw e0) (Nat.le_trans hBw g2)
    have hO:=(Ze.upd_new ((((Ze.upd_new (((((((show Ze [145] w _ from(Ze.of_below n1.below)).trans (Ze.of_below n2.below)).trans (Ze.of_upd u3 a3 (by decide))).trans (Ze.of_below a9)).trans (Ze.of_below (Za W4))).trans (Ze.of_below a7)).trans (Ze.of_below a6.below)) b5 c6).trans (Ze.of_below a2)).trans (Ze.of_below (Za a5))).trans (Ze.of_below e0)) m4 g2)
    have p2:=m4.blkT ((((b5.blkT ((b6.below a7).below a6.below) a6.blk (by decide)).below a2).below (Za a5)).below e0) f7 (by decide)
    have g7:=g8.upd m4 f7 (by decide)
    exact xec (.r [5] 5) t4 (.tuple #[.agg #[V0 (Qb (inB l no)),.bool (Xp (inB l no)),.slice kp (Zn (inB l no)) kc,.slice vp (Zn (inB l no)) vc],.iface t2 (w7)]) ⟨o9,hO,p2,.inl ⟨by(unfold Xt;(repeat' split)<;>first|rfl|assumption|decide|omega|exact absurd (Eq.trans (Eq.symm ‹Qf _ _=true›) ‹Qf _ _=false›) (by decide)|(rename_i q;exact absurd ⟨by assumption,by assumption,by assumption⟩ q)|(rename_i q;obtain⟨q1,q2,q3⟩:=q;exact absurd (Eq.trans (Eq.symm q1) ‹Xp _=false›) (by decide))|(rename_i q;obtain⟨q1,q2,q3⟩:=q;omega)),_,_,_,_,_,_,_,_,_,_,rfl,by(unfold Xt;(repeat' split)<;>first|exact g7|(exfalso;omega)|contradiction|exact absurd (Eq.trans (Eq.symm ‹Qf _ _=true›) ‹Qf _ _=false›) (by decide)|(rename_i q;exact absurd ⟨by assumption,by assumption,by assumption⟩ q)|(rename_i q;obtain⟨q1,q2,q3⟩:=q;exact absurd (Eq.trans (Eq.symm q1) ‹Xp _=false›) (by decide))|(rename_i q;obtain⟨q1,q2,q3⟩:=q;omega))⟩⟩
   refine yc 0 (args:=#[V0 no,.iface 26 (V0 9)]) (.t B [117]) (Ym no (some 9) [] _ _ rfl) ?_
   rintro _ ap ⟨z4,rfl,d8,h3⟩
   refine⟨(SF.of_below _ d8),?_⟩
   rw[Qk] at h3
   obtain⟨w0,v3,rfl⟩:=h3.iface
   have j3:=((o3.below a2).below (Za a5)).below d8
   refine xlv (.o [] 0) j3.rp ?_
   have e8:=(((b5.blk (k2.below a6.below) (Ne.symm (Ne.symm b4))).below a2).below (Za a5)).below d8
   have g2:=n2.ge0 (blB (Below.refl B w) hBw n1.below)
   refine ysv (.o [] 4) e8 [V0 (Qb (inB l no)),.bool (Xp (inB l no)),.slice kp (Zn (inB l no)) kc,.slice vp (Zn (inB l no)) vc] (.t B [117]) fun z1 l9 u4=>⟨(Xd l9 e8 (Nat.le_trans hBw g2) (by decide)),?_⟩
   have p8:=l9.below (blB (blB (blB (b5.below (blB hB hBw a6.below) (Nat.le_trans hBw c6)) hBw a2) hBw (Za a5)) hBw d8) (Nat.le_trans hBw g2)
   have hO:=(Ze.upd_new ((((Ze.upd_new (((((((show Ze [145] w _ from(Ze.of_below n1.below)).trans (Ze.of_below n2.below)).trans (Ze.of_upd u3 a3 (by decide))).trans (Ze.of_below a9)).trans (Ze.of_below (Za W4))).trans (Ze.of_below a7)).trans (Ze.of_below a6.below)) b5 c6).trans (Ze.of_below a2)).trans (Ze.of_below (Za a5))).trans (Ze.of_below d8)) l9 g2)
   have r8:=l9.blkT ((((b5.blkT ((b6.below a7).below a6.below) a6.blk (by decide)).below a2).below (Za a5)).below d8) e8 (by decide)
   have h1:=h3.upd l9 e8 (by decide)
   exact xec (.r [5] 5) u4 (.tuple #[.agg #[V0 (Qb (inB l no)),.bool (Xp (inB l no)),.slice kp (Zn (inB l no)) kc,.slice vp (Zn (inB l no)) vc],.iface w0 (v3)]) ⟨p8,hO,r8,.inl ⟨by(unfold Xt;(repeat' split)<;>first|rfl|assumption|decide|omega|exact absurd (Eq.trans (Eq.symm ‹Qf _ _=true›) ‹Qf _ _=false›) (by decide)|(rename_i q;exact absurd ⟨by assumption,by assumption,by assumption⟩ q)|(rename_i q;obtain⟨q1,q2,q3⟩:=q;exact absurd (Eq.trans (Eq.symm q1) ‹Xp _=false›) (by decide))|(rename_i q;obtain⟨q1,q2,q3⟩:=q;omega)),_,_,_,_,_,_,_,_,_,_,rfl,by(unfold Xt;(repeat' split)<;>first|exact h1|(exfalso;omega)|contradiction|exact absurd (Eq.trans (Eq.symm ‹Qf _ _=true›) ‹Qf _ _=false›) (by decide)|(rename_i q;exact absurd ⟨by assumption,by assumption,by assumption⟩ q)|(rename_i q;obtain⟨q1,q2,q3⟩:=q;exact absurd (Eq.trans (Eq.symm q1) ‹Xp _=false›) (by decide))|(rename_i q;obtain⟨q1,q2,q3⟩:=q;omega))⟩⟩
  refine xd 1 .z ?_
  have b8:=(o3.below a2).below (Za a5)
  refine xb (.e [0] 1) 1 b8 ?_
  refine xg (.b [2]) [69,70] (Xp (inB l no)) (fun p1=>?_) (fun p1=>?_)
  ·have c5:=((b5.blkT ((b6.below a7).below a6.below) a6.blk (by decide)).below a2).below (Za a5)
   refine xb (.e [3,4,5,6] 7) 2 c5 ?_
   refine xg (.b [8,9,10]) [76,77,78] (deep != (0:Int)) (fun e1=>?_) (fun e1=>?_)
   ·have e1:=Pi e1
    refine xb (.e [11,12,13,14] 15) 2 c5 ?_
    refine xb (.e [16,17,18] 19) 8 c5 ?_
    refine xwm (.e [20] 21) ((way.length:Int)+1) (↑(way.length+1):Int) ?_
    refine xin (.r [22,23,24] 2) deep (↑(way.length+1):Int) (fun r0=>?_) (fun r0=>?_)
    ·refine xd 1 (.t B [117]) ?_
     refine xm2 (.b [1,2]) 0 3 ?_ ?_
     ·have k4:=b8.below (Za a5.drew)
      refine xlv 0 k4.rp ?_
      refine yc (.o [] 3) (args:=#[V0 no,.iface 26 (V0 10)]) (.t B [117]) (Ym no (some 10) [] _ _ rfl) ?_
      rintro _ ak ⟨aq,rfl,e2,h4⟩
      refine⟨(SF.of_below _ e2),?_⟩
      rw[Qk] at h4
      obtain⟨v6,v5,rfl⟩:=h4.iface
      have f6:=((((b5.blk (k2.below a6.below) (Ne.symm (Ne.symm b4))).below a2).below (Za a5)).below (Za a5.drew)).below e2
      have g2:=n2.ge0 (blB (Below.refl B w) hBw n1.below)
      refine ysv (.o [] 4) f6 [V0 (Qb (inB l no)),.bool (Xp (inB l no)),.slice kp (Zn (inB l no)) kc,.slice vp (Zn (inB l no)) vc] (.t B [117]) fun x8 k0 v0=>⟨(Xd k0 f6 (Nat.le_trans hBw g2) (by decide)),?_⟩
      have s4:=k0.below (blB (blB (blB (blB (b5.below (blB hB hBw a6.below) (Nat.le_trans hBw c6)) hBw a2) hBw (Za a5)) hBw (Za a5.drew)) hBw e2) (Nat.le_trans hBw g2)
      have hO:=(Ze.upd_new (((((Ze.upd_new (((((((show Ze [145] w _ from(Ze.of_below n1.below)).trans (Ze.of_below n2.below)).trans (Ze.of_upd u3 a3 (by decide))).trans (Ze.of_below a9)).trans (Ze.of_below (Za W4))).trans (Ze.of_below a7)).trans (Ze.of_below a6.below)) b5 c6).trans (Ze.of_below a2)).trans (Ze.of_below (Za a5))).trans (Ze.of_below (Za a5.drew))).trans (Ze.of_below e2)) k0 g2)
      have o8:=k0.blkT ((c5.below (Za a5.drew)).below e2) f6 (by decide)
      have h7:=h4.upd k0 f6 (by decide)
      exact xec (.r [5] 5) v0 (.tuple #[.agg #[V0 (Qb (inB l no)),.bool (Xp (inB l no)),.slice kp (Zn (inB l no)) kc,.slice vp (Zn (inB l no)) vc],.iface v6 (v5)]) ⟨s4,hO,o8,.inl ⟨by(unfold Xt;(repeat' split)<;>first|rfl|assumption|decide|omega|exact absurd (Eq.trans (Eq.symm ‹Qf _ _=true›) ‹Qf _ _=false›) (by decide)|(rename_i q;exact absurd ⟨by assumption,by assumption,by assumption⟩ q)|(rename_i q;obtain⟨q1,q2,q3⟩:=q;exact absurd (Eq.trans (Eq.symm q1) ‹Xp _=false›) (by decide))|(rename_i q;obtain⟨q1,q2,q3⟩:=q;omega)),_,_,_,_,_,_,_,_,_,_,rfl,by(unfold Xt;(repeat' split)<;>first|exact h7|(exfalso;omega)|contradiction|exact absurd (Eq.trans (Eq.symm ‹Qf _ _=true›) ‹Qf _ _=false›) (by decide)|(rename_i q;exact absurd ⟨by assumption,by assumption,by assumption⟩ q)|(rename_i q;obtain⟨q1,q2,q3⟩:=q;exact absurd (Eq.trans (Eq.symm q1) ‹Xp _=false›) (by decide))|(rename_i q;obtain⟨q1,q2,q3⟩:=q;omega))⟩⟩
     refine yc 0 (args:=#[V0 no,.iface 26 (V0 10)]) (.t B [117]) (Ym no (some 10) [] _ _ rfl) ?_
     rintro _ x5 ⟨w9,rfl,d9,g3⟩
     refine⟨(SF.of_below _ d9),?_⟩
     rw[Qk] at g3
     obtain⟨s8,s9,rfl⟩:=g3.iface
     have j1:=(b8.below (Za a5.drew)).below d9
     refine xlv (.o [] 0) j1.rp ?_
     have f0:=((((b5.blk (k2.below a6.below) (Ne.symm (Ne.symm b4))).below a2).below (Za a5)).below (Za a5.drew)).below d9
     have g2:=n2.ge0 (blB (Below.refl B w) hBw n1.below)
     refine ysv (.o [] 4) f0 [V0 (Qb (inB l no)),.bool (Xp (inB l no)),.slice kp (Zn (inB l no)) kc,.slice vp (Zn (inB l no)) vc] (.t B [117]) fun y6 l4 t7=>⟨(Xd l4 f0 (Nat.le_trans hBw g2) (by decide)),?_⟩
     have q8:=l4.below (blB (blB (blB (blB (b5.below (blB hB hBw a6.below) (Nat.le_trans hBw c6)) hBw a2) hBw (Za a5)) hBw (Za a5.drew)) hBw d9) (Nat.le_trans hBw g2)
     have hO:=(Ze.upd_new (((((Ze.upd_new (((((((show Ze [145] w _ from(Ze.of_below n1.below)).trans (Ze.of_below n2.below)).trans (Ze.of_upd u3 a3 (by decide))).trans (Ze.of_below a9)).trans (Ze.of_below (Za W4))).trans (Ze.of_below a7)).trans (Ze.of_below a6.below)) b5 c6).trans (Ze.of_below a2)).trans (Ze.of_below (Za a5))).trans (Ze.of_below (Za a5.drew))).trans (Ze.of_below d9)) l4 g2)
     have l0:=l4.blkT ((c5.below (Za a5.drew)).below d9) f0 (by decide)
     have h0:=g3.upd l4 f0 (by decide)
     exact xec (.r [5] 5) t7 (.tuple #[.agg #[V0 (Qb (inB l no)),.bool (Xp (inB l no)),.slice kp (Zn (inB l no)) kc,.slice vp (Zn (inB l no)) vc],.iface s8 (s9)]) ⟨q8,hO,l0,.inl ⟨by(unfold Xt;(repeat' split)<;>first|rfl|assumption|decide|omega|exact absurd (Eq.trans (Eq.symm ‹Qf _ _=true›) ‹Qf _ _=false›) (by decide)|(rename_i q;exact absurd ⟨by assumption,by assumption,by assumption⟩ q)|(rename_i q;obtain⟨q1,q2,q3⟩:=q;exact absurd (Eq.trans (Eq.symm q1) ‹Xp _=false›) (by decide))|(rename_i q;obtain⟨q1,q2,q3⟩:=q;omega)),_,_,_,_,_,_,_,_,_,_,rfl,by(unfold Xt;(repeat' split)<;>first|exact h0|(exfalso;omega)|contradiction|exact absurd (Eq.trans (Eq.symm ‹Qf _ _=true›) ‹Qf _ _=false›) (by decide)|(rename_i q;exact absurd ⟨by assumption,by assumption,by assumption⟩ q)|(rename_i q;obtain⟨q1,q2,q3⟩:=q;exact absurd (Eq.trans (Eq.symm q1) ‹Xp _=false›) (by decide))|(rename_i q;obtain⟨q1,q2,q3⟩:=q;omega))⟩⟩
    refine xlv 5 b8.rp ?_
    have f1:=((b5.blk (k2.below a6.below) (Ne.symm (Ne.symm b4))).below a2).below (Za a5)
    refine xsv 0 f1 [V0 (Qb (inB l no)),.bool (Xp (inB l no)),.slice kp (Zn (inB l no)) kc,.slice vp (Zn (inB l no)) vc] fun ag n0 v7=>?_
    have g2:=n2.ge0 (blB (Below.refl B w) hBw n1.below)
    have p4:=n0.below (blB (blB (b5.below (blB hB hBw a6.below) (Nat.le_trans hBw c6)) hBw a2) hBw (Za a5)) (Nat.le_trans hBw g2)
    have hO:=(Ze.upd_new (((Ze.upd_new (((((((show Ze [145] w _ from(Ze.of_below n1.below)).trans (Ze.of_below n2.below)).trans (Ze.of_upd u3 a3 (by decide))).trans (Ze.of_below a9)).trans (Ze.of_below (Za W4))).trans (Ze.of_below a7)).trans (Ze.of_below a6.below)) b5 c6).trans (Ze.of_below a2)).trans (Ze.of_below (Za a5))) n0 g2)
    have m6:=n0.blkT c5 f1 (by decide)
    have s6:=n0.own2 (Zb (Zb e7 a2) (Za a5)) f1 (by decide)
    have k6:=n0.own2 (Zb (Zb (b5.own2 (Zb (Zh g9 f4) a6.below) a6.blk (by decide)) a2) (Za a5)) f1 (by decide)
    exact xec 4 v7 (.tuple #[.agg #[V0 (Qb (inB l no)),.bool (Xp (inB l no)),.slice kp (Zn (inB l no)) kc,.slice vp (Zn (inB l no)) vc],.nilIface]) ⟨p4,hO,m6,.inr ⟨by(unfold Xt;(repeat' split)<;>first|rfl|assumption|decide|omega|exact absurd (Eq.trans (Eq.symm ‹Qf _ _=true›) ‹Qf _ _=false›) (by decide)|(rename_i q;exact absurd ⟨by assumption,by assumption,by assumption⟩ q)|(rename_i q;obtain⟨q1,q2,q3⟩:=q;exact absurd (Eq.trans (Eq.symm q1) ‹Xp _=false›) (by decide))|(rename_i q;obtain⟨q1,q2,q3⟩:=q;omega)),by assumption,_,_,_,_,rfl,s6,k6⟩⟩
   have e1:=Qi e1
   refine xlv (.r [11,12,13,14,15,16,17,18,19,20,21,22,23,24] 8) b8.rp ?_
   have e9:=((b5.blk (k2.below a6.below) (Ne.symm (Ne.symm b4))).below a2).below (Za a5)
   refine xsv 0 e9 [V0 (Qb (inB l no)),.bool (Xp (inB l no)),.slice kp (Zn (inB l no)) kc,.slice vp (Zn (inB l no)) vc] fun y4 k9 u1=>?_
   have g2:=n2.ge0 (blB (Below.refl B w) hBw n1.below)
   have o7:=k9.below (blB (blB (b5.below (blB hB hBw a6.below) (Nat.le_trans hBw c6)) hBw a2) hBw (Za a5)) (Nat.le_trans hBw g2)
   have hO:=(Ze.upd_new (((Ze.upd_new (((((((show Ze [145] w _ from(Ze.of_below n1.below)).trans (Ze.of_below n2.below)).trans (Ze.of_upd u3 a3 (by decide))).trans (Ze.of_below a9)).trans (Ze.of_below (Za W4))).trans (Ze.of_below a7)).trans (Ze.of_below a6.below)) b5 c6).trans (Ze.of_below a2)).trans (Ze.of_below (Za a5))) k9 g2)
   have j0:=k9.blkT c5 e9 (by decide)
   have q6:=k9.own2 (Zb (Zb e7 a2) (Za a5)) e9 (by decide)
   have m2:=k9.own2 (Zb (Zb (b5.own2 (Zb (Zh g9 f4) a6.below) a6.blk (by decide)) a2) (Za a5)) e9 (by decide)
   exact xec 4 u1 (.tuple #[.agg #[V0 (Qb (inB l no)),.bool (Xp (inB l no)),.slice kp (Zn (inB l no)) kc,.slice vp (Zn (inB l no)) vc],.nilIface]) ⟨o7,hO,j0,.inr ⟨by(unfold Xt;(repeat' split)<;>first|rfl|assumption|decide|omega|exact absurd (Eq.trans (Eq.symm ‹Qf _ _=true›) ‹Qf _ _=false›) (by decide)|(rename_i q;exact absurd ⟨by assumption,by assumption,by assumption⟩ q)|(rename_i q;obtain⟨q1,q2,q3⟩:=q;exact absurd (Eq.trans (Eq.symm q1) ‹Xp _=false›) (by decide))|(rename_i q;obtain⟨q1,q2,q3⟩:=q;omega)),by assumption,_,_,_,_,rfl,q6,m2⟩⟩
  refine xlv (.r [3,4,5,6,7,8,9,10,11,12,13,14,15,16,17,18,19,20,21,22,23,24] 8) b8.rp ?_
  have f3:=((b5.blk (k2.below a6.below) (Ne.symm (Ne.symm b4))).below a2).below (Za a5)
  refine xsv 0 f3 [V0 (Qb (inB l no)),.bool (Xp (inB l no)),.slice kp (Zn (inB l no)) kc,.slice vp (Zn (inB l no)) vc] fun x3 n5 v1=>?_
  have g2:=n2.ge0 (blB (Below.refl B w) hBw n1.below)
  have p0:=n5.below (blB (blB (b5.below (blB hB hBw a6.below) (Nat.le_trans hBw c6)) hBw a2) hBw (Za a5)) (Nat.le_trans hBw g2)
  have hO:=(Ze.upd_new (((Ze.upd_new (((((((show Ze [145] w _ from(Ze.of_below n1.below)).trans (Ze.of_below n2.below)).trans (Ze.of_upd u3 a3 (by decide))).trans (Ze.of_below a9)).trans (Ze.of_below (Za W4))).trans (Ze.of_below a7)).trans (Ze.of_below a6.below)) b5 c6).trans (Ze.of_below a2)).trans (Ze.of_below (Za a5))) n5 g2)
  have i5:=n5.blkT (((b5.blkT ((b6.below a7).below a6.below) a6.blk (by decide)).below a2).below (Za a5)) f3 (by decide)
  have q4:=n5.own2 (Zb (Zb e7 a2) (Za a5)) f3 (by decide)
  have i4:=n5.own2 (Zb (Zb (b5.own2 (Zb (Zh g9 f4) a6.below) a6.blk (by decide)) a2) (Za a5)) f3 (by decide)
  exact xec 4 v1 (.tuple #[.agg #[V0 (Qb (inB l no)),.bool (Xp (inB l no)),.slice kp (Zn (inB l no)) kc,.slice vp (Zn (inB l no)) vc],.nilIface]) ⟨p0,hO,i5,.inr ⟨by(unfold Xt;(repeat' split)<;>first|rfl|assumption|decide|omega|exact absurd (Eq.trans (Eq.symm ‹Qf _ _=true›) ‹Qf _ _=false›) (by decide)|(rename_i q;exact absurd ⟨by assumption,by assumption,by assumption⟩ q)|(rename_i q;obtain⟨q1,q2,q3⟩:=q;exact absurd (Eq.trans (Eq.symm q1) ‹Xp _=false›) (by decide))|(rename_i q;obtain⟨q1,q2,q3⟩:=q;omega)),by assumption,_,_,_,_,rfl,q4,i4⟩⟩
 refine xa 0 [V0 0,.bool false,S0,S0] 117 fun x4 af a8=>?_
 have k2:=((u3.blkT n2.blk a3 (by decide)).below a9).below (Za W4)
 have b0:=a8.ne k2
 have hB:=blB (blB (u3.below (blB (blB (Below.refl B w) hBw n1.below) hBw n2.below) hBb) hBw a9) hBw (Za W4)
 have c2:=a8.ge0 hB
 have p5:=(((((hI.below n1.below).below n2.below).only (Ze.of_upd (T:=[145]) u3 a3 (by decide)) (by decide)).below a9).below (Za W4)).below a8.below
 refine yc (.o [] 9) (args:=#[P0 b,V0 no,V0 tree]) (.t B [117]) (Eg Bi b p n c l no tree _ p5) ?_
 rintro e z8 q9
 rcases q9 with ⟨he,bf,rfl,a0,hv⟩|⟨he,kp,kc,vp,vc,rfl,a0,hk,g9⟩
 ·refine⟨(SF.of_below _ a0),?_⟩
  have c3:=a8.blk.below a0
  refine ysv (.o [10,11,12] 14) c3 [V0 0,.bool false,S0,S0] (.t B [117]) fun ah i2 w1=>⟨(Xd i2 c3 (Nat.le_trans hBw c2) (by decide)),?_⟩
  refine xlv (.r [15] 14) w1.rp ?_
  have h9:=i2.blk ((k2.below a8.below).below a0) (Ne.symm (Ne.symm b0))
  refine xsv 1 h9 [V0 0,.bool false,S0,S0] fun z7 o4 u9=>?_
  have g2:=n2.ge0 (blB (Below.refl B w) hBw n1.below)
  have r2:=o4.below (i2.below (blB (blB hB hBw a8.below) hBw a0) (Nat.le_trans hBw c2)) (Nat.le_trans hBw g2)
  have hO:=(Ze.upd_new (Ze.upd_new (((((((show Ze [145] w _ from(Ze.of_below n1.below)).trans (Ze.of_below n2.below)).trans (Ze.of_upd u3 a3 (by decide))).trans (Ze.of_below a9)).trans (Ze.of_below (Za W4))).trans (Ze.of_below a8.below)).trans (Ze.of_below a0)) i2 c2) o4 g2)
  have i6:=o4.blkT (i2.blkT ((b6.below a8.below).below a0) c3 (by decide)) h9 (by decide)
  have s1:=(hv.upd i2 c3 (by decide)).upd o4 h9 (by decide)
  exact xec 6 u9 (.tuple #[.agg #[V0 0,.bool false,S0,S0],.iface 150 (P0 bf)]) ⟨r2,hO,i6,.inl ⟨by(unfold Xt;(repeat' split)<;>first|rfl|assumption|decide|omega|exact absurd (Eq.trans (Eq.symm ‹Qf _ _=true›) ‹Qf _ _=false›) (by decide)|(rename_i q;exact absurd ⟨by assumption,by assumption,by assumption⟩ q)|(rename_i q;obtain⟨q1,q2,q3⟩:=q;exact absurd (Eq.trans (Eq.symm q1) ‹Xp _=false›) (by decide))|(rename_i q;obtain⟨q1,q2,q3⟩:=q;omega)),_,_,_,_,_,_,_,_,_,_,rfl,by(unfold Xt;(repeat' split)<;>first|exact s1|(exfalso;omega)|contradiction|exact absurd (Eq.trans (Eq.symm ‹Qf _ _=true›) ‹Qf _ _=false›) (by decide)|(rename_i q;exact absurd ⟨by assumption,by assumption,by assumption⟩ q)|(rename_i q;obtain⟨q1,q2,q3⟩:=q;exact absurd (Eq.trans (Eq.symm q1) ‹Xp _=false›) (by decide))|(rename_i q;obtain⟨q1,q2,q3⟩:=q;omega))⟩⟩
 have f5:=(blB hB hBw a8.below).size
 refine⟨(SF.of_below _ a0),?_⟩
 have c3:=a8.blk.below a0
 refine ysv (.o [10,11,12] 14) c3 [V0 (Qb (inB l no)),.bool (Xp (inB l no)),.slice kp (Zn (inB l no)) kc,.slice vp (Zn (inB l no)) vc] (.t B [117]) fun x0 b3 o0=>⟨(Xd b3 c3 (Nat.le_trans hBw c2) (by decide)),?_⟩
 have k1:=b3.blkT (((((u3.blkT (n1.blk.below n2.below) a3 (by decide)).below a9).below (Za W4)).below a8.below).below a0) c3 (by decide)
 refine xlv (.r [15] 14) k1.rp ?_
 refine xb 1 2 o0 ?_
 have f2:=b3.own2 (Zh hk f5) c3 (by decide)
 refine xr 0 (args:=#[.agg #[V0 lo,V0 hi],.slice kp (Zn (inB l no)) kc]) (Ln lo hi _ (Vp (inB l no) (Zn (inB l no))) _ (Fu (Zf f2) (Ue _ _))) fun a4 a1=>?_
 refine xin 4 (Vh lo hi (Vp (inB l no) (Zn (inB l no)))) (0:Int) (fun r7=>?_) (fun r7=>?_)
 ·refine xd 1 (.t B [117]) ?_
  refine xm2 (.b [1,2]) 0 3 ?_ ?_
  ·have l7:=(o0.below a1).below (Za a4)
   refine xlv 0 l7.rp ?_
   refine yc (.o [] 3) (args:=#[V0 no,.iface 26 (V0 9)]) (.t B [117]) (Ym no (some 9) [] _ _ rfl) ?_
   rintro _ y3 ⟨y5,rfl,e3,g5⟩
   refine⟨(SF.of_below _ e3),?_⟩
   rw[Qk] at g5
   obtain⟨t3,v9,rfl⟩:=g5.iface
   have c8:=(((b3.blk ((k2.below a8.below).below a0) (Ne.symm (Ne.symm b0))).below a1).below (Za a4)).below e3
   have g2:=n2.ge0 (blB (Below.refl B w) hBw n1.below)
   refine ysv (.o [] 4) c8 [V0 (Qb (inB l no)),.bool (Xp (inB l no)),.slice kp (Zn (inB l no)) kc,.slice vp (Zn (inB l no)) vc] (.t B [117]) fun x2 l6 u8=>⟨(Xd l6 c8 (Nat.le_trans hBw g2) (by decide)),?_⟩
   have j2:=l6.below (blB (blB (blB (b3.below (blB (blB hB hBw a8.below) hBw a0) (Nat.le_trans hBw c2)) hBw a1) hBw (Za a4)) hBw e3) (Nat.le_trans hBw g2)
   have hO:=(Ze.upd_new ((((Ze.upd_new (((((((show Ze [145] w _ from(Ze.of_below n1.below)).trans (Ze.of_below n2.below)).trans (Ze.of_upd u3 a3 (by decide))).trans (Ze.of_below a9)).trans (Ze.of_below (Za W4))).trans (Ze.of_below a8.below)).trans (Ze.of_below a0)) b3 c2).trans (Ze.of_below a1)).trans (Ze.of_below (Za a4))).trans (Ze.of_below e3)) l6 g2)
   have j4:=l6.blkT ((((b3.blkT ((b6.below a8.below).below a0) c3 (by decide)).below a1).below (Za a4)).below e3) c8 (by decide)
   have f9:=g5.upd l6 c8 (by decide)
   exact xec (.r [5] 5) u8 (.tuple #[.agg #[V0 (Qb (inB l no)),.bool (Xp (inB l no)),.slice kp (Zn (inB l no)) kc,.slice vp (Zn (inB l no)) vc],.iface t3 (v9)]) ⟨j2,hO,j4,.inl ⟨by(unfold Xt;(repeat' split)<;>first|rfl|assumption|decide|omega|exact absurd (Eq.trans (Eq.symm ‹Qf _ _=true›) ‹Qf _ _=false›) (by decide)|(rename_i q;exact absurd ⟨by assumption,by assumption,by assumption⟩ q)|(rename_i q;obtain⟨q1,q2,q3⟩:=q;exact absurd (Eq.trans (Eq.symm q1) ‹Xp _=false›) (by decide))|(rename_i q;obtain⟨q1,q2,q3⟩:=q;omega)),_,_,_,_,_,_,_,_,_,_,rfl,by(unfold Xt;(repeat' split)<;>first|exact f9|(exfalso;omega)|contradiction|exact absurd (Eq.trans (Eq.symm ‹Qf _ _=true›) ‹Qf _ _=false›) (by decide)|(rename_i q;exact absurd ⟨by assumption,by assumption,by assumption⟩ q)|(rename_i q;obtain⟨q1,q2,q3⟩:=q;exact absurd (Eq.trans (Eq.symm q1) ‹Xp _=false›) (by decide))|(rename_i q;obtain⟨q1,q2,q3⟩:=q;omega))⟩⟩
  refine yc 0 (args:=#[V0 no,.iface 26 (V0 9)]) (.t B [117]) (Ym no (some 9) [] _ _ rfl) ?_
  rintro _ y8 ⟨y1,rfl,d7,i0⟩
  refine⟨(SF.of_below _ d7),?_⟩
  rw[Qk] at i0
  obtain⟨v4,v8,rfl⟩:=i0.iface
  have k8:=((o0.below a1).below (Za a4)).below d7
  refine xlv (.o [] 0) k8.rp ?_
  have d2:=(((b3.blk ((k2.below a8.below).below a0) (Ne.symm (Ne.symm b0))).below a1).below (Za a4)).below d7
  have g2:=n2.ge0 (blB (Below.refl B w) hBw n1.below)
  refine ysv (.o [] 4) d2 [V0 (Qb (inB l no)),.bool (Xp (inB l no)),.slice kp (Zn (inB l no)) kc,.slice vp (Zn (inB l no)) vc] (.t B [117]) fun al i7 t0=>⟨(Xd i7 d2 (Nat.le_trans hBw g2) (by decide)),?_⟩
  have m3:=i7.below (blB (blB (blB (b3.below (blB (blB hB hBw a8.below) hBw a0) (Nat.le_trans hBw c2)) hBw a1) hBw (Za a4)) hBw d7) (Nat.le_trans hBw g2)
  have hO:=(Ze.upd_new ((((Ze.upd_new (((((((show Ze [145] w _ from(Ze.of_below n1.below)).trans (Ze.of_below n2.below)).trans (Ze.of_upd u3 a3 (by decide))).trans (Ze.of_below a9)).trans (Ze.of_below (Za W4))).trans (Ze.of_below a8.below)).trans (Ze.of_below a0)) b3 c2).trans (Ze.of_below a1)).trans (Ze.of_below (Za a4))).trans (Ze.of_below d7)) i7 g2)
  have l1:=i7.blkT ((((b3.blkT ((b6.below a8.below).below a0) c3 (by decide)).below a1).below (Za a4)).below d7) d2 (by decide)
  have h8:=i0.upd i7 d2 (by decide)
  exact xec (.r [5] 5) t0 (.tuple #[.agg #[V0 (Qb (inB l no)),.bool (Xp (inB l no)),.slice kp (Zn (inB l no)) kc,.slice vp (Zn (inB l no)) vc],.iface v4 (v8)]) ⟨m3,hO,l1,.inl ⟨by(unfold Xt;(repeat' split)<;>first|rfl|assumption|decide|omega|exact absurd (Eq.trans (Eq.symm ‹Qf _ _=true›) ‹Qf _ _=false›) (by decide)|(rename_i q;exact absurd ⟨by assumption,by assumption,by assumption⟩ q)|(rename_i q;obtain⟨q1,q2,q3⟩:=q;exact absurd (Eq.trans (Eq.symm q1) ‹Xp _=false›) (by decide))|(rename_i q;obtain⟨q1,q2,q3⟩:=q;omega)),_,_,_,_,_,_,_,_,_,_,rfl,by(unfold Xt;(repeat' split)<;>first|exact h8|(exfalso;omega)|contradiction|exact absurd (Eq.trans (Eq.symm ‹Qf _ _=true›) ‹Qf _ _=false›) (by decide)|(rename_i q;exact absurd ⟨by assumption,by assumption,by assumption⟩ q)|(rename_i q;obtain⟨q1,q2,q3⟩:=q;exact absurd (Eq.trans (Eq.symm q1) ‹Xp _=false›) (by decide))|(rename_i q;obtain⟨q1,q2,q3⟩:=q;omega))⟩⟩
 refine xd 1 .z ?_
 have b9:=(o0.below a1).below (Za a4)
 refine xb (.e [0] 1) 1 b9 ?_
 refine xg (.b [2]) [69,70] (Xp (inB l no)) (fun s0=>?_) (fun s0=>?_)
 ·have b7:=((b3.blkT ((b6.below a8.below).below a0) c3 (by decide)).below a1).below (Za a4)
  refine xb (.e [3,4,5,6] 7) 2 b7 ?_
  refine xg (.b [8,9,10]) [76,77,78] (deep != (0:Int)) (fun e4=>?_) (fun e4=>?_)
  ·have e4:=Pi e4
   refine xb (.e [11,12,13,14] 15) 2 b7 ?_
   refine xb (.e [16,17,18] 19) 8 b7 ?_
   refine xwm (.e [20] 21) ((way.length:Int)+1) (↑(way.length+1):Int) ?_
   refine xin (.r [22,23,24] 2) deep (↑(way.length+1):Int) (fun q7=>?_) (fun q7=>?_)
   ·refine xd 1 (.t B [117]) ?_
    refine xm2 (.b [1,2]) 0 3 ?_ ?_
    ·have n8:=b9.below (Za a4.drew)
     refine xlv 0 n8.rp ?_
     refine yc (.o [] 3) (args:=#[V0 no,.iface 26 (V0 10)]) (.t B [117]) (Ym no (some 10) [] _ _ rfl) ?_
     rintro _ z0 ⟨y7,rfl,e5,i1⟩
     refine⟨(SF.of_below _ e5),?_⟩
     rw[Qk] at i1
     obtain⟨u2,w5,rfl⟩:=i1.iface
     have d3:=((((b3.blk ((k2.below a8.below).below a0) (Ne.symm (Ne.symm b0))).below a1).below (Za a4)).below (Za a4.drew)).below e5
     have g2:=n2.ge0 (blB (Below.refl B w) hBw n1.below)
     refine ysv (.o [] 4) d3 [V0 (Qb (inB l no)),.bool (Xp (inB l no)),.slice kp (Zn (inB l no)) kc,.slice vp (Zn (inB l no)) vc] (.t B [117]) fun z6 k5 u5=>⟨(Xd k5 d3 (Nat.le_trans hBw g2) (by decide)),?_⟩
     have n4:=k5.below (blB (blB (blB (blB (b3.below (blB (blB hB hBw a8.below) hBw a0) (Nat.le_trans hBw c2)) hBw a1) hBw (Za a4)) hBw (Za a4.drew)) hBw e5) (Nat.le_trans hBw g2)
     have hO:=(Ze.upd_new (((((Ze.upd_new (((((((show Ze [145] w _ from(Ze.of_below n1.below)).trans (Ze.of_below n2.below)).trans (Ze.of_upd u3 a3 (by decide))).trans (Ze.of_below a9)).trans (Ze.of_below (Za W4))).trans (Ze.of_below a8.below)).trans (Ze.of_below a0)) b3 c2).trans (Ze.of_below a1)).trans (Ze.of_below (Za a4))).trans (Ze.of_below (Za a4.drew))).trans (Ze.of_below e5)) k5 g2)
     have m7:=k5.blkT ((b7.below (Za a4.drew)).below e5) d3 (by decide)
     have h2:=i1.upd k5 d3 (by decide)
     exact xec (.r [5] 5) u5 (.tuple #[.agg #[V0 (Qb (inB l no)),.bool (Xp (inB l no)),.slice kp (Zn (inB l no)) kc,.slice vp (Zn (inB l no)) vc],.iface u2 (w5)]) ⟨n4,hO,m7,.inl ⟨by(unfold Xt;(repeat' split)<;>first|rfl|assumption|decide|omega|exact absurd (Eq.trans (Eq.symm ‹Qf _ _=true›) ‹Qf _ _=false›) (by decide)|(rename_i q;exact absurd ⟨by assumption,by assumption,by assumption⟩ q)|(rename_i q;obtain⟨q1,q2,q3⟩:=q;exact absurd (Eq.trans (Eq.symm q1) ‹Xp _=false›) (by decide))|(rename_i q;obtain⟨q1,q2,q3⟩:=q;omega)),_,_,_,_,_,_,_,_,_,_,rfl,by(unfold Xt;(repeat' split)<;>first|exact h2|(exfalso;omega)|contradiction|exact absurd (Eq.trans (Eq.symm ‹Qf _ _=true›) ‹Qf _ _=false›) (by decide)|(rename_i q;exact absurd ⟨by assumption,by assumption,by assumption⟩ q)|(rename_i q;obtain⟨q1,q2,q3⟩:=q;exact absurd (Eq.trans (Eq.symm q1) ‹Xp _=false›) (by decide))|(rename_i q;obtain⟨q1,q2,q3⟩:=q;omega))⟩⟩
    refine yc 0 (args:=#[V0 no,.iface 26 (V0 10)]) (.t B [117]) (Ym no (some 10) [] _ _ rfl) ?_
    rintro _ ao ⟨y9,rfl,d6,g1⟩
    refine⟨(SF.of_below _ d6),?_⟩
    rw[Qk] at g1
    obtain⟨t1,s7,rfl⟩:=g1.iface
    have l3:=(b9.below (Za a4.drew)).below d6
    refine xlv (.o [] 0) l3.rp ?_
    have d4:=((((b3.blk ((k2.below a8.below).below a0) (Ne.symm (Ne.symm b0))).below a1).below (Za a4)).below (Za a4.drew)).below d6
    have g2:=n2.ge0 (blB (Below.refl B w) hBw n1.below)
    refine ysv (.o [] 4) d4 [V0 (Qb (inB l no)),.bool (Xp (inB l no)),.slice kp (Zn (inB l no)) kc,.slice vp (Zn (inB l no)) vc] (.t B [117]) fun ae m9 w6=>⟨(Xd m9 d4 (Nat.le_trans hBw g2) (by decide)),?_⟩
    have j5:=m9.below (blB (blB (blB (blB (b3.below (blB (blB hB hBw a8.below) hBw a0) (Nat.le_trans hBw c2)) hBw a1) hBw (Za a4)) hBw (Za a4.drew)) hBw d6) (Nat.le_trans hBw g2)
    have hO:=(Ze.upd_new (((((Ze.upd_new (((((((show Ze [145] w _ from(Ze.of_below n1.below)).trans (Ze.of_below n2.below)).trans (Ze.of_upd u3 a3 (by decide))).trans (Ze.of_below a9)).trans (Ze.of_below (Za W4))).trans (Ze.of_below a8.below)).trans (Ze.of_below a0)) b3 c2).trans (Ze.of_below a1)).trans (Ze.of_below (Za a4))).trans (Ze.of_below (Za a4.drew))).trans (Ze.of_below d6)) m9 g2)
    have m1:=m9.blkT ((b7.below (Za a4.drew)).below d6) d4 (by decide)
    have g6:=g1.upd m9 d4 (by decide)
    exact xec (.r [5] 5) w6 (.tuple #[.agg #[V0 (Qb (inB l no)),.bool (Xp (inB l no)),.slice kp (Zn (inB l no)) kc,.slice vp (Zn (inB l no)) vc],.iface t1 (s7)]) ⟨j5,hO,m1,.inl ⟨by(unfold Xt;(repeat' split)<;>first|rfl|assumption|decide|omega|exact absurd (Eq.trans (Eq.symm ‹Qf _ _=true›) ‹Qf _ _=false›) (by decide)|(rename_i q;exact absurd ⟨by assumption,by assumption,by assumption⟩ q)|(rename_i q;obtain⟨q1,q2,q3⟩:=q;exact absurd (Eq.trans (Eq.symm q1) ‹Xp _=false›) (by decide))|(rename_i q;obtain⟨q1,q2,q3⟩:=q;omega)),_,_,_,_,_,_,_,_,_,_,rfl,by(unfold Xt;(repeat' split)<;>first|exact g6|(exfalso;omega)|contradiction|exact absurd (Eq.trans (Eq.symm ‹Qf _ _=true›) ‹Qf _ _=false›) (by decide)|(rename_i q;exact absurd ⟨by assumption,by assumption,by assumption⟩ q)|(rename_i q;obtain⟨q1,q2,q3⟩:=q;exact absurd (Eq.trans (Eq.symm q1) ‹Xp _=false›) (by decide))|(rename_i q;obtain⟨q1,q2,q3⟩:=q;omega))⟩⟩
   refine xlv 5 b9.rp ?_
   have d1:=((b3.blk ((k2.below a8.below).below a0) (Ne.symm (Ne.symm b0))).below a1).below (Za a4)
   refine xsv 0 d1 [V0 (Qb (inB l no)),.bool (Xp (inB l no)),.slice kp (Zn (inB l no)) kc,.slice vp (Zn (inB l no)) vc] fun z9 j7 u0=>?_
   have g2:=n2.ge0 (blB (Below.refl B w) hBw n1.below)
   have i8:=j7.below (blB (blB (b3.below (blB (blB hB hBw a8.below) hBw a0) (Nat.le_trans hBw c2)) hBw a1) hBw (Za a4)) (Nat.le_trans hBw g2)
   have hO:=(Ze.upd_new (((Ze.upd_new (((((((show Ze [145] w _ from(Ze.of_below n1.below)).trans (Ze.of_below n2.below)).trans (Ze.of_upd u3 a3 (by decide))).trans (Ze.of_below a9)).trans (Ze.of_below (Za W4))).trans (Ze.of_below a8.below)).trans (Ze.of_below a0)) b3 c2).trans (Ze.of_below a1)).trans (Ze.of_below (Za a4))) j7 g2)
   have l8:=j7.blkT b7 d1 (by decide)
   have r3:=j7.own2 (Zb (Zb f2 a1) (Za a4)) d1 (by decide)
   have n3:=j7.own2 (Zb (Zb (b3.own2 (Zh g9 f5) c3 (by decide)) a1) (Za a4)) d1 (by decide)
   exact xec 4 u0 (.tuple #[.agg #[V0 (Qb (inB l no)),.bool (Xp (inB l no)),.slice kp (Zn (inB l no)) kc,.slice vp (Zn (inB l no)) vc],.nilIface]) ⟨i8,hO,l8,.inr ⟨by(unfold Xt;(repeat' split)<;>first|rfl|assumption|decide|omega|exact absurd (Eq.trans (Eq.symm ‹Qf _ _=true›) ‹Qf _ _=false›) (by decide)|(rename_i q;exact absurd ⟨by assumption,by assumption,by assumption⟩ q)|(rename_i q;obtain⟨q1,q2,q3⟩:=q;exact absurd (Eq.trans (Eq.symm q1) ‹Xp _=false›) (by decide))|(rename_i q;obtain⟨q1,q2,q3⟩:=q;omega)),by assumption,_,_,_,_,rfl,r3,n3⟩⟩
  have e4:=Qi e4
  refine xlv (.r [11,12,13,14,15,16,17,18,19,20,21,22,23,24] 8) b9.rp ?_
  have d5:=((b3.blk ((k2.below a8.below).below a0) (Ne.symm (Ne.symm b0))).below a1).below (Za a4)
  refine xsv 0 d5 [V0 (Qb (inB l no)),.bool (Xp (inB l no)),.slice kp (Zn (inB l no)) kc,.slice vp (Zn (inB l no)) vc] fun aj n7 w4=>?_
  have g2:=n2.ge0 (blB (Below.refl B w) hBw n1.below)
  have i9:=n7.below (blB (blB (b3.below (blB (blB hB hBw a8.below) hBw a0) (Nat.le_trans hBw c2)) hBw a1) hBw (Za a4)) (Nat.le_trans hBw g2)
  have hO:=(Ze.upd_new (((Ze.upd_new (((((((show Ze [145] w _ from(Ze.of_below n1.below)).trans (Ze.of_below n2.below)).trans (Ze.of_upd u3 a3 (by decide))).trans (Ze.of_below a9)).trans (Ze.of_below (Za W4))).trans (Ze.of_below a8.below)).trans (Ze.of_below a0)) b3 c2).trans (Ze.of_below a1)).trans (Ze.of_below (Za a4))) n7 g2)
  have m5:=n7.blkT b7 d5 (by decide)
  have s5:=n7.own2 (Zb (Zb f2 a1) (Za a4)) d5 (by decide)
  have j9:=n7.own2 (Zb (Zb (b3.own2 (Zh g9 f5) c3 (by decide)) a1) (Za a4)) d5 (by decide)
  exact xec 4 w4 (.tuple #[.agg #[V0 (Qb (inB l no)),.bool (Xp (inB l no)),.slice kp (Zn (inB l no)) kc,.slice vp (Zn (inB l no)) vc],.nilIface]) ⟨i9,hO,m5,.inr ⟨by(unfold Xt;(repeat' split)<;>first|rfl|assumption|decide|omega|exact absurd (Eq.trans (Eq.symm ‹Qf _ _=true›) ‹Qf _ _=false›) (by decide)|(rename_i q;exact absurd ⟨by assumption,by assumption,by assumption⟩ q)|(rename_i q;obtain⟨q1,q2,q3⟩:=q;exact absurd (Eq.trans (Eq.symm q1) ‹Xp _=false›) (by decide))|(rename_i q;obtain⟨q1,q2,q3⟩:=q;omega)),by assumption,_,_,_,_,rfl,s5,j9⟩⟩
 refine xlv (.r [3,4,5,6,7,8,9,10,11,12,13,14,15,16,17,18,19,20,21,22,23,24] 8) b9.rp ?_
 have d0:=((b3.blk ((k2.below a8.below).below a0) (Ne.symm (Ne.symm b0))).below a1).below (Za a4)
 refine xsv 0 d0 [V0 (Qb (inB l no)),.bool (Xp (inB l no)),.slice kp (Zn (inB l no)) kc,.slice vp (Zn (inB l no)) vc] fun ai l5 u6=>?_
 have g2:=n2.ge0 (blB (Below.refl B w) hBw n1.below)
 have j6:=l5.below (blB (blB (b3.below (blB (blB hB hBw a8.below) hBw a0) (Nat.le_trans hBw c2)) hBw a1) hBw (Za a4)) (Nat.le_trans hBw g2)
 have hO:=(Ze.upd_new (((Ze.upd_new (((((((show Ze [145] w _ from(Ze.of_below n1.below)).trans (Ze.of_below n2.below)).trans (Ze.of_upd u3 a3 (by decide))).trans (Ze.of_below a9)).trans (Ze.of_below (Za W4))).trans (Ze.of_below a8.below)).trans (Ze.of_below a0)) b3 c2).trans (Ze.of_below a1)).trans (Ze.of_below (Za a4))) l5 g2)
 have m0:=l5.blkT (((b3.blkT ((b6.below a8.below).below a0) c3 (by decide)).below a1).below (Za a4)) d0 (by decide)
 have p3:=l5.own2 (Zb (Zb f2 a1) (Za a4)) d0 (by decide)
 have n6:=l5.own2 (Zb (Zb (b3.own2 (Zh g9 f5) c3 (by decide)) a1) (Za a4)) d0 (by decide)
 exact xec 4 u6 (.tuple #[.agg #[V0 (Qb (inB l no)),.bool (Xp (inB l no)),.slice kp (Zn (inB l no)) kc,.slice vp (Zn (inB l no)) vc],.nilIface]) ⟨j6,hO,m0,.inr ⟨by(unfold Xt;(repeat' split)<;>first|rfl|assumption|decide|omega|exact absurd (Eq.trans (Eq.symm ‹Qf _ _=true›) ‹Qf _ _=false›) (by decide)|(rename_i q;exact absurd ⟨by assumption,by assumption,by assumption⟩ q)|(rename_i q;obtain⟨q1,q2,q3⟩:=q;exact absurd (Eq.trans (Eq.symm q1) ‹Xp _=false›) (by decide))|(rename_i q;obtain⟨q1,q2,q3⟩:=q;omega)),by assumption,_,_,_,_,rfl,p3,n6⟩⟩
def Jp(K:List Int)(Vs:List Bl)(no:Int)(k:Nat):List Ent:=(List.range k).map fun j=>(K.getD j 0,Vs.getD j [],no)
theorem Pa(K:List Int)(Vs:List Bl)(no:Int)(k:Nat):(Jp K Vs no k).length=k:=by simp[Jp]
theorem Zcm(K:List Int)(Vs:List Bl)(no:Int)(k:Nat):Jp K Vs no (k+1)=Jp K Vs no k++[(K.getD k 0,Vs.getD k [],no)]:=by simp[Jp,List.range_succ]
theorem Zak(es:List Ent)(K:List Int)(Vs:List Bl)(no:Int)(k:Nat):(es++Jp K Vs no k).flatMap Va++[V0 (K.getD k 0),.string ⟨(Vs.getD k []).toArray⟩,V0 no]=(es++Jp K Vs no (k+1)).flatMap Va:=by
 rw[Zcm,←List.append_assoc,List.flatMap_append (xs:=es++Jp K Vs no k)]
 rfl
def LeafP(B bw:Nat)(c1 c3 c4 c5 c6 c7:Value)(pw:O0)(cw:Nat)(way:List Int)(c9:Value)(es:List Ent)(K:List Int)(Vs:List Bl)(no:Int)(n:Nat)(w:World)(e:Ending)(w':World):Prop :=
 ∃ u pe ce,e=.returned u∧Below B w w'∧Ze [145,45] w w'∧Blk w' bw [.slice pe (es.length+n) ce,c1,V0 (↑(way.length+1):Int),c3,c4,c5,c6,c7,.slice pw way.length cw,c9] 145∧w'.ownsRow B 45 3 (.slice pe (es.length+n) ce) (es.length+n) ((es++Jp K Vs no n).flatMap Va)
theorem Ii(B bw:Nat)(c1 c2 c3 c4 c5 c6 c7 c9:Value)(pe:O0)(ce:Nat)(es:List Ent)(pw:O0)(cw:Nat)(way:List Int)(no:Int)(nt:Int)(nl:Bool)(kp vp:O0)(n kc vc:Nat)(K:List Int)(Vs:List Bl)(w:World)(hBb:B≤bw)(hBw:B≤w.heap.size)(kW:Blk w bw [.slice pe es.length ce,c1,c2,c3,c4,c5,c6,c7,.slice pw way.length cw,c9] 145)(hE:w.ownsRow B 45 3 (.slice pe es.length ce) es.length (es.flatMap Va))(hKs:∀ W,Below B w W→Ze [145,45] w W→Sl W (.slice kp n kc) n (K.map V0))(hVs:∀ W,Below B w W→Ze [145,45] w W→Sl W (.slice vp n vc) n (Vs.map sv))(hKl:K.length=n)(hVl:Vs.length=n)(hwl:way.length≤1000000)(hn:es.length+n≤1000000) :
 C0 94 #[P0 bw,V0 no,.agg #[V0 nt,.bool nl,.slice kp n kc,.slice vp n vc]] w (LeafP B bw c1 c3 c4 c5 c6 c7 pw cw way c9 es K Vs no n w):=by
 refine zin 46 Tryz.func94 ?_
 refine xa 2 [V0 nt,.bool nl,.slice kp n kc,.slice vp n vc] 117 fun b1 W1 n1=>?_
 have a9:=kW.below n1.below
 refine xb 8 8 a9 ?_
 refine xwm 1 ((way.length:Int)+1) (↑(way.length+1):Int) ?_
 refine xs 3 a9 [.slice pe es.length ce,c1,V0 (↑(way.length+1):Int),c3,c4,c5,c6,c7,.slice pw way.length cw,c9] fun W2 u2 k2=>?_
 have k1:=u2.blkT n1.blk a9 (by decide)
 refine xb 5 2 k1 ?_
 have d5:=u2.own2 (Zb hE n1.below) a9 (by decide)
 have hB:=u2.below (blB (Below.refl B w) hBw n1.below) hBb
 have hO:=(show Ze [145,45] w _ from(Ze.of_below n1.below)).trans (Ze.of_upd u2 a9 (by decide))
 refine zl 5 46 (fun zm e9 V=>∃ (i:Nat) (pe:O0) (ce:Nat),e9=[(0,P0 bw),(1,V0 no),(5,P0 b1),(19,.slice kp n kc),(20,V0 (n:Int)),(21,V0 (i:Int))]∧zm=n-((i:Int)).toNat∧Below B w V∧Ze [145,45] w V∧Blk V bw ([.slice pe (es.length+i) ce,c1,V0 (↑(way.length+1):Int),c3,c4,c5,c6,c7,.slice pw way.length cw,c9]) 145∧Blk V b1 ([V0 nt,.bool nl,.slice kp n kc,.slice vp n vc]) 117∧V.ownsRow B 45 3 (.slice pe (es.length+i) ce) (es.length+i) ((es++Jp K Vs no i).flatMap Va)∧i≤n) ⟨0,_,_,rfl,rfl,hB,hO,k2,k1,(by simpa [Jp] using d5),Nat.zero_le _⟩ ?_
 rintro _ _ W3 ⟨i,pe,ce,rfl,rfl,b2,b0,a7,c0,hE,hi⟩ J3 e4 r3
 refine xid 6 ((i:Int)<(n:Int)) (fun f0=>?_) (fun f0=>?_)
 ·refine xx 7 _ n i 1 (IntsN.elem (hKs _ b2 b0) hKl (k:=i) (by omega)).1 ?_
  refine xl 0 ((IntsN.elem (hKs _ b2 b0) hKl (k:=i) (by omega)).2) ?_
  refine xd 4 (.t B [145,45]) ?_
  have a2:=c0.below (Za W3)
  refine xbt (.e [0,1,2,3,4,6,7] 8) 3 B [145,45] a2 ?_
  have a5:=blB b2 hBw (Za W3)
  have b4:=b0.trans (Ze.of_below (Za W3))
  refine xx (.e [9] 10) _ n i 1 (Strs.elem (hVs _ a5 b4) hVl (k:=i) (by omega)).1 ?_
  refine xlt (.e [] 11) (.t B [145,45]) (fun V hV=>(Strs.elem (hVs _ (Ya a5 hV hBw) (b4.trans hV.2)) hVl (k:=i) (by omega)).2) ?_
  refine xm2 (.b [12,13]) 5 14 ?_ ?_
  ·have a3:=a7.below (Za W3)
   refine xb 0 0 a3 ?_
   refine xbs (.o [] 14) 1 [V0 (K.getD i 0),.string ⟨(Vs.getD i []).toArray⟩,V0 no] 45 fun b5 W5 n5=>?_
   have g5:=n5.ge0 a5
   have b7:=Zb hE (Za W3)
   have e5:=Xa b7 n5
   have a6:=Zb b7 n5.below
   have c8:=blB a5 hBw n5.below
   refine ybi (.o [] 15) (.t B [145,45]) fun _ _ _ _ zJ zQ zo zx zy zK=>Xk (m:=1) (news:=[V0 (K.getD i 0),.string ⟨(Vs.getD i []).toArray⟩,V0 no]) (.agg #[V0 0,.string ⟨#[]⟩,V0 0]) 3 32 ((es.length+(i+1))) (((es++Jp K Vs no (i+1)).flatMap Va)) zo Tryz.underlying37 (by kernel_rfl) rfl (by decide) zx a6 zy (n5.blk.sl 1 1 (by decide) (by decide)) rfl (by simp[Value.oneCell']) (by unfold maxLen;omega) (by omega) (Nat.le_trans hBw c8.size) (by omega) (Zak _ _ _ _ _) fun f2 e8 W6 o6 d2 e1=>?_
   refine zK _ _ (Yd e1 d2 a6 (by decide)) ?_
   have a1:=(a3.below n5.below).grown d2 a6 (by decide)
   refine ys (.o [16,17,18] 19) a1 [.slice f2 (es.length+(i+1)) e8,c1,V0 (↑(way.length+1):Int),c3,c4,c5,c6,c7,.slice pw way.length cw,c9] (.t B [145,45]) fun W7 u7 k7=>⟨(Xd u7 a1 hBb (by decide)),?_⟩
   refine xwm 4 ((i:Int)+1) (↑(i+1):Int) ?_
   have e0:=u7.below (c8.trans e1) hBb
   have d7:=((b4.trans (Ze.of_below n5.below)).trans (Ze.of_grown d2 a6 (by decide))).trans (Ze.of_upd u7 a1 (by decide))
   have b3:=u7.blkT ((a2.below n5.below).grown d2 a6 (by decide)) a1 (by decide)
   have d4:=u7.own2 o6 a1 (by decide)
   exact ze 2 (e4 _ _ _ ⟨i+1,_,_,rfl,rfl,e0,d7,k7,b3,d4,by omega⟩ (by omega))
  refine xbs 0 1 [V0 (K.getD i 0),.string ⟨(Vs.getD i []).toArray⟩,V0 no] 45 fun b8 W8 n8=>?_
  have g8:=n8.ge0 a5
  have d0:=Zb hE (Za W3)
  have e3:=Xa d0 n8
  have a4:=(a7.below (Za W3)).below n8.below
  refine xb (.o [] 5) 0 a4 ?_
  have a8:=Zb d0 n8.below
  have b9:=blB a5 hBw n8.below
  refine ybi (.o [] 15) (.t B [145,45]) fun _ _ _ _ zJ zQ zo zx zy zK=>Xk (m:=1) (news:=[V0 (K.getD i 0),.string ⟨(Vs.getD i []).toArray⟩,V0 no]) (.agg #[V0 0,.string ⟨#[]⟩,V0 0]) 3 32 ((es.length+(i+1))) (((es++Jp K Vs no (i+1)).flatMap Va)) zo Tryz.underlying37 (by kernel_rfl) rfl (by decide) zx a8 zy (n8.blk.sl 1 1 (by decide) (by decide)) rfl (by simp[Value.oneCell']) (by unfold maxLen;omega) (by omega) (Nat.le_trans hBw b9.size) (by omega) (Zak _ _ _ _ _) fun e6 e7 W9 o9 d3 e2=>?_
  refine zK _ _ (Yd e2 d3 a8 (by decide)) ?_
  have a0:=a4.grown d3 a8 (by decide)
  refine ys (.o [16,17,18] 19) a0 [.slice e6 (es.length+(i+1)) e7,c1,V0 (↑(way.length+1):Int),c3,c4,c5,c6,c7,.slice pw way.length cw,c9] (.t B [145,45]) fun f3 d1 f1=>⟨(Xd d1 a0 hBb (by decide)),?_⟩
  refine xwm 4 ((i:Int)+1) (↑(i+1):Int) ?_
  have d8:=d1.below (b9.trans e2) hBb
  have d9:=((b4.trans (Ze.of_below n8.below)).trans (Ze.of_grown d3 a8 (by decide))).trans (Ze.of_upd d1 a0 (by decide))
  have b6:=d1.blkT ((a2.below n8.below).grown d3 a8 (by decide)) a0 (by decide)
  have d6:=d1.own2 o9 a0 (by decide)
  exact ze 2 (e4 _ _ _ ⟨i+1,_,_,rfl,rfl,d8,d9,f1,b6,d6,by omega⟩ (by omega))
 refine xe 4 (.tuple #[]) ?_
 obtain rfl:i=n:=by omega
 exact⟨_,_,_,rfl,b2,b0,a7,hE⟩
end Go.Proofs.YtgphgaehfdfjjaaGreat
namespace Go.Proofs.YtgphgaehfdfjjaaGreat
set_option maxHeartbeats 8000000
set_option maxRecDepth 100000
open Go.RowKit Go.Extern.Stop Go.Stop Go.Extern
set_option linter.unusedVariables false
def He(u v:Value):Prop:=∀ j,u.ownBlock=some j→v.ownBlock≠some j
theorem He.symm{u v:Value}(h:He u v):He v u:=fun j h1 h2=>h j h2 h1
theorem He.grow{w:World}{u v u':Value}{base e size n:Nat}{xs:List Value}(h:He u v)(k:w.ownsRow base e size v n xs)(hl:u'.ownBlock=u.ownBlock∨u'.ownBlock=some w.heap.size):He u' v:=by
 rintro j h1 h2
 rcases hl with hl|hl
 ·exact h j (hl▸h1) h2
 ·rw[hl,Option.some.injEq] at h1
  subst h1
  have:=(k.lt _ h2).2
  omega
theorem He.row{w W:World}{u v:Value}{base e size n:Nat}{xs:List Value}(h:He u v)(k:w.ownsRow base e size v n xs)(hg:w.grownBy W u.ownBlock):W.ownsRow base e size v n xs:=by
 obtain⟨h1,h2⟩:=k
 refine⟨h1,?_⟩
 rcases h2 with h2|⟨g,a1,a0,rfl,hb,hh,r⟩
 ·exact Or.inl h2
 ·exact Or.inr ⟨g,a1,a0,rfl,hb,(hg.block g (Array.getElem?_eq_some_iff.1 hh).1 (fun q=>h g q.symm rfl)).trans hh,r⟩
theorem He.of_lt{w W:World}{u v:Value}{base base2 e e2 size size2 n n2:Nat}{xs ys:List Value}(k:w.ownsRow base e size u n xs)(q:W.ownsRow base2 e2 size2 v n2 ys)(h:w.heap.size≤base2):He u v:=fun j h1 h2=>by
 have:=(k.lt j h1).2
 have:=(q.lt j h2).1
 omega
theorem He.nil(v:Value):He (S0) v:=fun j h=>by cases h
theorem own_cut{w:World}{base e n m c:Nat}{p:O0}{xs:List Value}(k:w.ownsRow base e 1 (.slice p n c) n xs)(hm:m≤n)(hp:p.isSome=true):w.ownsRow base e 1 (.slice p m c) m (xs.take m):=by
 obtain⟨h1,h2⟩:=k
 refine⟨by rw[List.length_take];omega,?_⟩
 rcases h2 with ⟨h2,_⟩|⟨g,a4,a2,hv,hb,hh,hc,a0,a1,a3⟩
 ·cases h2;cases hp
 ·simp only[Value.slice.injEq] at hv
  obtain⟨rfl,_,rfl⟩:=hv
  refine Or.inr ⟨g,c,a2,rfl,hb,hh,by omega,a0,a1,?_⟩
  rw[←a3,List.take_take]
  congr 1
  omega
theorem Wu{P:Program}{a:Act}{w:World}{K:Act→World→Prop}{Q:Exit→Act→World→Prop}{o:Oper}{s x:Operand}{t e te:TypeId}{base:Nat}{v:Value}{n:Nat}{xs:List Value}{b m c:Nat}{news:List Value}(z:Value)(size bytes n':Nat)(xs':List Value)
 (ho:o.op=.call { callee:=.builtin .append,args:=#[s,x],argTypes:=#[t,t] }) (ht:P.underlying t=some (.slice e)) (hi:(P.info? e).map (fun i=>(i.zero,i.size,i.bytes))=some (some z,size,bytes)) (hzs:z.cells.size=size) (hsz:0<size) (hs:a.eval s=v)
 (hown:w.ownsRow base e size v n xs) (hx:a.eval x=.slice (S1 b) m c) (hnew:Blk w b news te) (hl:news.length=m*size) (h1:∀ u∈news,u.oneCell'=true) (h63:n+m≤maxLen) (hbytes:(n+m)*bytes≤140737488355328) (hbase:base≤w.heap.size) (hn:n+m=n') (hxs:xs++news=xs')
 (h:∀ p c W,W.ownsRow base e size (.slice p n' c) n' xs'→w.grownBy W v.ownBlock→Below base w W→((Value.slice p n' c).ownBlock=v.ownBlock∨(Value.slice p n' c).ownBlock=some w.heap.size)→K (a.put o.dst (.slice p n' c)) W):o.wp P a w K Q:=by
 cases hq:P.info? e with
 | none=>simp[hq] at hi
 | some i =>
  simp only[hq,Option.map_some,Option.some.injEq,Prod.mk.injEq] at hi
  have hc:∀ j u,news[j]? = some u→w.cell? ((⟨b,0,none⟩:Addr).add j)=some u:=fun j u hj=>by
   have hc:=hnew.cell hj
   by_cases h0:j=0
   ·subst h0;simpa [Addr.add] using hc
   ·simpa [Addr.add,h0] using hc
  obtain⟨v',W,hr,h2,h3,_,h5⟩:=run_append_own_at (P:=P) w base t o.type e i z size bytes ht hq hi.1 hi.2.1 hi.2.2 hzs hsz v n xs hown ⟨b,0,none⟩ m c news hl hc h1 h63 hbytes hbase
  subst hn hxs
  obtain⟨p,c2,rfl⟩:=(Zf h2).slice
  unfold Oper.wp execOp
  simp only[ho,resolve,invoke,builtin,Sem.run_bind,Sem.run_pure,Result.andThen_ok,List.map_toArray,List.map_cons,List.map_nil,hs,hx,hr]
  exact h p c2 W h2 h3 (Hw h3 hown (Nat.le_refl _) hbase) h5
structure WS where
 es:List Ent
 bs:List Int
 deep:Int
 looked:Nat
 fs:List (List Int×Int)
 dry:Bool
def Qp(way bs:List Int)(c:Int)(s:WS):WS:={ s with fs:=s.fs++[(way++bs,c)] }
def Kq(V:List Int→Int→Int→Int→WS→WS)(way:List Int)(no:Int)(val:Bl)(p:Int×Int)(s:WS):WS :=
 if Ys val=0 then V (way++[no]) (Js val:Int) p.1 p.2 s else Qp way [no] (Ys val) s
def Vg(l:Bl)(no:Int):List Int:=Vp (inB l no) (Zn (inB l no))
def Mn(l:Bl)(no:Int):List Bl:=Ho (inB l no) (Zn (inB l no))
def Ws(V:List Int→Int→Int→Int→WS→WS)(l:Bl)(way:List Int)(no hi:Int)(s:WS)(i:Nat):WS :=
 if s.dry=true then s else Kq V way no ((Mn l no).getD i []) (Xi hi (Vg l no) i) s
def Xx(V:List Int→Int→Int→Int→WS→WS)(l:Bl)(way:List Int)(no hi:Int)(k:Nat)(s:WS):WS:=(List.range k).foldl (Ws V l way no hi) s
def Zl(l:Bl)(tree fuel:Int):Nat→List Int→Int→Int→Int→WS→WS
 | 0,_,_,_,_,s=>s
 | d+1,way,no,lo,hi,s =>
  if fuel≤s.looked then { Qp way [no] 12 s with dry:=true }
  else if Xt l way no tree lo hi s.deep≠0 then Qp way [no] (Xt l way no tree lo hi s.deep) { s with looked:=s.looked+1 }
  else if Xp (inB l no)=true then { s with looked:=s.looked+1,bs:=s.bs++[no],deep:=((way.length+1:Nat):Int),es:=s.es++Jp (Vg l no) (Mn l no) no (Zn (inB l no)) }
  else Xx (Zl l tree fuel d) l way no hi (Zn (inB l no)) { s with looked:=s.looked+1,bs:=s.bs++[no] }
theorem Hn(V:List Int→Int→Int→Int→WS→WS)(l:Bl)(way:List Int)(no hi:Int)(k:Nat)(s:WS):Xx V l way no hi (k+1) s=Ws V l way no hi (Xx V l way no hi k s) k:=by
 simp[Xx,List.range_succ]
theorem Zcw(V:List Int→Int→Int→Int→WS→WS)(l:Bl)(way:List Int)(no hi:Int)(s:WS)(i:Nat)(h:s.dry=true):Ws V l way no hi s i=s:=by simp[Ws,h]
theorem Zeq(V:List Int→Int→Int→Int→WS→WS)(l:Bl)(way:List Int)(no hi:Int)(s:WS){k n:Nat}(hk:k≤n)(h:(Xx V l way no hi k s).dry=true):Xx V l way no hi n s=Xx V l way no hi k s:=by
 induction n with
 | zero =>
  obtain rfl:k=0:=by omega
  rfl
 | succ n ih =>
   rcases Nat.lt_or_ge n k with q|q
   ·obtain rfl:k=n+1:=by omega
    rfl
   ·rw[Hn,ih q,Zcw _ _ _ _ _ _ _ h]
def Kw(w:World):List (List Int×Int)→List Value→Prop
 | [],[]=>True
 | f::r,v::q=>Vx w (f.1.map some) (some f.2) v∧Kw w r q
 | _,_=>False
theorem Kw.kept{w W:World}(hb:∀ blk cs,Blk w blk cs 152→Blk W blk cs 152):∀ {fs:List (List Int×Int)} {vs:List Value},Kw w fs vs→Kw W fs vs
 | [],[],h=>h
 | _::_,_::_,h=>⟨h.1.kept hb,Kw.kept hb h.2⟩
 | [],_::_,h=>h.elim
 | _::_,[],h=>h.elim
theorem Kw.only{T:List TypeId}{w W:World}{fs:List (List Int×Int)}{vs:List Value}(h:Kw w fs vs)(k:Ze T w W)(hT:T.contains 152=false):Kw W fs vs:=h.kept fun _ _ q=>q.only k hT
theorem Kw.below{w W:World}{fs:List (List Int×Int)}{vs:List Value}(h:Kw w fs vs)(hb:B0 w W):Kw W fs vs:=h.kept fun _ _ q=>q.below hb
theorem Kw.snoc{w:World}{f:List Int×Int}{v:Value}(hv:Vx w (f.1.map some) (some f.2) v):∀ {fs:List (List Int×Int)} {vs:List Value},Kw w fs vs→Kw w (fs++[f]) (vs++[v])
 | [],[],_=>⟨hv,trivial⟩
 | _::_,_::_,h=>⟨h.1,Kw.snoc hv h.2⟩
 | [],_::_,h=>h.elim
 | _::_,[],h=>h.elim
structure WalkR(B bw Bi b:Nat)(pi:Option Addr)(ni ci:Nat)(l:List UInt8)(tree fuel:Int)(way:List Int)(s:WS)(pe pb pf pw:Option Addr)(ce cb cf cw:Nat)(fv:List Value)(w:World):Prop where
 blk:Blk w bw [.slice pe s.es.length ce,.slice pb s.bs.length cb,.int .i64 s.deep,.int .i64 (s.looked:Int),.slice pf s.fs.length cf,.pointer (some ⟨b,0,none⟩),.int .i64 tree,.int .i64 fuel,.slice pw way.length cw,.bool s.dry] 145
 ents:w.ownsRow B 45 3 (.slice pe s.es.length ce) s.es.length (s.es.flatMap Va)
 blks:w.ownsRow B 3 1 (.slice pb s.bs.length cb) s.bs.length (s.bs.map (Value.int .i64))
 flts:w.ownsRow B 31 1 (.slice pf s.fs.length cf) s.fs.length fv
 fltv:Kw w s.fs fv
 ways:w.ownsRow B 3 1 (.slice pw way.length cw) way.length (way.map (Value.int .i64))
 apart:He (.slice pb s.bs.length cb) (.slice pw way.length cw)
 img:ImgR Bi b pi ni ci l w
def Zd9(B bw Bi b:Nat)(pi:O0)(ni ci:Nat)(l:Bl)(tree fuel:Int)(way:List Int)(t:WS)(w:World)(e:Ending)(w':World):Prop :=
 ∃ u pe pb pf pw ce cb cf cw fv,e=.returned u∧Below B w w'∧Ze [145,45,3,31] w w'∧WalkR B bw Bi b pi ni ci l tree fuel way t pe pb pf pw ce cb cf cw fv w'
end Go.Proofs.YtgphgaehfdfjjaaGreat
namespace Go.Proofs.YtgphgaehfdfjjaaGreat
set_option maxHeartbeats 8000000
set_option maxRecDepth 100000
open Go.RowKit Go.Extern.Stop Go.Stop Go.Extern
set_option linter.unusedVariables false
attribute [local irreducible] wpList wpAnyH Code.wp Oper.wp Go
theorem Mz{w:World}{base e n c:Nat}{p:O0}{xs:List Value}(k:w.ownsRow base e 1 (.slice p n c) n xs)(hn:0<n):p.isSome=true∧n≤c:=by
 rcases k.2 with ⟨h,_⟩|⟨g,a1,a0,hv,_,_,hc,_⟩
 ·simp only[Value.slice.injEq] at h;omega
 ·simp only[Value.slice.injEq] at hv
  obtain⟨rfl,_,rfl⟩:=hv
  exact⟨rfl,hc⟩
theorem Lr{w:World}{base e c:Nat}{p:O0}{way:List Int}{no:Int}(k:w.ownsRow base e 1 (.slice p (way++[no]).length c) (way++[no]).length ((way++[no]).map V0)):w.ownsRow base e 1 (.slice p way.length c) way.length (way.map V0):=by
 have h:=own_cut (m:=way.length) k (by simp) (Mz k (by simp)).1
 rwa [List.map_append,List.take_left' (by simp)] at h
theorem Ak{w w':World}(h:Ze [145,31] w w'):Ze [145,45,3,31] w w':=h.mono fun t ht=>by
 simp only[List.contains_cons,List.contains_nil,Bool.or_eq_false_iff] at ht ⊢
 exact⟨ht.1,ht.2.2.2⟩
def Zd2(B bw Bi b:Nat)(pi:O0)(ni ci:Nat)(l:Bl)(tree fuel:Int)(d:Nat):Prop :=
 ∀ (way:List Int) (no lo hi:Int) (s:WS) (pe pb pf pw:O0) (ce cb cf cw:Nat) (fv:List Value) (w:World),way.length+d=17→B≤w.heap.size→s.dry=false→WalkR B bw Bi b pi ni ci l tree fuel way s pe pb pf pw ce cb cf cw fv w →
  (Zl l tree fuel d way no lo hi s).es.length≤1000000→(Zl l tree fuel d way no lo hi s).bs.length≤1000000→(Zl l tree fuel d way no lo hi s).fs.length≤1000000 →
  C0 75 #[P0 bw,V0 no,.agg #[V0 lo,V0 hi]] w (Zd9 B bw Bi b pi ni ci l tree fuel way (Zl l tree fuel d way no lo hi s) w)
theorem Tc(B bw Bi b:Nat)(pi:O0)(ni ci:Nat)(l:Bl)(tree fuel:Int)(d:Nat)(hV:Zd2 B bw Bi b pi ni ci l tree fuel d)(way:List Int)(no lo hi:Int)(val:Bl)(s:WS)(pe pb pf pw:O0)(ce cb cf cw:Nat)(fv:List Value)(w:World)(hBb:B≤bw)(hBw:B≤w.heap.size)(hwd:way.length+1+d=17)(hdry:s.dry=false)(hvl:val.length≤1000)(hR:WalkR B bw Bi b pi ni ci l tree fuel (way++[no]) s pe pb pf pw ce cb cf cw fv w)(he:(Kq (Zl l tree fuel d) way no val (lo,hi) s).es.length≤1000000)(hb_:(Kq (Zl l tree fuel d) way no val (lo,hi) s).bs.length≤1000000)(hf:(Kq (Zl l tree fuel d) way no val (lo,hi) s).fs.length≤1000000) :
 C0 96 #[P0 bw,V0 no,.string ⟨val.toArray⟩,.agg #[V0 lo,V0 hi]] w (Zd9 B bw Bi b pi ni ci l tree fuel (way++[no]) (Kq (Zl l tree fuel d) way no val (lo,hi) s) w):=by
 obtain⟨kW,d2,d0,d3,d4,c5,d1,hI⟩:=hR
 have e4:=(Mz c5 (by simp)).2
 have e3:(way++[no]).length=way.length+1:=by simp
 refine zin 44 Tryz.func96 ?_
 refine xa 2 [V0 lo,V0 hi] 148 fun b1 W1 n1=>?_
 refine xr 5 (args:=#[.string ⟨val.toArray⟩]) (Uz val _ hvl) fun W2 a1=>?_
 refine xie 14 (Ys val) (0:Int) (fun d7=>?_) (fun d7=>?_)
 ·have k1:=n1.blk.below a1
  refine xlv 4 k1.rp ?_
  have a5:Kq (Zl l tree fuel d) way no val (lo,hi) s=Zl l tree fuel d (way++[no]) (Js val:Int) lo hi s:=by unfold Kq;rw[if_pos (by assumption)]
  have hB:=blB (blB (Below.refl B w) hBw n1.below) hBw a1
  have c9:=(kW.below n1.below).below a1
  have b8:=Zb (Zb d2 n1.below) a1
  have a7:=Zb (Zb d0 n1.below) a1
  have b4:=Zb (Zb d3 n1.below) a1
  have b6:=(d4.below n1.below).below a1
  have b7:=Zb (Zb c5 n1.below) a1
  have c4:=(hI.below n1.below).below a1
  refine xc 0 (args:=#[P0 bw,V0 (↑(Js val):Int),.agg #[V0 lo,V0 hi]]) (hV (way++[no]) (Js val:Int) lo hi s pe pb pf pw ce cb cf cw fv _ (by simp;omega) (Nat.le_trans hBw hB.size) hdry ⟨c9,b8,a7,b4,b6,b7,d1,c4⟩ (by have q:=he;rw[a5] at q;exact q) (by have q:=hb_;rw[a5] at q;exact q) (by have q:=hf;rw[a5] at q;exact q)) ?_
  rintro _ W4 ⟨u4,e1,e2,c0,e7,e6,e8,c2,e5,e9,rfl,d8,d9,e0⟩
  have c1:=hB.trans d8
  have hO:=((show Ze [145,45,3,31] w _ from(Ze.of_below n1.below)).trans (Ze.of_below a1)).trans d9
  refine xe 4 (.tuple #[]) ?_
  rw[a5]
  exact⟨_,_,_,_,_,_,_,_,_,_,rfl,c1,hO,e0⟩
 have a0:=(kW.below n1.below).below a1
 refine xb 7 8 a0 ?_
 refine xwm 9 ((↑((way++[no]).length):Int)-1) (↑(((way++[no]).length)-1):Int) ?_
 refine xsH 0 (fun _ _ _ _ zo zx zy V=>Xz (k:=(((way++[no]).length)-1)) (b:=pw) (n:=(way++[no]).length) (c:=cw) (i:=(↑(((way++[no]).length)-1):Int)) (ki:=.i64) zo zx zy rfl (by omega) Tryz.underlying68 (by kernel_rfl) V) ?_
 refine xs 2 a0 [.slice pe s.es.length ce,.slice pb s.bs.length cb,V0 s.deep,V0 (s.looked:Int),.slice pf s.fs.length cf,P0 b,V0 tree,V0 fuel,.slice pw (((way++[no]).length)-1) cw,.bool s.dry] fun W5 u5 k5=>?_
 refine xc 8 (args:=#[V0 no,.iface 26 (V0 (Ys val))]) (Ym no (some (Ys val)) [] _ _ rfl) ?_
 rintro _ W6 ⟨r6,rfl,a2,c8⟩
 rw[Qk] at c8
 obtain⟨t6,x6,rfl⟩:=c8.iface
 have b3:=k5.below a2
 have a5:Kq (Zl l tree fuel d) way no val (lo,hi) s=Qp way [no] (Ys val) s:=by unfold Kq;rw[if_neg (by assumption)]
 rw[show(way++[no]).length-1=way.length by omega] at b3
 have hB:=blB (u5.below (blB (blB (Below.refl B w) hBw n1.below) hBw a1) hBb) hBw a2
 have a9:=Zb (u5.own2 (Zb (Zb d3 n1.below) a1) a0 (by decide)) a2
 have a3:=Zb (u5.own2 (Zb (Zb c5 n1.below) a1) a0 (by decide)) a2
 refine xc 0 (args:=#[P0 bw,.iface t6 (x6)]) (Wn B bw _ _ _ _ _ _ _ _ pf _ cf fv pw cw way [no] (Ys val) _ _ _ hBb (Nat.le_trans hBw hB.size) b3 a9 (Lr a3) c8 (by omega) (by have:=hf;rw[a5] at this;simp[Qp] at this;omega)) ?_
 rintro _ W7 ⟨u7,c0,c2,t2,x2,rfl,d5,a6,kN,c3,d6⟩
 refine xs 7 kN [.slice pe s.es.length ce,.slice pb s.bs.length cb,V0 s.deep,V0 (s.looked:Int),.slice c0 (s.fs.length+1) c2,P0 b,V0 tree,V0 fuel,.slice pw ((way++[no]).length) cw,.bool s.dry] fun W8 u8 k8=>?_
 have c7:=u8.below (hB.trans d5) hBb
 have hO:=(((((show Ze [145,45,3,31] w _ from(Ze.of_below n1.below)).trans (Ze.of_below a1)).trans (Ze.of_upd u5 a0 (by decide))).trans (Ze.of_below a2)).trans (Ak a6)).trans (Ze.of_upd u8 kN (by decide))
 have b9:=u8.own2 (Zg (Zb (u5.own2 (Zb (Zb d2 n1.below) a1) a0 (by decide)) a2) a6 (by decide)) kN (by decide)
 have a8:=u8.own2 (Zg (Zb (u5.own2 (Zb (Zb d0 n1.below) a1) a0 (by decide)) a2) a6 (by decide)) kN (by decide)
 have a4:=u8.own2 c3 kN (by decide)
 have b2:=d6.upd u8 kN (by decide)
 have b5:=(((((d4.below n1.below).below a1).only (Ze.of_upd (T:=[145]) u5 a0 (by decide)) (by decide)).below a2).only a6 (by decide)).only (Ze.of_upd (T:=[145]) u8 kN (by decide)) (by decide)
 have b0:=u8.own2 (Zg a3 a6 (by decide)) kN (by decide)
 have c6:=(((((hI.below n1.below).below a1).only (Ze.of_upd (T:=[145]) u5 a0 (by decide)) (by decide)).below a2).only a6 (by decide)).only (Ze.of_upd (T:=[145]) u8 kN (by decide)) (by decide)
 refine xe 1 (.tuple #[]) ?_
 rw[a5]
 exact⟨_,pe,pb,c0,pw,ce,cb,c2,cw,_,rfl,c7,hO,by simpa [Qp] using k8,b9,a8,by simpa [Qp] using a4,Kw.snoc b2 b5,b0,d1,c6⟩
end Go.Proofs.YtgphgaehfdfjjaaGreat
namespace Go.Proofs.YtgphgaehfdfjjaaGreat
set_option maxHeartbeats 8000000
set_option maxRecDepth 100000
open Go.RowKit Go.Extern.Stop Go.Stop Go.Extern
set_option linter.unusedVariables false
def Fz(s t:WS):Prop:=s.es.length≤t.es.length∧s.bs.length≤t.bs.length∧s.fs.length≤t.fs.length
theorem Fz.refl(s:WS):Fz s s:=⟨Nat.le_refl _,Nat.le_refl _,Nat.le_refl _⟩
theorem Fz.trans{s t u:WS}(h:Fz s t)(k:Fz t u):Fz s u:=⟨Nat.le_trans h.1 k.1,Nat.le_trans h.2.1 k.2.1,Nat.le_trans h.2.2 k.2.2⟩
theorem Zcj(way bs:List Int)(c:Int)(s:WS):Fz s (Qp way bs c s):=⟨Nat.le_refl _,Nat.le_refl _,by simp[Qp]⟩
theorem Az{V:List Int→Int→Int→Int→WS→WS}(hV:∀ way no lo hi s,Fz s (V way no lo hi s))(way:List Int)(no:Int)(val:Bl)(p:Int×Int)(s:WS):Fz s (Kq V way no val p s):=by
 unfold Kq
 split
 ·exact hV _ _ _ _ _
 ·exact Zcj _ _ _ _
theorem Ae{V:List Int→Int→Int→Int→WS→WS}(hV:∀ way no lo hi s,Fz s (V way no lo hi s))(l:Bl)(way:List Int)(no hi:Int)(s:WS)(i:Nat):Fz s (Ws V l way no hi s i):=by
 unfold Ws
 split
 ·exact Fz.refl _
 ·exact Az hV _ _ _ _ _
theorem Et{V:List Int→Int→Int→Int→WS→WS}(hV:∀ way no lo hi s,Fz s (V way no lo hi s))(l:Bl)(way:List Int)(no hi:Int)(s:WS){k n:Nat}(hk:k≤n):Fz (Xx V l way no hi k s) (Xx V l way no hi n s):=by
 induction n with
 | zero =>
  obtain rfl:k=0:=by omega
  exact Fz.refl _
 | succ n ih =>
   rcases Nat.lt_or_ge n k with q|q
   ·obtain rfl:k=n+1:=by omega
    exact Fz.refl _
   ·rw[Hn]
    exact(ih q).trans (Ae hV _ _ _ _ _ _)
theorem Zbf(V:List Int→Int→Int→Int→WS→WS)(l:Bl)(way:List Int)(no hi:Int)(s:WS):Xx V l way no hi 0 s=s:=rfl
theorem Wh(l:Bl)(tree fuel:Int):∀ (d:Nat) (way:List Int) (no lo hi:Int) (s:WS),Fz s (Zl l tree fuel d way no lo hi s)
 | 0,_,_,_,_,s=>Fz.refl s
 | d+1,way,no,lo,hi,s=>by
  unfold Zl
  split
  ·exact⟨Nat.le_refl _,Nat.le_refl _,by simp[Qp]⟩
  ·split
   ·exact⟨Nat.le_refl _,Nat.le_refl _,by simp[Qp]⟩
   ·split
    ·exact⟨by simp,by simp,Nat.le_refl _⟩
    ·refine Fz.trans ⟨?_,?_,?_⟩ (Et (Wh l tree fuel d) l way no hi _ (Nat.zero_le _))
     ·exact Nat.le_refl _
     ·simp[Zbf]
     ·exact Nat.le_refl _
section
variable {B bw Bi b:Nat} {pi:Option Addr} {ni ci:Nat} {l:List UInt8} {tree fuel:Int} {way:List Int} {s:WS} {pe pb pf pw:Option Addr} {ce cb cf cw:Nat} {fv:List Value} {w W:World}
theorem WalkR.below(h:WalkR B bw Bi b pi ni ci l tree fuel way s pe pb pf pw ce cb cf cw fv w)(hb:B0 w W):WalkR B bw Bi b pi ni ci l tree fuel way s pe pb pf pw ce cb cf cw fv W :=
 ⟨h.blk.below hb,Zb h.ents hb,Zb h.blks hb,Zb h.flts hb,h.fltv.below hb,Zb h.ways hb,h.apart,h.img.below hb⟩
theorem WalkR.only{T:List TypeId}(h:WalkR B bw Bi b pi ni ci l tree fuel way s pe pb pf pw ce cb cf cw fv w)(hO:Ze T w W)
 (hT:T.contains 145=false∧T.contains 45=false∧T.contains 3=false∧T.contains 31=false∧T.contains 152=false∧T.contains 75=false∧T.contains 5=false):WalkR B bw Bi b pi ni ci l tree fuel way s pe pb pf pw ce cb cf cw fv W :=
 ⟨h.blk.only hO hT.1,Zg h.ents hO hT.2.1,Zg h.blks hO hT.2.2.1,Zg h.flts hO hT.2.2.2.1,h.fltv.only hO hT.2.2.2.2.1,Zg h.ways hO hT.2.2.1,h.apart,h.img.only hO ⟨hT.2.2.2.2.2.1,hT.2.2.2.2.2.2⟩⟩
end
end Go.Proofs.YtgphgaehfdfjjaaGreat
namespace Go.Proofs.YtgphgaehfdfjjaaGreat
set_option maxHeartbeats 8000000
set_option maxRecDepth 100000
open Go.RowKit Go.Extern.Stop Go.Stop Go.Extern
set_option linter.unusedVariables false
attribute [local irreducible] wpList wpAnyH Code.wp Oper.wp Go
theorem LookP.or{B bw:Nat}{cs:List Value}{l:Bl}{way:List Int}{no tree lo hi deep:Int}{w:World}{e:Ending}{w':World}(h:LookP B bw cs l way no tree lo hi deep w e w') :
 (Xt l way no tree lo hi deep≠0∧∃ a4 b4 k4 n4 c4 v4 m4 d4 ty x,e=.returned (.tuple #[.agg #[V0 a4,.bool b4,.slice k4 n4 c4,.slice v4 m4 d4],.iface ty x])∧Below B w w'∧Ze [145] w w'∧Blk w' bw cs 145∧Vx w' [some no] (some (Xt l way no tree lo hi deep)) (.iface ty x)) ∨
 (Xt l way no tree lo hi deep=0∧∃ kp kc vp vc,e=.returned (.tuple #[.agg #[V0 (Qb (inB l no)),.bool (Xp (inB l no)),.slice kp (Zn (inB l no)) kc,.slice vp (Zn (inB l no)) vc],.nilIface])∧Below B w w'∧Ze [145] w w'∧Blk w' bw cs 145 ∧
 w'.ownsRow w.heap.size 3 1 (.slice kp (Zn (inB l no)) kc) (Zn (inB l no)) ((Vg l no).map V0)∧w'.ownsRow w.heap.size 9 1 (.slice vp (Zn (inB l no)) vc) (Zn (inB l no)) ((Mn l no).map sv)):=by
 obtain⟨h1,h2,h3,⟨h4,a4,b4,k4,n4,c4,v4,m4,d4,ty,x,h5,h6⟩|⟨h4,_,kp,kc,vp,vc,h5,h6,h7⟩⟩:=h
 ·exact .inl ⟨h4,a4,b4,k4,n4,c4,v4,m4,d4,ty,x,h5,h1,h2,h3,h6⟩
 ·exact .inr ⟨h4,kp,kc,vp,vc,h5,h1,h2,h3,h6,h7⟩
theorem widG_24(t:Int)(b:Bool):widG t b≤24:=by
 unfold widG Ht
 repeat' split
 all_goals omega
theorem Ll(l:Bl)(n i:Nat):((Ho l n).getD i []).length≤1000:=by
 by_cases h:i<n
 ·rw[Tr l h]
  unfold Zc1
  rw[List.length_take]
  have:=widG_24 (Qb l) (Xp l)
  unfold Qu
  omega
 ·simp[List.getD,List.getElem?_eq_none (show(Ho l n).length≤i by rw[Lx];omega)]
theorem Nq(p:O0)(n c n2 c2:Nat):(Value.slice p n c).ownBlock=(Value.slice p n2 c2).ownBlock:=by
 cases p<;>rfl
theorem He.len{p q:O0}{n c m d:Nat}(h:He (.slice p n c) (.slice q m d))(n2 c2 m2 d2:Nat):He (.slice p n2 c2) (.slice q m2 d2):=fun j h1 h2 =>
 h j ((Nq _ _ _ _ _).trans h1) ((Nq _ _ _ _ _).trans h2)
def prC (p:Int×Int):List Value:=[V0 p.1,V0 p.2]
theorem Zfq(p:Int×Int):(prC p).length=2:=rfl
theorem Zfp(l:List (Int×Int)):Gk l=l.flatMap prC:=by
 induction l with
 | nil=>rfl
 | cons x l ih=>simp only[Gk,List.flatMap_cons,prC];rfl
theorem Ze6{l:Bl}{way:List Int}{no tree lo hi deep:Int}(h:Xt l way no tree lo hi deep=0):Vh lo hi (Vg l no)=0∧way.length<16:=by
 unfold Xt at h
 by_cases h1:Qf way no=true
 ·rw[if_pos h1] at h;cases h
 rw[if_neg h1] at h
 by_cases h2:16≤way.length
 ·rw[if_pos h2] at h;cases h
 rw[if_neg h2] at h
 by_cases h3:Xl l no tree≠0
 ·rw[if_pos h3] at h;exact absurd h h3
 rw[if_neg h3] at h
 by_cases h4:Vh lo hi (Vp (inB l no) (Zn (inB l no)))≠0
 ·rw[if_pos h4] at h;cases h
 exact⟨Decidable.not_not.1 h4,by omega⟩
theorem Zco(hi:Int)(l:List Int){i:Nat}(h:i<l.length):(Qc hi l).getD i (0,0)=Xi hi l i:=by simp[Qc,h]
theorem sts_sp{w:World}{p:O0}{n c:Nat}{L:List (Int×Int)}(h:Sl w (.slice p n c) n (Gk L))(hL:L.length=n):Sts prC w (.slice p L.length c) L:=by
 subst hL;rw[Zfp] at h;exact h
theorem Ek(hi:Int)(l:List Int):(Qc hi l).length=l.length:=by simp[Qc]
theorem only_le{w w':World}(h:Ze [145,45] w w'):Ze [145,45,3,31] w w':=h.mono fun t ht=>by
 simp only[List.contains_cons,List.contains_nil,Bool.or_eq_false_iff] at ht ⊢
 exact⟨ht.1,ht.2.1,trivial⟩
theorem Zg3{w w':World}(h:Ze [145] w w'):Ze [145,45,3,31] w w':=h.mono fun t ht=>by
 simp only[List.contains_cons,List.contains_nil,Bool.or_eq_false_iff] at ht ⊢
 exact⟨ht.1,trivial⟩
theorem Ny(B bw Bi b:Nat)(pi:O0)(ni ci:Nat)(l:Bl)(tree fuel:Int)(d:Nat)(hV:d≠0→Zd2 B bw Bi b pi ni ci l tree fuel d)(way:List Int)(no lo hi:Int)(s:WS)(pe pb pf pw:O0)(ce cb cf cw:Nat)(fv:List Value)(w:World)(hBb:B≤bw)(hBw:B≤w.heap.size)(hwd:way.length+(d+1)=17)(hdry:s.dry=false)(hfu:fuel≤1000000)(hR:WalkR B bw Bi b pi ni ci l tree fuel way s pe pb pf pw ce cb cf cw fv w)(he:(Zl l tree fuel (d+1) way no lo hi s).es.length≤1000000)(hb_:(Zl l tree fuel (d+1) way no lo hi s).bs.length≤1000000)(hf:(Zl l tree fuel (d+1) way no lo hi s).fs.length≤1000000) :
 C0 75 #[P0 bw,V0 no,.agg #[V0 lo,V0 hi]] w (Zd9 B bw Bi b pi ni ci l tree fuel way (Zl l tree fuel (d+1) way no lo hi s) w):=by
 obtain⟨kW,e9,e8,f1,f0,e7,d0,hI⟩:=hR
 have y1:=e8
 have x1:=e7
 have bc:=Wh l tree fuel (d+1) way no lo hi s
 have cg:=Nat.le_trans bc.2.1 hb_
 refine zin 106 Tryz.func75 ?_
 refine xa 2 [V0 lo,V0 hi] 148 fun b1 W1 n1=>?_
 refine xd 4 .z ?_
 have g5:=(kW.below n1.below).below (Za W1)
 refine xb (.e [0,1,2,3] 4) 3 g5 ?_
 refine xb (.e [5,6,7] 8) 7 g5 ?_
 refine xid (.r [9] 2) ((s.looked:Int)≥fuel) (fun bg=>?_) (fun bg=>?_)
 ·refine xc 5 (args:=#[V0 no,.iface 26 (V0 12)]) (Ym no (some 12) [] _ _ rfl) ?_
  rintro _ W3 ⟨r3,rfl,f6,w1⟩
  rw[Qk] at w1
  obtain⟨t3,x3,rfl⟩:=w1.iface
  have d3:(Zl l tree fuel (d+1) way no lo hi s)={ Qp way [no] 12 s with dry:=true }:=by unfold Zl;rw[if_pos (by omega)]
  have hB:=blB (blB (blB (Below.refl B w) hBw n1.below) hBw (Za W1)) hBw f6
  have w6:=g5.below f6
  have m1:=Zb (Zb (Zb f1 n1.below) (Za W1)) f6
  have h8:=Zb (Zb (Zb e7 n1.below) (Za W1)) f6
  refine xc 0 (args:=#[P0 bw,.iface t3 (x3)]) (Wn B bw _ _ _ _ _ _ _ _ pf _ cf fv pw cw way [no] 12 _ _ _ hBb (Nat.le_trans hBw hB.size) w6 m1 h8 w1 (by omega) (by have:=hf;rw[d3] at this;simp[Qp] at this;omega)) ?_
  rintro _ W4 ⟨u4,u1,u6,t2,x2,rfl,av,l3,kN,j6,z2⟩
  refine xs 7 kN [.slice pe s.es.length ce,.slice pb s.bs.length cb,V0 s.deep,V0 (s.looked:Int),.slice u1 (s.fs.length+1) u6,P0 b,V0 tree,V0 fuel,.slice pw way.length cw,.bool true] fun W5 u5 k5=>?_
  have z0:=u5.below (hB.trans av) hBb
  have hO:=((((show Ze [145,45,3,31] w _ from(Ze.of_below n1.below)).trans (Ze.of_below (Za W1))).trans (Ze.of_below f6)).trans (Ak l3)).trans (Ze.of_upd u5 kN (by decide))
  have s9:=u5.own2 (Zg (Zb (Zb (Zb e9 n1.below) (Za W1)) f6) l3 (by decide)) kN (by decide)
  have o1:=u5.own2 (Zg (Zb (Zb (Zb e8 n1.below) (Za W1)) f6) l3 (by decide)) kN (by decide)
  have i7:=u5.own2 j6 kN (by decide)
  have s4:=z2.upd u5 kN (by decide)
  have s5:=((((f0.below n1.below).below (Za W1)).below f6).only l3 (by decide)).only (Ze.of_upd (T:=[145]) u5 kN (by decide)) (by decide)
  have s7:=u5.own2 (Zg h8 l3 (by decide)) kN (by decide)
  have z5:=((((hI.below n1.below).below (Za W1)).below f6).only l3 (by decide)).only (Ze.of_upd (T:=[145]) u5 kN (by decide)) (by decide)
  refine xe 4 (.tuple #[]) ?_
  rw[d3]
  exact⟨_,pe,pb,u1,pw,ce,cb,u6,cw,_,rfl,z0,hO,by simpa [Qp] using k5,s9,o1,by simpa [Qp] using i7,Kw.snoc s4 s5,s7,d0,z5⟩
 have k1:=n1.blk.below (Za W1)
 refine xlv 6 k1.rp ?_
 have hB:=blB (blB (Below.refl B w) hBw n1.below) hBw (Za W1)
 have e2:=Zb (Zb e7 n1.below) (Za W1)
 have f8:=(hI.below n1.below).below (Za W1)
 refine xc 0 (args:=#[P0 bw,V0 no,.agg #[V0 lo,V0 hi]]) ((Tv B Bi b bw pi ni ci l _ _ _ _ _ pw cw way no tree lo hi s.deep (s.looked:Int) _ hBb (Nat.le_trans hBw hB.size) g5 e2 f8 (by omega) (by omega) (by omega)).mono (fun _ _ h=>LookP.or h)) ?_
 rintro e W6 ax
 rcases ax with ⟨hz,a4,b4,k4,n4,c4,v4,m4,d4,ty,x,rfl,v9,c3,x9,az⟩|⟨hz,kp,kc,vp,vc,rfl,v9,c3,x9,hk,u7⟩
 ·refine xa 3 [V0 0,.bool false,S0,S0] 117 fun b7 W7 n7=>?_
  have n0:=hB.trans v9
  have g7:=n7.ge0 n0
  refine xsv 0 n7.blk [V0 a4,.bool b4,.slice k4 n4 c4,.slice v4 m4 d4] fun W8 u8 k8=>?_
  have d3:(Zl l tree fuel (d+1) way no lo hi s)=Qp way [no] (Xt l way no tree lo hi s.deep) { s with looked:=s.looked+1 }:=by unfold Zl;rw[if_neg (by omega),if_pos hz]
  have p5:=u8.below (blB n0 hBw n7.below) (Nat.le_trans hBw g7)
  have l5:=u8.blkT (x9.below n7.below) n7.blk (by decide)
  have p8:=u8.own2 (Zb (Zg (Zb (Zb f1 n1.below) (Za W1)) c3 (by decide)) n7.below) n7.blk (by decide)
  have h7:=u8.own2 (Zb (Zg e2 c3 (by decide)) n7.below) n7.blk (by decide)
  have n5:=(az.below n7.below).upd u8 n7.blk (by decide)
  refine xc 15 (args:=#[P0 bw,.iface ty (x)]) (Wn B bw _ _ _ _ _ _ _ _ pf _ cf fv pw cw way [no] (Xt l way no tree lo hi s.deep) _ _ _ hBb (Nat.le_trans hBw p5.size) l5 p8 h7 n5 (by omega) (by have:=hf;rw[d3] at this;simp[Qp] at this;omega)) ?_
  rintro _ W9 ⟨u9,u1,u6,t2,x2,rfl,ay,k9,kN,j6,z2⟩
  have z6:=p5.trans ay
  have hO:=(Ze.upd_new ((((show Ze [145,45,3,31] w _ from(Ze.of_below n1.below)).trans (Ze.of_below (Za W1))).trans (Zg3 c3)).trans (Ze.of_below n7.below)) u8 g7).trans (Ak k9)
  have n6:=Zg (u8.own2 (Zb (Zg (Zb (Zb e9 n1.below) (Za W1)) c3 (by decide)) n7.below) n7.blk (by decide)) k9 (by decide)
  have o2:=Zg (u8.own2 (Zb (Zg (Zb (Zb e8 n1.below) (Za W1)) c3 (by decide)) n7.below) n7.blk (by decide)) k9 (by decide)
  have m2:=(((((f0.below n1.below).below (Za W1)).only c3 (by decide)).below n7.below).only (Ze.of_upd (T:=[117]) u8 n7.blk (by decide)) (by decide)).only k9 (by decide)
  have r9:=Zg h7 k9 (by decide)
  have w2:=(((f8.only c3 (by decide)).below n7.below).only (Ze.of_upd (T:=[117]) u8 n7.blk (by decide)) (by decide)).only k9 (by decide)
  refine xe 4 (.tuple #[]) ?_
  rw[d3]
  exact⟨_,pe,pb,u1,pw,ce,cb,u6,cw,_,rfl,z6,hO,by simpa [Qp] using kN,n6,o2,by simpa [Qp] using j6,Kw.snoc z2 m2,r9,d0,w2⟩
 have x6:=(blB (blB (Below.refl B w) hBw n1.below) hBw (Za W1)).size
 have i4:=Zh hk x6
 have j0:=He.of_lt y1 i4 (Nat.le_refl _)
 have j8:=He.of_lt x1 i4 (Nat.le_refl _)
 refine xa 3 [V0 0,.bool false,S0,S0] 117 fun al cc a6=>?_
 have q6:=hB.trans v9
 have z1:=a6.ge0 q6
 refine xsv 0 a6.blk [V0 (Qb (inB l no)),.bool (Xp (inB l no)),.slice kp (Zn (inB l no)) kc,.slice vp (Zn (inB l no)) vc] fun ch c7 ba=>?_
 have h1:=c7.blkT (x9.below a6.below) a6.blk (by decide)
 refine xb 20 1 h1 ?_
 refine xbs 1 1 [V0 no] 3 fun bh cl b8=>?_
 have o9:=c7.below (blB q6 hBw a6.below) (Nat.le_trans hBw z1)
 have cs:=b8.ge0 o9
 have h3:=c7.own2 (Zb (Zg (Zb (Zb e8 n1.below) (Za W1)) c3 (by decide)) a6.below) a6.blk (by decide)
 have t8:=Xa h3 b8
 have h5:=c7.own2 (Zb (Zg e2 c3 (by decide)) a6.below) a6.blk (by decide)
 have v1:=Xa h5 b8
 have t7:=c7.own2 (Zb i4 a6.below) a6.blk (by decide)
 have z7:=Xa t7 b8
 have a1:=Zb h3 b8.below
 have i3:=blB o9 hBw b8.below
 refine xbi 0 fun _ _ _ _ zJ zQ zo zx zy zK=>Wu (b:=bh) (c:=1) (m:=1) (news:=[V0 no]) (V0 0) 1 8 ((s.bs++[no]).length) (((s.bs++[no]).map V0)) zo Tryz.underlying68 (by kernel_rfl) rfl (by decide) zx a1 zy b8.blk rfl (by simp[Value.oneCell']) (by unfold maxLen;omega) (by omega) (Nat.le_trans hBw i3.size) (by simp) (by simp) fun s1 q9 bp ae a5 n9 p6=>?_
 have h2:=Zb h5 b8.below
 have f4:=d0.row h2 a5
 replace d0:=(d0.grow h2 p6)
 have q3:=Zb t7 b8.below
 have j2:=j0.row q3 a5
 replace j0:=(j0.grow q3 p6)
 have e4:=f4
 have i1:=j2
 refine zK _ _ ?_
 have a0:=(h1.below b8.below).grown a5 a1 (by decide)
 refine xs 3 a0 [.slice pe s.es.length ce,.slice s1 ((s.bs++[no]).length) q9,V0 s.deep,V0 ((s.looked:Int)+1),.slice pf s.fs.length cf,P0 b,V0 tree,V0 fuel,.slice pw way.length cw,.bool s.dry] fun bt c1 y9=>?_
 have e3:=c1.blkT ((ba.below b8.below).grown a5 a1 (by decide)) a0 (by decide)
 refine xb 6 1 e3 ?_
 refine xi 2 (Xp (inB l no)) (fun w8=>?_) (fun w8=>?_)
 ·refine xlv 4 e3.rp ?_
  have d3:(Zl l tree fuel (d+1) way no lo hi s)={ s with looked:=s.looked+1,bs:=s.bs++[no],deep:=((way.length+1:Nat):Int),es:=s.es++Jp (Vg l no) (Mn l no) no (Zn (inB l no)) }:=by unfold Zl;rw[if_neg (by omega),if_neg (by omega),if_pos (by assumption)]
  have n2:=c1.below (i3.trans n9) hBb
  have p9:=c1.own2 (Zz (Zb (c7.own2 (Zb (Zg (Zb (Zb e9 n1.below) (Za W1)) c3 (by decide)) a6.below) a6.blk (by decide)) b8.below) a5 a1 (by decide)) a0 (by decide)
  have x8:=c1.own2 i1 a0 (by decide)
  have o3:=c1.own2 (Zz (Zb (c7.own2 (Zb (Zh u7 x6) a6.below) a6.blk (by decide)) b8.below) a5 a1 (by decide)) a0 (by decide)
  refine xc 0 (args:=#[P0 bw,V0 no,.agg #[V0 (Qb (inB l no)),.bool (Xp (inB l no)),.slice kp (Zn (inB l no)) kc,.slice vp (Zn (inB l no)) vc]]) (Ii B bw _ _ _ _ _ _ _ _ pe ce s.es pw cw way no _ _ kp vp _ kc vc (Vg l no) (Mn l no) _ hBb (Nat.le_trans hBw n2.size) y9 p9 (fun W _ q=>Zf (Zg x8 q (by decide))) (fun W _ q=>Zf (Zg o3 q (by decide))) (by simp[Vg,Vp]) (by simp[Mn,Ho]) (by omega) (by have:=he;rw[d3] at this;simp[Pa] at this;omega)) ?_
  rintro _ ca ⟨ct,au,bm,rfl,x4,d7,kE,bi⟩
  have y5:=n2.trans x4
  have hO:=((((Ze.upd_new ((((show Ze [145,45,3,31] w _ from(Ze.of_below n1.below)).trans (Ze.of_below (Za W1))).trans (Zg3 c3)).trans (Ze.of_below a6.below)) c7 z1).trans (Ze.of_below b8.below)).trans (Ze.of_grown a5 a1 (by decide))).trans (Ze.of_upd c1 a0 (by decide))).trans (only_le d7)
  have r6:=Zg (c1.own2 ae a0 (by decide)) d7 (by decide)
  have p7:=Zg (c1.own2 (Zz (Zb (c7.own2 (Zb (Zg (Zb (Zb f1 n1.below) (Za W1)) c3 (by decide)) a6.below) a6.blk (by decide)) b8.below) a5 a1 (by decide)) a0 (by decide)) d7 (by decide)
  have s0:=((((((((f0.below n1.below).below (Za W1)).only c3 (by decide)).below a6.below).only (Ze.of_upd (T:=[117]) c7 a6.blk (by decide)) (by decide)).below b8.below).only (Ze.of_grown (T:=[3]) a5 a1 (by decide)) (by decide)).only (Ze.of_upd (T:=[145]) c1 a0 (by decide)) (by decide)).only d7 (by decide)
  have n8:=Zg (c1.own2 e4 a0 (by decide)) d7 (by decide)
  have ab:=((((((f8.only c3 (by decide)).below a6.below).only (Ze.of_upd (T:=[117]) c7 a6.blk (by decide)) (by decide)).below b8.below).only (Ze.of_grown (T:=[3]) a5 a1 (by decide)) (by decide)).only (Ze.of_upd (T:=[145]) c1 a0 (by decide)) (by decide)).only d7 (by decide)
  refine xe 4 (.tuple #[]) ?_
  rw[d3]
  exact⟨_,au,_,pf,pw,bm,_,cf,cw,fv,rfl,y5,hO,by simpa [Pa] using kE,by simpa [Pa] using bi,by simpa using r6,p7,s0,n8,by simpa using d0,ab⟩
 refine xb 8 8 y9 ?_
 refine xbs 1 1 [V0 no] 3 fun aw co c8=>?_
 have g8:=c1.below (i3.trans n9) hBb
 have bq:=c8.ge0 g8
 have h0:=c1.own2 e4 a0 (by decide)
 have u0:=Xa h0 c8
 have q5:=c1.own2 i1 a0 (by decide)
 have x7:=Xa q5 c8
 have h4:=c1.own2 ae a0 (by decide)
 have v0:=Xa h4 c8
 have a2:=Zb h0 c8.below
 have h6:=blB g8 hBw c8.below
 refine xbi 0 fun _ _ _ _ zJ zQ zo zx zy zK=>Wu (b:=aw) (c:=1) (m:=1) (news:=[V0 no]) (V0 0) 1 8 ((way++[no]).length) (((way++[no]).map V0)) zo Tryz.underlying68 (by kernel_rfl) rfl (by decide) zx a2 zy c8.blk rfl (by simp[Value.oneCell']) (by unfold maxLen;omega) (by omega) (Nat.le_trans hBw h6.size) (by simp) (by simp) fun w0 z4 cn bn b9 w3 t1=>?_
 have i0:=Zb h4 c8.below
 have f5:=d0.symm.row i0 b9
 replace d0:=(d0.symm.grow i0 t1).symm
 have r7:=Zb q5 c8.below
 have k0:=j8.row r7 b9
 replace j8:=(j8.grow r7 t1)
 have i9:=f5
 have r1:=k0
 refine zK _ _ ?_
 have a3:=(y9.below c8.below).grown b9 a2 (by decide)
 refine xs 2 a3 [.slice pe s.es.length ce,.slice s1 ((s.bs++[no]).length) q9,V0 s.deep,V0 ((s.looked:Int)+1),.slice pf s.fs.length cf,P0 b,V0 tree,V0 fuel,.slice w0 ((way++[no]).length) z4,.bool s.dry] fun bx d9 ap=>?_
 have q1:=d9.blkT (((c1.blkT (((c7.blkT ((k1.only c3 (by decide)).below a6.below) a6.blk (by decide)).below b8.below).grown a5 a1 (by decide)) a0 (by decide)).below c8.below).grown b9 a2 (by decide)) a3 (by decide)
 refine xlv 5 q1.rp ?_
 have g9:=d9.blkT ((e3.below c8.below).grown b9 a2 (by decide)) a3 (by decide)
 refine xb 1 2 g9 ?_
 have h9:=d9.below (h6.trans w3) hBb
 have y8:=h9.size
 obtain⟨w5,bb⟩:=Ze6 hz
 have s8:(Vg l no).length=Zn (inB l no):=by simp[Vg,Vp]
 have cj:Zn (inB l no)<65536:=Ff _ 2 2
 have z8:=d9.own2 r1 a3 (by decide)
 refine xc 0 (args:=#[.agg #[V0 lo,V0 hi],.slice kp (Zn (inB l no)) kc]) (Ar lo hi _ (Vg l no) _ (by rw[s8];omega) (Fu (Zf z8) s8)) ?_
 rintro _ bd ⟨cr,rfl,b5,_,w4⟩
 obtain⟨gs,rfl,ar,kS⟩:=w4 w5
 rw[s8]
 have l0:=Xo (size:=2) (n:=Zn (inB l no)) kS (Nat.le_trans y8 ar) (by rw[Nz,Ek,s8]) (by unfold maxLen;omega)
 have d3:(Zl l tree fuel (d+1) way no lo hi s)=(Xx (Zl l tree fuel d) l way no hi (Zn (inB l no)) { s with looked:=s.looked+1,bs:=s.bs++[no] }):=by unfold Zl;rw[if_neg (by omega),if_neg (by omega),if_neg (by simp;assumption)]
 have o0:(Qc hi (Vg l no)).length=(Zn (inB l no)):=by rw[Ek,s8]
 have ag:(Mn l no).length=(Zn (inB l no)):=by simp[Mn,Ho]
 have o5:=ap.below b5
 have n3:=Zb (d9.own2 (Zz (Zb (c1.own2 (Zz (Zb (c7.own2 (Zb (Zg (Zb (Zb e9 n1.below) (Za W1)) c3 (by decide)) a6.below) a6.blk (by decide)) b8.below) a5 a1 (by decide)) a0 (by decide)) c8.below) b9 a2 (by decide)) a3 (by decide)) b5
 have o6:=Zb (d9.own2 i9 a3 (by decide)) b5
 have l6:=Zb (d9.own2 (Zz (Zb (c1.own2 (Zz (Zb (c7.own2 (Zb (Zg (Zb (Zb f1 n1.below) (Za W1)) c3 (by decide)) a6.below) a6.blk (by decide)) b8.below) a5 a1 (by decide)) a0 (by decide)) c8.below) b9 a2 (by decide)) a3 (by decide)) b5
 have o4:=(((((((((((f0.below n1.below).below (Za W1)).only c3 (by decide)).below a6.below).only (Ze.of_upd (T:=[117]) c7 a6.blk (by decide)) (by decide)).below b8.below).only (Ze.of_grown (T:=[3]) a5 a1 (by decide)) (by decide)).only (Ze.of_upd (T:=[145]) c1 a0 (by decide)) (by decide)).below c8.below).only (Ze.of_grown (T:=[3]) b9 a2 (by decide)) (by decide)).only (Ze.of_upd (T:=[145]) d9 a3 (by decide)) (by decide)).below b5
 have p3:=Zb (d9.own2 bn a3 (by decide)) b5
 have w7:=(((((((((f8.only c3 (by decide)).below a6.below).only (Ze.of_upd (T:=[117]) c7 a6.blk (by decide)) (by decide)).below b8.below).only (Ze.of_grown (T:=[3]) a5 a1 (by decide)) (by decide)).only (Ze.of_upd (T:=[145]) c1 a0 (by decide)) (by decide)).below c8.below).only (Ze.of_grown (T:=[3]) b9 a2 (by decide)) (by decide)).only (Ze.of_upd (T:=[145]) d9 a3 (by decide)) (by decide)).below b5
 have hR:WalkR B bw Bi b pi ni ci l tree fuel (way++[no]) (Xx (Zl l tree fuel d) l way no hi 0 { s with looked:=s.looked+1,bs:=s.bs++[no] }) pe _ pf _ ce _ cf _ fv bd:=⟨o5,n3,o6,l6,o4,p3,d0,w7⟩
 have r0:=Zb (d9.own2 (Zz (Zb (c1.own2 (Zz (Zb (c7.own2 (Zb (Zh u7 x6) a6.below) a6.blk (by decide)) b8.below) a5 a1 (by decide)) a0 (by decide)) c8.below) b9 a2 (by decide)) a3 (by decide)) b5
 have m8:=blB h9 hBw b5
 have hO:=(((((((Ze.upd_new ((((show Ze [145,45,3,31] w _ from(Ze.of_below n1.below)).trans (Ze.of_below (Za W1))).trans (Zg3 c3)).trans (Ze.of_below a6.below)) c7 z1).trans (Ze.of_below b8.below)).trans (Ze.of_grown a5 a1 (by decide))).trans (Ze.of_upd c1 a0 (by decide))).trans (Ze.of_below c8.below)).trans (Ze.of_grown b9 a2 (by decide))).trans (Ze.of_upd d9 a3 (by decide))).trans (Ze.of_below b5)
 have v8:=q1.below b5
 have r8:=g9.below b5
 refine zl 5 106 (fun zm aq V=>∃ (i:Nat) (i6 j1 j7 f2:O0) (i8 j4 k2 g2:Nat) (m0:List Value),aq=[(0,P0 bw),(1,V0 no),(6,P0 al),(71,.slice (S1 gs) (Zn (inB l no)) (Zn (inB l no))),(72,V0 (↑(Zn (inB l no)):Int)),(73,V0 (i:Int))]∧zm=(Zn (inB l no))-((i:Int)).toNat∧Below B w V∧Ze [145,45,3,31] w V∧Blk V b1 ([V0 lo,V0 hi]) 148∧Blk V al ([V0 (Qb (inB l no)),.bool (Xp (inB l no)),.slice kp (Zn (inB l no)) kc,.slice vp (Zn (inB l no)) vc]) 117∧WalkR B bw Bi b pi ni ci l tree fuel (way++[no]) (Xx (Zl l tree fuel d) l way no hi i { s with looked:=s.looked+1,bs:=s.bs++[no] }) i6 j1 j7 f2 i8 j4 k2 g2 m0 V∧V.ownsRow w.heap.size 9 1 (.slice vp (Zn (inB l no)) vc) (Zn (inB l no)) ((Mn l no).map sv)∧V.ownsRow w.heap.size 148 2 (.slice (S1 gs) (Zn (inB l no)) (Zn (inB l no))) (Zn (inB l no)) (Gk (Qc hi (Vg l no)))∧i≤(Zn (inB l no))∧(Xx (Zl l tree fuel d) l way no hi i { s with looked:=s.looked+1,bs:=s.bs++[no] }).dry=false) ⟨0,_,_,_,_,_,_,_,_,_,rfl,rfl,m8,hO,v8,r8,hR,r0,l0,Nat.zero_le _,hdry⟩ ?_
 rintro _ _ c0 ⟨i,i6,j1,j7,f2,i8,j4,k2,g2,m0,rfl,rfl,d5,c9,b3,c6,hR,u7,l0,br,ai⟩ bo y0 ck
 have i5:=hR.blk
 refine xid 6 ((i:Int)<(↑(Zn (inB l no)):Int)) (fun y6=>?_) (fun y6=>?_)
 ·refine xx 7 _ (Zn (inB l no)) i 2 (Sts.cell (sts_sp (Zf l0) o0) Zfq (0,0) (k:=i) (i:=0) (show i<(Qc hi (Vg l no)).length by omega) rfl).1 ?_
  refine xlv 0 (Sts.rp (k:=i) (sts_sp (Zf l0) o0) Zfq (0,0) (by omega) (by decide)) ?_
  refine xa 0 [V0 0,V0 0] 148 fun cq cm c5=>?_
  have d1:=c5.ne b3
  have v5:=c5.ge0 d5
  have g1:=Xa l0 c5
  refine xsv 1 c5.blk [V0 (((Qc hi (Vg l no)).getD i (0,0)).1),V0 (((Qc hi (Vg l no)).getD i (0,0)).2)] fun d6 e0 bk=>?_
  refine xd 3 (.t B [145,45,3,31]) ?_
  have b2:=(e0.blkT (c6.below c5.below) c5.blk (by decide)).below (Za d6)
  refine xbt (.e [0,1,2] 3) 3 B [145,45,3,31] b2 ?_
  have e1:=Zb (e0.own2 (Zb u7 c5.below) c5.blk (by decide)) (Za d6)
  refine xx (.e [4] 5) _ (Zn (inB l no)) i 1 (Strs.elem (Zf e1) ag (k:=i) (by omega)).1 ?_
  refine xlt (.e [] 6) (.t B [145,45,3,31]) (fun V hV=>(Strs.elem (Zf (Zg e1 hV.2 (by decide))) ag (k:=i) (by omega)).2) ?_
  have q7:=bk.below (Za d6)
  refine xlvt (.e [] 7) (.t B [145,45,3,31]) (fun V hV=>(q7.only hV.2 (by decide)).rp) ?_
  have bj:=Zco hi (Vg l no) (i:=i) (by omega)
  have f7:Kq (Zl l tree fuel d) way no ((Mn l no).getD i []) (((Qc hi (Vg l no)).getD i (0,0)).1,((Qc hi (Vg l no)).getD i (0,0)).2) (Xx (Zl l tree fuel d) l way no hi i { s with looked:=s.looked+1,bs:=s.bs++[no] })=(Xx (Zl l tree fuel d) l way no hi (i+1) { s with looked:=s.looked+1,bs:=s.bs++[no] }):=by rw[Hn];unfold Ws;rw[if_neg (by rw[ai];decide),bj]
  have ac:=Et (Wh l tree fuel d) l way no hi { s with looked:=s.looked+1,bs:=s.bs++[no] } (show i+1≤(Zn (inB l no)) by omega)
  rw[d3] at he hb_ hf
  have d2:=blB (e0.below (blB d5 hBw c5.below) (Nat.le_trans hBw v5)) hBw (Za d6)
  have aa:=((hR.below c5.below).only (Ze.of_upd (T:=[148]) e0 c5.blk (by decide)) (by decide)).below (Za d6)
  refine yc (.o [] 8) (args:=#[P0 bw,V0 no,.string ⟨((Mn l no).getD i []).toArray⟩,.agg #[V0 (((Qc hi (Vg l no)).getD i (0,0)).1),V0 (((Qc hi (Vg l no)).getD i (0,0)).2)]]) (.t B [145,45,3,31]) (Tc B bw Bi b pi ni ci l tree fuel d (hV (by omega)) way no _ _ ((Mn l no).getD i []) _ i6 j1 j7 f2 i8 j4 k2 g2 m0 _ hBb (Nat.le_trans hBw d2.size) (by omega) ai (Ll _ _ _) aa (by rw[f7];exact Nat.le_trans ac.1 he) (by rw[f7];exact Nat.le_trans ac.2.1 hb_) (by rw[f7];exact Nat.le_trans ac.2.2 hf)) ?_
  rintro _ c2 ⟨cu,v7,u2,t9,l2,u3,v6,v3,k6,ao,rfl,g0,b6,v2⟩
  have ak:=(e0.blkT (i5.below c5.below) c5.blk (by decide)).below (Za d6)
  refine⟨(Zai g0 b6),?_⟩
  rw[f7] at v2
  have i5:=v2.blk
  refine xb 7 9 i5 ?_
  refine xi 2 ((Xx (Zl l tree fuel d) l way no hi (i+1) { s with looked:=s.looked+1,bs:=s.bs++[no] }).dry) (fun l9=>?_) (fun l9=>?_)
  ·obtain⟨_,e9,e8,f1,f0,e7,d0,hI⟩:=v2
   have bl:=(Mz e7 (by simp)).2
   have bf:(way++[no]).length=way.length+1:=by simp
   have e5:(Xx (Zl l tree fuel d) l way no hi (Zn (inB l no)) { s with looked:=s.looked+1,bs:=s.bs++[no] })=(Xx (Zl l tree fuel d) l way no hi (i+1) { s with looked:=s.looked+1,bs:=s.bs++[no] }):=Zeq _ _ _ _ _ _ (by omega) l9
   refine xd 6 (.t B [145]) ?_
   refine xm2 (.b [0,1,2,3,5,6,7]) 4 8 ?_ ?_
   ·have a8:=i5.below (Za c2)
    refine xb 0 8 a8 ?_
    refine xb (.o [] 8) 8 a8 ?_
    refine xwm (.e [9] 10) ((↑((way++[no]).length):Int)-1) (↑(((way++[no]).length)-1):Int) ?_
    refine xsH (.e [] 11) (fun _ _ _ _ zo zx zy V=>Xz (k:=(((way++[no]).length)-1)) (b:=l2) (n:=(way++[no]).length) (c:=k6) (i:=(↑(((way++[no]).length)-1):Int)) (ki:=.i64) zo zx zy rfl (by omega) Tryz.underlying68 (by kernel_rfl) V) ?_
    refine ys (.o [12,13] 14) a8 [.slice v7 ((Xx (Zl l tree fuel d) l way no hi (i+1) { s with looked:=s.looked+1,bs:=s.bs++[no] }).es.length) u3,.slice u2 ((Xx (Zl l tree fuel d) l way no hi (i+1) { s with looked:=s.looked+1,bs:=s.bs++[no] }).bs.length) v6,V0 (Xx (Zl l tree fuel d) l way no hi (i+1) { s with looked:=s.looked+1,bs:=s.bs++[no] }).deep,V0 ((Xx (Zl l tree fuel d) l way no hi (i+1) { s with looked:=s.looked+1,bs:=s.bs++[no] }).looked:Int),.slice t9 ((Xx (Zl l tree fuel d) l way no hi (i+1) { s with looked:=s.looked+1,bs:=s.bs++[no] }).fs.length) v3,P0 b,V0 tree,V0 fuel,.slice l2 (((way++[no]).length)-1) k6,.bool ((Xx (Zl l tree fuel d) l way no hi (i+1) { s with looked:=s.looked+1,bs:=s.bs++[no] }).dry)] (.t B [145]) fun bz f3 ah=>⟨(Xd f3 a8 hBb (by decide)),?_⟩
    have p4:=(((e0.blk (b3.below c5.below) (Ne.symm (Ne.symm d1))).below (Za d6)).only b6 (by decide)).below (Za c2)
    have k3:=(b2.only b6 (by decide)).below (Za c2)
    have l8:=f3.below (blB (d2.trans g0) hBw (Za c2)) hBb
    have x0:=((((Ze.upd_new (c9.trans (Ze.of_below c5.below)) e0 v5).trans (Ze.of_below (Za d6))).trans b6).trans (Ze.of_below (Za c2))).trans (Ze.of_upd f3 a8 (by decide))
    have s3:=f3.own2 (Zb e9 (Za c2)) a8 (by decide)
    have s2:=f3.own2 (Zb e8 (Za c2)) a8 (by decide)
    have t6:=f3.own2 (Zb f1 (Za c2)) a8 (by decide)
    have p1:=(f0.below (Za c2)).only (Ze.of_upd (T:=[145]) f3 a8 (by decide)) (by decide)
    have j5:=f3.own2 (Zb e7 (Za c2)) a8 (by decide)
    have z9:=(hI.below (Za c2)).only (Ze.of_upd (T:=[145]) f3 a8 (by decide)) (by decide)
    refine xe 1 (.tuple #[]) ?_
    rw[d3,e5]
    rw[show(way++[no]).length-1=way.length by simp] at ah
    exact⟨_,v7,u2,t9,l2,u3,v6,v3,k6,ao,rfl,l8,x0,ah,s3,s2,t6,p1,Lr j5,d0.len _ _ _ _,z9⟩
   have a7:=i5.below (Za c2)
   refine xb 0 8 a7 ?_
   refine xwm (.e [9] 10) ((↑((way++[no]).length):Int)-1) (↑(((way++[no]).length)-1):Int) ?_
   refine xb (.o [] 4) 8 a7 ?_
   refine xsH (.e [] 11) (fun _ _ _ _ zo zx zy V=>Xz (k:=(((way++[no]).length)-1)) (b:=l2) (n:=(way++[no]).length) (c:=k6) (i:=(↑(((way++[no]).length)-1):Int)) (ki:=.i64) zo zx zy rfl (by omega) Tryz.underlying68 (by kernel_rfl) V) ?_
   refine ys (.o [12,13] 14) a7 [.slice v7 ((Xx (Zl l tree fuel d) l way no hi (i+1) { s with looked:=s.looked+1,bs:=s.bs++[no] }).es.length) u3,.slice u2 ((Xx (Zl l tree fuel d) l way no hi (i+1) { s with looked:=s.looked+1,bs:=s.bs++[no] }).bs.length) v6,V0 (Xx (Zl l tree fuel d) l way no hi (i+1) { s with looked:=s.looked+1,bs:=s.bs++[no] }).deep,V0 ((Xx (Zl l tree fuel d) l way no hi (i+1) { s with looked:=s.looked+1,bs:=s.bs++[no] }).looked:Int),.slice t9 ((Xx (Zl l tree fuel d) l way no hi (i+1) { s with looked:=s.looked+1,bs:=s.bs++[no] }).fs.length) v3,P0 b,V0 tree,V0 fuel,.slice l2 (((way++[no]).length)-1) k6,.bool ((Xx (Zl l tree fuel d) l way no hi (i+1) { s with looked:=s.looked+1,bs:=s.bs++[no] }).dry)] (.t B [145]) fun bu g3 ad=>⟨(Xd g3 a7 hBb (by decide)),?_⟩
   have m3:=(((e0.blk (b3.below c5.below) (Ne.symm (Ne.symm d1))).below (Za d6)).only b6 (by decide)).below (Za c2)
   have l4:=(b2.only b6 (by decide)).below (Za c2)
   have m9:=g3.below (blB (d2.trans g0) hBw (Za c2)) hBb
   have x5:=((((Ze.upd_new (c9.trans (Ze.of_below c5.below)) e0 v5).trans (Ze.of_below (Za d6))).trans b6).trans (Ze.of_below (Za c2))).trans (Ze.of_upd g3 a7 (by decide))
   have p0:=g3.own2 (Zb e9 (Za c2)) a7 (by decide)
   have r2:=g3.own2 (Zb e8 (Za c2)) a7 (by decide)
   have r5:=g3.own2 (Zb f1 (Za c2)) a7 (by decide)
   have q2:=(f0.below (Za c2)).only (Ze.of_upd (T:=[145]) g3 a7 (by decide)) (by decide)
   have j9:=g3.own2 (Zb e7 (Za c2)) a7 (by decide)
   have w9:=(hI.below (Za c2)).only (Ze.of_upd (T:=[145]) g3 a7 (by decide)) (by decide)
   refine xe 1 (.tuple #[]) ?_
   rw[d3,e5]
   rw[show(way++[no]).length-1=way.length by simp] at ad
   exact⟨_,v7,u2,t9,l2,u3,v6,v3,k6,ao,rfl,m9,x5,ad,p0,r2,r5,q2,Lr j9,d0.len _ _ _ _,w9⟩
  refine xwm 4 ((i:Int)+1) (↑(i+1):Int) ?_
  have m7:=d2.trans g0
  have y2:=((Ze.upd_new (c9.trans (Ze.of_below c5.below)) e0 v5).trans (Ze.of_below (Za d6))).trans b6
  have e6:=((e0.blk (b3.below c5.below) (Ne.symm (Ne.symm d1))).below (Za d6)).only b6 (by decide)
  have d8:=b2.only b6 (by decide)
  have s6:=Zg e1 b6 (by decide)
  have q8:=Zg (Zb (e0.own3 (Zb l0 c5.below) g1) (Za d6)) b6 (by decide)
  exact ze 2 (y0 _ _ _ ⟨i+1,_,_,_,_,_,_,_,_,_,rfl,rfl,m7,y2,e6,d8,v2,s6,q8,by omega,by assumption⟩ (by omega))
 obtain⟨_,e9,e8,f1,f0,e7,d0,hI⟩:=hR
 have bl:=(Mz e7 (by simp)).2
 have bf:(way++[no]).length=way.length+1:=by simp
 have e5:(Xx (Zl l tree fuel d) l way no hi (Zn (inB l no)) { s with looked:=s.looked+1,bs:=s.bs++[no] })=(Xx (Zl l tree fuel d) l way no hi i { s with looked:=s.looked+1,bs:=s.bs++[no] }):=by rw[show i=(Zn (inB l no)) by omega]
 refine xd 5 (.t B [145]) ?_
 refine xm2 (.b [0,1,2,3,5,6,7]) 4 8 ?_ ?_
 ·have a9:=i5.below (Za c0)
  refine xb 0 8 a9 ?_
  refine xb (.o [] 8) 8 a9 ?_
  refine xwm (.e [9] 10) ((↑((way++[no]).length):Int)-1) (↑(((way++[no]).length)-1):Int) ?_
  refine xsH (.e [] 11) (fun _ _ _ _ zo zx zy V=>Xz (k:=(((way++[no]).length)-1)) (b:=f2) (n:=(way++[no]).length) (c:=g2) (i:=(↑(((way++[no]).length)-1):Int)) (ki:=.i64) zo zx zy rfl (by omega) Tryz.underlying68 (by kernel_rfl) V) ?_
  refine ys (.o [12,13] 14) a9 [.slice i6 ((Xx (Zl l tree fuel d) l way no hi i { s with looked:=s.looked+1,bs:=s.bs++[no] }).es.length) i8,.slice j1 ((Xx (Zl l tree fuel d) l way no hi i { s with looked:=s.looked+1,bs:=s.bs++[no] }).bs.length) j4,V0 (Xx (Zl l tree fuel d) l way no hi i { s with looked:=s.looked+1,bs:=s.bs++[no] }).deep,V0 ((Xx (Zl l tree fuel d) l way no hi i { s with looked:=s.looked+1,bs:=s.bs++[no] }).looked:Int),.slice j7 ((Xx (Zl l tree fuel d) l way no hi i { s with looked:=s.looked+1,bs:=s.bs++[no] }).fs.length) k2,P0 b,V0 tree,V0 fuel,.slice f2 (((way++[no]).length)-1) g2,.bool ((Xx (Zl l tree fuel d) l way no hi i { s with looked:=s.looked+1,bs:=s.bs++[no] }).dry)] (.t B [145]) fun cd f9 af=>⟨(Xd f9 a9 hBb (by decide)),?_⟩
  have m5:=b3.below (Za c0)
  have k7:=c6.below (Za c0)
  have r4:=f9.below (blB d5 hBw (Za c0)) hBb
  have y4:=(c9.trans (Ze.of_below (Za c0))).trans (Ze.of_upd f9 a9 (by decide))
  have p2:=f9.own2 (Zb e9 (Za c0)) a9 (by decide)
  have q0:=f9.own2 (Zb e8 (Za c0)) a9 (by decide)
  have m6:=f9.own2 (Zb f1 (Za c0)) a9 (by decide)
  have l7:=(f0.below (Za c0)).only (Ze.of_upd (T:=[145]) f9 a9 (by decide)) (by decide)
  have j3:=f9.own2 (Zb e7 (Za c0)) a9 (by decide)
  have y3:=(hI.below (Za c0)).only (Ze.of_upd (T:=[145]) f9 a9 (by decide)) (by decide)
  refine xe 1 (.tuple #[]) ?_
  rw[d3,e5]
  rw[show(way++[no]).length-1=way.length by simp] at af
  exact⟨_,i6,j1,j7,f2,i8,j4,k2,g2,m0,rfl,r4,y4,af,p2,q0,m6,l7,Lr j3,d0.len _ _ _ _,y3⟩
 have b0:=i5.below (Za c0)
 refine xb 0 8 b0 ?_
 refine xwm (.e [9] 10) ((↑((way++[no]).length):Int)-1) (↑(((way++[no]).length)-1):Int) ?_
 refine xb (.o [] 4) 8 b0 ?_
 refine xsH (.e [] 11) (fun _ _ _ _ zo zx zy V=>Xz (k:=(((way++[no]).length)-1)) (b:=f2) (n:=(way++[no]).length) (c:=g2) (i:=(↑(((way++[no]).length)-1):Int)) (ki:=.i64) zo zx zy rfl (by omega) Tryz.underlying68 (by kernel_rfl) V) ?_
 refine ys (.o [12,13] 14) b0 [.slice i6 ((Xx (Zl l tree fuel d) l way no hi i { s with looked:=s.looked+1,bs:=s.bs++[no] }).es.length) i8,.slice j1 ((Xx (Zl l tree fuel d) l way no hi i { s with looked:=s.looked+1,bs:=s.bs++[no] }).bs.length) j4,V0 (Xx (Zl l tree fuel d) l way no hi i { s with looked:=s.looked+1,bs:=s.bs++[no] }).deep,V0 ((Xx (Zl l tree fuel d) l way no hi i { s with looked:=s.looked+1,bs:=s.bs++[no] }).looked:Int),.slice j7 ((Xx (Zl l tree fuel d) l way no hi i { s with looked:=s.looked+1,bs:=s.bs++[no] }).fs.length) k2,P0 b,V0 tree,V0 fuel,.slice f2 (((way++[no]).length)-1) g2,.bool ((Xx (Zl l tree fuel d) l way no hi i { s with looked:=s.looked+1,bs:=s.bs++[no] }).dry)] (.t B [145]) fun cp g6 aj=>⟨(Xd g6 b0 hBb (by decide)),?_⟩
 have o8:=b3.below (Za c0)
 have l1:=c6.below (Za c0)
 have t0:=g6.below (blB d5 hBw (Za c0)) hBb
 have y7:=(c9.trans (Ze.of_below (Za c0))).trans (Ze.of_upd g6 b0 (by decide))
 have o7:=g6.own2 (Zb e9 (Za c0)) b0 (by decide)
 have t5:=g6.own2 (Zb e8 (Za c0)) b0 (by decide)
 have q4:=g6.own2 (Zb f1 (Za c0)) b0 (by decide)
 have t4:=(f0.below (Za c0)).only (Ze.of_upd (T:=[145]) g6 b0 (by decide)) (by decide)
 have i2:=g6.own2 (Zb e7 (Za c0)) b0 (by decide)
 have z3:=(hI.below (Za c0)).only (Ze.of_upd (T:=[145]) g6 b0 (by decide)) (by decide)
 refine xe 1 (.tuple #[]) ?_
 rw[d3,e5]
 rw[show(way++[no]).length-1=way.length by simp] at aj
 exact⟨_,i6,j1,j7,f2,i8,j4,k2,g2,m0,rfl,t0,y7,aj,o7,t5,q4,t4,Lr i2,d0.len _ _ _ _,z3⟩
end Go.Proofs.YtgphgaehfdfjjaaGreat
namespace Go.Proofs.YtgphgaehfdfjjaaGreat
set_option maxHeartbeats 8000000
set_option maxRecDepth 100000
open Go.RowKit Go.Extern.Stop Go.Stop Go.Extern
set_option linter.unusedVariables false
theorem Cc{V:List Int→Int→Int→Int→WS→WS}{l:Bl}{way:List Int}{no hi:Int}{s:WS}(P:Nat→WS→Prop)(h0:P 0 s) :
  ∀ n,(∀ i t,i<n→t.dry=false→P i t→P (i+1) (Kq V way no ((Mn l no).getD i []) (Xi hi (Vg l no) i) t))→(∀ i t,i<n→t.dry=true→P i t→P (i+1) t)→P n (Xx V l way no hi n s)
 | 0,_,_=>h0
 | n+1,hs,hd=>by
  have ih:=Cc P h0 n (fun i t hi=>hs i t (by omega)) (fun i t hi=>hd i t (by omega))
  rw[Hn]
  unfold Ws
  split
  ·rename_i h;exact hd n _ (by omega) h ih
  ·rename_i h;exact hs n _ (by omega) (by simpa using h) ih
theorem rootE_no(v:Bl):Ys v=0∨Ys v=2∨Ys v=7:=by
 unfold Ys;split
 ·split<;>simp
 ·simp
theorem Ep(l:Bl):∀ n,Yh l n=0∨Yh l n=2∨Yh l n=8
 | 0=>.inl rfl
 | n+1=>by
  rw[Yh]
  split
  ·exact Ep l n
  ·unfold Fg;split
   ·simp
   ·split<;>simp
theorem Zcc(l:Bl)(no tree:Int):Xl l no tree≠12:=by
 unfold Xl
 split
 ·unfold Qo
  split
  ·split<;>decide
  ·unfold Kr
   split
   ·split
    ·rcases Ep (inB l no) (Zn (inB l no)) with h|h|h<;>rw[h]<;>decide
    ·decide
   ·decide
 ·unfold inE
  split
  ·unfold Vu
   repeat' split
   all_goals decide
  ·decide
theorem lookE_no(l:Bl)(way:List Int)(no tree lo hi deep:Int):Xt l way no tree lo hi deep≠12:=by
 unfold Xt
 split
 ·decide
 ·split
  ·decide
  ·split
   ·exact Zcc _ _ _
   ·split
    ·decide
    ·split<;>decide
theorem maxG_18(t:Int)(b:Bool):Zgi t b≤18:=by
 unfold Zgi Qq
 repeat' split
 all_goals omega
theorem Tz{l:Bl}(h:Kr l=0):Ck l=true:=by
 unfold Kr at h
 split at h
 ·assumption
 ·cases h
theorem Ap{l:Bl}{tree:Int}(h:Qo l tree=0):Kr l=0:=by
 unfold Qo at h
 split at h
 ·assumption
 ·assumption
theorem Zbs{l:Bl}{no tree:Int}(h:Xl l no tree=0):inE l 2 no=0∧Qo (inB l no) tree=0:=by
 unfold Xl at h
 split at h
 ·exact⟨by assumption,h⟩
 ·rename_i q;exact absurd h q
theorem Se{l:Bl}{way:List Int}{no tree lo hi deep:Int}(h:Xt l way no tree lo hi deep=0):Xl l no tree=0∧Vh lo hi (Vg l no)=0∧Zn (inB l no)≤18:=by
 unfold Xt at h
 split at h
 ·cases h
 ·split at h
  ·cases h
  ·split at h
   ·rename_i q;exact absurd h q
   ·rename_i q
    split at h
    ·cases h
    ·rename_i q2
     have q1:Xl l no tree=0:=Decidable.not_not.1 q
     exact⟨q1,Decidable.not_not.1 q2,Nat.le_trans (Ls (Tz (Ap (Zbs q1).2))) (maxG_18 _ _)⟩
theorem Pe{lo hi:Int}{L:List Int}(h:Vh lo hi L=0):Jl lo hi=true∧Kn L∧∀ k∈L,lo≤k∧k<hi:=by
 unfold Vh at h
 split at h
 ·split at h
  ·split at h
   ·exact⟨by assumption,by assumption,by assumption⟩
   ·cases h
  ·cases h
 ·cases h
def InBlk(l:Bl)(tree:Int)(x:Ent):Prop :=
 Xl l x.2.2 tree=0∧Xp (inB l x.2.2)=true∧∃ k,k<Zn (inB l x.2.2)∧(Vg l x.2.2).getD k 0=x.1∧(Mn l x.2.2).getD k []=x.2.1∧∀ j,j<k→(Vg l x.2.2).getD j 0≠x.1
def Zf4(lo hi:Int)(es:List Ent):Prop:=es.Pairwise (fun x y=>x.1<y.1)∧∀ x∈es,lo≤x.1∧x.1<hi
theorem Zf4.nil(lo hi:Int):Zf4 lo hi []:=⟨.nil,fun _ h=>by cases h⟩
theorem Zf4.app{lo mi hi:Int}{a b:List Ent}(h:Zf4 lo mi a)(k:Zf4 mi hi b)(h1:lo≤mi)(h2:mi≤hi):Zf4 lo hi (a++b):=by
 refine⟨List.pairwise_append.2 ⟨h.1,k.1,fun x hx y hy=>?_⟩,fun x hx=>?_⟩
 ·have:=(h.2 x hx).2;have:=(k.2 y hy).1;omega
 ·rcases List.mem_append.1 hx with q|q
  ·have:=h.2 x q;omega
  ·have:=k.2 x q;omega
structure Went(l:List UInt8)(tree fuel:Int)(hd:Option Int)(lo hi:Int)(s t:WS)(es:List Ent)(fs:List (List Int×Int)):Prop where
 esE:t.es=s.es++es
 fsE:t.fs=s.fs++fs
 rise:Zf4 lo hi es
 inb:∀ x∈es,InBlk l tree x
 flt:∀ f∈fs,f.1.head? = hd∧f.1≠[]∧f.2≠0
 dry:t.dry=true↔s.dry=true∨∃ f∈fs,f.2=12
 fuelE:t.dry=true→s.dry=true∨fuel≤t.looked
 look:s.looked≤fuel.toNat→t.looked≤fuel.toNat
 more:s.looked≤t.looked
 blks:t.bs.length+s.looked≤s.bs.length+t.looked
theorem Went.refl(l:Bl)(tree fuel:Int)(hd:Option Int)(lo hi:Int)(s:WS):Went l tree fuel hd lo hi s s [] [] :=
 ⟨by simp,by simp,Zf4.nil _ _,by simp,by simp,by simp,fun h=>.inl h,fun h=>h,Nat.le_refl _,Nat.le_refl _⟩
theorem Went.trans{l:Bl}{tree fuel:Int}{hd:Option Int}{lo mi hi:Int}{s t u:WS}{es es2:List Ent}{fs fs2:List (List Int×Int)}(h:Went l tree fuel hd lo mi s t es fs)(k:Went l tree fuel hd mi hi t u es2 fs2)(h1:lo≤mi)(h2:mi≤hi) :
  Went l tree fuel hd lo hi s u (es++es2) (fs++fs2) where
 esE:=by rw[k.esE,h.esE,List.append_assoc]
 fsE:=by rw[k.fsE,h.fsE,List.append_assoc]
 rise:=h.rise.app k.rise h1 h2
 inb x hx:=by
  rcases List.mem_append.1 hx with q|q
  ·exact h.inb x q
  ·exact k.inb x q
 flt f hf:=by
  rcases List.mem_append.1 hf with q|q
  ·exact h.flt f q
  ·exact k.flt f q
 dry:=by
  rw[k.dry,h.dry]
  constructor
  ·rintro((q|⟨f,q1,q2⟩)|⟨f,q1,q2⟩)
   ·exact .inl q
   ·exact .inr ⟨f,List.mem_append_left _ q1,q2⟩
   ·exact .inr ⟨f,List.mem_append_right _ q1,q2⟩
  ·rintro(q|⟨f,q1,q2⟩)
   ·exact .inl (.inl q)
   ·rcases List.mem_append.1 q1 with q|q
    ·exact .inl (.inr ⟨f,q,q2⟩)
    ·exact .inr ⟨f,q,q2⟩
 fuelE h0:=by
  rcases k.fuelE h0 with q|q
  ·rcases h.fuelE q with q|q
   ·exact .inl q
   ·exact .inr (by have:=k.more;omega)
  ·exact .inr q
 look h0:=k.look (h.look h0)
 more:=Nat.le_trans h.more k.more
 blks:=by have:=h.blks;have:=k.blks;omega
theorem Went.wide{l:Bl}{tree fuel:Int}{hd:Option Int}{lo hi lo2 hi2:Int}{s t:WS}{es:List Ent}{fs:List (List Int×Int)}(h:Went l tree fuel hd lo hi s t es fs)(h1:lo2≤lo)(h2:hi≤hi2):Went l tree fuel hd lo2 hi2 s t es fs :=
 { h with rise:=⟨h.rise.1,fun x hx=>by have:=h.rise.2 x hx;omega⟩ }
theorem Went.note(l:Bl)(tree fuel:Int){hd:Option Int}(lo hi:Int)(way:List Int)(no c:Int)(s:WS)(hc:c≠0)(hc2:c≠12)(hh:(way++[no]).head? = hd):Went l tree fuel hd lo hi s (Qp way [no] c s) [] [(way++[no],c)] :=
 ⟨by simp[Qp],by simp[Qp],Zf4.nil _ _,by simp,(fun f hf=>by rw[List.mem_singleton.1 hf];exact⟨hh,by simp,hc⟩),by simp[Qp,hc2],fun h=>.inl (by simpa [Qp] using h),fun h=>by simpa [Qp] using h,Nat.le_refl _,Nat.le_refl _⟩
theorem Gm{lo hi:Int}{L:List Int}(hf:Vh lo hi L=0){i:Nat}(h:i<L.length):lo≤(Xi hi L i).1∧(Xi hi L i).1≤(Xi hi L i).2∧(Xi hi L i).2≤hi∧(i+1<L.length→(Xi hi L i).2=(Xi hi L (i+1)).1):=by
 obtain⟨h1,h2,h3⟩:=Pe hf
 have h4:=h3 L[i] (List.getElem_mem _)
 unfold Xi
 simp only[List.getElem?_eq_getElem h,Option.getD_some]
 by_cases hn:i+1<L.length
 ·have h5:=h3 L[i+1] (List.getElem_mem _)
  have h6:=Kn.lt h2 (i+1) i (by omega) hn
  simp only[List.getElem?_eq_getElem h,List.getElem?_eq_getElem hn,Option.getD_some] at h6 ⊢
  exact⟨h4.1,by omega,by omega,fun _=>trivial⟩
 ·rw[List.getElem?_eq_none (by omega)]
  simp only[Option.getD_none]
  exact⟨h4.1,by omega,Int.le_refl _,fun h=>absurd h hn⟩
theorem Zgz{lo hi:Int}{l:Bl}{no:Int}(hf:Vh lo hi (Vg l no)=0)(Vs:List Bl):Zf4 lo hi (Jp (Vg l no) Vs no (Zn (inB l no))):=by
 obtain⟨h1,h2,h3⟩:=Pe hf
 have hl:(Vg l no).length=Zn (inB l no):=by simp[Vg,Vp]
 refine⟨?_,?_⟩
 ·unfold Jp
  rw[List.pairwise_map]
  refine List.Pairwise.imp_of_mem (R:=fun a b=>a<b) ?_ List.pairwise_lt_range
  intro a b ha hb a0
  have:=Kn.lt h2 b a a0 (by rw[hl];simpa using hb)
  simpa [List.getD] using this
 ·intro x hx
  unfold Jp at hx
  obtain⟨j,hj,rfl⟩:=List.mem_map.1 hx
  have hj:j<(Vg l no).length:=by rw[hl];simpa using hj
  have:=h3 (Vg l no)[j] (List.getElem_mem _)
  simpa [List.getD,hj] using this
theorem leaf_inb{lo hi:Int}{l:Bl}{no tree:Int}(hn:Xl l no tree=0)(hl:Xp (inB l no)=true)(hf:Vh lo hi (Vg l no)=0):∀ x∈Jp (Vg l no) (Mn l no) no (Zn (inB l no)),InBlk l tree x:=by
 intro x hx
 obtain⟨h1,h2,h3⟩:=Pe hf
 have hk:(Vg l no).length=Zn (inB l no):=by simp[Vg,Vp]
 unfold Jp at hx
 obtain⟨j,hj,rfl⟩:=List.mem_map.1 hx
 have hj:j<Zn (inB l no):=by simpa using hj
 refine⟨hn,hl,j,hj,rfl,rfl,fun i hi=>?_⟩
 have:=Kn.lt h2 j i hi (by rw[hk];exact hj)
 simp only[List.getD]
 omega
theorem Bt(l:Bl)(tree fuel:Int):∀ (d:Nat) (way:List Int) (no lo hi:Int) (s:WS),s.dry=false→∃ es fs,Went l tree fuel (way++[no]).head? lo hi s (Zl l tree fuel d way no lo hi s) es fs
  | 0,way,no,lo,hi,s,_=>⟨[],[],Went.refl _ _ _ _ _ _ _⟩
  | d + 1, way, no, lo, hi, s, hs => by
    unfold Zl
    split
    · rename_i hf
      exact⟨[],[(way++[no],12)],by simp[Qp],by simp[Qp],Zf4.nil _ _,by simp,by simp,by simp,fun _=>.inr hf,fun h=>h,Nat.le_refl _,Nat.le_refl _⟩
    · rename_i hf
      have a3:s.looked+1≤fuel.toNat:=by omega
      split
      · rename_i he
        have:=Went.note l tree fuel lo hi way no _ { s with looked:=s.looked+1 } he (lookE_no _ _ _ _ _ _ _) rfl
        exact⟨_,_,this.esE,this.fsE,this.rise,this.inb,this.flt,this.dry,fun h=>by simp[Qp,hs] at h,fun _=>a3,by simp[Qp],by simp[Qp]⟩
      · rename_i he
        have he:Xt l way no tree lo hi s.deep=0:=Decidable.not_not.1 he
        obtain⟨hn,a0,hc⟩:=Se he
        split
        · rename_i hl
          exact⟨_,[],rfl,by simp,Zgz a0 _,leaf_inb hn hl a0,by simp,by simp[hs],fun h=>by simp[hs] at h,fun _=>a3,by simp,by simp;omega⟩
        · have hk:(Vg l no).length=Zn (inB l no):=by simp[Vg,Vp]
          have a8:=Pe a0
          have b1:lo≤hi:=by have:=a8.1;unfold Jl at this;simp at this;omega
          have a1:=Cc (V:=Zl l tree fuel d) (l:=l) (way:=way) (no:=no) (hi:=hi) (s:={ s with looked:=s.looked+1,bs:=s.bs++[no] })
            (fun i t=>∃ es fs,Went l tree fuel (way++[no]).head? lo (if i=0 then lo else(Xi hi (Vg l no) (i-1)).2) { s with looked:=s.looked+1,bs:=s.bs++[no] } t es fs)
            ⟨[],[],Went.refl _ _ _ _ _ _ _⟩ (Zn (inB l no)) ?_ ?_
          · obtain⟨es,fs,q⟩:=a1
            refine⟨es,fs,q.esE,q.fsE,?_,q.inb,q.flt,q.dry,fun h=>?_,fun _=>q.look a3,by have:=q.more;simp only at this;omega,by have:=q.blks;simp at this;omega⟩
            · refine⟨q.rise.1,fun x hx=>?_⟩
              have:=q.rise.2 x hx
              split at this
              · omega
              · rename_i h0
                have:=(Gm a0 (i:=Zn (inB l no)-1) (by rw[hk];omega)).2.2.1
                omega
            · rcases q.fuelE h with q2|q2
              · exact .inl q2
              · exact .inr q2
          · rintro i t a5 a6 ⟨es,fs,q⟩
            have hp:=Gm a0 (i:=i) (by rw[hk];exact a5)
            have a2:lo≤(if i=0 then lo else(Xi hi (Vg l no) (i-1)).2)∧(if i=0 then lo else(Xi hi (Vg l no) (i-1)).2)≤(Xi hi (Vg l no) i).1:=by
              split
              · exact⟨Int.le_refl _,hp.1⟩
              · rename_i h0
                have a4:=Gm a0 (i:=i-1) (by rw[hk];omega)
                have:=a4.2.2.2 (by rw[hk];omega)
                rw[show i-1+1=i by omega] at this
                omega
            have q':=q.wide (Int.le_refl lo) a2.2
            rw[if_neg (by omega),Nat.add_sub_cancel]
            unfold Kq
            split
            · obtain⟨a9,b0,r⟩:=Bt l tree fuel d (way++[no]) (Js ((Mn l no).getD i []):Int) (Xi hi (Vg l no) i).1 (Xi hi (Vg l no) i).2 t a6
              have hh:((way++[no])++[(Js ((Mn l no).getD i []):Int)]).head? = (way++[no]).head? := by cases way<;>rfl
              rw[hh] at r
              exact⟨_,_,q'.trans r (by omega) hp.2.1⟩
            · rename_i a7
              have r:=Went.note l tree fuel (Xi hi (Vg l no) i).1 (Xi hi (Vg l no) i).2 way no (Ys ((Mn l no).getD i [])) t a7 (by rcases rootE_no ((Mn l no).getD i []) with h|h|h<;>rw[h]<;>decide) rfl
              exact⟨_,_,q'.trans r (by omega) hp.2.1⟩
          · rintro i t a5 a6 ⟨es,fs,q⟩
            have hp:=Gm a0 (i:=i) (by rw[hk];exact a5)
            rw[if_neg (by omega),Nat.add_sub_cancel]
            refine⟨es,fs,q.wide (Int.le_refl _) ?_⟩
            split
            · omega
            · rename_i h0
              have a4:=Gm a0 (i:=i-1) (by rw[hk];omega)
              have:=a4.2.2.2 (by rw[hk];omega)
              rw[show i-1+1=i by omega] at this
              omega
theorem Np(l:Bl)(tree fuel:Int):∀ (d:Nat) (way:List Int) (no lo hi:Int) (s:WS),s.dry=false →
  (Zl l tree fuel d way no lo hi s).fs.length+(Zl l tree fuel d way no lo hi s).es.length+18*s.looked≤s.fs.length+s.es.length+18*(Zl l tree fuel d way no lo hi s).looked+(if(Zl l tree fuel d way no lo hi s).dry=true then 1 else 0)
 | 0,way,no,lo,hi,s,hs=>by simp[Zl,hs]
 | d+1,way,no,lo,hi,s,hs=>by
  unfold Zl
  split
  ·simp[Qp];omega
  ·split
   ·simp[Qp,hs];omega
   ·rename_i he
    have he:Xt l way no tree lo hi s.deep=0:=Decidable.not_not.1 he
    obtain⟨hn,a3,hc⟩:=Se he
    split
    ·simp[Pa,hs];omega
    ·have a1:=Cc (V:=Zl l tree fuel d) (l:=l) (way:=way) (no:=no) (hi:=hi) (s:={ s with looked:=s.looked+1,bs:=s.bs++[no] })
      (fun i t=>t.fs.length+t.es.length+18*(s.looked+1)≤s.fs.length+s.es.length+i+18*t.looked+(if t.dry=true then 1 else 0)) (by simp[hs]) (Zn (inB l no)) ?_ ?_
     ·omega
     ·intro i t a2 a0 q
      rw[a0] at q
      unfold Kq
      split
      ·have:=Np l tree fuel d (way++[no]) (Js ((Mn l no).getD i []):Int) (Xi hi (Vg l no) i).1 (Xi hi (Vg l no) i).2 t a0
       simp at q
       omega
      ·simp[Qp,a0] at q ⊢;omega
     ·intro i t a2 a0 q;omega
end Go.Proofs.YtgphgaehfdfjjaaGreat
namespace Go.Proofs.YtgphgaehfdfjjaaGreat
set_option maxHeartbeats 8000000
set_option maxRecDepth 100000
open Go.RowKit Go.Extern.Stop Go.Stop Go.Extern
set_option linter.unusedVariables false
attribute [local irreducible] wpList wpAnyH Code.wp Oper.wp Go
theorem Tf{B bw Bi b:Nat}{pi:O0}{ni ci:Nat}{l:Bl}{tree fuel:Int}(hBb:B≤bw)(hfu:fuel≤1000000):∀ d,Zd2 B bw Bi b pi ni ci l tree fuel (d+1)
 | 0=>fun a0 no lo hi s pe pb pf pw ce cb cf cw fv w h1 h2 h3 h4 h5 h6 h7=>Ny B bw Bi b pi ni ci l tree fuel 0 (fun h=>absurd rfl h) a0 no lo hi s pe pb pf pw ce cb cf cw fv w hBb h2 h1 h3 hfu h4 h5 h6 h7
 | d+1=>fun a0 no lo hi s pe pb pf pw ce cb cf cw fv w h1 h2 h3 h4 h5 h6 h7=>Ny B bw Bi b pi ni ci l tree fuel (d+1) (fun _=>Tf hBb hfu d) a0 no lo hi s pe pb pf pw ce cb cf cw fv w hBb h2 h1 h3 hfu h4 h5 h6 h7
def ws0:WS:=⟨[],[],0,0,[],false⟩
def Zd(l:Bl)(root tree fuel:Int):WS:=Zl l tree fuel 17 [] root 0 281474976710656 ws0
theorem Um(l:Bl)(root tree fuel:Int):∃ es fs,Went l tree fuel (some root) 0 281474976710656 ws0 (Zd l root tree fuel) es fs:=Bt l tree fuel 17 [] root 0 281474976710656 ws0 rfl
theorem Mf(l:Bl)(root tree fuel:Int):(Zd l root tree fuel).looked≤fuel.toNat:=by
 obtain⟨_,_,h⟩:=Um l root tree fuel
 exact h.look (Nat.zero_le _)
theorem Ug(l:Bl)(root tree fuel:Int)(hf:fuel≤1000):(Zd l root tree fuel).es.length≤1000000∧(Zd l root tree fuel).bs.length≤1000000∧(Zd l root tree fuel).fs.length≤1000000:=by
 have h1:=Np l tree fuel 17 [] root 0 281474976710656 ws0 rfl
 have h2:=Mf l root tree fuel
 obtain⟨_,_,h3⟩:=Um l root tree fuel
 have h4:=h3.blks
 simp only[ws0,List.length_nil] at h4
 change (Zd l root tree fuel).fs.length+(Zd l root tree fuel).es.length+18*0≤0+0+18*(Zd l root tree fuel).looked+(if(Zd l root tree fuel).dry=true then 1 else 0) at h1
 have h5:(if(Zd l root tree fuel).dry=true then 1 else 0)≤1:=by split<;>omega
 have h6:fuel.toNat≤1000:=by omega
 generalize (if(Zd l root tree fuel).dry=true then 1 else 0)=q at h1 h5
 omega
def walkC(t:WS)(pe pb pf:O0)(ce cb cf:Nat):List Value:=[.slice pe t.es.length ce,.slice pb t.bs.length cb,V0 t.deep,V0 (t.looked:Int),.slice pf t.fs.length cf]
structure WalkV(B:Nat)(t:WS)(pe pb pf:Option Addr)(ce cb cf:Nat)(fv:List Value)(w:World):Prop where
 ents:w.ownsRow B 45 3 (.slice pe t.es.length ce) t.es.length (t.es.flatMap Va)
 blks:w.ownsRow B 3 1 (.slice pb t.bs.length cb) t.bs.length (t.bs.map (Value.int .i64))
 flts:w.ownsRow B 31 1 (.slice pf t.fs.length cf) t.fs.length fv
 fltv:Kw w t.fs fv
def ScanP(l:Bl)(root tree fuel:Int)(w:World)(e:Ending)(w':World):Prop :=
 ∃ pe pb pf ce cb cf fv,e=.returned (.agg (walkC (Zd l root tree fuel) pe pb pf ce cb cf).toArray)∧B0 w w'∧WalkV w.heap.size (Zd l root tree fuel) pe pb pf ce cb cf fv w'
theorem Zgu(Bi b:Nat)(pi:O0)(ni ci:Nat)(l:Bl)(root tree fuel:Int)(w:World)(hfu:fuel≤1000)(hI:ImgR Bi b pi ni ci l w) :
 C0 53 #[P0 b,V0 root,V0 tree,V0 fuel] w (ScanP l root tree fuel w):=by
 refine zin 23 Tryz.func53 ?_
 refine xa 2 [S0,S0,V0 0,V0 0,S0] 87 fun b1 W1 n1=>?_
 refine xa 8 [S0,S0,V0 0,V0 0,S0,P0 b,V0 tree,V0 fuel,S0,.bool false] 145 fun b2 W2 n2=>?_
 refine xr 7 (args:=#[]) (Oq _) fun W3 a5=>?_
 have a0:=Ug l root tree fuel hfu
 have g2:=n2.ge n1.below
 have hB:=bln (bln n1.below n2.below) a5
 have k2:=n2.blk.below a5
 have a6:=((hI.below n1.below).below n2.below).below a5
 refine xc 0 (args:=#[P0 b2,V0 root,.agg #[V0 0,V0 281474976710656]]) (Tf (B:=w.heap.size) (bw:=b2) (Bi:=Bi) (b:=b) (pi:=pi) (ni:=ni) (ci:=ci) (l:=l) (tree:=tree) (fuel:=fuel) g2 (by omega) 16 [] root 0 281474976710656 ws0 none none none none 0 0 0 0 [] _ rfl hB.size rfl ⟨k2,World.ownsRow_nil _ _ _ _,World.ownsRow_nil _ _ _ _,World.ownsRow_nil _ _ _ _,trivial,World.ownsRow_nil _ _ _ _,He.nil _,a6⟩ a0.1 a0.2.1 a0.2.2) ?_
 rintro _ W4 ⟨u4,pe,pb,pf,pw,ce,cb,cf,cw,fv,rfl,b4,a8,hR⟩
 change WalkR _ _ _ _ _ _ _ _ _ _ _ (Zd l root tree fuel) _ _ _ _ _ _ _ _ _ _ at hR
 obtain⟨kW,a9,b0,b3,b5,b6,b7,hI⟩:=hR
 refine xlv 7 (kW.rpp 0 5) ?_
 have k1:=((n1.blk.below n2.below).below a5).only a8 (by decide)
 refine xsv 0 k1 [.slice pe ((Zd l root tree fuel).es.length) ce,.slice pb ((Zd l root tree fuel).bs.length) cb,V0 (Zd l root tree fuel).deep,V0 ((Zd l root tree fuel).looked:Int),.slice pf ((Zd l root tree fuel).fs.length) cf] fun W5 u5 k5=>?_
 have g1:=n1.ge (B3 w)
 have a7:=u5.below (hB.trans b4) g1
 have a3:=u5.own2 a9 k1 (by decide)
 have a2:=u5.own2 b0 k1 (by decide)
 have a4:=u5.own2 b3 k1 (by decide)
 have a1:=b5.only (Ze.of_upd (T:=[87]) u5 k1 (by decide)) (by decide)
 exact xec 3 k5 (.agg #[.slice pe ((Zd l root tree fuel).es.length) ce,.slice pb ((Zd l root tree fuel).bs.length) cb,V0 (Zd l root tree fuel).deep,V0 ((Zd l root tree fuel).looked:Int),.slice pf ((Zd l root tree fuel).fs.length) cf]) ⟨_,_,_,_,_,_,_,rfl,a7,⟨a3,a2,a4,a1⟩⟩
theorem Zbr(w:World) :
 C0 32 #[] w (Ky (fun w' r=>∃ b,r=.slice (S1 b) 1 1∧w.heap.size≤b∧Blk w' b [V0 4,V0 1,V0 14399] 107) w):=by
 refine zin 3 Tryz.func32 ?_
 refine xbs 8 1 [V0 4,V0 1,V0 14399] 107 fun b1 W1 n1=>?_
 have g1:=n1.ge (B3 w)
 exact xe 4 (.slice (S1 b1) 1 1) ⟨_,rfl,n1.below,_,rfl,g1,n1.blk⟩
theorem Zbo(gl gn:Nat)(n:Int)(h1:1≤n)(h2:n≤14399)(w:World)(hl:Blk w gl [V0 4,V0 1,V0 14399] 107)(hn:Blk w gn [V0 n] 3) :
 C0 25 #[.slice (S1 gl) 1 1,.slice (S1 gn) 1 1] w (Ret (.string ⟨(leB n 4).toArray⟩) w):=by
 have b3:=h1
 have b0:=h2
 clear h2
 refine zin 51 Tryz.func25 ?_
 refine xu 19 2 ?_
 refine xlv 15 hl.rp ?_
 refine xa 0 [V0 0,V0 0,V0 0] 107 fun b1 W1 n1=>?_
 have a7:=n1.ne hl
 refine xsv 1 n1.blk [V0 4,V0 1,V0 14399] fun W2 u2 k2=>?_
 have g1:=n1.ge (B3 w)
 refine xd 4 .z ?_
 have a0:=(u2.blkT (hn.below n1.below) n1.blk (by decide)).below (Za W2)
 refine xb (.e [0,1,2] 3) 0 a0 ?_
 have a1:=k2.below (Za W2)
 refine xb (.e [4] 5) 1 a1 ?_
 refine xgk (.b [6,7]) [23,24] (show(decide (n<(1:Int)):Bool)=false from decide_eq_false (by omega)) ?_
 refine xb (.e [8,9,10] 11) 0 a0 ?_
 refine xb (.e [12] 13) 2 a1 ?_
 refine xk (.r [14,15] 2) (show(decide (n>(14399:Int)):Bool)=false from decide_eq_false (by omega)) ?_
 refine xd 3 .z ?_
 have a2:=a1.below (Za W2.drew)
 refine xb (.e [0] 1) 0 a2 ?_
 have a3:=a0.below (Za W2.drew)
 refine xb (.e [2,3,4] 5) 0 a3 ?_
 refine xbs (.o [6] 7) 1 [V0 4,V0 n] 111 fun b4 W4 n4=>?_
 refine yc (.o [] 8) (args:=#[.slice (S1 b4) 1 1]) .z (Zg4 b4 n (by omega) (by omega) _ n4.blk) ?_
 rintro _ W5 ⟨_,rfl,a6,p2,c2,rfl,h2⟩
 have a9:=(bln (bln (bln (u2.below n1.below g1) (Za W2)) (Za W2.drew)) n4.below).size
 refine⟨a6,?_⟩
 have o6:=World.ownsRow_nil W5 w.heap.size 5 1
 have a5:=Zh h2 a9
 have hB:=bln (bln (bln (bln (u2.below n1.below g1) (Za W2)) (Za W2.drew)) n4.below) a6
 refine xbi (.r [9,10,11,12,13] 5) fun _ _ _ _ zJ zQ zo zx zy zK=>Xk (m:=4) (news:=(leB n 4).map bv) (.int .u8 0) 1 1 (4) ((leB n 4).map bv) zo Tryz.underlying36 (by kernel_rfl) rfl (by decide) zx o6 zy (Zf a5) (by simp[Zj]) (Vw _) (by unfold maxLen;omega) (by omega) hB.size (by rfl) (by simp) fun b5 b2 W7 o7 b6 a8=>?_
 refine zK _ _ ?_
 refine xcv0 24 (fun _ _ _ zo zx=>Lb zo zx (Jh (Zf o7) (Zj _ _)) (Zj _ _) Tryz.underlying36 Tryz.underlying5 Tryz.underlying9) ?_
 have a4:=hB.trans a8
 exact xe 4 (.string ⟨(leB n 4).toArray⟩) ⟨rfl,a4⟩
theorem Nk(n:Int)(h1:1≤n)(h2:n≤14399)(w:World) :
 C0 12 #[V0 n] w (Ret (.string ⟨(leB n 4).toArray⟩) w):=by
 refine zin 7 Tryz.func12 ?_
 refine xc 7 (args:=#[]) (Zbr _) ?_
 rintro _ W1 ⟨_,rfl,a2,gl,rfl,gg,kl⟩
 refine xbs 1 1 [V0 n] 3 fun b2 W2 n2=>?_
 have a0:=kl.below n2.below
 refine xr 0 (args:=#[.slice (S1 gl) 1 1,.slice (S1 b2) 1 1]) (Zbo gl b2 n h1 h2 _ a0 n2.blk) fun W3 a1=>?_
 have hB:=bln (bln a2 n2.below) a1
 exact xe 4 (.string ⟨(leB n 4).toArray⟩) ⟨rfl,hB⟩
theorem Sts.cut{α:Type}{f:α→List Value}{m:Nat}{w:World}{b:O0}{c:Nat}{l:List α}(hm:∀ x,(f x).length=m)(h:Sts f w (.slice b l.length c) l)(k:Nat)(hk:k≤l.length):Sts f w (.slice (Pt b k c m) (l.drop k).length (c-k)) (l.drop k):=by
 have a2:(l.drop k).length=l.length-k:=by simp
 have a1:=Sl.cap h
 by_cases hkn:k=l.length
 ·refine .inl ⟨Pt b k c m,c-k,by rw[show(l.drop k).length=0 by omega],by omega,?_⟩
  rw[List.drop_eq_nil_of_le (by omega)];rfl
 rcases h with ⟨a',c',h1,h2,h3⟩|⟨g,a0,a4,h1,h2,h3,h4⟩
 ·omega
 ·simp only[Value.slice.injEq] at h1
  obtain⟨rfl,_,rfl⟩:=h1
  refine .inr ⟨g,a0+k*m,c-k,?_,by omega,by omega,fun j x hj=>?_⟩
  ·rw[Pt,if_neg (by omega)];simp[Addr.add]
  ·have a3:(l.drop k).flatMap f=(l.flatMap f).drop (k*m):=by
    conv=>rhs;rw[←List.take_append_drop k l,List.flatMap_append]
    rw[List.drop_left' (by rw[Ly hm,List.length_take,Nat.min_eq_left hk])]
   rw[a3,List.getElem?_drop] at hj
   have:=h4 _ _ hj
   rwa [←Nat.add_assoc] at this
theorem Al.only{B ba b g n c:Nat}{pa:O0}{ca f N k:Nat}{l:Bl}{w W:World}{T:List TypeId}(h:Al B ba b g n c pa ca f N k l w)(hO:Ze T w W)(hT:(T.contains 72||T.contains 75||T.contains 5||T.contains 3)=false):Al B ba b g n c pa ca f N k l W:=by
 simp only[Bool.or_eq_false_iff] at hT
 exact⟨h.blkA.only hO hT.1.1.1,h.blkI.only hO hT.1.1.2,Zg h.data hO hT.1.2,Zg h.nums hO hT.2⟩
def Zm(l:List Ent)(m i:Nat):List Ent:=(l.drop (i*m)).take m
def Yr(c:List Ent):List Int:=c.map (·.1)
def Vr(c:List Ent):List Bl:=c.map (·.2.1)
def Zfz(t:Int)(leaf:Bool)(m v:Nat)(c:List Ent):Bl:=Jt m v (Vt t leaf c.length m v) (Yr c) (Vr c) c.length
def Uo(t:Int)(leaf:Bool)(m v:Nat)(l:List Ent)(q:Nat)(bs:Bl):Nat→Bl
 | 0=>bs
 | i+1=>Vo (Uo t leaf m v l q bs i) ((q+i)*256) (Yz 2 ((q+i:Nat):Int) (Zfz t leaf m v (Zm l m i)))
def upX (l:List Ent)(m q i:Nat):Ent:=(((Zm l m i).getD 0 Zi).1,leB ((q+i:Nat):Int) 4,((q+i:Nat):Int))
def upE (l:List Ent)(m q j:Nat):List Ent:=(List.range j).map (upX l m q)
theorem upE_succ(l:List Ent)(m q j:Nat):upE l m q (j+1)=upE l m q j++[upX l m q j]:=by simp[upE,List.range_succ]
theorem Xh(l:List Ent)(m q j:Nat):(upE l m q j).length=j:=by simp[upE]
theorem Kl{l:List Ent}{m q j i:Nat}(h:i<j):(upE l m q j).getD i Zi=upX l m q i:=by simp[upE,List.getD,List.getElem?_range h]
theorem Kg(l:List Ent)(m i:Nat):(Zm l m i).length=Ye l.length m i:=by simp[Zm,Ye]
theorem Kh{l:List Ent}{m i j:Nat}(h:j<Ye l.length m i):(Zm l m i).getD j Zi=l.getD (i*m+j) Zi:=by
 unfold Ye at h
 simp[Zm,List.getD,List.getElem?_take_of_lt (show j<m by omega),List.getElem?_drop]
theorem Cg{c:List Ent}{j:Nat}(h:j<c.length):(Yr c).getD j 0=(c.getD j Zi).1:=by simp[Yr,List.getD,h]
theorem Sf{c:List Ent}{j:Nat}(h:j<c.length):(Vr c).getD j []=(c.getD j Zi).2.1:=by simp[Vr,List.getD,h]
theorem Ub(c:List Ent):(Yr c).length=c.length:=by simp[Yr]
theorem Bo(c:List Ent):(Vr c).length=c.length:=by simp[Vr]
theorem Zaq{n m i:Nat}(hm:1≤m)(hn:1≤n)(h:i<ovN n m):i*m<n:=by
 unfold ovN at h
 rcases Nat.eq_zero_or_pos i with rfl|hi
 ·omega
 have h2:i<(n+m-1)/m:=by omega
 have h3:=(Nat.lt_div_iff_mul_lt (by omega)).1 h2
 omega
theorem Un{t:Int}{leaf:Bool}{m v:Nat}{l:List Ent}(E:EntsOk v l)(h1:1≤t)(h2:t≤5)(hm:Qq t leaf=m)(hv:Ht t leaf=v)(hl:leaf=false→1≤l.length){i:Nat}(hi:i<ovN l.length m):NodeOk t leaf (Zm l m i).length m v (Yr (Zm l m i)) (Vr (Zm l m i)):=by
 have a5:=(Yb t leaf).1
 rw[hm] at a5
 have a0:=Kg l m i
 have a6:=Sy a5 hi
 have a7:(Zm l m i).length≤l.length-i*m:=by rw[a0];unfold Ye;omega
 have a4:∀ j,j<(Zm l m i).length→i*m+j<l.length∧(Yr (Zm l m i)).getD j 0=(l.getD (i*m+j) Zi).1∧(Vr (Zm l m i)).getD j []=(l.getD (i*m+j) Zi).2.1:=fun j hj=>by
  refine⟨by omega,?_,?_⟩
  ·rw[Cg hj,Kh (by omega)]
  ·rw[Sf hj,Kh (by omega)]
 refine⟨h1,h2,hm,hv,Ub _,Bo _,by rw[a0];unfold Ye;omega,fun h=>?_,fun j hj=>?_,fun j hj=>?_,fun j hj=>?_⟩
 ·have:=Zaq a5 (hl h) hi
  rw[a0];unfold Ye;omega
 ·obtain⟨a1,a2,_⟩:=a4 j hj
  rw[a2];exact E.hk _ a1
 ·obtain⟨a1,a2,_⟩:=a4 j (by omega)
  obtain⟨b1,b2,_⟩:=a4 (j+1) hj
  rw[a2,b2];exact E.hs _ (by omega)
 ·obtain⟨a1,_,a3⟩:=a4 j hj
  rw[a3];exact E.hw _ a1
theorem Lg{t:Int}{leaf:Bool}{m v:Nat}{c:List Ent}(N:NodeOk t leaf c.length m v (Yr c) (Vr c)):(Zfz t leaf m v c).length=244:=by
 have hf:=fitN t leaf
 rw[N.hm,N.hv] at hf
 exact Cq (Vj _ _ _ _ _) hf N.hn (fun j hj=>N.hw j hj)
theorem Zaa{w:World}{b:O0}{n m c:Nat}(h:Sl w (.slice b (ovN n m) c) (ovN n m) ((sizL n m).map nv)){k:Nat}(hk:k<ovN n m):b.isSome=true∧w.cell? (Zw b (k*1))=some (V0 ((Ye n m k:Nat):Int)):=by
 have:=Zt h (sizL_len n m) hk
 rwa [show(sizL n m).getD k 0=Ye n m k from by simp[sizL,List.getD,List.getElem?_range hk]] at this
theorem Zeo{l:List Ent}{j:Nat}(h:j<l.length):((Yr l).take (j+1)).map V0=((Yr l).take j).map V0++[V0 (l.getD j Zi).1]:=by
 rw[List.take_succ_eq_append_getElem (by rw[Ub];exact h)]
 simp[Yr,List.getD,h]
theorem Zgk{l:List Ent}{j:Nat}(h:j<l.length):((Vr l).take (j+1)).map sv=((Vr l).take j).map sv++[.string ⟨(l.getD j Zi).2.1.toArray⟩]:=by
 rw[List.take_succ_eq_append_getElem (by rw[Bo];exact h)]
 simp[Vr,List.getD,h,sv]
theorem Zbq{l:List Ent}{m i s:Nat}(hs:Ye l.length m i=s):(Yr (l.drop (i*m))).take s=Yr (Zm l m i):=by
 subst hs
 unfold Yr Zm Ye
 rw[←List.map_take]
 congr 1
 rw[List.take_eq_take_iff];simp
theorem Zdi{l:List Ent}{m i s:Nat}(hs:Ye l.length m i=s):(Vr (l.drop (i*m))).take s=Vr (Zm l m i):=by
 subst hs
 unfold Vr Zm Ye
 rw[←List.map_take]
 congr 1
 rw[List.take_eq_take_iff];simp
theorem EntsOk.mono{v:Nat}{l:List Ent}(E:EntsOk v l):∀ {a b:Nat},a<b→b<l.length→(l.getD a Zi).1<(l.getD b Zi).1:=by
 intro a b h hb
 induction b with
 | zero=>omega
 | succ b ih =>
  have h1:=E.hs b (by omega)
  rcases Nat.lt_or_ge a b with h2|h2
  ·have:=ih h2 (by omega);omega
  ·obtain rfl:a=b:=by omega
   exact h1
theorem Sk{v:Nat}{l:List Ent}{m:Nat}(hm:1≤m)(hl:1≤l.length){i q:Nat}(hi:i<ovN l.length m):(upX l m q i).1=(l.getD (i*m) Zi).1∧i*m<l.length:=by
 have h:=Zaq hm hl hi
 refine⟨?_,h⟩
 unfold upX
 rw[Kh (by unfold Ye;omega)];rfl
theorem Mo{v:Nat}{l:List Ent}(E:EntsOk v l){m q:Nat}(hm:1≤m):EntsOk 4 (upE l m q (ovN l.length m)):=by
 rcases Nat.eq_zero_or_pos l.length with h0|hl
 ·have h1:ovN l.length m=1:=by
   rw[h0];unfold ovN
   have:(0+m-1)/m=0:=Nat.div_eq_of_lt (by omega)
   omega
  have a0:l=[]:=List.eq_nil_of_length_eq_zero h0
  subst a0
  constructor
  ·intro i hi;rw[Xh,h1] at hi;rw[Kl (by omega)];simp[upX,Zm,Zi]
  ·intro j hj;rw[Xh,h1] at hj;omega
  ·intro i hi;rw[Xh,h1] at hi;rw[Kl (by omega)];simp[upX,Zj]
 constructor
 ·intro i hi
  rw[Xh] at hi
  obtain⟨h1,h2⟩:=Sk (v:=v) (q:=q) hm hl hi
  rw[Kl hi,h1];exact E.hk _ h2
 ·intro j hj
  rw[Xh] at hj
  obtain⟨h1,h2⟩:=Sk (v:=v) (q:=q) hm hl hj
  obtain⟨h3,h4⟩:=Sk (v:=v) (q:=q) hm hl (show j<ovN l.length m by omega)
  rw[Kl hj,Kl (by omega),h1,h3]
  refine E.mono ?_ h2
  rw[Nat.add_mul];omega
 ·intro i hi
  rw[Xh] at hi
  rw[Kl hi];simp[upX,Zj]
def Qd(t:Int)(u:List Ent)(q:Nat)(bs:Bl):Int×Bl :=
 if h:u.length≤1 then((u.getD 0 Zi).2.2,bs)
 else Qd t (upE u 18 q (ovN u.length 18)) (q+ovN u.length 18) (Uo t false 18 4 u q bs (ovN u.length 18))
termination_by u.length
decreasing_by rw[Xh];have:=Zdw (x:=u.length) (by omega);omega
theorem Ve{t:Int}{u:List Ent}{q:Nat}{bs:Bl}(h:u.length≤1):Qd t u q bs=((u.getD 0 Zi).2.2,bs):=by rw[Qd];simp[h]
theorem Yp{t:Int}{u:List Ent}{q:Nat}{bs:Bl}(h:¬ u.length≤1):Qd t u q bs=Qd t (upE u 18 q (ovN u.length 18)) (q+ovN u.length 18) (Uo t false 18 4 u q bs (ovN u.length 18)):=by rw[Qd];simp[h]
def Xw(t:Int)(l:List Ent)(q:Nat)(bs:Bl):Int×Bl :=
 Qd t (upE l (Qq t true) q (ovN l.length (Qq t true))) (q+ovN l.length (Qq t true)) (Uo t true (Qq t true) (Ht t true) l q bs (ovN l.length (Qq t true)))
theorem Ag{t:Int}{u:List Ent}{q:Nat}{bs:Bl}(h1:1≤u.length)(hu:(u.getD (u.length-1) Zi).2.2=((q-1:Nat):Int))(hq:1≤q):(Qd t u q bs).1=((q-1+((Je u.length).sum-u.length):Nat):Int):=by
 induction hx:u.length using Nat.strongRecOn generalizing u q bs with
 | _ x ih =>
  subst hx
  by_cases h:u.length≤1
  ·rw[Ve h,Vq h]
   rw[show u.length-1=0 by omega] at hu
   show(u.getD 0 Zi).2.2=_
   rw[hu];simp
  ·have a1:=Zdw (x:=u.length) (by omega)
   have hp:=Xy u.length 18
   rw[Yp h,ih (ovN u.length 18) (by omega) (u:=upE u 18 q (ovN u.length 18)) (q:=q+ovN u.length 18) (by rw[Xh];exact hp) ?_ (by omega) (Xh _ _ _ _),Yw h]
   ·have a0:=Kd (ovN u.length 18)
    simp only[List.sum_cons]
    congr 1
    omega
   ·rw[Xh,Kl (by omega)]
    simp only[upX]
    congr 1
    omega
def LaidQ(B ba b g n c:Nat)(pa:O0)(ca f N k:Nat)(l:Bl)(kind:Int)(li:Bl)(q:Nat)(w:World)(e:Ending)(w':World):Prop :=
 e=.returned (.tuple #[V0 (q:Int),.nilIface])∧Below B w w'∧Ze [72,5] w w'∧Fr [ba,g] w w'∧Al B ba b g n c pa ca f N (k+1) (Vo l (q*256) (Yz kind (q:Int) li)) w'
theorem Zb7(B ba b g n c:Nat)(p:O0)(ca f N k:Nat)(l:Bl)(kind:Int)(a:O0)(ci:Nat)(li:Bl)(q n':Nat)(w:World)(hq:f+k=q)(hn':li.length=n')(hC:AlC B ba n c ca f N)(hA:Al B ba b g n c p ca f N k l w)(hkN:k<N)(h1:1≤kind)(h2:kind≤4)(hin:∀ W,Below B w W→Ze [72] w W→Bys W (.slice a n' ci) li)(hl:n'≤244)(hBw:B≤w.heap.size) :
 C0 52 #[P0 ba,V0 kind,.slice a n' ci] w (LaidQ B ba b g n c p ca f N k l kind li q w):=by
 subst hq hn';exact Zfy B ba b g n c p ca f N k l kind a ci li w hC hA hkN h1 h2 hin hl hBw
theorem up_row{l:List Ent}{m q i:Nat}{key:Int}(hk:key=((Zm l m i).getD 0 Zi).1):(upE l m q i).flatMap Va++[V0 key,.string ⟨(leB ((q+i:Nat):Int) 4).toArray⟩,V0 ((q+i:Nat):Int)]=(upE l m q (i+1)).flatMap Va:=by
 subst hk;rw[upE_succ];simp[Va,upX]
theorem Zg9{l:List Ent}{m i j:Nat}(hs:Ye l.length m i=j)(hj:0<j):((Yr (Zm l m i))).getD 0 0=((Zm l m i).getD 0 Zi).1:=Cg (by rw[Kg];omega)
theorem Tu{l:List Ent}{m i j:Nat}(hs:Ye l.length m i=j)(hj:j=0):(0:Int)=((Zm l m i).getD 0 Zi).1:=by
 have:Zm l m i=[]:=List.eq_nil_of_length_eq_zero (by rw[Kg];omega)
 rw[this];rfl
theorem ImgR.mono{B B' b:Nat}{p:O0}{n c:Nat}{l:Bl}{w:World}(h:ImgR B b p n c l w)(hB:B'≤B):ImgR B' b p n c l w:=⟨h.blk,Zh h.row hB,h.hn⟩
theorem Kw.at{w:World}:∀ {fs:List (List Int×Int)} {vs:List Value},Kw w fs vs→∀ {j:Nat},j<fs.length→∃ ty x,vs[j]? = some (.iface ty x)∧Vx w ((fs.getD j ([],0)).1.map some) (some (fs.getD j ([],0)).2) (.iface ty x)
 | f::r,v::q,h,0,_=>by
  obtain⟨ty,x,rfl⟩:=h.1.iface
  exact⟨ty,x,rfl,h.1⟩
 | f::r,v::q,h,j+1,hj=>by
  obtain⟨ty,x,h1,h2⟩:=h.2.at (j:=j) (by simpa using hj)
  exact⟨ty,x,by simpa using h1,by simpa using h2⟩
 | [],_,_,j,hj=>absurd hj (by simp)
 | _::_,[],h,_,_=>h.elim
theorem Sl.elem1{w:World}{b:O0}{n c:Nat}{xs:List Value}(h:Sl w (.slice b n c) n xs){j:Nat}{x:Value}(hj:xs[j]? = some x):b.isSome=true∧w.cell? (Zw b (j*1))=some x:=by rw[Nat.mul_one];exact Sl.elem h hj
theorem scan_law(l:Bl)(root tree fuel:Int):(Zd l root tree fuel).looked≤fuel.toNat∧(Zd l root tree fuel).bs.length≤(Zd l root tree fuel).looked∧(∀ x∈(Zd l root tree fuel).es,InBlk l tree x) ∧
 (Zd l root tree fuel).es.Pairwise (fun x y=>x.1<y.1)∧∀ f∈(Zd l root tree fuel).fs,f.1≠[]∧f.1.getD 0 0=root:=by
 obtain⟨es,fs,h⟩:=Um l root tree fuel
 have h1:(Zd l root tree fuel).es=es:=by rw[h.esE];rfl
 have h2:(Zd l root tree fuel).fs=fs:=by rw[h.fsE];rfl
 have h3:=h.blks
 refine⟨Mf _ _ _ _,by simpa [ws0] using h3,fun x hx=>h.inb x (h1▸hx),by rw[h1];exact h.rise.1,fun f hf=>?_⟩
 obtain⟨q1,q2,_⟩:=h.flt f (h2▸hf)
 refine⟨q2,?_⟩
 cases e:f.1 with
 | nil=>exact absurd e q2
 | cons a r=>rw[e] at q1;simpa using q1
structure WalkS(t:WS)(pe pb pf:Option Addr)(ce cb cf:Nat)(fv:List Value)(w:World):Prop where
 ents:Sts Va w (.slice pe t.es.length ce) t.es
 blks:Ints w (.slice pb t.bs.length cb) t.bs
 flts:Sl w (.slice pf t.fs.length cf) t.fs.length fv
 fltv:Kw w t.fs fv
theorem WalkS.below{t:WS}{pe pb pf:O0}{ce cb cf:Nat}{fv:List Value}{w W:World}(h:WalkS t pe pb pf ce cb cf fv w)(hb:B0 w W):WalkS t pe pb pf ce cb cf fv W :=
 ⟨Sl.below h.ents hb,Sl.below h.blks hb,Sl.below h.flts hb,h.fltv.below hb⟩
def eL (S:WS):List (Option Int):=if S.fs=[] then [] else(S.fs.getD 0 ([],0)).1.map some
def eT (S:WS):Option Int:=if S.fs=[] then none else some (S.fs.getD 0 ([],0)).2
def Tg(S:WS):WS:=if S.fs=[] then S else ws0
def Vl(S:WS):List Int×Int:=if S.fs=[] then([],0) else S.fs.getD 0 ([],0)
def FirstP(fs:List (List Int×Int))(w:World)(e:Ending)(w':World):Prop :=
 (fs=[]∧e=.returned .nilIface∧B0 w w')∨(fs≠[]∧∃ ty x,e=.returned (.iface ty x)∧B0 w w'∧Vx w' ((fs.getD 0 ([],0)).1.map some) (some (fs.getD 0 ([],0)).2) (.iface ty x))
theorem Mr(p:O0)(n c:Nat)(fv:List Value)(ty:TypeId)(x:Value)(w:World)(hn:0<n)(hS:Sl w (.slice p n c) n fv)(hx:fv[0]? = some (.iface ty x)) :
 C0 54 #[.slice p n c] w (Ret (.iface ty x) w):=by
 refine zin 15 Tryz.func54 ?_
 refine xu 14 1 ?_
 refine xk 6 (show(decide ((0:Int)<(n:Int)):Bool)=true from decide_eq_true (by omega)) ?_
 refine xx 6 _ n 0 1 (Sl.elem1 hS hx).1 ?_
 refine xl 0 ((Sl.elem1 hS hx).2) ?_
 exact xe 22 (.iface ty (x)) ⟨rfl,(B3 w)⟩
theorem Ms(p:O0)(c:Nat)(w:World) :
 C0 54 #[.slice p 0 c] w (Ret .nilIface w):=by
 refine zin 15 Tryz.func54 ?_
 refine xu 14 1 ?_
 exact xe 18 .nilIface ⟨rfl,(B3 w)⟩
theorem Rn(p:O0)(n c:Nat)(fs:List (List Int×Int))(fv:List Value)(w:World)(hn:fs.length=n)(hS:Sl w (.slice p n c) n fv)(hF:Kw w fs fv):C0 54 #[.slice p n c] w (FirstP fs w):=by
 subst hn
 match fs,hS,hF with
 | [],hS,hF =>
  refine(Ms p c w).mono ?_
  rintro e W ⟨rfl,hb⟩
  exact .inl ⟨rfl,rfl,hb⟩
 | f::r,hS,hF =>
  obtain⟨ty,x,h1,h2⟩:=hF.at (j:=0) (by simp)
  refine(Mr p _ c fv ty x w (by simp) hS h1).mono ?_
  rintro e W ⟨rfl,hb⟩
  exact .inr ⟨by simp,ty,x,rfl,hb,h2.below hb⟩
theorem WalkV.mono{B B':Nat}{t:WS}{pe pb pf:O0}{ce cb cf:Nat}{fv:List Value}{w:World}(h:WalkV B t pe pb pf ce cb cf fv w)(hB:B'≤B):WalkV B' t pe pb pf ce cb cf fv w:=⟨Zh h.ents hB,Zh h.blks hB,Zh h.flts hB,h.fltv⟩
theorem WalkV.below{B:Nat}{t:WS}{pe pb pf:O0}{ce cb cf:Nat}{fv:List Value}{w W:World}(h:WalkV B t pe pb pf ce cb cf fv w)(hb:B0 w W):WalkV B t pe pb pf ce cb cf fv W:=⟨Zb h.ents hb,Zb h.blks hb,Zb h.flts hb,h.fltv.below hb⟩
theorem WalkV.only{B:Nat}{T:List TypeId}{t:WS}{pe pb pf:O0}{ce cb cf:Nat}{fv:List Value}{w W:World}(h:WalkV B t pe pb pf ce cb cf fv w)(hO:Ze T w W)(hT:T.contains 45=false∧T.contains 3=false∧T.contains 31=false∧T.contains 152=false):WalkV B t pe pb pf ce cb cf fv W:=⟨Zg h.ents hO hT.1,Zg h.blks hO hT.2.1,Zg h.flts hO hT.2.2.1,h.fltv.only hO hT.2.2.2⟩
theorem WalkV.s{B:Nat}{t:WS}{pe pb pf:O0}{ce cb cf:Nat}{fv:List Value}{w:World}(h:WalkV B t pe pb pf ce cb cf fv w):WalkS t pe pb pf ce cb cf fv w:=⟨Zf h.ents,Zf h.blks,Zf h.flts,h.fltv⟩
theorem WalkV.zero(B:Nat)(w:World):WalkV B ws0 none none none 0 0 0 [] w:=⟨World.ownsRow_nil _ _ _ _,World.ownsRow_nil _ _ _ _,World.ownsRow_nil _ _ _ _,trivial⟩
theorem Zay{S:WS}(h:S.fs=[]):Tg S=S∧Vl S=([],0)∧eL S=[]∧eT S=none:=by unfold Tg Vl eL eT;simp[h]
theorem Bc{S:WS}(h:S.fs≠[]):Tg S=ws0∧Vl S=S.fs.getD 0 ([],0)∧eL S=(S.fs.getD 0 ([],0)).1.map some∧eT S=some (S.fs.getD 0 ([],0)).2:=by unfold Tg Vl eL eT;simp[h]
def WholeP(S:WS)(w:World)(e:Ending)(w':World):Prop:=∃ t pe pb pf ce cb cf fv v,t=Tg S∧e=.returned (.tuple #[.agg (walkC t pe pb pf ce cb cf).toArray,v])∧B0 w w'∧WalkV w.heap.size t pe pb pf ce cb cf fv w'∧Vx w' (eL S) (eT S) v
theorem Aa(Bi b:Nat)(pi:O0)(ni ci:Nat)(l:Bl)(root tree fuel:Int)(w:World)(hfu:fuel≤1000)(hI:ImgR Bi b pi ni ci l w) :
 C0 34 #[P0 b,V0 root,V0 tree,V0 fuel] w (WholeP (Zd l root tree fuel) w):=by
 refine zin 25 Tryz.func34 ?_
 refine xa 2 [S0,S0,V0 0,V0 0,S0] 87 fun b1 W1 n1=>?_
 have b5:=n1.below.size
 refine xc 9 (args:=#[P0 b,V0 root,V0 tree,V0 fuel]) (Zgu Bi b pi ni ci l root tree fuel _ hfu (hI.below n1.below)) ?_
 rintro _ W2 ⟨pe,pb,pf,ce,cb,cf,fv,rfl,b4,b6⟩
 have hW:=b6.mono b5
 refine xa 0 [S0,S0,V0 0,V0 0,S0] 87 fun b3 W3 n3=>?_
 have k1:=n1.blk.below b4
 have a1:=n3.ne k1
 have a3:=bln n1.below b4
 have g3:=n3.ge a3
 refine xsv 0 n3.blk [.slice pe ((Zd l root tree fuel).es.length) ce,.slice pb ((Zd l root tree fuel).bs.length) cb,V0 ((Zd l root tree fuel).deep),V0 (↑(Zd l root tree fuel).looked:Int),.slice pf ((Zd l root tree fuel).fs.length) cf] fun W4 u4 k4=>?_
 refine xb 6 4 k4 ?_
 have a2:=(hW.below n3.below).only (Ze.of_upd (T:=[87]) u4 n3.blk (by decide)) (by decide)
 refine xc 0 (args:=#[.slice pf ((Zd l root tree fuel).fs.length) cf]) (Rn pf _ cf (Zd l root tree fuel).fs fv _ rfl (Zf a2.flts) a2.fltv) ?_
 rintro e W5 b7
 rcases b7 with ⟨hz,rfl,a4⟩|⟨hz,ty,x,rfl,a4,hv⟩
 ·have a0:=Zay hz
  have a7:=k4.below a4
  refine xlv 14 a7.rp ?_
  have a6:=(u4.blk (k1.below n3.below) (Ne.symm (Ne.symm a1))).below a4
  refine xsv 0 a6 [.slice pe ((Zd l root tree fuel).es.length) ce,.slice pb ((Zd l root tree fuel).bs.length) cb,V0 ((Zd l root tree fuel).deep),V0 (↑(Zd l root tree fuel).looked:Int),.slice pf ((Zd l root tree fuel).fs.length) cf] fun W6 u6 k6=>?_
  have g1:=n1.ge (B3 w)
  have b2:=u6.below (bln (u4.below (bln a3 n3.below) g3) a4) g1
  have b0:=(a2.below a4).only (Ze.of_upd (T:=[87]) u6 a6 (by decide)) (by decide)
  exact xec 4 k6 (.tuple #[.agg #[.slice pe ((Zd l root tree fuel).es.length) ce,.slice pb ((Zd l root tree fuel).bs.length) cb,V0 ((Zd l root tree fuel).deep),V0 (↑(Zd l root tree fuel).looked:Int),.slice pf ((Zd l root tree fuel).fs.length) cf],.nilIface]) ⟨_,pe,pb,pf,ce,cb,cf,fv,_,rfl,by rw[a0.1];rfl,b2,by rw[a0.1];exact b0,by rw[a0.2.2.1,a0.2.2.2];rfl⟩
 have a0:=Bc hz
 have a5:=(u4.blk (k1.below n3.below) (Ne.symm (Ne.symm a1))).below a4
 refine xsv 14 a5 [S0,S0,V0 0,V0 0,S0] fun W7 u7 k7=>?_
 have g1:=n1.ge (B3 w)
 have a9:=u7.below (bln (u4.below (bln a3 n3.below) g3) a4) g1
 have a8:=hv.upd u7 a5 (by decide)
 exact xec 5 k7 (.tuple #[.agg #[S0,S0,V0 0,V0 0,S0],.iface ty (x)]) ⟨_,none,none,none,0,0,0,[],_,rfl,by rw[a0.1];rfl,a9,by rw[a0.1];exact WalkV.zero _ _,by rw[a0.2.2.1,a0.2.2.2];exact a8⟩
def Hi:List Gj:=[(8,0,1099511627775)]
theorem Fd:Kk Hi:=by
 refine⟨by decide,fun i hi=>?_⟩
 have a0:i<1:=hi
 obtain rfl:i=0:=by omega
 simp[Hi,List.getD]
def Jm:List Gj:=[(8,0,16384),(8,0,2147483647),(4,0,16777215),(4,0,16777215)]
theorem Pu:Kk Jm:=by
 refine⟨by decide,fun i hi=>?_⟩
 have a0:i<4:=hi
 obtain rfl|rfl|rfl|rfl:i=0∨i=1∨i=2∨i=3:=by omega
 all_goals simp[Jm,List.getD]
def mapN(v:Bl):Nat:=(Yu Hi v).getD 0 0
def Mv(v:Bl):Nat:=mapN v/16777216
def Du(v:Bl):Nat:=mapN v%16777216
theorem mapN_bd(v:Bl):mapN v≤1099511627775:=by
 unfold mapN Yu
 by_cases h:Xv Hi v=0
 ·rw[if_pos h]
  unfold Xv at h
  split at h
  ·split at h
   ·rename_i h1 h2
    unfold Uy Jo at h2
    rw[List.all_eq_true] at h2
    have h3:=of_decide_eq_true (h2 0 (List.mem_range.2 (by decide)))
    rw[show((Gi Hi v).map fun n:Nat=>(n:Int)).getD 0 0=(((Gi Hi v).getD 0 0:Nat):Int) by simp[List.getD,show 0<(Gi Hi v).length by rw[Wv];decide]] at h3
    have h4:(((Gi Hi v).getD 0 0:Nat):Int)≤1099511627775:=h3.2
    omega
   ·simp at h
  ·simp at h
 ·rw[if_neg h];decide
def Fo(data:Int)(v:Bl):Int:=if Xv Hi v≠0 then Xv Hi v else if data≤(Mv v:Int) then 2 else 0
abbrev Mp:=Int×Int×Int
def Zdm(x:Ent):Mp:=(x.1,(Mv x.2.1:Int),(Du x.2.1:Int))
def Uu(m:Mp):List Value:=[V0 m.1,V0 m.2.1,V0 m.2.2]
theorem Yo(m:Mp):(Uu m).length=3:=rfl
def Zdk(data:Int)(es:List Ent)(i:Nat):Prop:=∀ j,j<i→Fo data (es.getD j Zi).2.1=0
theorem Dn{data:Int}{es:List Ent}{i:Nat}(h:Zdk data es i)(h2:Fo data (es.getD i Zi).2.1=0):Zdk data es (i+1):=fun j hj=>by
 by_cases e:j=i
 ·subst e;exact h2
 ·exact h j (by omega)
def Oh(es:List Ent)(data:Int):List Int×Int×List Mp :=
 match (List.range es.length).find? (fun i=>Fo data (es.getD i Zi).2.1 != 0) with
 | some i=>([(es.getD i Zi).2.2],Fo data (es.getD i Zi).2.1,[])
 | none=>([],0,es.map Zdm)
theorem Sz{es:List Ent}{data:Int}{i:Nat}(hi:i<es.length)(h:Zdk data es i)(hb:Fo data (es.getD i Zi).2.1≠0):Oh es data=([(es.getD i Zi).2.2],Fo data (es.getD i Zi).2.1,[]):=by
 unfold Oh
 rw[show(List.range es.length).find? (fun i=>Fo data (es.getD i Zi).2.1 != 0)=some i from by
  rw[List.find?_range_eq_some]
  exact⟨by simpa using hb,List.mem_range.2 hi,fun m hm=>by simpa using h m hm⟩]
theorem Li{es:List Ent}{data:Int}(h:Zdk data es es.length):Oh es data=([],0,es.map Zdm):=by
 unfold Oh
 rw[show(List.range es.length).find? (fun i=>Fo data (es.getD i Zi).2.1 != 0)=none from by
  rw[List.find?_eq_none]
  intro i hi
  have:=h i (List.mem_range.1 hi)
  simpa using this]
def Ir(l:Bl)(root data fuel:Int):List Int×Int×List Mp :=
 if(Zd l root 2 fuel).fs≠[] then((Vl (Zd l root 2 fuel)).1,(Vl (Zd l root 2 fuel)).2,[])
 else Oh (Zd l root 2 fuel).es data
theorem Sr{l:Bl}{root data fuel:Int}(h:(Zd l root 2 fuel).fs≠[]):Ir l root data fuel=((Vl (Zd l root 2 fuel)).1,(Vl (Zd l root 2 fuel)).2,[]):=if_pos h
theorem Uj{l:Bl}{root data fuel:Int}(h:(Zd l root 2 fuel).fs=[]):Ir l root data fuel=Oh (Zd l root 2 fuel).es data:=if_neg (fun q=>q h)
def Qa(v:Bl)(i:Nat):Nat:=(Yu Jm v).getD i 0
abbrev Dv:=(Int×Int×Int×Int)×List Mp
def ownO(l:Bl)(y:Ent)(data fuel:Int):List Int×Int×List Mp:=Ir l (Js y.2.1:Int) data fuel
def Mx(l:Bl)(x y:Ent)(data fuel:Int)(sum:Nat):List Int×Int :=
 if 16777215<x.1 then([x.2.2],9)
 else if Xv Jm x.2.1≠0 then([x.2.2],Xv Jm x.2.1)
 else if Ys y.2.1≠0 then([y.2.2],Ys y.2.1)
 else if(ownO l y data fuel).2.1≠0 then(y.2.2::(ownO l y data fuel).1,(ownO l y data fuel).2.1)
 else if(ownO l y data fuel).2.2.length≠Qa x.2.1 0 then([x.2.2],13)
 else if 16384<sum+(ownO l y data fuel).2.2.length then([y.2.2],2)
 else([],0)
def devX(l:Bl)(x y:Ent)(data fuel:Int):Dv:=((x.1,(Qa x.2.1 1:Int),(Qa x.2.1 2:Int),(Qa x.2.1 3:Int)),(ownO l y data fuel).2.2)
def sumL(l:Bl)(T:List Ent)(data fuel:Int):Nat→Nat
 | 0=>0
 | i+1=>sumL l T data fuel i+(ownO l (T.getD i Zi) data fuel).2.2.length
def Za2(l:Bl)(D T:List Ent)(data fuel:Int)(i:Nat):List Int×Int:=Mx l (D.getD i Zi) (T.getD i Zi) data fuel (sumL l T data fuel i)
def devL(l:Bl)(D T:List Ent)(data fuel:Int)(i:Nat):List Dv:=(List.range i).map fun k=>devX l (D.getD k Zi) (T.getD k Zi) data fuel
theorem On(l:Bl)(D T:List Ent)(data fuel:Int)(i:Nat):(devL l D T data fuel i).length=i:=by simp[devL]
theorem Sw(l:Bl)(D T:List Ent)(data fuel:Int)(i:Nat):devL l D T data fuel (i+1)=devL l D T data fuel i++[devX l (D.getD i Zi) (T.getD i Zi) data fuel]:=by simp[devL,List.range_succ]
def devK(l:Bl)(D T:List Ent)(data fuel:Int)(i:Nat):Prop:=∀ j,j<i→(Za2 l D T data fuel j).2=0
theorem Th{l:Bl}{D T:List Ent}{data fuel:Int}{i:Nat}(h:devK l D T data fuel i)(h2:(Za2 l D T data fuel i).2=0):devK l D T data fuel (i+1):=fun j hj=>by
 by_cases e:j=i
 ·subst e;exact h2
 ·exact h j (by omega)
def An(l:Bl)(D T:List Ent)(data fuel:Int):List Int×Int×List Dv :=
 match (List.range D.length).find? (fun i=>(Za2 l D T data fuel i).2 != 0) with
 | some i=>((Za2 l D T data fuel i).1,(Za2 l D T data fuel i).2,[])
 | none=>([],0,devL l D T data fuel D.length)
theorem Sh{l:Bl}{D T:List Ent}{data fuel:Int}{i:Nat}(hi:i<D.length)(h:devK l D T data fuel i)(hb:(Za2 l D T data fuel i).2≠0):An l D T data fuel=((Za2 l D T data fuel i).1,(Za2 l D T data fuel i).2,[]):=by
 unfold An
 rw[show(List.range D.length).find? (fun i=>(Za2 l D T data fuel i).2 != 0)=some i from by
  rw[List.find?_range_eq_some]
  exact⟨by simpa using hb,List.mem_range.2 hi,fun m hm=>by simpa using h m hm⟩]
theorem Lh{l:Bl}{D T:List Ent}{data fuel:Int}(h:devK l D T data fuel D.length):An l D T data fuel=([],0,devL l D T data fuel D.length):=by
 unfold An
 rw[show(List.range D.length).find? (fun i=>(Za2 l D T data fuel i).2 != 0)=none from by
  rw[List.find?_eq_none]
  intro i hi
  have:=h i (List.mem_range.1 hi)
  simpa using this]
def Ke:List Ent→List Ent→Nat
 | [],[]=>0
 | [],_::_=>1
 | _::_,[]=>2
 | x::a,y::b=>if x.1=y.1 then Ke a b else if x.1<y.1 then 2 else 1
theorem Ej{D T:List Ent}:∀ i,i≤D.length→i≤T.length→(∀ j,j<i→(D.getD j Zi).1=(T.getD j Zi).1)→Ke D T=Ke (D.drop i) (T.drop i)
 | 0,_,_,_=>by simp
 | i+1,h1,h2,h=>by
  rw[Ej i (by omega) (by omega) fun j hj=>h j (by omega)]
  have e:=h i (by omega)
  rw[show D.getD i Zi=D[i]'(by omega) from by simp[List.getD,show i<D.length by omega],show T.getD i Zi=T[i]'(by omega) from by simp[List.getD,show i<T.length by omega]] at e
  rw[List.drop_eq_getElem_cons (show i<D.length by omega),List.drop_eq_getElem_cons (show i<T.length by omega)]
  show(if D[i].1=T[i].1 then Ke (D.drop (i+1)) (T.drop (i+1)) else _)=_
  rw[if_pos e]
theorem Dx{D T:List Ent}(h:Ke D T=0):D.length=T.length∧∀ i,i<D.length→(D.getD i Zi).1=(T.getD i Zi).1:=by
 induction D generalizing T with
 | nil =>
  cases T with
  | nil=>exact⟨rfl,fun i hi=>absurd hi (by simp)⟩
  | cons y b=>simp[Ke] at h
 | cons x a ih =>
  cases T with
  | nil=>simp[Ke] at h
  | cons y b =>
   by_cases e:x.1=y.1
   ·have h2:Ke a b=0:=by simpa [Ke,e] using h
    obtain⟨h3,h4⟩:=ih h2
    refine⟨by simp[h3],fun i hi=>?_⟩
    cases i with
    | zero=>simpa [List.getD] using e
    | succ i=>simpa [List.getD] using h4 i (by simpa using hi)
   ·by_cases q:x.1<y.1<;>simp[Ke,e,q] at h
def Vv(l:Bl)(top details data fuel:Int):List Int×Int×List Dv :=
 if(Zd l details 3 fuel).fs≠[] then((Vl (Zd l details 3 fuel)).1,(Vl (Zd l details 3 fuel)).2,[])
 else if(Zd l top 1 fuel).fs≠[] then((Vl (Zd l top 1 fuel)).1,(Vl (Zd l top 1 fuel)).2,[])
 else if 4096<(Zd l details 3 fuel).es.length then([details],2,[])
 else if Ke (Zd l details 3 fuel).es (Zd l top 1 fuel).es=1 then([details],18,[])
 else if Ke (Zd l details 3 fuel).es (Zd l top 1 fuel).es=2 then([top],18,[])
 else An l (Zd l details 3 fuel).es (Zd l top 1 fuel).es data fuel
structure MapsOk(data:Int)(M:List Mp):Prop where
 rise:M.Pairwise (fun x y=>x.1<y.1)
 each:∀ m∈M,(0≤m.1∧m.1≤281474976710655)∧(0≤m.2.1∧m.2.1<data)∧0≤m.2.2∧m.2.2≤16777215
theorem MapsOk.nil(data:Int):MapsOk data []:=⟨.nil,fun _ h=>by cases h⟩
structure DevOk(data:Int)(d:Dv):Prop where
 id:0≤d.1.1∧d.1.1≤16777215
 tx:0≤d.1.2.1∧d.1.2.1≤2147483647
 made:0≤d.1.2.2.1∧d.1.2.2.1≤16777215
 snap:0≤d.1.2.2.2∧d.1.2.2.2≤16777215
 maps:MapsOk data d.2
def Gf(L:List Dv):Nat:=(L.map fun d=>d.2.length).sum
structure DevsOk(data:Int)(L:List Dv):Prop where
 few:L.length≤4096
 sum:Gf L≤16384
 rise:L.Pairwise (fun x y=>x.1.1<y.1.1)
 each:∀ d∈L,DevOk data d
theorem DevsOk.nil(data:Int):DevsOk data []:=⟨by decide,by decide,.nil,fun _ h=>by cases h⟩
theorem getD_app{P Q:Bl}{k i:Nat}(hk:P.length=k):(P++Q).getD (k+i) 0=Q.getD i 0:=by
 subst hk
 simp[List.getD,List.getElem?_append_right]
theorem getD_hd{P Q:Bl}{i:Nat}(hi:i<P.length):(P++Q).getD i 0=P.getD i 0:=by
 simp[List.getD,List.getElem?_append_left hi]
theorem Kt{P Q:Bl}{k w:Nat}{x:Int}(hk:P.length=k)(h0:0≤x)(hb:x.toNat<256 ^ w):(Xb (P++(leB x w++Q)) k w:Int)=x:=by
 rw[Ut w k x.toNat,Nat.mod_eq_of_lt hb]
 ·omega
 ·intro i hi
  rw[getD_app hk,getD_hd (by rw[Zj];exact hi)]
  simp[leB,Zp,List.getD,List.getElem?_range hi]
theorem Rb{P Q:Bl}{k:Nat}(hk:P.length=k):(P++Q).drop k=Q:=List.drop_left' hk
theorem To(n m:Nat):Hp ((List.replicate n (0:UInt8)).take m)=true:=by
 unfold Hp;rw[List.all_eq_true]
 intro x hx
 have:=List.mem_of_mem_take hx
 rw[(List.mem_replicate.1 this).2];rfl
theorem Lz(K:List Int)(n j:Nat):∀ d,∃ X,Yl K n (j+d)=Yl K n j++X
 | 0=>⟨[],by simp⟩
 | d+1=>by
  obtain⟨X,hX⟩:=Lz K n j d
  exact⟨_,by rw[←Nat.add_assoc,Vb,hX,List.append_assoc]⟩
theorem Ci(Vs:List Bl)(j:Nat):∀ d,∃ X,Qm Vs (j+d)=Qm Vs j++X
 | 0=>⟨[],by simp⟩
 | d+1=>by
  obtain⟨X,hX⟩:=Ci Vs j d
  exact⟨_,by rw[←Nat.add_assoc,Gc,hX,List.append_assoc]⟩
theorem Nx{l:Bl}:∀ {n:Nat},(∀ i,i<n→Fg l i=0)→Yh l n=0
 | 0,_=>rfl
 | n+1,h=>Gy (Nx fun i hi=>h i (by omega)) (h n (by omega))
theorem getD_ext{l l':List Int}(h:l.length=l'.length)(h2:∀ j,j<l.length→l.getD j 0=l'.getD j 0):l=l':=by
 apply List.ext_getElem h
 intro j h3 h4
 have:=h2 j h3
 simpa [List.getD,h3,h4] using this
theorem Zgh{l l':List Bl}(h:l.length=l'.length)(h2:∀ j,j<l.length→l.getD j []=l'.getD j []):l=l':=by
 apply List.ext_getElem h
 intro j h3 h4
 have:=h2 j h3
 simpa [List.getD,h3,h4] using this
structure NodBack(b:List UInt8)(t:Int)(leaf:Bool)(n m v:Nat)(K:List Int)(Vs:List (List UInt8)):Prop where
 len:b.length=244
 e:Kr b=0
 t:Qb b=t
 l:Xp b=leaf
 c:Zn b=n
 k:Vp b n=K
 v:Ho b n=Vs
theorem Rc{t:Int}{leaf:Bool}{n m v:Nat}{K:List Int}{Vs:List Bl}(N:NodeOk t leaf n m v K Vs):NodBack (Jt m v (Vt t leaf n m v) K Vs n) t leaf n m v K Vs:=by
 have a9:=Yb t leaf
 rw[N.hm] at a9
 have b1:=Bf t leaf
 rw[N.hv] at b1
 have a1:=fitN t leaf
 rw[N.hm,N.hv] at a1
 have a8:=N.ht1
 have a7:=N.ht2
 have a5:=N.hn
 have a0:=Eh (H:=Vt t leaf n m v) (K:=K) (Vs:=Vs) (Vj _ _ _ _ _) a1 a5 (fun j hj=>N.hw j hj)
 have a3:=Cq (H:=Vt t leaf n m v) (K:=K) (Vs:=Vs) (Vj _ _ _ _ _) a1 a5 (fun j hj=>N.hw j hj)
 generalize Jt m v (Vt t leaf n m v) K Vs n=b at a0 a3
 obtain⟨R,hR⟩:∃ R,b=Vt t leaf n m v++R:=⟨_,by rw[a0,List.append_assoc,List.append_assoc]⟩
 have b0:=Fb leaf
 have r0:(Xb b 0 1:Int)=Hz leaf:=by
  rw[hR,Vt];simp only[List.append_assoc]
  exact Kt (P:=[]) (k:=0) (w:=1) (x:=Hz leaf) rfl b0.1 (Nat.lt_of_le_of_lt (show(Hz leaf).toNat≤255 by omega) (by decide))
 have r1:(Xb b 1 1:Int)=t:=by
  rw[hR,Vt];simp only[List.append_assoc]
  exact Kt (P:=leB (Hz leaf) 1) (by rw[Zj]) (by omega) (by omega)
 have r2:(Xb b 2 2:Int)=(n:Int):=by
  rw[hR,Vt];simp only[List.append_assoc]
  rw[←List.append_assoc]
  exact Kt (P:=leB (Hz leaf) 1++leB t 1) (by simp[Zj]) (by omega) (by omega)
 have r4:(Xb b 4 2:Int)=(v:Int):=by
  rw[hR,Vt];simp only[List.append_assoc]
  rw[←List.append_assoc,←List.append_assoc]
  exact Kt (P:=leB (Hz leaf) 1++leB t 1++leB (n:Int) 2) (by simp[Zj]) (by omega) (by omega)
 have r6:(Xb b 6 2:Int)=(m:Int):=by
  rw[hR,Vt];simp only[List.append_assoc]
  rw[←List.append_assoc,←List.append_assoc,←List.append_assoc]
  exact Kt (P:=leB (Hz leaf) 1++leB t 1++leB (n:Int) 2++leB (v:Int) 2) (by simp[Zj]) (by omega) (by omega)
 have r8:(Xb b 8 4:Int)=0:=by
  rw[hR,Vt];simp only[List.append_assoc]
  rw[←List.append_assoc,←List.append_assoc,←List.append_assoc,←List.append_assoc]
  exact Kt (P:=leB (Hz leaf) 1++leB t 1++leB (n:Int) 2++leB (v:Int) 2++leB (m:Int) 2) (by simp[Zj]) (by omega) (by decide)
 have eT:Qb b=t:=r1
 have eL:Xp b=leaf:=by
  unfold Xp;rw[r0];cases leaf<;>rfl
 have eC:Zn b=n:=by unfold Zn;omega
 have eW:Qu b=v:=by unfold Qu;rw[eT,eL,widG,if_pos ⟨a8,a7⟩];exact N.hv
 have eM:Kb b=m:=by unfold Kb;rw[eT,eL,Zgi,if_pos ⟨a8,a7⟩];exact N.hm
 have a2:∀ i,i<n→(Ri b i:Int)=K.getD i 0:=by
  intro i hi
  obtain⟨X,hX⟩:=Lz K n (i+1) (m-(i+1))
  rw[show i+1+(m-(i+1))=m by omega,Vb,if_pos hi] at hX
  unfold Ri
  rw[a0,hX]
  have hk:=N.hk0 i hi
  have:=Kt (P:=Vt t leaf n m v++Yl K n i) (Q:=X++(Qm Vs n++List.replicate (232-m*8-n*v) 0)) (k:=12+i*8) (w:=8) (x:=K.getD i 0) (by rw[List.length_append,Vj,Ja]) hk.1 (Nat.lt_of_le_of_lt (show(K.getD i 0).toNat≤281474976710655 by omega) (by decide))
  simp only[List.append_assoc] at this ⊢
  exact this
 have a6:∀ i,i<n→Zc1 b i=Vs.getD i []:=by
  intro i hi
  obtain⟨X,hX⟩:=Ci Vs (i+1) (n-(i+1))
  rw[show i+1+(n-(i+1))=n by omega,Gc] at hX
  have a4:(Qm Vs i).length=i*v:=Ul fun j hj=>N.hw j (by omega)
  unfold Zc1
  rw[eM,eW,a0,hX]
  have:=Rb (P:=Vt t leaf n m v++Yl K n m++Qm Vs i) (Q:=Vs.getD i []++(X++List.replicate (232-m*8-n*v) 0)) (k:=12+m*8+i*v) (by rw[List.length_append,List.length_append,Vj,Ja,a4])
  simp only[List.append_assoc] at this ⊢
  rw[this]
  exact List.take_left' (N.hw i hi)
 have b2:n*v≤m*v:=Nat.mul_le_mul_right v a5
 refine⟨a3,?_,eT,eL,eC,?_,?_⟩
 ·have hs:Ck b=true:=by
   unfold Ck
   rw[eW,eM]
   refine decide_eq_true ⟨?_,by omega,by omega,by omega,by omega,by omega,?_⟩
   ·cases leaf<;>simp only[Hz] at r0<;>simp at r0<;>omega
   ·cases leaf with
    | true=>left;simp only[Hz] at r0;simp at r0;omega
    | false=>right;have:=N.hl rfl;omega
  have hz:Aj b=true:=by
   unfold Aj Rh Zb1 Fv
   rw[eC,eM,eW,Bool.and_eq_true]
   constructor
   ·have hk:=Jg K n (m-n)
    rw[show n+(m-n)=m by omega] at hk
    have:=Rb (P:=Vt t leaf n m v++Yl K n n) (Q:=List.replicate ((m-n)*8) 0++(Qm Vs n++List.replicate (232-m*8-n*v) 0)) (k:=12+n*8) (by rw[List.length_append,Vj,Ja])
    rw[a0,hk]
    simp only[List.append_assoc] at this ⊢
    rw[this,List.take_append_of_le_length (by rw[List.length_replicate];omega)]
    exact To _ _
   ·have a4:(Qm Vs n).length=n*v:=Ul fun j hj=>N.hw j hj
    have:=Rb (P:=Vt t leaf n m v++Yl K n m++Qm Vs n) (Q:=List.replicate (232-m*8-n*v) 0) (k:=12+m*8+n*v) (by rw[List.length_append,List.length_append,Vj,Ja,a4])
    rw[a0,this]
    exact To _ _
  unfold Kr
  rw[if_pos hs,if_pos hz,eC]
  refine Nx fun i hi=>?_
  have h1:=a2 i hi
  have h2:=N.hk0 i hi
  unfold Fg
  rw[if_neg (by omega),if_neg ?_]
  rintro⟨h3,h4⟩
  have h5:=a2 (i-1) (by omega)
  have h6:=N.hk1 (i-1) (by omega)
  rw[show i-1+1=i by omega] at h6
  omega
 ·exact getD_ext (by rw[Ue,N.hK]) fun j hj=>by rw[Ue] at hj;rw[Su b hj];exact a2 j hj
 ·exact Zgh (by rw[Lx,N.hV]) fun j hj=>by rw[Lx] at hj;rw[Tr b hj];exact a6 j hj
theorem Ok{t:Int}{leaf:Bool}{n m v:Nat}{K:List Int}{Vs:List Bl}(N:NodeOk t leaf n m v K Vs){l:Bl}{j len:Nat}(hl:l.length=len)(hj:j<len/256)(h4:j<14400)(hb:Ua l j=Yz 2 (j:Int) (Jt m v (Vt t leaf n m v) K Vs n))(tree:Int)(ht:tree=0∨t=tree) :
 Xl l (j:Int) tree=0∧inB l (j:Int)=Jt m v (Vt t leaf n m v) K Vs n:=by
 have B:=Rc N
 have a0:inB l (j:Int)=Jt m v (Vt t leaf n m v) K Vs n:=by
  rw[inB_in (no:=(j:Int)) (j:=j) rfl,hb,in_seal (by rw[B.len];decide)]
  unfold Om;rw[B.len];simp
 refine⟨?_,a0⟩
 unfold Xl
 rw[inE_in (no:=(j:Int)) (j:=j) hl rfl hj,hb,if_pos (Zg5 (by decide) (by decide) (by omega) (by omega) (by rw[B.len];decide)),a0]
 unfold Qo
 rw[if_pos B.e,if_pos (by rw[B.t];exact ht)]
theorem Zad{q:Nat}(h1:1≤q)(h2:q≤14399):Ys (leB (q:Int) 4)=0∧(Js (leB (q:Int) 4):Int)=(q:Int):=by
 have hr:(Xb (leB (q:Int) 4) 0 4:Int)=(q:Int):=by
  have:=Kt (P:=[]) (Q:=[]) (k:=0) (w:=4) (x:=(q:Int)) rfl (by omega) (Nat.lt_of_le_of_lt (show(q:Int).toNat≤14399 by omega) (by decide))
  simpa using this
 have he:Ys (leB (q:Int) 4)=0:=by
  unfold Ys;rw[if_pos (Zj _ _),if_pos (by omega)]
 exact⟨he,by unfold Js;rw[if_pos he];exact hr⟩
def cntOk(n:Int):Prop:=0≤n∧n≤2147483647
instance (n:Int):Decidable (cntOk n):=by unfold cntOk;infer_instance
def atI (l:List Int)(i j:Nat):Int:=if j<i then l.getD j 0 else 0
def g4 (l:List Int)(i k:Nat):Int:=atI l i (4*k)+4*atI l i (4*k+1)+16*atI l i (4*k+2)+64*atI l i (4*k+3)
end Go.Proofs.YtgphgaehfdfjjaaGreat
