/- (*Alloc).Image, and build.right at entries that are right. -/
import Derived.Laws.StructEq
import Derived.Test.YtgphgaehfdfjjaaGreatMg2
namespace Go.Proofs.YtgphgaehfdfjjaaGreat
set_option maxHeartbeats 8000000
set_option maxRecDepth 100000
open Go.RowKit Go.Extern.Stop Go.Stop Go.Extern
set_option linter.unusedVariables false
attribute [local irreducible] wpList wpAnyH Code.wp Oper.wp Go
theorem Ui(ba b:Nat)(v x:Value)(w:World)(hk:Blk w ba [v,x,P0 b] 72) :
 C0 15 #[P0 ba] w (Ret (P0 b) w):=by
 refine zin 9 Tryz.func15 ?_
 refine xr 9 (args:=#[P0 ba]) (Hy ba b _ _ _ hk) fun W1 a1=>?_
 have a0:=hk.below a1
 refine xb 10 2 a0 ?_
 exact xe 4 (P0 b) ⟨rfl,a1⟩
abbrev Ent:=Int×Bl×Int
def Zm:Ent:=(0,[],0)
def Hl(x:Ent):List Value:=[V0 x.1,.string ⟨x.2.1.toArray⟩,V0 x.2.2]
theorem Yg(x:Ent):(Hl x).length=3:=rfl
def lastK(l:List Ent):Nat→Int
 | 0=>-1
 | i+1=>(l.getD i Zm).1
structure EntsOk(v:Nat)(l:List Ent):Prop where
 hk:∀ i,i<l.length→0≤(l.getD i Zm).1∧(l.getD i Zm).1≤281474976710655
 hs:∀ j,j+1<l.length→(l.getD j Zm).1<(l.getD (j+1) Zm).1
 hw:∀ i,i<l.length→(l.getD i Zm).2.1.length=v
theorem EntsOk.last{v:Nat}{l:List Ent}(E:EntsOk v l){i:Nat}(h:i<l.length):lastK l i<(l.getD i Zm).1:=by
 cases i with
 | zero=>have:=(E.hk 0 h).1;simp only[lastK];omega
 | succ j=>exact E.hs j h
theorem Vj(x:Nat):x≤(Kx x).sum:=by
 by_cases h:x≤1
 ·rw[Vk h];simp
 ·rw[Yz h];simp
theorem Zah(t:Int)(n:Nat):1≤Kz t n:=by
 have h1:=Vj (ovN n (Qq t true));have h2:=Yd n (Qq t true);unfold Kz Kt;omega
theorem Ap(t:Int)(v:Nat)(a:O0)(c:Nat)(l:List Ent)(w:World)(ht1:1≤t)(ht2:t≤5)(hv:Jv t true=v)(E:EntsOk v l)(h:Sts Hl w (.slice a l.length c) l)(hn:l.length≤32768) :
 C0 27 #[V0 t,.slice a l.length c] w (Ret (.bool true) w):=by
 have a4:=Ba t true
 rw[hv] at a4
 have a8:=Zah t l.length
 refine zin 45 Tryz.func27 ?_
 refine xr 8 (args:=#[V0 t,.bool true]) (Uq t true v hv ht1 ht2 _) fun W1 a5=>?_
 refine xgk 9 [12,13] (show(((v:Int)==(0:Int)):Bool)=false from by simp;omega) ?_
 refine xr 3 (args:=#[V0 t,V0 (l.length:Int)]) (Cs t l.length _ ht1 ht2 hn) fun W3 a7=>?_
 refine xk 4 (show(((↑(Kz t l.length):Int)==(0:Int)):Bool)=false from by simp;omega) ?_
 have hB:=bln a5 a7
 refine zl 16 45 (fun zm a3 V=>∃ (i:Nat),a3=[(5,V0 (v:Int)),(6,V0 (lastK l i)),(20,.slice a l.length c),(21,V0 (l.length:Int)),(22,V0 (i:Int))]∧zm=l.length-((i:Int)).toNat∧B0 w V∧i≤l.length) ⟨0,rfl,rfl,hB,Nat.zero_le _⟩ ?_
 rintro _ _ W4 ⟨i,rfl,rfl,a0,hi⟩ J4 a2 r4
 refine xid 6 ((i:Int)<(l.length:Int)) (fun a6=>?_) (fun a6=>?_)
 ·refine xx 6 _ l.length i 3 (Sts.cell h Yg Zm (k:=i) (i:=0) (by omega) rfl).1 ?_
  refine xlv 0 (Sts.rp (k:=i) (h.below a0) Yg Zm (by omega) (by decide)) ?_
  refine xa 0 [V0 0,.string ⟨#[]⟩,V0 0] 45 fun b6 W6 n6=>?_
  have g6:=n6.ge a0
  refine xsv 0 n6.blk [V0 ((l.getD i Zm).1),.string ⟨((l.getD i Zm).2.1).toArray⟩,V0 ((l.getD i Zm).2.2)] fun W7 u7 k7=>?_
  refine xb 6 0 k7 ?_
  refine xgk 3 [29,30] (show(decide ((l.getD i Zm).1≤(lastK l i)):Bool)=false from decide_eq_false (by have:=E.last (i:=i) (by omega);omega)) ?_
  refine xb 1 0 k7 ?_
  refine xgk 3 [33,34,35] (show(decide ((l.getD i Zm).1>(281474976710655:Int)):Bool)=false from decide_eq_false (by have:=(E.hk i (by omega)).2;omega)) ?_
  refine xb 1 1 k7 ?_
  refine xk 6 (show(((↑((l.getD i Zm).2.1).length:Int) != (v:Int)):Bool)=false from by rw[E.hw i (by omega)];simp) ?_
  refine xb 4 0 k7 ?_
  refine xw 5 ((i:Int)+1) ?_
  have a1:=u7.below (bln a0 n6.below) g6
  exact ze 2 (a2 _ _ _ ⟨i+1,rfl,rfl,a1,by omega⟩ (by omega))
 exact xe 11 (.bool true) ⟨rfl,a0⟩
theorem Mb(p:O0)(n c:Nat)(w:World) :
 C0 114 #[.slice p n c] w (fun e w'=>∃ b,e=.returned (.func (.func 124) #[] #[P0 b])∧B0 w w'∧w.heap.size≤b∧Blk w' b [.slice p n c] 68):=by
 refine zin 4 Tryz.func114 ?_
 refine xa 2 [.slice p n c] 68 fun b1 W1 n1=>?_
 have g1:=n1.ge (B3 w)
 exact xe 10 (.func (.func 124) #[] #[P0 b1]) ⟨_,rfl,n1.below,g1,n1.blk⟩
end Go.Proofs.YtgphgaehfdfjjaaGreat
namespace Go.Proofs.YtgphgaehfdfjjaaGreat
set_option maxHeartbeats 8000000
set_option maxRecDepth 100000
open Go.RowKit Go.Extern.Stop Go.Stop Go.Extern
set_option linter.unusedVariables false
attribute [local irreducible] wpList wpAnyH Code.wp Oper.wp Go
attribute [local go_sem] Oper.semAt_some
theorem Upd.of_put(w:World)(D:Nat)(o:Obj):Upd w D (w.putObj D o):=⟨rfl,rfl,rfl,by simp[World.putObj],fun k hk=>World.putObj_heap_other hk⟩
def Dfr (D:Nat)(w:World):Prop:=w.heap[D]? = some (.deferred (some []))
theorem Dfr.below{D:Nat}{w W:World}(h:Dfr D w)(hb:B0 w W):Dfr D W:=(hb.block D (Array.getElem?_eq_some_iff.1 h).1).trans h
theorem Dfr.ne{D b:Nat}{w:World}{cs:List Value}{t:TypeId}(h:Dfr D w)(k:Blk w b cs t):b≠D:=by
 rintro rfl
 have h':w.heap[b]? = _:=h
 rw[show w.heap[b]? = _ from k] at h'
 cases h'
theorem Dfr.upd{D b:Nat}{w W:World}{cs:List Value}{t:TypeId}(h:Dfr D w)(u:Upd w b W)(k:Blk w b cs t):Dfr D W:=(u.block D fun e=>h.ne k e.symm).trans h
theorem Dfr.row{D:Nat}{w:World}{base e size n:Nat}{v:Value}{xs:List Value}(h:Dfr D w)(k:w.ownsRow base e size v n xs):∀ g,v.ownBlock=some g→g≠D:=by
 rintro g hg rfl
 rcases k.2 with ⟨rfl,_⟩|⟨g',a0,a1,rfl,_,hh,_⟩
 ·cases hg
 ·simp only[Value.ownBlock,Option.some.injEq] at hg
  subst hg
  rw[show w.heap[g']? = _ from h] at hh
  cases hh
theorem Dfr.grown{D:Nat}{w W:World}{base e size n:Nat}{v:Value}{xs:List Value}(h:Dfr D w)(hg:w.grownBy W v.ownBlock)(k:w.ownsRow base e size v n xs):Dfr D W :=
 (hg.block D (Array.getElem?_eq_some_iff.1 h).1 fun q=>h.row k D q.symm rfl).trans h
theorem Ze7{P:Program}{fn:Func}{R:Ending→World→Prop}{a:Act}{w:World}{D:Nat}(hK:Dfr D w)(v:Value)(hd:a.defers=[{ target:=.collected D,args:=#[] }])(hr:(results fn a.tmps).run P (w.putObj D (.deferred none))=.ok v (w.putObj D (.deferred none)))(h:R (.returned v) (w.putObj D (.deferred none))):bodyPostM Fence.wide 4 P fn R .normal a w :=
 by
 show LeavesInM _ _ _ _ a.tmps R a.defers .returning w
 rw[hd]
 exact⟨by simp,.inl ⟨_,_,rfl,run_takeDeferred hK,_,hr,h⟩⟩
def noPan(Q:Exit→Act→World→Prop):Exit→Act→World→Prop
 | .normal,a,w=>Q .normal a w
 | .ret,a,w=>Q .ret a w
 | _,_,_=>False
theorem g_nopan{P:Program}{c:Code}{Q:Exit→Act→World→Prop}{a:Act}{w:World}(h:c.wp P (noPan Q) a w):c.wp P Q a w:=wp_mono h fun e a w q=>by cases e<;>first|exact q|exact q.elim
theorem Xc{w:World}{base size n b:Nat}{e t:TypeId}{v:Value}{xs cs:List Value}(k:w.ownsRow base e size v n xs)(q:Blk w b cs t)(hne:e≠t):∀ g,v.ownBlock=some g→g≠b:=by
 rintro g hg rfl
 rcases k.2 with ⟨rfl,_⟩|⟨g',a0,a1,rfl,_,hh,_⟩
 ·cases hg
 ·simp only[Value.ownBlock,Option.some.injEq] at hg
  subst hg
  rw[show w.heap[g']? = _ from q] at hh
  simp only[Option.some.injEq,Obj.cells.injEq] at hh
  exact hne hh.2.1.symm
theorem Pd{w W:World}(h:B0 w W):KeepsOthers w W:=⟨h.size,fun b o hb _=>(h.block b (Array.getElem?_eq_some_iff.1 hb).1).trans hb⟩
theorem Za3{w W:World}{b:Nat}{cs:List Value}{t:TypeId}(u:Upd w b W)(k:Blk w b cs t):KeepsOthers w W:=⟨Nat.le_of_eq u.size.symm,fun d o hd ho=>(u.block d (by rintro rfl;rw[show w.heap[d]? = _ from k] at hd;cases hd;cases ho)).trans hd⟩
theorem Dfr.only_new{T:List TypeId}{a w W:World}{b:Nat}(h:Ze T a w)(hbb:BelowBut w b W)(hb:a.heap.size≤b):Ze T a W:=fun k cs t fr hk ht=>by
 have h0:=(Array.getElem?_eq_some_iff.1 hk).1
 have h1:=h k cs t fr hk ht
 rw[hbb.block k (Array.getElem?_eq_some_iff.1 h1).1 (by omega)];exact h1
theorem BelowBut.own3{w W:World}{b base size n:Nat}{e:TypeId}{v:Value}{xs:List Value}(h:BelowBut w b W)(k:w.ownsRow base e size v n xs)(hs:∀ j,v.ownBlock=some j→j≠b):W.ownsRow base e size v n xs:=by
 obtain⟨h1,h2⟩:=k
 refine⟨h1,?_⟩
 rcases h2 with h2|⟨g,a0,a1,rfl,hg,hh,r⟩
 ·exact Or.inl h2
 ·exact Or.inr ⟨g,a0,a1,rfl,hg,by rw[h.block g (Array.getElem?_eq_some_iff.1 hh).1 (hs g rfl)];exact hh,r⟩
theorem Ag{β:Type}{w:World}{b B:Nat}(hB:w.heap.size≤B):OwnFrom B (fun(_:β) W=>BelowBut w b W):=fun _ W W' a1 hs hg hr =>
 ⟨hg.os.trans hs.os,hg.tape.trans hs.tape,hg.output.trans hs.output,Nat.le_trans hs.size hg.size,fun k hk a0=>(hg.block k (Nat.lt_of_lt_of_le hk hs.size) (fun e=>by have:=(hr k e.symm).1;omega)).trans (hs.block k hk a0)⟩
theorem Qw.turn{A B:World}{row:Option Nat}{l:List (Option Int)}{c:Option Int}{v:Value}(h:Qw A l c v)(hg:A.grownBy B row)(hr:∀ r,row=some r→∃ o:Obj,A.heap[r]? = some o∧o.isCells=false):Qw B l c v:=h.kept fun _ _ k=>k.turn hg hr
def atW (way:List Int)(pre:List (Fin way.length))(bs:List Int):List Int:=(pre.map fun j=>way[qOf j]?.getD 0).reverse++bs
theorem atW_snoc(way:List Int)(pre:List (Fin way.length))(x:Fin way.length)(bs:List Int):atW way (pre++[x]) bs=(way[qOf x]?.getD 0)::atW way pre bs:=by simp[atW]
theorem atW_all(way bs:List Int):atW way (List.finRange way.length) bs=way++bs:=by
 unfold atW
 congr 1
 apply List.ext_getElem
 ·simp
 ·intro i h1 h2
  simp only[List.length_reverse,List.length_map,List.length_finRange] at h1
  rw[List.getElem_reverse,List.getElem_map]
  simp only[List.length_map,List.length_finRange,List.getElem_finRange,qOf]
  have e:way.length-1-(way.length-1-i)=i:=by omega
  simp[e,h2]
theorem Qw.one{w:World}{l:List (Option Int)}{c:Option Int}{v:Value}(h:Qw w l c v):v.oneCell'=true:=by
 rcases h.nil_or with ⟨_,rfl⟩|⟨_,t,x,rfl⟩<;>rfl
theorem Qw.iface{w:World}{l:List (Option Int)}{c:Int}{v:Value}(h:Qw w l (some c) v):∃ t x,v=.iface t x:=by
 rcases h.nil_or with ⟨q,_⟩|⟨_,q⟩
 ·simp[Ie] at q
 ·exact q
theorem Qa{b c:Int}{l:List (Option Int)}:atL b l (some c)=some b::l:=by simp[atL,Ie]
theorem Ik{v:Value}(h:v.oneCell'=true):∀ u∈[v],u.oneCell'=true:=by simpa using h
def NoteP(B bw:Nat)(c0 c1 c2 c3 c5 c6 c7 c8 c9:Value)(nf:Nat)(fs:List Value)(l:List Int)(ec:Int)(w:World)(e:Ending)(w':World):Prop :=
 ∃ u p c ty x,e=.returned u∧Below B w w'∧Ze [145,31] w w'∧Blk w' bw [c0,c1,c2,c3,.slice p (nf+1) c,c5,c6,c7,c8,c9] 145∧w'.ownsRow B 31 1 (.slice p (nf+1) c) (nf+1) (fs++[.iface ty x])∧Qw w' (l.map some) (some ec) (.iface ty x)
theorem Ut(B bw:Nat)(c0 c1 c2 c3 c5 c6 c7 c9:Value)(pf:O0)(nf cf:Nat)(fs:List Value)(pw:O0)(cw:Nat)(way bs:List Int)(ec:Int)(ty:TypeId)(ev:Value)(w:World)(hBb:B≤bw)(hBw:B≤w.heap.size)(kW:Blk w bw [c0,c1,c2,c3,.slice pf nf cf,c5,c6,c7,.slice pw way.length cw,c9] 145)(hF:w.ownsRow B 31 1 (.slice pf nf cf) nf fs)(hway:w.ownsRow B 3 1 (.slice pw way.length cw) way.length (way.map V0))(hE:Qw w (bs.map some) (some ec) (.iface ty ev))(hwl:way.length≤1000000)(hnf:nf≤1000000) :
 C0 92 #[P0 bw,.iface ty ev] w (NoteP B bw c0 c1 c2 c3 c5 c6 c7 (.slice pw way.length cw) c9 nf fs (way++bs) ec w):=by
 refine Jf Tryz.func92 rfl ?_
 refine g_fr ⟨#[P0 bw,.iface ty ev,undef,undef,undef,undef,undef,undef,undef,undef,undef,undef,undef,undef,undef,undef,undef,undef,undef,undef,undef,undef,undef,undef,undef,undef,undef,undef],[]⟩ (by kernel_rfl) ?_
 refine wp_seq ?_
 refine wp_region_lit ?_
 refine Qf (by kernel_rfl) (Sq [.iface ty ev] rfl (by kernel_rfl) ?_)
 intro b1 W1 n1
 have d1_bw:=n1.ne kW
 have g1:=n1.ge0 (Below.refl B _)
 have r1_hF:=Xd hF n1
 have hO:Ze [145,31] w _:=(Ze.of_below n1.below)
 have hB:=blB (Below.refl B w) hBw n1.below
 replace kW:=kW.below n1.below
 replace hF:=Zb hF n1.below
 replace hway:=Zb hway n1.below
 replace hE:=hE.below n1.below
 have k1:=n1.blk
 refine wpList_nil ?_
 refine wp_seq ?_
 refine wp_seq ?_
 refine wp_region_lit ?_
 refine Jl 3 [(6,P0 bw),(7,P0 bw),(8,.pointer (some ⟨bw,8,none⟩))] (by kernel_rfl) ?_
 refine Qf (by kernel_rfl) (Ye ⟨bw,8,none⟩ (.slice pw way.length cw) rfl (by kernel_rfl) (by kernel_rfl) (kW.cell (i:=8) rfl) ?_)
 have lt2_bw:=kW.lt
 have lt2_b1:=k1.lt
 have hs2:w.heap.size≤(W1).heap.size:=hB.size
 refine Qf (by kernel_rfl) (Vw (lb:=#[]) 114 #[.slice pw way.length cw] rfl (by kernel_rfl) (fun _ _=>by kernel_rfl) (by kernel_rfl) ((Mb pw way.length cw _).mono ?_))
 rintro e W2 ⟨bk2,rfl,hb2,hg2,kk2⟩
 refine⟨_,rfl,?_⟩
 replace hO:=hO.trans (Ze.of_below hb2)
 replace hB:=blB hB hBw hb2
 replace kW:=kW.below hb2
 replace k1:=k1.below hb2
 replace hF:=Zb hF hb2
 replace hway:=Zb hway hb2
 replace hE:=hE.below hb2
 have gb2:w.heap.size≤bk2:=Nat.le_trans hs2 hg2
 have nb2_bw:bk2≠bw:=by omega
 have nb2_b1:bk2≠b1:=by omega
 refine wpList_nil ?_
 refine wp_block ?_
 have hzk:=kk2.lt
 have hz3:=k1.lt
 have hst:=Zcm bk2 (fun b=>b<W2.heap.size∧b≠b1) (.slice pw way.length cw) way W2 (fun b h=>h.1) ⟨hzk,nb2_b1⟩ (by omega) (Zg hway) (fun _ b off n cap q=>by cases q;exact⟨(hway.lt b rfl).2,Xc hway k1 (by decide) b rfl⟩) (kk2.cell (i:=0) rfl)
 refine g_fr ⟨#[P0 bw,.iface ty ev,undef,P0 b1,undef,undef,P0 bw,P0 bw,.pointer (some ⟨bw,8,none⟩),.slice pw way.length cw,.func (.func 124) #[] #[P0 bk2],undef,undef,undef,undef,undef,undef,undef,undef,undef,undef,undef,undef,undef,undef,undef,undef,undef],[]⟩ (by kernel_rfl) ?_
 refine Ow (g:=.tmp 10) (gf:=124) (lb:=#[P0 bk2]) rfl (enters_of Tryz.func124 (by kernel_rfl) rfl) _ (fun b h=>h.1) hst (fun _=>rfl)
  (fun pre W=>(∃ v',Blk W b1 [v'] 31∧Qw W ((atW way pre bs).map some) (some ec) v')∧BelowBut W2 b1 W)
  (fun _ _ _=>False) ?own (fun _ _ _ _ _ h _ _=>h) ⟨⟨_,k1,hE⟩,(Below.refl _ _).but _⟩
  (fun x a' _=>a'={ tmps:=#[P0 bw,.iface ty ev,undef,P0 b1,undef,V0 (way[qOf x]?.getD 0),P0 bw,P0 bw,.pointer (some ⟨bw,8,none⟩),.slice pw way.length cw,.func (.func 124) #[] #[P0 bk2],V0 (qOf x:Int),V0 (way[qOf x]?.getD 0),undef,undef,undef,undef,undef,undef,undef,undef,undef,undef,undef,undef,undef,undef,undef],defers:=[] }) (fun _ _ _ _ _ _ h _ _=>h) ?assign ?body ?done (fun _ _ _ _ _ _ h _=>h.elim)
 case own=>exact OwnFrom.and (Own.from (fun s A B row hs hg hr=>by obtain⟨v',h1,h2⟩:=hs;exact⟨v',h1.turn hg hr,h2.turn hg hr⟩) _) (Ag (Nat.le_refl _))
 case assign =>
  rintro lr pre x W K hI hK
  unfold encB
  gi_wp2
  exact hK _ _ (KeepsFrom.refl _ _) (Keeps.refl _ _) hI rfl
 case body =>
  rintro lr pre x a' W hlr ⟨⟨v',m3,hv'⟩,hbb⟩ rfl hlt
  have mc:=m3.cell (i:=0) rfl
  gi_wp2_with (refine⟨trivial,?_⟩;gi_at_call 55;refine(CallsIn.inRound lr (callsIn_wide.2 (Yh _ _ _ _ _ hv'))).mono ?_;rintro e w2 ⟨r2,rfl,hb2,hE2⟩;obtain⟨t2,x2,rfl⟩:=hE2.iface;have m4:=m3.below hb2;have mg:=m4.frozen 0;have md:=m4.cell (i:=0) rfl)
  have hb2s:=hb2.size
  have u2:=Upd.setCell w2 b1 0 (.iface t2 x2)
  exact⟨((Pd hb2).trans (KeepsOthers.setCell _ _ _)).from _,Keeps.setCell (Keeps.of_below hb2 (fun b hb=>by have:=hbb.size;have:=hb.1;omega)) (fun hb=>hb.2 rfl) _,⟨_,m4.set 0 _,by rw[atW_snoc,List.map_cons,←Qa (c:=ec)];exact(hE2.upd u2 m4 (by decide))⟩,(hbb.next hb2).upd u2⟩
 case done =>
 rintro D xs W hD rfl ⟨⟨v',m3,hv'⟩,hbb⟩ hK0
 rw[atW_all] at hv'
 have hK:Dfr D W:=hK0;clear hK0
 refine g_nopan ?_
 refine g_fr ⟨#[P0 bw,.iface ty ev,undef,P0 b1,undef,undef,P0 bw,P0 bw,.pointer (some ⟨bw,8,none⟩),.slice pw way.length cw,.func (.func 124) #[] #[P0 bk2],undef,undef,undef,undef,undef,undef,undef,undef,undef,undef,undef,undef,undef,undef,undef,undef,undef],[{ target:=.collected D,args:=#[] }]⟩ (by kernel_rfl) ?_
 have hv1:=hv'.one
 obtain⟨ty',x',rfl⟩:=hv'.iface
 have hDB:w.heap.size≤D:=Nat.le_trans (Nat.le_trans (by have:=hz3;have:=g1;omega) (Nat.le_refl _)) hD
 replace kW:=hbb.blk kW (Ne.symm (Ne.symm d1_bw))
 replace kk2:=hbb.blk kk2 nb2_b1
 replace hF:=hbb.own3 hF r1_hF
 replace hway:=hbb.own2 hway k1 (by decide)
 have hB0:=hB
 replace hB:=hbb.below hB (Nat.le_trans hBw g1) (Nat.le_trans hBw hB0.size)
 replace hO:=Dfr.only_new hO hbb g1
 replace k1:=m3
 replace hO:=hO.trans (Ze.of_below (Za W))
 replace hB:=blB hB hBw (Za W)
 replace kW:=kW.below (Za W)
 replace k1:=k1.below (Za W)
 replace kk2:=kk2.below (Za W)
 replace hF:=Zb hF (Za W)
 replace hway:=Zb hway (Za W)
 replace hv':=hv'.below (Za W)
 replace hK:=hK.below (Za W)
 refine h_reg (Below B (W.drew)) 13 rfl #[false,false,false,false,false,false,false,false,false,false,false,false,false] rfl (by kernel_rfl) (Below.refl _ _) ?_
 intro hS3
 have hBd5:=hB
 have kd5_bw:=kW
 have kd5_b1:=k1
 have kd5_bk2:=kk2
 have hOd5:=hO
 refine Ob [0,1,2,3,4] 8 rfl #[true,true,true,true,true,false,false,false,false,false,false,false,false] [(16,P0 bw),(17,P0 bw),(18,P0 bw),(19,P0 bw),(20,.pointer (some ⟨bw,4,none⟩))] (by kernel_rfl) (fun _ _ _ _ _ h=>h) (by kernel_rfl) hS3 ?_
 refine h_two 5 6 7 rfl (by kernel_rfl) rfl rfl (by kernel_rfl) (by kernel_rfl) ?_ ?_
 ·refine Ye ⟨bw,4,none⟩ (.slice pf nf cf) rfl (by kernel_rfl) (by kernel_rfl) (kW.cell (i:=4) rfl) ?_
  have hS6:Below B (W.drew) (W.drew):=hS3
  refine⟨hS6,?_⟩
  refine Gd 6 6 rfl (by kernel_rfl) rfl (by kernel_rfl) (Ye ⟨b1,0,none⟩ (.iface ty' x') rfl (by kernel_rfl) (by kernel_rfl) (k1.cell (i:=0) rfl) ?_)
  have hS7:Below B (W.drew) (W.drew):=hS6
  refine⟨hS7,?_⟩
  refine Gd 7 5 rfl (by kernel_rfl) rfl (by kernel_rfl) (Qc 31 [.iface ty' x'] rfl (by kernel_rfl) ?_)
  intro b8 W8 n8
  have d8_bw:=n8.ne kW
  have d8_b1:=n8.ne k1
  have d8_bk2:=n8.ne kk2
  have g8:=n8.ge0 hB
  have r8_hF:=Xd hF n8
  replace hO:=hO.trans (Ze.of_below n8.below)
  replace hB:=blB hB hBw n8.below
  replace kW:=kW.below n8.below
  replace k1:=k1.below n8.below
  replace kk2:=kk2.below n8.below
  replace hF:=Zb hF n8.below
  replace hway:=Zb hway n8.below
  replace hv':=hv'.below n8.below
  replace hK:=hK.below n8.below
  have k8:=n8.blk
  have hS9:Below B (W.drew) (W8):=blB hS7 (Nat.le_trans hBw hBd5.size) n8.below
  refine⟨hS9,?_⟩
  refine Gd 8 4 rfl (by kernel_rfl) rfl (by kernel_rfl) (Xk (e:=31) (n:=nf) (xs:=fs) (m:=1) (news:=[.iface ty' x']) (.nilIface) 1 16 (nf+1) (fs++[.iface ty' x']) rfl Tryz.underlying85 (by kernel_rfl) rfl (by decide) (by kernel_rfl) hF (by kernel_rfl) (k8.sl 1 1 (by decide) (by decide)) rfl (Ik hv1) (by unfold maxLen;omega) (by omega) (Nat.le_trans hBw hB.size) (by simp) (by simp) ?_)
  intro p10 c10 W10 o10 hg10 hb10
  replace hO:=hO.trans (Ze.of_grown hg10 hF (by decide))
  replace kW:=kW.grown hg10 hF (by decide)
  replace k1:=k1.grown3 hg10 r1_hF
  replace kk2:=kk2.grown hg10 hF (by decide)
  replace hway:=Xb hway hg10 hF (by decide)
  replace hv':=hv'.grown hg10 hF (by decide)
  replace hK:=hK.grown hg10 hF
  replace hB:=hB.trans hb10
  have hS11:Below B (W.drew) (W10):=hS9.trans hb10
  refine⟨hS11,?_⟩
  refine Ob [9,10,11] 1 rfl #[true,true,true,true,true,true,true,true,true,true,true,true,false] [(25,P0 bw),(26,P0 bw),(27,.pointer (some ⟨bw,4,none⟩))] (by kernel_rfl) (fun _ _ _ _ _ h=>h) (by kernel_rfl) hS11 ?_
  refine Gd 12 0 rfl (by kernel_rfl) rfl (by kernel_rfl) (Xh (v:=.slice p10 (nf+1) c10) (b:=bw) (off:=4) rfl (by kernel_rfl) (by kernel_rfl) (by kernel_rfl) rfl kW (by first|decide|simp) ?_)
  intro W12 u12 k12
  change Blk _ _ [c0,c1,c2,c3,.slice p10 (nf+1) c10,c5,c6,c7,.slice pw way.length cw,c9] _ at k12
  replace hO:=hO.trans (Ze.of_upd u12 kW (by decide))
  replace hB:=u12.below hB hBb
  replace k1:=u12.blk k1 (Ne.symm d1_bw)
  replace kk2:=u12.blk kk2 nb2_bw
  replace hway:=u12.own2 hway kW (by decide)
  replace hv':=hv'.upd u12 kW (by decide)
  replace hK:=hK.upd u12 kW
  replace o10:=u12.own2 o10 kW (by decide)
  have hS13:Below B (W.drew) (W12):=u12.below hS11 hBb
  refine⟨hS13,?_⟩
  refine Ly _ (by kernel_rfl) ?_
  exact Ze7 hK (.tuple #[]) (by kernel_rfl) (by kernel_rfl) ⟨_,_,_,_,_,rfl,(Upd.of_put _ _ _).below hB (Nat.le_trans hBw hDB),Ze.upd_new hO (Upd.of_put _ _ _) hDB,(Upd.of_put _ _ _).blk k12 (hK.ne k12),(Upd.of_put _ _ _).own3 o10 (hK.row o10),hv'.kept fun _ _ q=>(Upd.of_put _ _ _).blk q (hK.ne q)⟩
 ·refine Ye ⟨b1,0,none⟩ (.iface ty' x') rfl (by kernel_rfl) (by kernel_rfl) (k1.cell (i:=0) rfl) ?_
  have hS14:Below B (W.drew) (W.drew):=hS3
  refine⟨hS14,?_⟩
  refine h_two 5 7 6 rfl (by kernel_rfl) rfl rfl (by kernel_rfl) (by kernel_rfl) ?_ ?_
  ·refine Ye ⟨bw,4,none⟩ (.slice pf nf cf) rfl (by kernel_rfl) (by kernel_rfl) (kW.cell (i:=4) rfl) ?_
   have hS15:Below B (W.drew) (W.drew):=hS14
   refine⟨hS15,?_⟩
   refine Gd 7 5 rfl (by kernel_rfl) rfl (by kernel_rfl) (Qc 31 [.iface ty' x'] rfl (by kernel_rfl) ?_)
   intro b16 W16 n16
   have d16_bw:=n16.ne kW
   have d16_b1:=n16.ne k1
   have d16_bk2:=n16.ne kk2
   have g16:=n16.ge0 hB
   have r16_hF:=Xd hF n16
   replace hO:=hO.trans (Ze.of_below n16.below)
   replace hB:=blB hB hBw n16.below
   replace kW:=kW.below n16.below
   replace k1:=k1.below n16.below
   replace kk2:=kk2.below n16.below
   replace hF:=Zb hF n16.below
   replace hway:=Zb hway n16.below
   replace hv':=hv'.below n16.below
   replace hK:=hK.below n16.below
   have k16:=n16.blk
   have hS17:Below B (W.drew) (W16):=blB hS15 (Nat.le_trans hBw hBd5.size) n16.below
   refine⟨hS17,?_⟩
   refine Gd 8 4 rfl (by kernel_rfl) rfl (by kernel_rfl) (Xk (e:=31) (n:=nf) (xs:=fs) (m:=1) (news:=[.iface ty' x']) (.nilIface) 1 16 (nf+1) (fs++[.iface ty' x']) rfl Tryz.underlying85 (by kernel_rfl) rfl (by decide) (by kernel_rfl) hF (by kernel_rfl) (k16.sl 1 1 (by decide) (by decide)) rfl (Ik hv1) (by unfold maxLen;omega) (by omega) (Nat.le_trans hBw hB.size) (by simp) (by simp) ?_)
   intro p18 c18 W18 o18 hg18 hb18
   replace hO:=hO.trans (Ze.of_grown hg18 hF (by decide))
   replace kW:=kW.grown hg18 hF (by decide)
   replace k1:=k1.grown3 hg18 r1_hF
   replace kk2:=kk2.grown hg18 hF (by decide)
   replace hway:=Xb hway hg18 hF (by decide)
   replace hv':=hv'.grown hg18 hF (by decide)
   replace hK:=hK.grown hg18 hF
   replace hB:=hB.trans hb18
   have hS19:Below B (W.drew) (W18):=hS17.trans hb18
   refine⟨hS19,?_⟩
   refine Ob [9,10,11] 1 rfl #[true,true,true,true,true,true,true,true,true,true,true,true,false] [(25,P0 bw),(26,P0 bw),(27,.pointer (some ⟨bw,4,none⟩))] (by kernel_rfl) (fun _ _ _ _ _ h=>h) (by kernel_rfl) hS19 ?_
   refine Gd 12 0 rfl (by kernel_rfl) rfl (by kernel_rfl) (Xh (v:=.slice p18 (nf+1) c18) (b:=bw) (off:=4) rfl (by kernel_rfl) (by kernel_rfl) (by kernel_rfl) rfl kW (by first|decide|simp) ?_)
   intro W20 u20 k20
   change Blk _ _ [c0,c1,c2,c3,.slice p18 (nf+1) c18,c5,c6,c7,.slice pw way.length cw,c9] _ at k20
   replace hO:=hO.trans (Ze.of_upd u20 kW (by decide))
   replace hB:=u20.below hB hBb
   replace k1:=u20.blk k1 (Ne.symm d1_bw)
   replace kk2:=u20.blk kk2 nb2_bw
   replace hway:=u20.own2 hway kW (by decide)
   replace hv':=hv'.upd u20 kW (by decide)
   replace hK:=hK.upd u20 kW
   replace o18:=u20.own2 o18 kW (by decide)
   have hS21:Below B (W.drew) (W20):=u20.below hS19 hBb
   refine⟨hS21,?_⟩
   refine Ly _ (by kernel_rfl) ?_
   exact Ze7 hK (.tuple #[]) (by kernel_rfl) (by kernel_rfl) ⟨_,_,_,_,_,rfl,(Upd.of_put _ _ _).below hB (Nat.le_trans hBw hDB),Ze.upd_new hO (Upd.of_put _ _ _) hDB,(Upd.of_put _ _ _).blk k20 (hK.ne k20),(Upd.of_put _ _ _).own3 o18 (hK.row o18),hv'.kept fun _ _ q=>(Upd.of_put _ _ _).blk q (hK.ne q)⟩
  ·refine Qc 31 [.iface ty' x'] rfl (by kernel_rfl) ?_
   intro b22 W22 n22
   have d22_bw:=n22.ne kW
   have d22_b1:=n22.ne k1
   have d22_bk2:=n22.ne kk2
   have g22:=n22.ge0 hB
   have r22_hF:=Xd hF n22
   replace hO:=hO.trans (Ze.of_below n22.below)
   replace hB:=blB hB hBw n22.below
   replace kW:=kW.below n22.below
   replace k1:=k1.below n22.below
   replace kk2:=kk2.below n22.below
   replace hF:=Zb hF n22.below
   replace hway:=Zb hway n22.below
   replace hv':=hv'.below n22.below
   replace hK:=hK.below n22.below
   have k22:=n22.blk
   have hS23:Below B (W.drew) (W22):=blB hS14 (Nat.le_trans hBw hBd5.size) n22.below
   refine⟨hS23,?_⟩
   refine Gd 5 5 rfl (by kernel_rfl) rfl (by kernel_rfl) (Ye ⟨bw,4,none⟩ (.slice pf nf cf) rfl (by kernel_rfl) (by kernel_rfl) (kW.cell (i:=4) rfl) ?_)
   have hS24:Below B (W.drew) (W22):=hS23
   refine⟨hS24,?_⟩
   refine Gd 8 4 rfl (by kernel_rfl) rfl (by kernel_rfl) (Xk (e:=31) (n:=nf) (xs:=fs) (m:=1) (news:=[.iface ty' x']) (.nilIface) 1 16 (nf+1) (fs++[.iface ty' x']) rfl Tryz.underlying85 (by kernel_rfl) rfl (by decide) (by kernel_rfl) hF (by kernel_rfl) (k22.sl 1 1 (by decide) (by decide)) rfl (Ik hv1) (by unfold maxLen;omega) (by omega) (Nat.le_trans hBw hB.size) (by simp) (by simp) ?_)
   intro p25 c25 W25 o25 hg25 hb25
   replace hO:=hO.trans (Ze.of_grown hg25 hF (by decide))
   replace kW:=kW.grown hg25 hF (by decide)
   replace k1:=k1.grown3 hg25 r1_hF
   replace kk2:=kk2.grown hg25 hF (by decide)
   replace hway:=Xb hway hg25 hF (by decide)
   replace hv':=hv'.grown hg25 hF (by decide)
   replace hK:=hK.grown hg25 hF
   replace hB:=hB.trans hb25
   have hS26:Below B (W.drew) (W25):=hS24.trans hb25
   refine⟨hS26,?_⟩
   refine Ob [9,10,11] 1 rfl #[true,true,true,true,true,true,true,true,true,true,true,true,false] [(25,P0 bw),(26,P0 bw),(27,.pointer (some ⟨bw,4,none⟩))] (by kernel_rfl) (fun _ _ _ _ _ h=>h) (by kernel_rfl) hS26 ?_
   refine Gd 12 0 rfl (by kernel_rfl) rfl (by kernel_rfl) (Xh (v:=.slice p25 (nf+1) c25) (b:=bw) (off:=4) rfl (by kernel_rfl) (by kernel_rfl) (by kernel_rfl) rfl kW (by first|decide|simp) ?_)
   intro W27 u27 k27
   change Blk _ _ [c0,c1,c2,c3,.slice p25 (nf+1) c25,c5,c6,c7,.slice pw way.length cw,c9] _ at k27
   replace hO:=hO.trans (Ze.of_upd u27 kW (by decide))
   replace hB:=u27.below hB hBb
   replace k1:=u27.blk k1 (Ne.symm d1_bw)
   replace kk2:=u27.blk kk2 nb2_bw
   replace hway:=u27.own2 hway kW (by decide)
   replace hv':=hv'.upd u27 kW (by decide)
   replace hK:=hK.upd u27 kW
   replace o25:=u27.own2 o25 kW (by decide)
   have hS28:Below B (W.drew) (W27):=u27.below hS26 hBb
   refine⟨hS28,?_⟩
   refine Ly _ (by kernel_rfl) ?_
   exact Ze7 hK (.tuple #[]) (by kernel_rfl) (by kernel_rfl) ⟨_,_,_,_,_,rfl,(Upd.of_put _ _ _).below hB (Nat.le_trans hBw hDB),Ze.upd_new hO (Upd.of_put _ _ _) hDB,(Upd.of_put _ _ _).blk k27 (hK.ne k27),(Upd.of_put _ _ _).own3 o25 (hK.row o25),hv'.kept fun _ _ q=>(Upd.of_put _ _ _).blk q (hK.ne q)⟩
end Go.Proofs.YtgphgaehfdfjjaaGreat
namespace Go.Proofs.YtgphgaehfdfjjaaGreat
set_option maxHeartbeats 8000000
set_option maxRecDepth 100000
open Go.RowKit Go.Extern.Stop Go.Stop Go.Extern
set_option linter.unusedVariables false
attribute [local irreducible] wpList wpAnyH Code.wp Oper.wp Go
def Yu(l:List Int)(x:Int):Bool:=l.any fun y=>decide (x=y)
theorem Zds{l:List Int}{x:Int}{i:Nat}(hi:i<l.length)(h:x=l.getD i 0):Yu l x=true:=by
 unfold Yu
 rw[List.any_eq_true]
 exact⟨l[i],List.getElem_mem _,by rw[decide_eq_true_iff,h];simp[hi]⟩
theorem Za4{l:List Int}{x:Int}(h:∀ j,j<l.length→x≠l.getD j 0):Yu l x=false:=by
 unfold Yu
 rw[List.any_eq_false]
 intro y hy
 obtain⟨j,hj,rfl⟩:=List.getElem_of_mem hy
 have:=h j hj
 simpa [hj] using this
theorem indexI(a:O0)(c:Nat)(l:List Int)(x:Int)(w:World)(h:Ints w (.slice a l.length c) l)(hln:l.length≤1000000) :
 C0 125 #[.slice a l.length c,V0 x] w (fun e w'=>(Yu l x=false∧e=.returned (V0 (-1))∧B0 w w')∨(Yu l x=true∧∃ i:Nat,e=.returned (V0 (i:Int))∧B0 w w')):=by
 refine zin 19 Tryz.func125 ?_
 have hB:=Below.refl w.heap.size w
 refine zl 14 19 (fun zm a2 V=>∃ (i:Nat),a2=[(0,.slice a l.length c),(1,V0 x),(7,V0 (l.length:Int)),(8,V0 (i:Int))]∧zm=l.length-((i:Int)).toNat∧B0 w V∧i≤l.length∧(∀ j,j<i→x≠l.getD j 0)) ⟨0,rfl,rfl,hB,Nat.zero_le _,?_⟩ ?_
 ·exact fun j hj=>absurd hj (by omega)
 rintro _ _ W1 ⟨i,rfl,rfl,a0,hi,hz⟩ J1 a4 r1
 refine xid 6 ((i:Int)<(l.length:Int)) (fun a3=>?_) (fun a3=>?_)
 ·refine xx 15 _ l.length i 1 (Ints.elem h (k:=i) (by omega)).1 ?_
  refine xl 0 ((Ints.elem (h.below a0) (k:=i) (by omega)).2) ?_
  refine xie 3 x (l.getD i 0) (fun a1=>?_) (fun a1=>?_)
  ·exact xe 12 (V0 (i:Int)) (.inr ⟨Zds (i:=i) (by omega) (by omega),_,rfl,a0⟩)
  refine xwm 4 ((i:Int)+1) (↑(i+1):Int) ?_
  exact ze 2 (a4 _ _ _ ⟨i+1,rfl,rfl,a0,by omega,fun j hj=>(Nat.lt_or_ge j i).elim (hz j) (fun q=>by obtain rfl:j=i:=(by omega);omega)⟩ (by omega))
 exact xe 11 (V0 (-1)) (.inl ⟨Za4 (fun j hj=>hz j (by omega)),rfl,a0⟩)
theorem Zfp(a:O0)(c:Nat)(l:List Int)(x:Int)(w:World)(h:Ints w (.slice a l.length c) l)(hln:l.length≤1000000) :
 C0 115 #[.slice a l.length c,V0 x] w (Ret (.bool (Yu l x)) w):=by
 refine zin 9 Tryz.func115 ?_
 refine xc 9 (args:=#[.slice a l.length c,V0 x]) (indexI a c l x _ (h.below (B3 w)) hln) ?_
 rintro e W1 a1
 rcases a1 with ⟨hz,rfl,a0⟩|⟨hz,i0,rfl,a0⟩
 ·refine xe 5 (.bool false) ?_
  rw[hz];exact⟨rfl,a0⟩
 refine xe 5 (.bool (decide ((i0:Int)≥(0:Int)))) ?_
 rw[hz,show decide ((i0:Int)≥(0:Int))=true from decide_eq_true (by omega)];exact⟨rfl,a0⟩
end Go.Proofs.YtgphgaehfdfjjaaGreat
namespace Go.Proofs.YtgphgaehfdfjjaaGreat
set_option maxHeartbeats 8000000
set_option maxRecDepth 100000
open Go.RowKit
set_option linter.unusedVariables false
attribute [local go_sem] Oper.semAt_some
def Yt(hi:Int)(l:List Int):List (Int×Int):=(List.range l.length).map (Xg hi l)
def Ks(hi:Int)(l:List Int)(cs:List Value)(x:Fin l.length):List Value :=
 (cs.set (qOf x*2) (V0 (Xg hi l (qOf x)).1)).set (qOf x*2+1) (V0 (Xg hi l (qOf x)).2)
def outC(hi:Int)(l:List Int)(pre:List (Fin l.length)):List Value:=pre.foldl (Ks hi l) (Ja [V0 0,V0 0] l.length)
theorem Zc8(hi:Int)(l:List Int)(pre:List (Fin l.length))(x:Fin l.length):outC hi l (pre++[x])=Ks hi l (outC hi l pre) x:=by simp[outC]
theorem Ue(hi:Int)(l:List Int):∀ (pre:List (Fin l.length)) (cs:List Value),(pre.foldl (Ks hi l) cs).length=cs.length
 | [],_=>rfl
 | x::pre,cs=>by rw[List.foldl_cons,Ue hi l pre];simp[Ks]
theorem Me(hi:Int)(l:List Int)(pre:List (Fin l.length)):(outC hi l pre).length=l.length*2:=by
 rw[outC,Ue,Pt];rfl
theorem Lh(hi:Int)(l:List Int)(q:Nat)(hq:q<l.length):∀ (pre:List (Fin l.length)) (cs:List Value),cs.length=l.length*2 →
  ((∃ x∈pre,qOf x=q)∨(cs[q*2]? = some (V0 (Xg hi l q).1)∧cs[q*2+1]? = some (V0 (Xg hi l q).2))) →
  (pre.foldl (Ks hi l) cs)[q*2]? = some (V0 (Xg hi l q).1)∧(pre.foldl (Ks hi l) cs)[q*2+1]? = some (V0 (Xg hi l q).2)
 | [],cs,hl,h=>by
  rcases h with ⟨x,hx,_⟩|h
  ·cases hx
  ·exact h
 | x::pre,cs,hl,h=>by
  rw[List.foldl_cons]
  refine Lh hi l q hq pre _ (by simp[Ks,hl]) ?_
  by_cases hx:qOf x=q
  ·subst hx
   refine .inr ⟨?_,?_⟩
   ·simp only[Ks];rw[List.getElem?_set_ne (by omega),List.getElem?_set_self (by omega)]
   ·simp only[Ks];rw[List.getElem?_set_self (by simp;omega)]
  ·rcases h with ⟨y,hy,a0⟩|h
   ·rcases List.mem_cons.1 hy with rfl|hy
    ·exact absurd a0 hx
    ·exact .inl ⟨y,hy,a0⟩
   ·refine .inr ⟨?_,?_⟩
    ·simp only[Ks];rw[List.getElem?_set_ne (by omega),List.getElem?_set_ne (by omega)];exact h.1
    ·simp only[Ks];rw[List.getElem?_set_ne (by omega),List.getElem?_set_ne (by omega)];exact h.2
theorem outC_all(hi:Int)(l:List Int):outC hi l (List.finRange l.length)=Gj (Yt hi l):=by
 have hs:(Yt hi l).length=l.length:=by simp[Yt]
 have hg:∀ q,q<l.length→(Yt hi l)[q]? = some (Xg hi l q):=fun q hq=>by simp[Yt,hq]
 apply List.ext_getElem?
 intro j
 by_cases hj:j<l.length*2
 ·have hq:j/2<l.length:=by omega
  have h:=Lh hi l (j/2) hq (List.finRange l.length) (Ja [V0 0,V0 0] l.length) (by rw[Pt];rfl)
   (.inl ⟨⟨l.length-1-j/2,by omega⟩,by simp,by simp only[qOf];omega⟩)
  by_cases h2:j%2=0
  ·have e:j=j/2*2:=by omega
   rw[e,Pa,hg _ hq];exact h.1
  ·have e:j=j/2*2+1:=by omega
   rw[e,Rl,hg _ hq];exact h.2
 ·rw[List.getElem?_eq_none (by rw[Me];omega),List.getElem?_eq_none (by rw[Pl,hs];omega)]
def Sg(lo hi:Int)(l:List Int):List (Int×Int):=if Qv lo hi l=0 then Yt hi l else []
theorem Tryz.info148:(Tryz.prog.info? 148).map (fun i=>(i.zero,i.size,i.bytes))=some (some (.agg #[V0 0,V0 0]),2,16):=by kernel_rfl
theorem Te(lo hi:Int)(v:Value)(l:List Int)(w:World)(hlen:l.length≤1000000)(hl:Ints w v l) :
 C0 95 #[spanV lo hi,v] w (Kg (fun w' r=>Pairs w' r (Sg lo hi l)∧(Qv lo hi l=0→∃ g,r=.slice (S1 g) l.length l.length∧w.heap.size≤g∧Blk w' g (Gj (Yt hi l)) 148)) w):=by
 obtain⟨i0,b4,a8,b1,b0⟩:=info_parts Tryz.info148
 have c1:=fun w=>Ck (P:=Tryz.prog) (t:=176) (e:=148) (i:=i0) [V0 0,V0 0] Tryz.underlying176 b4 a8 rfl b1 b0 l.length (by omega) (by omega) w
 clear b4 a8 b1 b0
 unfold spanV
 refine Jf Tryz.func95 rfl ?_
 simp only[Tryz.ntmps95,List.size_toArray,List.length_cons,List.length_nil,Nat.reduceAdd,Nat.reduceSub,Array.replicate_succ,Array.replicate_zero,List.push_toArray,List.append_toArray,List.nil_append,List.cons_append]
 go_wp2_with fail
 refine(Lv lo hi v l _ (hl.below (blx _ _))).mono ?_
 rintro e w' ⟨rfl,hb⟩
 have k0:=Blk.below (Blk.new w [V0 lo,V0 hi] 148) hb
 have hB:B0 w w':=bln (blx _ _) hb
 have b5:=hl.below hB
 have HB:l.length≠0→∀ {b a5 n b2:Nat},v=.slice (some ⟨b,a5,none⟩) n b2→b<w.heap.size:=fun h _ _ _ _ e=>hl.blk h e
 clear hb hl
 obtain⟨a,c,rfl⟩:=b5.slice
 have z0:=k0.lt
 have d1:=k0.cell (i:=0) rfl
 have c9:=k0.cell (i:=1) rfl
 by_cases hf:Qv lo hi l=0
 case neg =>
  have b8:(Qv lo hi l != 0)=true:=by simpa using hf
  have HF:=Lib.hid hf;clear hf
  go_wp2_with fail
  refine⟨_,results_tmp rfl _ _ _,?_⟩
  have e:Sg lo hi l=[]:=by simp[Sg,HF.out]
  rw[e]
  exact⟨_,rfl,hB,.inl ⟨_,_,rfl,rfl,rfl⟩,fun q=>absurd q HF.out⟩
 have b8:(Qv lo hi l != 0)=false:=by simpa using hf
 have HF:=Lib.hid hf;clear hf
 go_wp2_with fail
 refine(Zdd lo hi a l.length c _).mono ?_
 rintro e W1 ⟨rfl,a0⟩
 have hz:w'.heap.size+4=W1.heap.size:=by rw[a0];simp
 have b3:Below w'.heap.size w' W1:=by rw[a0];exact bln (bln (bln (blx _ _) (blx _ _)) (blx _ _)) (blx _ _)
 have s1:W1.cell? ⟨w'.heap.size+1+1,1,none⟩=some (V0 hi):=by rw[a0];simp[go_sem]
 have s2:W1.cell? ⟨w'.heap.size+1+1+1,0,none⟩=some (.slice a l.length c):=by rw[a0];simp[go_sem]
 have m1:Blk W1 w'.heap.size (Ja [V0 0,V0 0] l.length) 148:=by rw[a0];exact(((Blk.new w' _ _).alloc _).alloc _).alloc _
 have m2:Blk W1 (w'.heap.size+1) [.slice (some ⟨w'.heap.size,0,none⟩) l.length l.length] 176:=by
  rw[a0];have:=((Blk.new (w'.alloc (.cells (Ja [V0 0,V0 0] l.length).toArray 148)) [.slice (some ⟨w'.heap.size,0,none⟩) l.length l.length] 176).alloc (.cells #[V0 lo,V0 hi] 148)).alloc (.cells #[.slice a l.length c] 68)
  simpa using this
 have a4:=bln hB b3
 have b7:=b5.below b3
 have c0:=Zbo (w'.heap.size+1+1) (w'.heap.size+1+1+1) (fun b=>b<W1.heap.size∧b≠w'.heap.size) hi (.slice a l.length c) l W1 (fun b h=>h.1) (by omega) (by omega) (by omega) b7 ?hvp s1 s2
 case hvp=>exact fun h b a5 n' b2 e=>by have:=HB h e;have:=a4.size;exact⟨by omega,by omega⟩
 clear a0 s1 s2 c1
 go_wp2_with fail
 refine Ow (g:=.tmp 17) (gf:=131) (lb:=#[.pointer (some ⟨w'.heap.size+1+1,0,none⟩),.pointer (some ⟨w'.heap.size+1+1+1,0,none⟩)]) rfl (enters_of Tryz.func131 (by kernel_rfl) rfl) _ (fun b h=>h.1) c0 (fun _=>rfl)
  (fun a1 W=>(Blk W w'.heap.size (outC hi l a1) 148∧Blk W (w'.heap.size+1) [.slice (some ⟨w'.heap.size,0,none⟩) l.length l.length] 176)∧(B0 w W∧W1.heap.size≤W.heap.size))
  (fun _ _ _=>False) ?own (fun _ _ _ _ _ h _ _=>h) ⟨⟨m1,m2⟩,a4,Nat.le_refl _⟩
  (fun x a' W=>∃ Bx,W1.heap.size≤Bx∧Blk W Bx [V0 (Xg hi l (qOf x)).1,V0 (Xg hi l (qOf x)).2] 148 ∧
   a'={ tmps:=#[.agg #[V0 lo,V0 hi],.slice a l.length c,.pointer (some ⟨w.heap.size,0,none⟩),undef,S0,.pointer (some ⟨w'.heap.size+1,0,none⟩),V0 (qOf x:Int),P0 Bx,.agg #[V0 lo,V0 hi],.slice a l.length c,V0 (Qv lo hi l),.bool false,.slice a l.length c,V0 l.length,.slice (some ⟨w'.heap.size,0,none⟩) l.length l.length,.agg #[V0 lo,V0 hi],.slice a l.length c,.func (.func 131) #[] #[.pointer (some ⟨w'.heap.size+1+1,0,none⟩),.pointer (some ⟨w'.heap.size+1+1+1,0,none⟩)],V0 (qOf x:Int),spanV (Xg hi l (qOf x)).1 (Xg hi l (qOf x)).2,undef,undef,undef,undef,undef],defers:=[] }) ?ownax ?assign ?body ?done ?stop
 case own=>exact OwnFrom.and (Own.from (fun s A B b6 hs hg hr=>⟨hs.1.turn hg hr,hs.2.turn hg hr⟩) _) (OwnFrom.and (ownFrom_below (Nat.le_refl _) a4.size) Fs)
 case ownax=>exact fun x a'=>Own.from (fun s A B b6 hs hg hr=>by obtain⟨Bx,h1,h2,h3⟩:=hs;exact⟨Bx,h1,h2.turn hg hr,h3⟩) _
 case assign =>
  rintro lr a1 x W K ⟨⟨h1,h2⟩,a2,a3⟩ hK
  unfold encE
  gi_wp2
  exact hK _ _ ((KeepsOthers.alloc _ _).from _) (Keeps.of_below (blx W _) (fun b hb=>by have:=hb.1;omega)) ⟨⟨h1.alloc _,h2.alloc _⟩,bln a2 (blx _ _),by simp;omega⟩ ⟨W.heap.size,a3,Blk.new W _ _,rfl⟩
 case body =>
  rintro lr a1 x a' W c5 ⟨⟨h1,h2⟩,a2,a3⟩ ⟨Bx,d2,hx,rfl⟩ a7
  have c4:=hx.cell (i:=0) rfl
  have d0:=hx.cell (i:=1) rfl
  have ci:=h2.cell (i:=0) rfl
  have hq:qOf x<l.length:=by have:=x.2;simp only[qOf];omega
  have c2:=Me hi l a1
  obtain⟨u0,a6⟩:∃ u0,(outC hi l a1)[qOf x*2]? = some u0:=⟨_,List.getElem?_eq_getElem (by omega)⟩
  obtain⟨u1,a9⟩:∃ u1,(outC hi l a1)[qOf x*2+1]? = some u1:=⟨_,List.getElem?_eq_getElem (by omega)⟩
  have c7:=h1.cell a6
  have d3:=h1.cell a9
  have c8:=h1.frozen (qOf x*2)
  have c6:=h1.frozen (qOf x*2+1)
  clear a6 a9 c2
  gi_wp2
  refine⟨((KeepsOthers.setCell _ _ _).trans (KeepsOthers.setCell _ _ _)).from _,((Keeps.refl _ W).setCell (by simp) _).setCell (by simp) _,⟨by rw[Zc8];exact(h1.set _ _).set _ _,(h2.other (by simp) _).other (by simp) _⟩,(a2.setCell (Nat.le_of_lt z0) _).setCell (Nat.le_of_lt z0) _,by simpa [World.setCell] using a3⟩
 case done =>
  rintro D xs W hD rfl ⟨⟨h1,h2⟩,a2,a3⟩ hK
  have ci:=h2.cell (i:=0) rfl
  have a7:D<W.heap.size:=(Array.getElem?_eq_some_iff.1 hK).1
  rw[outC_all] at h1
  have hs:(Yt hi l).length=l.length:=by simp[Yt]
  have hR:Pairs (W.putObj D (.deferred none)) (.slice (some ⟨w'.heap.size,0,none⟩) l.length l.length) (Yt hi l):=by
   have b9:=h1.put hK rfl (.deferred none)
   exact .inr ⟨_,0,l.length,by rw[hs],by omega,by unfold maxLen;omega,fun j x hj=>by rw[Nat.zero_add];exact b9.cell hj⟩
  have HR:=Lib.hid hR
  have c3:=Lib.hid (h1.put hK rfl (.deferred none))
  clear hR h1 hs
  go_wp2_with fail
  refine⟨by simp,.inl ⟨_,_,rfl,run_takeDeferred hK,_,results_tmp rfl _ _ _,?_⟩⟩
  have e:Sg lo hi l=Yt hi l:=by simp[Sg,HF.out]
  rw[e]
  exact⟨_,rfl,Zf3 a2 (by have:=a4.size;omega) a7 _,HR.out,fun _=>⟨_,rfl,hB.size,c3.out⟩⟩
 case stop=>exact fun _ _ _ _ _ _ h _=>h.elim
end Go.Proofs.YtgphgaehfdfjjaaGreat
namespace Go.Proofs.YtgphgaehfdfjjaaGreat
set_option maxHeartbeats 8000000
set_option maxRecDepth 100000
open Go.RowKit Go.Extern.Stop Go.Stop Go.Extern
set_option linter.unusedVariables false
attribute [local irreducible] wpList wpAnyH Code.wp Oper.wp Go
def Xn(l:Bl)(way:List Int)(no tree lo hi deep:Int):Int :=
 if Yu way no=true then 11 else if 16≤way.length then 10 else if Xi l no tree≠0 then Xi l no tree else if Qv lo hi (Qy (inB l no) (Zr (inB l no)))≠0 then 9 else
  if Xm (inB l no)=true∧deep≠0∧deep≠((way.length+1:Nat):Int) then 10 else 0
def LookP(B bw:Nat)(cs:List Value)(l:Bl)(way:List Int)(no tree lo hi deep:Int)(w:World)(e:Ending)(w':World):Prop :=
 Below B w w'∧Ze [145] w w'∧Blk w' bw cs 145 ∧
 ((Xn l way no tree lo hi deep≠0∧∃ a4 b4 k4 n4 c4 v4 m4 d4 ty x,e=.returned (.tuple #[.agg #[V0 a4,.bool b4,.slice k4 n4 c4,.slice v4 m4 d4],.iface ty x])∧Qw w' [some no] (some (Xn l way no tree lo hi deep)) (.iface ty x)) ∨
  (Xn l way no tree lo hi deep=0∧Xi l no tree=0∧∃ kp kc vp vc,e=.returned (.tuple #[.agg #[V0 (Yq (inB l no)),.bool (Xm (inB l no)),.slice kp (Zr (inB l no)) kc,.slice vp (Zr (inB l no)) vc],.nilIface]) ∧
   w'.ownsRow w.heap.size 3 1 (.slice kp (Zr (inB l no)) kc) (Zr (inB l no)) ((Qy (inB l no) (Zr (inB l no))).map V0)∧w'.ownsRow w.heap.size 9 1 (.slice vp (Zr (inB l no)) vc) (Zr (inB l no)) ((Jr (inB l no) (Zr (inB l no))).map sv)))
theorem Ef{w:World}{v:Value}{n:Nat}{l:List Int}(h:Sl w v n (l.map V0))(hl:l.length=n):Ints w v l:=by subst hl;exact h
theorem Ab(B Bi b bw:Nat)(p:O0)(n c:Nat)(l:Bl)(c0 c1 c4 c7 c9:Value)(pw:O0)(cw:Nat)(way:List Int)(no tree lo hi deep looked:Int)(w:World)(hBb:B≤bw)(hBw:B≤w.heap.size)(kW:Blk w bw [c0,c1,V0 deep,V0 looked,c4,P0 b,V0 tree,c7,.slice pw way.length cw,c9] 145)(hway:w.ownsRow B 3 1 (.slice pw way.length cw) way.length (way.map V0))(hI:ImgR Bi b p n c l w)(hwl:way.length≤1000000)(hl0:0≤looked)(hl1:looked<9223372036854775807) :
 C0 93 #[P0 bw,V0 no,.agg #[V0 lo,V0 hi]] w (LookP B bw [c0,c1,V0 deep,V0 (looked+1),c4,P0 b,V0 tree,c7,.slice pw way.length cw,c9] l way no tree lo hi deep w):=by
 refine zin 97 Tryz.func93 ?_
 refine xa 2 [V0 lo,V0 hi] 148 fun b1 W1 n1=>?_
 refine xa 0 [V0 0,.bool false,S0,S0] 117 fun b2 W2 n2=>?_
 have a3:=(kW.below n1.below).below n2.below
 refine xb 9 3 a3 ?_
 refine xw 0 (looked+1) ?_
 refine xs 3 a3 [c0,c1,V0 deep,V0 (looked+1),c4,P0 b,V0 tree,c7,.slice pw way.length cw,c9] fun W3 u3 k3=>?_
 refine xb 8 8 k3 ?_
 have h1:=u3.own2 (Zb (Zb hway n1.below) n2.below) a3 (by decide)
 refine xr 1 (args:=#[.slice pw way.length cw,V0 no]) (Zfp pw cw way no _ (Zg h1) hwl) fun W4 b0=>?_
 refine xi 2 (Yu way no) (fun u8=>?_) (fun u8=>?_)
 ·refine xc 5 (args:=#[V0 no,.iface 26 (V0 11)]) (Yh no (some 11) [] _ _ rfl) ?_
  rintro _ W6 ⟨r6,rfl,o2,p6⟩
  rw[Qa] at p6
  obtain⟨t6,x6,rfl⟩:=p6.iface
  have k2:=((u3.blkT n2.blk a3 (by decide)).below b0).below o2
  refine xsv 0 k2 [V0 0,.bool false,S0,S0] fun W7 u7 k7=>?_
  have g2:=n2.ge0 (blB (Below.refl B w) hBw n1.below)
  have hB:=u7.below (blB (blB (u3.below (blB (blB (Below.refl B w) hBw n1.below) hBw n2.below) hBb) hBw b0) hBw o2) (Nat.le_trans hBw g2)
  have hO:=(Ze.upd_new (((((show Ze [145] w _ from(Ze.of_below n1.below)).trans (Ze.of_below n2.below)).trans (Ze.of_upd u3 a3 (by decide))).trans (Ze.of_below b0)).trans (Ze.of_below o2)) u7 g2)
  have p4:=u7.blkT ((k3.below b0).below o2) k2 (by decide)
  have m2:=p6.upd u7 k2 (by decide)
  exact xec 5 k7 (.tuple #[.agg #[V0 0,.bool false,S0,S0],.iface t6 (x6)]) ⟨hB,hO,p4,.inl ⟨by(unfold Xn;(repeat' split)<;>first|rfl|assumption|decide|omega|exact absurd (Eq.trans (Eq.symm ‹Yu _ _=true›) ‹Yu _ _=false›) (by decide)|(rename_i q;exact absurd ⟨by assumption,by assumption,by assumption⟩ q)|(rename_i q;obtain⟨q1,q2,q3⟩:=q;exact absurd (Eq.trans (Eq.symm q1) ‹Xm _=false›) (by decide))|(rename_i q;obtain⟨q1,q2,q3⟩:=q;omega)),_,_,_,_,_,_,_,_,_,_,rfl,by(unfold Xn;(repeat' split)<;>first|exact m2|(exfalso;omega)|contradiction|exact absurd (Eq.trans (Eq.symm ‹Yu _ _=true›) ‹Yu _ _=false›) (by decide)|(rename_i q;exact absurd ⟨by assumption,by assumption,by assumption⟩ q)|(rename_i q;obtain⟨q1,q2,q3⟩:=q;exact absurd (Eq.trans (Eq.symm q1) ‹Xm _=false›) (by decide))|(rename_i q;obtain⟨q1,q2,q3⟩:=q;omega))⟩⟩
 have h9:=k3.below b0
 refine xb 8 8 h9 ?_
 refine xid 4 ((way.length:Int)≥(16:Int)) (fun s8=>?_) (fun s8=>?_)
 ·refine xc 5 (args:=#[V0 no,.iface 26 (V0 10)]) (Yh no (some 10) [] _ _ rfl) ?_
  rintro _ W9 ⟨r9,rfl,n9,o8⟩
  rw[Qa] at o8
  obtain⟨t9,x9,rfl⟩:=o8.iface
  have k2:=((u3.blkT n2.blk a3 (by decide)).below b0).below n9
  refine xsv 0 k2 [V0 0,.bool false,S0,S0] fun x7 o0 w0=>?_
  have g2:=n2.ge0 (blB (Below.refl B w) hBw n1.below)
  have hB:=o0.below (blB (blB (u3.below (blB (blB (Below.refl B w) hBw n1.below) hBw n2.below) hBb) hBw b0) hBw n9) (Nat.le_trans hBw g2)
  have hO:=(Ze.upd_new (((((show Ze [145] w _ from(Ze.of_below n1.below)).trans (Ze.of_below n2.below)).trans (Ze.of_upd u3 a3 (by decide))).trans (Ze.of_below b0)).trans (Ze.of_below n9)) o0 g2)
  have p1:=o0.blkT (h9.below n9) k2 (by decide)
  have m5:=o8.upd o0 k2 (by decide)
  exact xec 5 w0 (.tuple #[.agg #[V0 0,.bool false,S0,S0],.iface t9 (x9)]) ⟨hB,hO,p1,.inl ⟨by(unfold Xn;(repeat' split)<;>first|rfl|assumption|decide|omega|exact absurd (Eq.trans (Eq.symm ‹Yu _ _=true›) ‹Yu _ _=false›) (by decide)|(rename_i q;exact absurd ⟨by assumption,by assumption,by assumption⟩ q)|(rename_i q;obtain⟨q1,q2,q3⟩:=q;exact absurd (Eq.trans (Eq.symm q1) ‹Xm _=false›) (by decide))|(rename_i q;obtain⟨q1,q2,q3⟩:=q;omega)),_,_,_,_,_,_,_,_,_,_,rfl,by(unfold Xn;(repeat' split)<;>first|exact m5|(exfalso;omega)|contradiction|exact absurd (Eq.trans (Eq.symm ‹Yu _ _=true›) ‹Yu _ _=false›) (by decide)|(rename_i q;exact absurd ⟨by assumption,by assumption,by assumption⟩ q)|(rename_i q;obtain⟨q1,q2,q3⟩:=q;exact absurd (Eq.trans (Eq.symm q1) ‹Xm _=false›) (by decide))|(rename_i q;obtain⟨q1,q2,q3⟩:=q;omega))⟩⟩
 refine xd 3 (.t B [117]) ?_
 have b6:=h9.below (Za W4)
 refine xbt (.e [0,1,2] 3) 5 B [117] b6 ?_
 refine xbt (.e [4,5,6,7] 8) 6 B [117] b6 ?_
 refine xm2 0 9 13 ?_ ?_
 ·have r4:=((((hI.below n1.below).below n2.below).only (Ze.of_upd (T:=[145]) u3 a3 (by decide)) (by decide)).below b0).below (Za W4)
  refine yc 0 (args:=#[P0 b,V0 no,V0 tree]) (.t B [117]) (Di Bi b p n c l no tree _ r4) ?_
  rintro e y4 r8
  rcases r8 with ⟨he,bf,rfl,a6,hv⟩|⟨he,kp,kc,vp,vc,rfl,a6,hk,h4⟩
  ·refine⟨(SF.of_below _ a6),?_⟩
   refine xa (.o [10,11,12] 13) [V0 0,.bool false,S0,S0] 117 fun z7 y5 e1=>?_
   have k2:=(((u3.blkT n2.blk a3 (by decide)).below b0).below (Za W4)).below a6
   have g5:=e1.ne k2
   have hB:=blB (blB (blB (u3.below (blB (blB (Below.refl B w) hBw n1.below) hBw n2.below) hBb) hBw b0) hBw (Za W4)) hBw a6
   have p9:=e1.ge0 hB
   refine ysv (.o [] 14) e1.blk [V0 0,.bool false,S0,S0] (.t B [117]) fun x2 i1 v0=>⟨(Zw i1 e1.blk (Nat.le_trans hBw p9) (by decide)),?_⟩
   refine xlv (.r [15] 14) v0.rp ?_
   have h8:=i1.blk (k2.below e1.below) (Ne.symm (Ne.symm g5))
   refine xsv 1 h8 [V0 0,.bool false,S0,S0] fun al o3 v5=>?_
   have g2:=n2.ge0 (blB (Below.refl B w) hBw n1.below)
   have q9:=o3.below (i1.below (blB hB hBw e1.below) (Nat.le_trans hBw p9)) (Nat.le_trans hBw g2)
   have hO:=(Ze.upd_new (Ze.upd_new (((((((show Ze [145] w _ from(Ze.of_below n1.below)).trans (Ze.of_below n2.below)).trans (Ze.of_upd u3 a3 (by decide))).trans (Ze.of_below b0)).trans (Ze.of_below (Za W4))).trans (Ze.of_below a6)).trans (Ze.of_below e1.below)) i1 p9) o3 g2)
   have o6:=o3.blkT (i1.blkT ((b6.below a6).below e1.below) e1.blk (by decide)) h8 (by decide)
   have q5:=((hv.below e1.below).upd i1 e1.blk (by decide)).upd o3 h8 (by decide)
   exact xec 6 v5 (.tuple #[.agg #[V0 0,.bool false,S0,S0],.iface 150 (P0 bf)]) ⟨q9,hO,o6,.inl ⟨by(unfold Xn;(repeat' split)<;>first|rfl|assumption|decide|omega|exact absurd (Eq.trans (Eq.symm ‹Yu _ _=true›) ‹Yu _ _=false›) (by decide)|(rename_i q;exact absurd ⟨by assumption,by assumption,by assumption⟩ q)|(rename_i q;obtain⟨q1,q2,q3⟩:=q;exact absurd (Eq.trans (Eq.symm q1) ‹Xm _=false›) (by decide))|(rename_i q;obtain⟨q1,q2,q3⟩:=q;omega)),_,_,_,_,_,_,_,_,_,_,rfl,by(unfold Xn;(repeat' split)<;>first|exact q5|(exfalso;omega)|contradiction|exact absurd (Eq.trans (Eq.symm ‹Yu _ _=true›) ‹Yu _ _=false›) (by decide)|(rename_i q;exact absurd ⟨by assumption,by assumption,by assumption⟩ q)|(rename_i q;obtain⟨q1,q2,q3⟩:=q;exact absurd (Eq.trans (Eq.symm q1) ‹Xm _=false›) (by decide))|(rename_i q;obtain⟨q1,q2,q3⟩:=q;omega))⟩⟩
  have e9:=(blB (blB (u3.below (blB (blB (Below.refl B w) hBw n1.below) hBw n2.below) hBb) hBw b0) hBw (Za W4)).size
  refine⟨(SF.of_below _ a6),?_⟩
  refine xa (.o [10,11,12] 13) [V0 0,.bool false,S0,S0] 117 fun ac y2 a7=>?_
  have k2:=(((u3.blkT n2.blk a3 (by decide)).below b0).below (Za W4)).below a6
  have b4:=a7.ne k2
  have hB:=blB (blB (blB (u3.below (blB (blB (Below.refl B w) hBw n1.below) hBw n2.below) hBb) hBw b0) hBw (Za W4)) hBw a6
  have c6:=a7.ge0 hB
  refine ysv (.o [] 14) a7.blk [V0 (Yq (inB l no)),.bool (Xm (inB l no)),.slice kp (Zr (inB l no)) kc,.slice vp (Zr (inB l no)) vc] (.t B [117]) fun z3 b3 o4=>⟨(Zw b3 a7.blk (Nat.le_trans hBw c6) (by decide)),?_⟩
  have k1:=b3.blkT (((((u3.blkT (n1.blk.below n2.below) a3 (by decide)).below b0).below (Za W4)).below a6).below a7.below) a7.blk (by decide)
  refine xlv (.r [15] 14) k1.rp ?_
  refine xb 1 2 o4 ?_
  have f6:=b3.own2 (Zb (Zh hk e9) a7.below) a7.blk (by decide)
  refine xr 0 (args:=#[.agg #[V0 lo,V0 hi],.slice kp (Zr (inB l no)) kc]) (Lv lo hi _ (Qy (inB l no) (Zr (inB l no))) _ (Ef (Zg f6) (Hz _ _))) fun a5 a2=>?_
  refine xin 4 (Qv lo hi (Qy (inB l no) (Zr (inB l no)))) (0:Int) (fun s5=>?_) (fun s5=>?_)
  ·refine xd 1 (.t B [117]) ?_
   refine xm2 (.b [1,2]) 0 3 ?_ ?_
   ·have k6:=(o4.below a2).below (Za a5)
    refine xlv 0 k6.rp ?_
    refine yc (.o [] 3) (args:=#[V0 no,.iface 26 (V0 9)]) (.t B [117]) (Yh no (some 9) [] _ _ rfl) ?_
    rintro _ z0 ⟨w8,rfl,e5,h0⟩
    refine⟨(SF.of_below _ e5),?_⟩
    rw[Qa] at h0
    obtain⟨w6,u4,rfl⟩:=h0.iface
    have f1:=(((b3.blk (k2.below a7.below) (Ne.symm (Ne.symm b4))).below a2).below (Za a5)).below e5
    have g2:=n2.ge0 (blB (Below.refl B w) hBw n1.below)
    refine ysv (.o [] 4) f1 [V0 (Yq (inB l no)),.bool (Xm (inB l no)),.slice kp (Zr (inB l no)) kc,.slice vp (Zr (inB l no)) vc] (.t B [117]) fun z4 n5 s9=>⟨(Zw n5 f1 (Nat.le_trans hBw g2) (by decide)),?_⟩
    have q7:=n5.below (blB (blB (blB (b3.below (blB hB hBw a7.below) (Nat.le_trans hBw c6)) hBw a2) hBw (Za a5)) hBw e5) (Nat.le_trans hBw g2)
    have hO:=(Ze.upd_new ((((Ze.upd_new (((((((show Ze [145] w _ from(Ze.of_below n1.below)).trans (Ze.of_below n2.below)).trans (Ze.of_upd u3 a3 (by decide))).trans (Ze.of_below b0)).trans (Ze.of_below (Za W4))).trans (Ze.of_below a6)).trans (Ze.of_below a7.below)) b3 c6).trans (Ze.of_below a2)).trans (Ze.of_below (Za a5))).trans (Ze.of_below e5)) n5 g2)
    have p2:=n5.blkT ((((b3.blkT ((b6.below a6).below a7.below) a7.blk (by decide)).below a2).below (Za a5)).below e5) f1 (by decide)
    have h6:=h0.upd n5 f1 (by decide)
    exact xec (.r [5] 5) s9 (.tuple #[.agg #[V0 (Yq (inB l no)),.bool (Xm (inB l no)),.slice kp (Zr (inB l no)) kc,.slice vp (Zr (inB l no)) vc],.iface w6 (u4)]) ⟨q7,hO,p2,.inl ⟨by(unfold Xn;(repeat' split)<;>first|rfl|assumption|decide|omega|exact absurd (Eq.trans (Eq.symm ‹Yu _ _=true›) ‹Yu _ _=false›) (by decide)|(rename_i q;exact absurd ⟨by assumption,by assumption,by assumption⟩ q)|(rename_i q;obtain⟨q1,q2,q3⟩:=q;exact absurd (Eq.trans (Eq.symm q1) ‹Xm _=false›) (by decide))|(rename_i q;obtain⟨q1,q2,q3⟩:=q;omega)),_,_,_,_,_,_,_,_,_,_,rfl,by(unfold Xn;(repeat' split)<;>first|exact h6|(exfalso;omega)|contradiction|exact absurd (Eq.trans (Eq.symm ‹Yu _ _=true›) ‹Yu _ _=false›) (by decide)|(rename_i q;exact absurd ⟨by assumption,by assumption,by assumption⟩ q)|(rename_i q;obtain⟨q1,q2,q3⟩:=q;exact absurd (Eq.trans (Eq.symm q1) ‹Xm _=false›) (by decide))|(rename_i q;obtain⟨q1,q2,q3⟩:=q;omega))⟩⟩
   refine yc 0 (args:=#[V0 no,.iface 26 (V0 9)]) (.t B [117]) (Yh no (some 9) [] _ _ rfl) ?_
   rintro _ y1 ⟨aa,rfl,d8,g3⟩
   refine⟨(SF.of_below _ d8),?_⟩
   rw[Qa] at g3
   obtain⟨v7,v6,rfl⟩:=g3.iface
   have m6:=((o4.below a2).below (Za a5)).below d8
   refine xlv (.o [] 0) m6.rp ?_
   have f4:=(((b3.blk (k2.below a7.below) (Ne.symm (Ne.symm b4))).below a2).below (Za a5)).below d8
   have g2:=n2.ge0 (blB (Below.refl B w) hBw n1.below)
   refine ysv (.o [] 4) f4 [V0 (Yq (inB l no)),.bool (Xm (inB l no)),.slice kp (Zr (inB l no)) kc,.slice vp (Zr (inB l no)) vc] (.t B [117]) fun ah l6 u9=>⟨(Zw l6 f4 (Nat.le_trans hBw g2) (by decide)),?_⟩
   have r2:=l6.below (blB (blB (blB (b3.below (blB hB hBw a7.below) (Nat.le_trans hBw c6)) hBw a2) hBw (Za a5)) hBw d8) (Nat.le_trans hBw g2)
   have hO:=(Ze.upd_new ((((Ze.upd_new (((((((show Ze [145] w _ from(Ze.of_below n1.below)).trans (Ze.of_below n2.below)).trans (Ze.of_upd u3 a3 (by decide))).trans (Ze.of_below b0)).trans (Ze.of_below (Za W4))).trans (Ze.of_below a6)).trans (Ze.of_below a7.below)) b3 c6).trans (Ze.of_below a2)).trans (Ze.of_below (Za a5))).trans (Ze.of_below d8)) l6 g2)
   have p0:=l6.blkT ((((b3.blkT ((b6.below a6).below a7.below) a7.blk (by decide)).below a2).below (Za a5)).below d8) f4 (by decide)
   have g1:=g3.upd l6 f4 (by decide)
   exact xec (.r [5] 5) u9 (.tuple #[.agg #[V0 (Yq (inB l no)),.bool (Xm (inB l no)),.slice kp (Zr (inB l no)) kc,.slice vp (Zr (inB l no)) vc],.iface v7 (v6)]) ⟨r2,hO,p0,.inl ⟨by(unfold Xn;(repeat' split)<;>first|rfl|assumption|decide|omega|exact absurd (Eq.trans (Eq.symm ‹Yu _ _=true›) ‹Yu _ _=false›) (by decide)|(rename_i q;exact absurd ⟨by assumption,by assumption,by assumption⟩ q)|(rename_i q;obtain⟨q1,q2,q3⟩:=q;exact absurd (Eq.trans (Eq.symm q1) ‹Xm _=false›) (by decide))|(rename_i q;obtain⟨q1,q2,q3⟩:=q;omega)),_,_,_,_,_,_,_,_,_,_,rfl,by(unfold Xn;(repeat' split)<;>first|exact g1|(exfalso;omega)|contradiction|exact absurd (Eq.trans (Eq.symm ‹Yu _ _=true›) ‹Yu _ _=false›) (by decide)|(rename_i q;exact absurd ⟨by assumption,by assumption,by assumption⟩ q)|(rename_i q;obtain⟨q1,q2,q3⟩:=q;exact absurd (Eq.trans (Eq.symm q1) ‹Xm _=false›) (by decide))|(rename_i q;obtain⟨q1,q2,q3⟩:=q;omega))⟩⟩
  refine xd 1 .z ?_
  have b9:=(o4.below a2).below (Za a5)
  refine xb (.e [0] 1) 1 b9 ?_
  refine xg (.b [2]) [69,70] (Xm (inB l no)) (fun r0=>?_) (fun r0=>?_)
  ·have c5:=((b3.blkT ((b6.below a6).below a7.below) a7.blk (by decide)).below a2).below (Za a5)
   refine xb (.e [3,4,5,6] 7) 2 c5 ?_
   refine xg (.b [8,9,10]) [76,77,78] (deep != (0:Int)) (fun e6=>?_) (fun e6=>?_)
   ·have e6:=Wp e6
    refine xb (.e [11,12,13,14] 15) 2 c5 ?_
    refine xb (.e [16,17,18] 19) 8 c5 ?_
    refine xwm (.e [20] 21) ((way.length:Int)+1) (↑(way.length+1):Int) ?_
    refine xin (.r [22,23,24] 2) deep (↑(way.length+1):Int) (fun q6=>?_) (fun q6=>?_)
    ·refine xd 1 (.t B [117]) ?_
     refine xm2 (.b [1,2]) 0 3 ?_ ?_
     ·have l5:=b9.below (Za a5.drew)
      refine xlv 0 l5.rp ?_
      refine yc (.o [] 3) (args:=#[V0 no,.iface 26 (V0 10)]) (.t B [117]) (Yh no (some 10) [] _ _ rfl) ?_
      rintro _ z1 ⟨y9,rfl,e2,h2⟩
      refine⟨(SF.of_below _ e2),?_⟩
      rw[Qa] at h2
      obtain⟨t2,s7,rfl⟩:=h2.iface
      have e8:=((((b3.blk (k2.below a7.below) (Ne.symm (Ne.symm b4))).below a2).below (Za a5)).below (Za a5.drew)).below e2
      have g2:=n2.ge0 (blB (Below.refl B w) hBw n1.below)
      refine ysv (.o [] 4) e8 [V0 (Yq (inB l no)),.bool (Xm (inB l no)),.slice kp (Zr (inB l no)) kc,.slice vp (Zr (inB l no)) vc] (.t B [117]) fun ag m9 w4=>⟨(Zw m9 e8 (Nat.le_trans hBw g2) (by decide)),?_⟩
      have o5:=m9.below (blB (blB (blB (blB (b3.below (blB hB hBw a7.below) (Nat.le_trans hBw c6)) hBw a2) hBw (Za a5)) hBw (Za a5.drew)) hBw e2) (Nat.le_trans hBw g2)
      have hO:=(Ze.upd_new (((((Ze.upd_new (((((((show Ze [145] w _ from(Ze.of_below n1.below)).trans (Ze.of_below n2.below)).trans (Ze.of_upd u3 a3 (by decide))).trans (Ze.of_below b0)).trans (Ze.of_below (Za W4))).trans (Ze.of_below a6)).trans (Ze.of_below a7.below)) b3 c6).trans (Ze.of_below a2)).trans (Ze.of_below (Za a5))).trans (Ze.of_below (Za a5.drew))).trans (Ze.of_below e2)) m9 g2)
      have p8:=m9.blkT ((c5.below (Za a5.drew)).below e2) e8 (by decide)
      have g8:=h2.upd m9 e8 (by decide)
      exact xec (.r [5] 5) w4 (.tuple #[.agg #[V0 (Yq (inB l no)),.bool (Xm (inB l no)),.slice kp (Zr (inB l no)) kc,.slice vp (Zr (inB l no)) vc],.iface t2 (s7)]) ⟨o5,hO,p8,.inl ⟨by(unfold Xn;(repeat' split)<;>first|rfl|assumption|decide|omega|exact absurd (Eq.trans (Eq.symm ‹Yu _ _=true›) ‹Yu _ _=false›) (by decide)|(rename_i q;exact absurd ⟨by assumption,by assumption,by assumption⟩ q)|(rename_i q;obtain⟨q1,q2,q3⟩:=q;exact absurd (Eq.trans (Eq.symm q1) ‹Xm _=false›) (by decide))|(rename_i q;obtain⟨q1,q2,q3⟩:=q;omega)),_,_,_,_,_,_,_,_,_,_,rfl,by(unfold Xn;(repeat' split)<;>first|exact g8|(exfalso;omega)|contradiction|exact absurd (Eq.trans (Eq.symm ‹Yu _ _=true›) ‹Yu _ _=false›) (by decide)|(rename_i q;exact absurd ⟨by assumption,by assumption,by assumption⟩ q)|(rename_i q;obtain⟨q1,q2,q3⟩:=q;exact absurd (Eq.trans (Eq.symm q1) ‹Xm _=false›) (by decide))|(rename_i q;obtain⟨q1,q2,q3⟩:=q;omega))⟩⟩
     refine yc 0 (args:=#[V0 no,.iface 26 (V0 10)]) (.t B [117]) (Yh no (some 10) [] _ _ rfl) ?_
     rintro _ y3 ⟨ai,rfl,d6,h3⟩
     refine⟨(SF.of_below _ d6),?_⟩
     rw[Qa] at h3
     obtain⟨v4,u2,rfl⟩:=h3.iface
     have k4:=(b9.below (Za a5.drew)).below d6
     refine xlv (.o [] 0) k4.rp ?_
     have e7:=((((b3.blk (k2.below a7.below) (Ne.symm (Ne.symm b4))).below a2).below (Za a5)).below (Za a5.drew)).below d6
     have g2:=n2.ge0 (blB (Below.refl B w) hBw n1.below)
     refine ysv (.o [] 4) e7 [V0 (Yq (inB l no)),.bool (Xm (inB l no)),.slice kp (Zr (inB l no)) kc,.slice vp (Zr (inB l no)) vc] (.t B [117]) fun ao m1 w5=>⟨(Zw m1 e7 (Nat.le_trans hBw g2) (by decide)),?_⟩
     have o9:=m1.below (blB (blB (blB (blB (b3.below (blB hB hBw a7.below) (Nat.le_trans hBw c6)) hBw a2) hBw (Za a5)) hBw (Za a5.drew)) hBw d6) (Nat.le_trans hBw g2)
     have hO:=(Ze.upd_new (((((Ze.upd_new (((((((show Ze [145] w _ from(Ze.of_below n1.below)).trans (Ze.of_below n2.below)).trans (Ze.of_upd u3 a3 (by decide))).trans (Ze.of_below b0)).trans (Ze.of_below (Za W4))).trans (Ze.of_below a6)).trans (Ze.of_below a7.below)) b3 c6).trans (Ze.of_below a2)).trans (Ze.of_below (Za a5))).trans (Ze.of_below (Za a5.drew))).trans (Ze.of_below d6)) m1 g2)
     have j5:=m1.blkT ((c5.below (Za a5.drew)).below d6) e7 (by decide)
     have g7:=h3.upd m1 e7 (by decide)
     exact xec (.r [5] 5) w5 (.tuple #[.agg #[V0 (Yq (inB l no)),.bool (Xm (inB l no)),.slice kp (Zr (inB l no)) kc,.slice vp (Zr (inB l no)) vc],.iface v4 (u2)]) ⟨o9,hO,j5,.inl ⟨by(unfold Xn;(repeat' split)<;>first|rfl|assumption|decide|omega|exact absurd (Eq.trans (Eq.symm ‹Yu _ _=true›) ‹Yu _ _=false›) (by decide)|(rename_i q;exact absurd ⟨by assumption,by assumption,by assumption⟩ q)|(rename_i q;obtain⟨q1,q2,q3⟩:=q;exact absurd (Eq.trans (Eq.symm q1) ‹Xm _=false›) (by decide))|(rename_i q;obtain⟨q1,q2,q3⟩:=q;omega)),_,_,_,_,_,_,_,_,_,_,rfl,by(unfold Xn;(repeat' split)<;>first|exact g7|(exfalso;omega)|contradiction|exact absurd (Eq.trans (Eq.symm ‹Yu _ _=true›) ‹Yu _ _=false›) (by decide)|(rename_i q;exact absurd ⟨by assumption,by assumption,by assumption⟩ q)|(rename_i q;obtain⟨q1,q2,q3⟩:=q;exact absurd (Eq.trans (Eq.symm q1) ‹Xm _=false›) (by decide))|(rename_i q;obtain⟨q1,q2,q3⟩:=q;omega))⟩⟩
    refine xlv 5 b9.rp ?_
    have f5:=((b3.blk (k2.below a7.below) (Ne.symm (Ne.symm b4))).below a2).below (Za a5)
    refine xsv 0 f5 [V0 (Yq (inB l no)),.bool (Xm (inB l no)),.slice kp (Zr (inB l no)) kc,.slice vp (Zr (inB l no)) vc] fun x3 l7 w2=>?_
    have g2:=n2.ge0 (blB (Below.refl B w) hBw n1.below)
    have r5:=l7.below (blB (blB (b3.below (blB hB hBw a7.below) (Nat.le_trans hBw c6)) hBw a2) hBw (Za a5)) (Nat.le_trans hBw g2)
    have hO:=(Ze.upd_new (((Ze.upd_new (((((((show Ze [145] w _ from(Ze.of_below n1.below)).trans (Ze.of_below n2.below)).trans (Ze.of_upd u3 a3 (by decide))).trans (Ze.of_below b0)).trans (Ze.of_below (Za W4))).trans (Ze.of_below a6)).trans (Ze.of_below a7.below)) b3 c6).trans (Ze.of_below a2)).trans (Ze.of_below (Za a5))) l7 g2)
    have l1:=l7.blkT c5 f5 (by decide)
    have r3:=l7.own2 (Zb (Zb f6 a2) (Za a5)) f5 (by decide)
    have l8:=l7.own2 (Zb (Zb (b3.own2 (Zb (Zh h4 e9) a7.below) a7.blk (by decide)) a2) (Za a5)) f5 (by decide)
    exact xec 4 w2 (.tuple #[.agg #[V0 (Yq (inB l no)),.bool (Xm (inB l no)),.slice kp (Zr (inB l no)) kc,.slice vp (Zr (inB l no)) vc],.nilIface]) ⟨r5,hO,l1,.inr ⟨by(unfold Xn;(repeat' split)<;>first|rfl|assumption|decide|omega|exact absurd (Eq.trans (Eq.symm ‹Yu _ _=true›) ‹Yu _ _=false›) (by decide)|(rename_i q;exact absurd ⟨by assumption,by assumption,by assumption⟩ q)|(rename_i q;obtain⟨q1,q2,q3⟩:=q;exact absurd (Eq.trans (Eq.symm q1) ‹Xm _=false›) (by decide))|(rename_i q;obtain⟨q1,q2,q3⟩:=q;omega)),by assumption,_,_,_,_,rfl,r3,l8⟩⟩
   have e6:=Yv e6
   refine xlv (.r [11,12,13,14,15,16,17,18,19,20,21,22,23,24] 8) b9.rp ?_
   have f3:=((b3.blk (k2.below a7.below) (Ne.symm (Ne.symm b4))).below a2).below (Za a5)
   refine xsv 0 f3 [V0 (Yq (inB l no)),.bool (Xm (inB l no)),.slice kp (Zr (inB l no)) kc,.slice vp (Zr (inB l no)) vc] fun ap i4 t3=>?_
   have g2:=n2.ge0 (blB (Below.refl B w) hBw n1.below)
   have o7:=i4.below (blB (blB (b3.below (blB hB hBw a7.below) (Nat.le_trans hBw c6)) hBw a2) hBw (Za a5)) (Nat.le_trans hBw g2)
   have hO:=(Ze.upd_new (((Ze.upd_new (((((((show Ze [145] w _ from(Ze.of_below n1.below)).trans (Ze.of_below n2.below)).trans (Ze.of_upd u3 a3 (by decide))).trans (Ze.of_below b0)).trans (Ze.of_below (Za W4))).trans (Ze.of_below a6)).trans (Ze.of_below a7.below)) b3 c6).trans (Ze.of_below a2)).trans (Ze.of_below (Za a5))) i4 g2)
   have n6:=i4.blkT c5 f3 (by decide)
   have r7:=i4.own2 (Zb (Zb f6 a2) (Za a5)) f3 (by decide)
   have i7:=i4.own2 (Zb (Zb (b3.own2 (Zb (Zh h4 e9) a7.below) a7.blk (by decide)) a2) (Za a5)) f3 (by decide)
   exact xec 4 t3 (.tuple #[.agg #[V0 (Yq (inB l no)),.bool (Xm (inB l no)),.slice kp (Zr (inB l no)) kc,.slice vp (Zr (inB l no)) vc],.nilIface]) ⟨o7,hO,n6,.inr ⟨by(unfold Xn;(repeat' split)<;>first|rfl|assumption|decide|omega|exact absurd (Eq.trans (Eq.symm ‹Yu _ _=true›) ‹Yu _ _=false›) (by decide)|(rename_i q;exact absurd ⟨by assumption,by assumption,by assumption⟩ q)|(rename_i q;obtain⟨q1,q2,q3⟩:=q;exact absurd (Eq.trans (Eq.symm q1) ‹Xm _=false›) (by decide))|(rename_i q;obtain⟨q1,q2,q3⟩:=q;omega)),by assumption,_,_,_,_,rfl,r7,i7⟩⟩
  refine xlv (.r [3,4,5,6,7,8,9,10,11,12,13,14,15,16,17,18,19,20,21,22,23,24] 8) b9.rp ?_
  have f2:=((b3.blk (k2.below a7.below) (Ne.symm (Ne.symm b4))).below a2).below (Za a5)
  refine xsv 0 f2 [V0 (Yq (inB l no)),.bool (Xm (inB l no)),.slice kp (Zr (inB l no)) kc,.slice vp (Zr (inB l no)) vc] fun z5 j7 v2=>?_
  have g2:=n2.ge0 (blB (Below.refl B w) hBw n1.below)
  have s1:=j7.below (blB (blB (b3.below (blB hB hBw a7.below) (Nat.le_trans hBw c6)) hBw a2) hBw (Za a5)) (Nat.le_trans hBw g2)
  have hO:=(Ze.upd_new (((Ze.upd_new (((((((show Ze [145] w _ from(Ze.of_below n1.below)).trans (Ze.of_below n2.below)).trans (Ze.of_upd u3 a3 (by decide))).trans (Ze.of_below b0)).trans (Ze.of_below (Za W4))).trans (Ze.of_below a6)).trans (Ze.of_below a7.below)) b3 c6).trans (Ze.of_below a2)).trans (Ze.of_below (Za a5))) j7 g2)
  have n3:=j7.blkT (((b3.blkT ((b6.below a6).below a7.below) a7.blk (by decide)).below a2).below (Za a5)) f2 (by decide)
  have q0:=j7.own2 (Zb (Zb f6 a2) (Za a5)) f2 (by decide)
  have j1:=j7.own2 (Zb (Zb (b3.own2 (Zb (Zh h4 e9) a7.below) a7.blk (by decide)) a2) (Za a5)) f2 (by decide)
  exact xec 4 v2 (.tuple #[.agg #[V0 (Yq (inB l no)),.bool (Xm (inB l no)),.slice kp (Zr (inB l no)) kc,.slice vp (Zr (inB l no)) vc],.nilIface]) ⟨s1,hO,n3,.inr ⟨by(unfold Xn;(repeat' split)<;>first|rfl|assumption|decide|omega|exact absurd (Eq.trans (Eq.symm ‹Yu _ _=true›) ‹Yu _ _=false›) (by decide)|(rename_i q;exact absurd ⟨by assumption,by assumption,by assumption⟩ q)|(rename_i q;obtain⟨q1,q2,q3⟩:=q;exact absurd (Eq.trans (Eq.symm q1) ‹Xm _=false›) (by decide))|(rename_i q;obtain⟨q1,q2,q3⟩:=q;omega)),by assumption,_,_,_,_,rfl,q0,j1⟩⟩
 refine xa 0 [V0 0,.bool false,S0,S0] 117 fun z8 ab a8=>?_
 have k2:=((u3.blkT n2.blk a3 (by decide)).below b0).below (Za W4)
 have a9:=a8.ne k2
 have hB:=blB (blB (u3.below (blB (blB (Below.refl B w) hBw n1.below) hBw n2.below) hBb) hBw b0) hBw (Za W4)
 have c2:=a8.ge0 hB
 have s4:=(((((hI.below n1.below).below n2.below).only (Ze.of_upd (T:=[145]) u3 a3 (by decide)) (by decide)).below b0).below (Za W4)).below a8.below
 refine yc (.o [] 9) (args:=#[P0 b,V0 no,V0 tree]) (.t B [117]) (Di Bi b p n c l no tree _ s4) ?_
 rintro e aj s0
 rcases s0 with ⟨he,bf,rfl,a0,hv⟩|⟨he,kp,kc,vp,vc,rfl,a0,hk,h4⟩
 ·refine⟨(SF.of_below _ a0),?_⟩
  have c3:=a8.blk.below a0
  refine ysv (.o [10,11,12] 14) c3 [V0 0,.bool false,S0,S0] (.t B [117]) fun x4 i2 u0=>⟨(Zw i2 c3 (Nat.le_trans hBw c2) (by decide)),?_⟩
  refine xlv (.r [15] 14) u0.rp ?_
  have g0:=i2.blk ((k2.below a8.below).below a0) (Ne.symm (Ne.symm a9))
  refine xsv 1 g0 [V0 0,.bool false,S0,S0] fun y6 n8 v9=>?_
  have g2:=n2.ge0 (blB (Below.refl B w) hBw n1.below)
  have r1:=n8.below (i2.below (blB (blB hB hBw a8.below) hBw a0) (Nat.le_trans hBw c2)) (Nat.le_trans hBw g2)
  have hO:=(Ze.upd_new (Ze.upd_new (((((((show Ze [145] w _ from(Ze.of_below n1.below)).trans (Ze.of_below n2.below)).trans (Ze.of_upd u3 a3 (by decide))).trans (Ze.of_below b0)).trans (Ze.of_below (Za W4))).trans (Ze.of_below a8.below)).trans (Ze.of_below a0)) i2 c2) n8 g2)
  have n7:=n8.blkT (i2.blkT ((b6.below a8.below).below a0) c3 (by decide)) g0 (by decide)
  have s2:=(hv.upd i2 c3 (by decide)).upd n8 g0 (by decide)
  exact xec 6 v9 (.tuple #[.agg #[V0 0,.bool false,S0,S0],.iface 150 (P0 bf)]) ⟨r1,hO,n7,.inl ⟨by(unfold Xn;(repeat' split)<;>first|rfl|assumption|decide|omega|exact absurd (Eq.trans (Eq.symm ‹Yu _ _=true›) ‹Yu _ _=false›) (by decide)|(rename_i q;exact absurd ⟨by assumption,by assumption,by assumption⟩ q)|(rename_i q;obtain⟨q1,q2,q3⟩:=q;exact absurd (Eq.trans (Eq.symm q1) ‹Xm _=false›) (by decide))|(rename_i q;obtain⟨q1,q2,q3⟩:=q;omega)),_,_,_,_,_,_,_,_,_,_,rfl,by(unfold Xn;(repeat' split)<;>first|exact s2|(exfalso;omega)|contradiction|exact absurd (Eq.trans (Eq.symm ‹Yu _ _=true›) ‹Yu _ _=false›) (by decide)|(rename_i q;exact absurd ⟨by assumption,by assumption,by assumption⟩ q)|(rename_i q;obtain⟨q1,q2,q3⟩:=q;exact absurd (Eq.trans (Eq.symm q1) ‹Xm _=false›) (by decide))|(rename_i q;obtain⟨q1,q2,q3⟩:=q;omega))⟩⟩
 have f0:=(blB hB hBw a8.below).size
 refine⟨(SF.of_below _ a0),?_⟩
 have c3:=a8.blk.below a0
 refine ysv (.o [10,11,12] 14) c3 [V0 (Yq (inB l no)),.bool (Xm (inB l no)),.slice kp (Zr (inB l no)) kc,.slice vp (Zr (inB l no)) vc] (.t B [117]) fun af b5 o1=>⟨(Zw b5 c3 (Nat.le_trans hBw c2) (by decide)),?_⟩
 have k1:=b5.blkT (((((u3.blkT (n1.blk.below n2.below) a3 (by decide)).below b0).below (Za W4)).below a8.below).below a0) c3 (by decide)
 refine xlv (.r [15] 14) k1.rp ?_
 refine xb 1 2 o1 ?_
 have f7:=b5.own2 (Zh hk f0) c3 (by decide)
 refine xr 0 (args:=#[.agg #[V0 lo,V0 hi],.slice kp (Zr (inB l no)) kc]) (Lv lo hi _ (Qy (inB l no) (Zr (inB l no))) _ (Ef (Zg f7) (Hz _ _))) fun a4 a1=>?_
 refine xin 4 (Qv lo hi (Qy (inB l no) (Zr (inB l no)))) (0:Int) (fun p5=>?_) (fun p5=>?_)
 ·refine xd 1 (.t B [117]) ?_
  refine xm2 (.b [1,2]) 0 3 ?_ ?_
  ·have n0:=(o1.below a1).below (Za a4)
   refine xlv 0 n0.rp ?_
   refine yc (.o [] 3) (args:=#[V0 no,.iface 26 (V0 9)]) (.t B [117]) (Yh no (some 9) [] _ _ rfl) ?_
   rintro _ ak ⟨x1,rfl,e4,g6⟩
   refine⟨(SF.of_below _ e4),?_⟩
   rw[Qa] at g6
   obtain⟨v8,t7,rfl⟩:=g6.iface
   have d1:=(((b5.blk ((k2.below a8.below).below a0) (Ne.symm (Ne.symm a9))).below a1).below (Za a4)).below e4
   have g2:=n2.ge0 (blB (Below.refl B w) hBw n1.below)
   refine ysv (.o [] 4) d1 [V0 (Yq (inB l no)),.bool (Xm (inB l no)),.slice kp (Zr (inB l no)) kc,.slice vp (Zr (inB l no)) vc] (.t B [117]) fun z6 l9 t1=>⟨(Zw l9 d1 (Nat.le_trans hBw g2) (by decide)),?_⟩
   have j2:=l9.below (blB (blB (blB (b5.below (blB (blB hB hBw a8.below) hBw a0) (Nat.le_trans hBw c2)) hBw a1) hBw (Za a4)) hBw e4) (Nat.le_trans hBw g2)
   have hO:=(Ze.upd_new ((((Ze.upd_new (((((((show Ze [145] w _ from(Ze.of_below n1.below)).trans (Ze.of_below n2.below)).trans (Ze.of_upd u3 a3 (by decide))).trans (Ze.of_below b0)).trans (Ze.of_below (Za W4))).trans (Ze.of_below a8.below)).trans (Ze.of_below a0)) b5 c2).trans (Ze.of_below a1)).trans (Ze.of_below (Za a4))).trans (Ze.of_below e4)) l9 g2)
   have i9:=l9.blkT ((((b5.blkT ((b6.below a8.below).below a0) c3 (by decide)).below a1).below (Za a4)).below e4) d1 (by decide)
   have i0:=g6.upd l9 d1 (by decide)
   exact xec (.r [5] 5) t1 (.tuple #[.agg #[V0 (Yq (inB l no)),.bool (Xm (inB l no)),.slice kp (Zr (inB l no)) kc,.slice vp (Zr (inB l no)) vc],.iface v8 (t7)]) ⟨j2,hO,i9,.inl ⟨by(unfold Xn;(repeat' split)<;>first|rfl|assumption|decide|omega|exact absurd (Eq.trans (Eq.symm ‹Yu _ _=true›) ‹Yu _ _=false›) (by decide)|(rename_i q;exact absurd ⟨by assumption,by assumption,by assumption⟩ q)|(rename_i q;obtain⟨q1,q2,q3⟩:=q;exact absurd (Eq.trans (Eq.symm q1) ‹Xm _=false›) (by decide))|(rename_i q;obtain⟨q1,q2,q3⟩:=q;omega)),_,_,_,_,_,_,_,_,_,_,rfl,by(unfold Xn;(repeat' split)<;>first|exact i0|(exfalso;omega)|contradiction|exact absurd (Eq.trans (Eq.symm ‹Yu _ _=true›) ‹Yu _ _=false›) (by decide)|(rename_i q;exact absurd ⟨by assumption,by assumption,by assumption⟩ q)|(rename_i q;obtain⟨q1,q2,q3⟩:=q;exact absurd (Eq.trans (Eq.symm q1) ‹Xm _=false›) (by decide))|(rename_i q;obtain⟨q1,q2,q3⟩:=q;omega))⟩⟩
  refine yc 0 (args:=#[V0 no,.iface 26 (V0 9)]) (.t B [117]) (Yh no (some 9) [] _ _ rfl) ?_
  rintro _ x8 ⟨ae,rfl,d7,f9⟩
  refine⟨(SF.of_below _ d7),?_⟩
  rw[Qa] at f9
  obtain⟨u1,t0,rfl⟩:=f9.iface
  have i5:=((o1.below a1).below (Za a4)).below d7
  refine xlv (.o [] 0) i5.rp ?_
  have d2:=(((b5.blk ((k2.below a8.below).below a0) (Ne.symm (Ne.symm a9))).below a1).below (Za a4)).below d7
  have g2:=n2.ge0 (blB (Below.refl B w) hBw n1.below)
  refine ysv (.o [] 4) d2 [V0 (Yq (inB l no)),.bool (Xm (inB l no)),.slice kp (Zr (inB l no)) kc,.slice vp (Zr (inB l no)) vc] (.t B [117]) fun x5 j4 s6=>⟨(Zw j4 d2 (Nat.le_trans hBw g2) (by decide)),?_⟩
  have m7:=j4.below (blB (blB (blB (b5.below (blB (blB hB hBw a8.below) hBw a0) (Nat.le_trans hBw c2)) hBw a1) hBw (Za a4)) hBw d7) (Nat.le_trans hBw g2)
  have hO:=(Ze.upd_new ((((Ze.upd_new (((((((show Ze [145] w _ from(Ze.of_below n1.below)).trans (Ze.of_below n2.below)).trans (Ze.of_upd u3 a3 (by decide))).trans (Ze.of_below b0)).trans (Ze.of_below (Za W4))).trans (Ze.of_below a8.below)).trans (Ze.of_below a0)) b5 c2).trans (Ze.of_below a1)).trans (Ze.of_below (Za a4))).trans (Ze.of_below d7)) j4 g2)
  have i8:=j4.blkT ((((b5.blkT ((b6.below a8.below).below a0) c3 (by decide)).below a1).below (Za a4)).below d7) d2 (by decide)
  have h7:=f9.upd j4 d2 (by decide)
  exact xec (.r [5] 5) s6 (.tuple #[.agg #[V0 (Yq (inB l no)),.bool (Xm (inB l no)),.slice kp (Zr (inB l no)) kc,.slice vp (Zr (inB l no)) vc],.iface u1 (t0)]) ⟨m7,hO,i8,.inl ⟨by(unfold Xn;(repeat' split)<;>first|rfl|assumption|decide|omega|exact absurd (Eq.trans (Eq.symm ‹Yu _ _=true›) ‹Yu _ _=false›) (by decide)|(rename_i q;exact absurd ⟨by assumption,by assumption,by assumption⟩ q)|(rename_i q;obtain⟨q1,q2,q3⟩:=q;exact absurd (Eq.trans (Eq.symm q1) ‹Xm _=false›) (by decide))|(rename_i q;obtain⟨q1,q2,q3⟩:=q;omega)),_,_,_,_,_,_,_,_,_,_,rfl,by(unfold Xn;(repeat' split)<;>first|exact h7|(exfalso;omega)|contradiction|exact absurd (Eq.trans (Eq.symm ‹Yu _ _=true›) ‹Yu _ _=false›) (by decide)|(rename_i q;exact absurd ⟨by assumption,by assumption,by assumption⟩ q)|(rename_i q;obtain⟨q1,q2,q3⟩:=q;exact absurd (Eq.trans (Eq.symm q1) ‹Xm _=false›) (by decide))|(rename_i q;obtain⟨q1,q2,q3⟩:=q;omega))⟩⟩
 refine xd 1 .z ?_
 have b8:=(o1.below a1).below (Za a4)
 refine xb (.e [0] 1) 1 b8 ?_
 refine xg (.b [2]) [69,70] (Xm (inB l no)) (fun s3=>?_) (fun s3=>?_)
 ·have b7:=((b5.blkT ((b6.below a8.below).below a0) c3 (by decide)).below a1).below (Za a4)
  refine xb (.e [3,4,5,6] 7) 2 b7 ?_
  refine xg (.b [8,9,10]) [76,77,78] (deep != (0:Int)) (fun e3=>?_) (fun e3=>?_)
  ·have e3:=Wp e3
   refine xb (.e [11,12,13,14] 15) 2 b7 ?_
   refine xb (.e [16,17,18] 19) 8 b7 ?_
   refine xwm (.e [20] 21) ((way.length:Int)+1) (↑(way.length+1):Int) ?_
   refine xin (.r [22,23,24] 2) deep (↑(way.length+1):Int) (fun q8=>?_) (fun q8=>?_)
   ·refine xd 1 (.t B [117]) ?_
    refine xm2 (.b [1,2]) 0 3 ?_ ?_
    ·have l3:=b8.below (Za a4.drew)
     refine xlv 0 l3.rp ?_
     refine yc (.o [] 3) (args:=#[V0 no,.iface 26 (V0 10)]) (.t B [117]) (Yh no (some 10) [] _ _ rfl) ?_
     rintro _ y7 ⟨ad,rfl,e0,h5⟩
     refine⟨(SF.of_below _ e0),?_⟩
     rw[Qa] at h5
     obtain⟨t8,u6,rfl⟩:=h5.iface
     have d5:=((((b5.blk ((k2.below a8.below).below a0) (Ne.symm (Ne.symm a9))).below a1).below (Za a4)).below (Za a4.drew)).below e0
     have g2:=n2.ge0 (blB (Below.refl B w) hBw n1.below)
     refine ysv (.o [] 4) d5 [V0 (Yq (inB l no)),.bool (Xm (inB l no)),.slice kp (Zr (inB l no)) kc,.slice vp (Zr (inB l no)) vc] (.t B [117]) fun x0 i6 t4=>⟨(Zw i6 d5 (Nat.le_trans hBw g2) (by decide)),?_⟩
     have j0:=i6.below (blB (blB (blB (blB (b5.below (blB (blB hB hBw a8.below) hBw a0) (Nat.le_trans hBw c2)) hBw a1) hBw (Za a4)) hBw (Za a4.drew)) hBw e0) (Nat.le_trans hBw g2)
     have hO:=(Ze.upd_new (((((Ze.upd_new (((((((show Ze [145] w _ from(Ze.of_below n1.below)).trans (Ze.of_below n2.below)).trans (Ze.of_upd u3 a3 (by decide))).trans (Ze.of_below b0)).trans (Ze.of_below (Za W4))).trans (Ze.of_below a8.below)).trans (Ze.of_below a0)) b5 c2).trans (Ze.of_below a1)).trans (Ze.of_below (Za a4))).trans (Ze.of_below (Za a4.drew))).trans (Ze.of_below e0)) i6 g2)
     have l4:=i6.blkT ((b7.below (Za a4.drew)).below e0) d5 (by decide)
     have g4:=h5.upd i6 d5 (by decide)
     exact xec (.r [5] 5) t4 (.tuple #[.agg #[V0 (Yq (inB l no)),.bool (Xm (inB l no)),.slice kp (Zr (inB l no)) kc,.slice vp (Zr (inB l no)) vc],.iface t8 (u6)]) ⟨j0,hO,l4,.inl ⟨by(unfold Xn;(repeat' split)<;>first|rfl|assumption|decide|omega|exact absurd (Eq.trans (Eq.symm ‹Yu _ _=true›) ‹Yu _ _=false›) (by decide)|(rename_i q;exact absurd ⟨by assumption,by assumption,by assumption⟩ q)|(rename_i q;obtain⟨q1,q2,q3⟩:=q;exact absurd (Eq.trans (Eq.symm q1) ‹Xm _=false›) (by decide))|(rename_i q;obtain⟨q1,q2,q3⟩:=q;omega)),_,_,_,_,_,_,_,_,_,_,rfl,by(unfold Xn;(repeat' split)<;>first|exact g4|(exfalso;omega)|contradiction|exact absurd (Eq.trans (Eq.symm ‹Yu _ _=true›) ‹Yu _ _=false›) (by decide)|(rename_i q;exact absurd ⟨by assumption,by assumption,by assumption⟩ q)|(rename_i q;obtain⟨q1,q2,q3⟩:=q;exact absurd (Eq.trans (Eq.symm q1) ‹Xm _=false›) (by decide))|(rename_i q;obtain⟨q1,q2,q3⟩:=q;omega))⟩⟩
    refine yc 0 (args:=#[V0 no,.iface 26 (V0 10)]) (.t B [117]) (Yh no (some 10) [] _ _ rfl) ?_
    rintro _ y8 ⟨z9,rfl,d9,g9⟩
    refine⟨(SF.of_below _ d9),?_⟩
    rw[Qa] at g9
    obtain⟨v3,v1,rfl⟩:=g9.iface
    have k0:=(b8.below (Za a4.drew)).below d9
    refine xlv (.o [] 0) k0.rp ?_
    have c8:=((((b5.blk ((k2.below a8.below).below a0) (Ne.symm (Ne.symm a9))).below a1).below (Za a4)).below (Za a4.drew)).below d9
    have g2:=n2.ge0 (blB (Below.refl B w) hBw n1.below)
    refine ysv (.o [] 4) c8 [V0 (Yq (inB l no)),.bool (Xm (inB l no)),.slice kp (Zr (inB l no)) kc,.slice vp (Zr (inB l no)) vc] (.t B [117]) fun z2 j3 w3=>⟨(Zw j3 c8 (Nat.le_trans hBw g2) (by decide)),?_⟩
    have i3:=j3.below (blB (blB (blB (blB (b5.below (blB (blB hB hBw a8.below) hBw a0) (Nat.le_trans hBw c2)) hBw a1) hBw (Za a4)) hBw (Za a4.drew)) hBw d9) (Nat.le_trans hBw g2)
    have hO:=(Ze.upd_new (((((Ze.upd_new (((((((show Ze [145] w _ from(Ze.of_below n1.below)).trans (Ze.of_below n2.below)).trans (Ze.of_upd u3 a3 (by decide))).trans (Ze.of_below b0)).trans (Ze.of_below (Za W4))).trans (Ze.of_below a8.below)).trans (Ze.of_below a0)) b5 c2).trans (Ze.of_below a1)).trans (Ze.of_below (Za a4))).trans (Ze.of_below (Za a4.drew))).trans (Ze.of_below d9)) j3 g2)
    have m8:=j3.blkT ((b7.below (Za a4.drew)).below d9) c8 (by decide)
    have f8:=g9.upd j3 c8 (by decide)
    exact xec (.r [5] 5) w3 (.tuple #[.agg #[V0 (Yq (inB l no)),.bool (Xm (inB l no)),.slice kp (Zr (inB l no)) kc,.slice vp (Zr (inB l no)) vc],.iface v3 (v1)]) ⟨i3,hO,m8,.inl ⟨by(unfold Xn;(repeat' split)<;>first|rfl|assumption|decide|omega|exact absurd (Eq.trans (Eq.symm ‹Yu _ _=true›) ‹Yu _ _=false›) (by decide)|(rename_i q;exact absurd ⟨by assumption,by assumption,by assumption⟩ q)|(rename_i q;obtain⟨q1,q2,q3⟩:=q;exact absurd (Eq.trans (Eq.symm q1) ‹Xm _=false›) (by decide))|(rename_i q;obtain⟨q1,q2,q3⟩:=q;omega)),_,_,_,_,_,_,_,_,_,_,rfl,by(unfold Xn;(repeat' split)<;>first|exact f8|(exfalso;omega)|contradiction|exact absurd (Eq.trans (Eq.symm ‹Yu _ _=true›) ‹Yu _ _=false›) (by decide)|(rename_i q;exact absurd ⟨by assumption,by assumption,by assumption⟩ q)|(rename_i q;obtain⟨q1,q2,q3⟩:=q;exact absurd (Eq.trans (Eq.symm q1) ‹Xm _=false›) (by decide))|(rename_i q;obtain⟨q1,q2,q3⟩:=q;omega))⟩⟩
   refine xlv 5 b8.rp ?_
   have d3:=((b5.blk ((k2.below a8.below).below a0) (Ne.symm (Ne.symm a9))).below a1).below (Za a4)
   refine xsv 0 d3 [V0 (Yq (inB l no)),.bool (Xm (inB l no)),.slice kp (Zr (inB l no)) kc,.slice vp (Zr (inB l no)) vc] fun w7 j8 t5=>?_
   have g2:=n2.ge0 (blB (Below.refl B w) hBw n1.below)
   have l0:=j8.below (blB (blB (b5.below (blB (blB hB hBw a8.below) hBw a0) (Nat.le_trans hBw c2)) hBw a1) hBw (Za a4)) (Nat.le_trans hBw g2)
   have hO:=(Ze.upd_new (((Ze.upd_new (((((((show Ze [145] w _ from(Ze.of_below n1.below)).trans (Ze.of_below n2.below)).trans (Ze.of_upd u3 a3 (by decide))).trans (Ze.of_below b0)).trans (Ze.of_below (Za W4))).trans (Ze.of_below a8.below)).trans (Ze.of_below a0)) b5 c2).trans (Ze.of_below a1)).trans (Ze.of_below (Za a4))) j8 g2)
   have k8:=j8.blkT b7 d3 (by decide)
   have q4:=j8.own2 (Zb (Zb f7 a1) (Za a4)) d3 (by decide)
   have m3:=j8.own2 (Zb (Zb (b5.own2 (Zh h4 f0) c3 (by decide)) a1) (Za a4)) d3 (by decide)
   exact xec 4 t5 (.tuple #[.agg #[V0 (Yq (inB l no)),.bool (Xm (inB l no)),.slice kp (Zr (inB l no)) kc,.slice vp (Zr (inB l no)) vc],.nilIface]) ⟨l0,hO,k8,.inr ⟨by(unfold Xn;(repeat' split)<;>first|rfl|assumption|decide|omega|exact absurd (Eq.trans (Eq.symm ‹Yu _ _=true›) ‹Yu _ _=false›) (by decide)|(rename_i q;exact absurd ⟨by assumption,by assumption,by assumption⟩ q)|(rename_i q;obtain⟨q1,q2,q3⟩:=q;exact absurd (Eq.trans (Eq.symm q1) ‹Xm _=false›) (by decide))|(rename_i q;obtain⟨q1,q2,q3⟩:=q;omega)),by assumption,_,_,_,_,rfl,q4,m3⟩⟩
  have e3:=Yv e3
  refine xlv (.r [11,12,13,14,15,16,17,18,19,20,21,22,23,24] 8) b8.rp ?_
  have d4:=((b5.blk ((k2.below a8.below).below a0) (Ne.symm (Ne.symm a9))).below a1).below (Za a4)
  refine xsv 0 d4 [V0 (Yq (inB l no)),.bool (Xm (inB l no)),.slice kp (Zr (inB l no)) kc,.slice vp (Zr (inB l no)) vc] fun w9 j6 w1=>?_
  have g2:=n2.ge0 (blB (Below.refl B w) hBw n1.below)
  have j9:=j6.below (blB (blB (b5.below (blB (blB hB hBw a8.below) hBw a0) (Nat.le_trans hBw c2)) hBw a1) hBw (Za a4)) (Nat.le_trans hBw g2)
  have hO:=(Ze.upd_new (((Ze.upd_new (((((((show Ze [145] w _ from(Ze.of_below n1.below)).trans (Ze.of_below n2.below)).trans (Ze.of_upd u3 a3 (by decide))).trans (Ze.of_below b0)).trans (Ze.of_below (Za W4))).trans (Ze.of_below a8.below)).trans (Ze.of_below a0)) b5 c2).trans (Ze.of_below a1)).trans (Ze.of_below (Za a4))) j6 g2)
  have l2:=j6.blkT b7 d4 (by decide)
  have p7:=j6.own2 (Zb (Zb f7 a1) (Za a4)) d4 (by decide)
  have m0:=j6.own2 (Zb (Zb (b5.own2 (Zh h4 f0) c3 (by decide)) a1) (Za a4)) d4 (by decide)
  exact xec 4 w1 (.tuple #[.agg #[V0 (Yq (inB l no)),.bool (Xm (inB l no)),.slice kp (Zr (inB l no)) kc,.slice vp (Zr (inB l no)) vc],.nilIface]) ⟨j9,hO,l2,.inr ⟨by(unfold Xn;(repeat' split)<;>first|rfl|assumption|decide|omega|exact absurd (Eq.trans (Eq.symm ‹Yu _ _=true›) ‹Yu _ _=false›) (by decide)|(rename_i q;exact absurd ⟨by assumption,by assumption,by assumption⟩ q)|(rename_i q;obtain⟨q1,q2,q3⟩:=q;exact absurd (Eq.trans (Eq.symm q1) ‹Xm _=false›) (by decide))|(rename_i q;obtain⟨q1,q2,q3⟩:=q;omega)),by assumption,_,_,_,_,rfl,p7,m0⟩⟩
 refine xlv (.r [3,4,5,6,7,8,9,10,11,12,13,14,15,16,17,18,19,20,21,22,23,24] 8) b8.rp ?_
 have d0:=((b5.blk ((k2.below a8.below).below a0) (Ne.symm (Ne.symm a9))).below a1).below (Za a4)
 refine xsv 0 d0 [V0 (Yq (inB l no)),.bool (Xm (inB l no)),.slice kp (Zr (inB l no)) kc,.slice vp (Zr (inB l no)) vc] fun y0 k9 u5=>?_
 have g2:=n2.ge0 (blB (Below.refl B w) hBw n1.below)
 have k5:=k9.below (blB (blB (b5.below (blB (blB hB hBw a8.below) hBw a0) (Nat.le_trans hBw c2)) hBw a1) hBw (Za a4)) (Nat.le_trans hBw g2)
 have hO:=(Ze.upd_new (((Ze.upd_new (((((((show Ze [145] w _ from(Ze.of_below n1.below)).trans (Ze.of_below n2.below)).trans (Ze.of_upd u3 a3 (by decide))).trans (Ze.of_below b0)).trans (Ze.of_below (Za W4))).trans (Ze.of_below a8.below)).trans (Ze.of_below a0)) b5 c2).trans (Ze.of_below a1)).trans (Ze.of_below (Za a4))) k9 g2)
 have m4:=k9.blkT (((b5.blkT ((b6.below a8.below).below a0) c3 (by decide)).below a1).below (Za a4)) d0 (by decide)
 have p3:=k9.own2 (Zb (Zb f7 a1) (Za a4)) d0 (by decide)
 have n4:=k9.own2 (Zb (Zb (b5.own2 (Zh h4 f0) c3 (by decide)) a1) (Za a4)) d0 (by decide)
 exact xec 4 u5 (.tuple #[.agg #[V0 (Yq (inB l no)),.bool (Xm (inB l no)),.slice kp (Zr (inB l no)) kc,.slice vp (Zr (inB l no)) vc],.nilIface]) ⟨k5,hO,m4,.inr ⟨by(unfold Xn;(repeat' split)<;>first|rfl|assumption|decide|omega|exact absurd (Eq.trans (Eq.symm ‹Yu _ _=true›) ‹Yu _ _=false›) (by decide)|(rename_i q;exact absurd ⟨by assumption,by assumption,by assumption⟩ q)|(rename_i q;obtain⟨q1,q2,q3⟩:=q;exact absurd (Eq.trans (Eq.symm q1) ‹Xm _=false›) (by decide))|(rename_i q;obtain⟨q1,q2,q3⟩:=q;omega)),by assumption,_,_,_,_,rfl,p3,n4⟩⟩
def Kr(K:List Int)(Vs:List Bl)(no:Int)(k:Nat):List Ent:=(List.range k).map fun j=>(K.getD j 0,Vs.getD j [],no)
theorem Wn(K:List Int)(Vs:List Bl)(no:Int)(k:Nat):(Kr K Vs no k).length=k:=by simp[Kr]
theorem Zcu(K:List Int)(Vs:List Bl)(no:Int)(k:Nat):Kr K Vs no (k+1)=Kr K Vs no k++[(K.getD k 0,Vs.getD k [],no)]:=by simp[Kr,List.range_succ]
theorem Iv(es:List Ent)(K:List Int)(Vs:List Bl)(no:Int)(k:Nat):(es++Kr K Vs no k).flatMap Hl++[V0 (K.getD k 0),.string ⟨(Vs.getD k []).toArray⟩,V0 no]=(es++Kr K Vs no (k+1)).flatMap Hl:=by
 rw[Zcu,←List.append_assoc,List.flatMap_append (xs:=es++Kr K Vs no k)]
 rfl
def LeafP(B bw:Nat)(c1 c3 c4 c5 c6 c7:Value)(pw:O0)(cw:Nat)(way:List Int)(c9:Value)(es:List Ent)(K:List Int)(Vs:List Bl)(no:Int)(n:Nat)(w:World)(e:Ending)(w':World):Prop :=
 ∃ u pe ce,e=.returned u∧Below B w w'∧Ze [145,45] w w'∧Blk w' bw [.slice pe (es.length+n) ce,c1,V0 (↑(way.length+1):Int),c3,c4,c5,c6,c7,.slice pw way.length cw,c9] 145∧w'.ownsRow B 45 3 (.slice pe (es.length+n) ce) (es.length+n) ((es++Kr K Vs no n).flatMap Hl)
theorem Ar(B bw:Nat)(c1 c2 c3 c4 c5 c6 c7 c9:Value)(pe:O0)(ce:Nat)(es:List Ent)(pw:O0)(cw:Nat)(way:List Int)(no:Int)(nt:Int)(nl:Bool)(kp vp:O0)(n kc vc:Nat)(K:List Int)(Vs:List Bl)(w:World)(hBb:B≤bw)(hBw:B≤w.heap.size)(kW:Blk w bw [.slice pe es.length ce,c1,c2,c3,c4,c5,c6,c7,.slice pw way.length cw,c9] 145)(hE:w.ownsRow B 45 3 (.slice pe es.length ce) es.length (es.flatMap Hl))(hKs:∀ W,Below B w W→Ze [145,45] w W→Sl W (.slice kp n kc) n (K.map V0))(hVs:∀ W,Below B w W→Ze [145,45] w W→Sl W (.slice vp n vc) n (Vs.map sv))(hKl:K.length=n)(hVl:Vs.length=n)(hwl:way.length≤1000000)(hn:es.length+n≤1000000) :
 C0 94 #[P0 bw,V0 no,.agg #[V0 nt,.bool nl,.slice kp n kc,.slice vp n vc]] w (LeafP B bw c1 c3 c4 c5 c6 c7 pw cw way c9 es K Vs no n w):=by
 refine zin 46 Tryz.func94 ?_
 refine xa 2 [V0 nt,.bool nl,.slice kp n kc,.slice vp n vc] 117 fun b1 W1 n1=>?_
 have a6:=kW.below n1.below
 refine xb 8 8 a6 ?_
 refine xwm 1 ((way.length:Int)+1) (↑(way.length+1):Int) ?_
 refine xs 3 a6 [.slice pe es.length ce,c1,V0 (↑(way.length+1):Int),c3,c4,c5,c6,c7,.slice pw way.length cw,c9] fun W2 u2 k2=>?_
 have k1:=u2.blkT n1.blk a6 (by decide)
 refine xb 5 2 k1 ?_
 have e0:=u2.own2 (Zb hE n1.below) a6 (by decide)
 have hB:=u2.below (blB (Below.refl B w) hBw n1.below) hBb
 have hO:=(show Ze [145,45] w _ from(Ze.of_below n1.below)).trans (Ze.of_upd u2 a6 (by decide))
 refine zl 5 46 (fun zm e9 V=>∃ (i:Nat) (pe:O0) (ce:Nat),e9=[(0,P0 bw),(1,V0 no),(5,P0 b1),(19,.slice kp n kc),(20,V0 (n:Int)),(21,V0 (i:Int))]∧zm=n-((i:Int)).toNat∧Below B w V∧Ze [145,45] w V∧Blk V bw ([.slice pe (es.length+i) ce,c1,V0 (↑(way.length+1):Int),c3,c4,c5,c6,c7,.slice pw way.length cw,c9]) 145∧Blk V b1 ([V0 nt,.bool nl,.slice kp n kc,.slice vp n vc]) 117∧V.ownsRow B 45 3 (.slice pe (es.length+i) ce) (es.length+i) ((es++Kr K Vs no i).flatMap Hl)∧i≤n) ⟨0,_,_,rfl,rfl,hB,hO,k2,k1,(by simpa [Kr] using e0),Nat.zero_le _⟩ ?_
 rintro _ _ W3 ⟨i,pe,ce,rfl,rfl,b4,b6,a8,d0,hE,hi⟩ J3 e3 r3
 refine xid 6 ((i:Int)<(n:Int)) (fun f0=>?_) (fun f0=>?_)
 ·refine xx 7 _ n i 1 (IntsN.elem (hKs _ b4 b6) hKl (k:=i) (by omega)).1 ?_
  refine xl 0 ((IntsN.elem (hKs _ b4 b6) hKl (k:=i) (by omega)).2) ?_
  refine xd 4 (.t B [145,45]) ?_
  have a2:=d0.below (Za W3)
  refine xbt (.e [0,1,2,3,4,6,7] 8) 3 B [145,45] a2 ?_
  have a5:=blB b4 hBw (Za W3)
  have b3:=b6.trans (Ze.of_below (Za W3))
  refine xx (.e [9] 10) _ n i 1 (Strs.elem (hVs _ a5 b3) hVl (k:=i) (by omega)).1 ?_
  refine xlt (.e [] 11) (.t B [145,45]) (fun V hV=>(Strs.elem (hVs _ (Dt a5 hV hBw) (b3.trans hV.2)) hVl (k:=i) (by omega)).2) ?_
  refine xm2 (.b [12,13]) 5 14 ?_ ?_
  ·have a3:=a8.below (Za W3)
   refine xb 0 0 a3 ?_
   refine xbs (.o [] 14) 1 [V0 (K.getD i 0),.string ⟨(Vs.getD i []).toArray⟩,V0 no] 45 fun b5 W5 n5=>?_
   have g5:=n5.ge0 a5
   have c8:=Zb hE (Za W3)
   have e4:=Xd c8 n5
   have a7:=Zb c8 n5.below
   have c0:=blB a5 hBw n5.below
   refine ybi (.o [] 15) (.t B [145,45]) fun _ _ _ _ zJ zQ zo zx zy zK=>Xk (m:=1) (news:=[V0 (K.getD i 0),.string ⟨(Vs.getD i []).toArray⟩,V0 no]) (.agg #[V0 0,.string ⟨#[]⟩,V0 0]) 3 32 ((es.length+(i+1))) (((es++Kr K Vs no (i+1)).flatMap Hl)) zo Tryz.underlying37 (by kernel_rfl) rfl (by decide) zx a7 zy (n5.blk.sl 1 1 (by decide) (by decide)) rfl (by simp[Value.oneCell']) (by unfold maxLen;omega) (by omega) (Nat.le_trans hBw c0.size) (by omega) (Iv _ _ _ _ _) fun e7 f2 W6 o6 d3 e1=>?_
   refine zK _ _ (Va e1 d3 a7 (by decide)) ?_
   have a1:=(a3.below n5.below).grown d3 a7 (by decide)
   refine ys (.o [16,17,18] 19) a1 [.slice e7 (es.length+(i+1)) f2,c1,V0 (↑(way.length+1):Int),c3,c4,c5,c6,c7,.slice pw way.length cw,c9] (.t B [145,45]) fun W7 u7 k7=>⟨(Zw u7 a1 hBb (by decide)),?_⟩
   refine xwm 4 ((i:Int)+1) (↑(i+1):Int) ?_
   have d8:=u7.below (c0.trans e1) hBb
   have d9:=((b3.trans (Ze.of_below n5.below)).trans (Ze.of_grown d3 a7 (by decide))).trans (Ze.of_upd u7 a1 (by decide))
   have b0:=u7.blkT ((a2.below n5.below).grown d3 a7 (by decide)) a1 (by decide)
   have d5:=u7.own2 o6 a1 (by decide)
   exact ze 2 (e3 _ _ _ ⟨i+1,_,_,rfl,rfl,d8,d9,k7,b0,d5,by omega⟩ (by omega))
  refine xbs 0 1 [V0 (K.getD i 0),.string ⟨(Vs.getD i []).toArray⟩,V0 no] 45 fun b8 W8 n8=>?_
  have g8:=n8.ge0 a5
  have d1:=Zb hE (Za W3)
  have e2:=Xd d1 n8
  have a4:=(a8.below (Za W3)).below n8.below
  refine xb (.o [] 5) 0 a4 ?_
  have a9:=Zb d1 n8.below
  have b7:=blB a5 hBw n8.below
  refine ybi (.o [] 15) (.t B [145,45]) fun _ _ _ _ zJ zQ zo zx zy zK=>Xk (m:=1) (news:=[V0 (K.getD i 0),.string ⟨(Vs.getD i []).toArray⟩,V0 no]) (.agg #[V0 0,.string ⟨#[]⟩,V0 0]) 3 32 ((es.length+(i+1))) (((es++Kr K Vs no (i+1)).flatMap Hl)) zo Tryz.underlying37 (by kernel_rfl) rfl (by decide) zx a9 zy (n8.blk.sl 1 1 (by decide) (by decide)) rfl (by simp[Value.oneCell']) (by unfold maxLen;omega) (by omega) (Nat.le_trans hBw b7.size) (by omega) (Iv _ _ _ _ _) fun f1 e8 W9 o9 d2 e5=>?_
  refine zK _ _ (Va e5 d2 a9 (by decide)) ?_
  have a0:=a4.grown d2 a9 (by decide)
  refine ys (.o [16,17,18] 19) a0 [.slice f1 (es.length+(i+1)) e8,c1,V0 (↑(way.length+1):Int),c3,c4,c5,c6,c7,.slice pw way.length cw,c9] (.t B [145,45]) fun f3 b9 e6=>⟨(Zw b9 a0 hBb (by decide)),?_⟩
  refine xwm 4 ((i:Int)+1) (↑(i+1):Int) ?_
  have d7:=b9.below (b7.trans e5) hBb
  have d6:=((b3.trans (Ze.of_below n8.below)).trans (Ze.of_grown d2 a9 (by decide))).trans (Ze.of_upd b9 a0 (by decide))
  have b2:=b9.blkT ((a2.below n8.below).grown d2 a9 (by decide)) a0 (by decide)
  have d4:=b9.own2 o9 a0 (by decide)
  exact ze 2 (e3 _ _ _ ⟨i+1,_,_,rfl,rfl,d7,d6,e6,b2,d4,by omega⟩ (by omega))
 refine xe 4 (.tuple #[]) ?_
 obtain rfl:i=n:=by omega
 exact⟨_,_,_,rfl,b4,b6,a8,hE⟩
end Go.Proofs.YtgphgaehfdfjjaaGreat
namespace Go.Proofs.YtgphgaehfdfjjaaGreat
set_option maxHeartbeats 8000000
set_option maxRecDepth 100000
open Go.RowKit Go.Extern.Stop Go.Stop Go.Extern
set_option linter.unusedVariables false
def He(u v:Value):Prop:=∀ j,u.ownBlock=some j→v.ownBlock≠some j
theorem He.symm{u v:Value}(h:He u v):He v u:=fun j h1 h2=>h j h2 h1
theorem He.grow{w:World}{u v u':Value}{base e size n:Nat}{xs:List Value}(h:He u v)(k:w.ownsRow base e size v n xs)(hl:u'.ownBlock=u.ownBlock∨u'.ownBlock=some w.heap.size):He u' v:=by
 rintro j h1 h2
 rcases hl with hl|hl
 ·exact h j (hl▸h1) h2
 ·rw[hl,Option.some.injEq] at h1
  subst h1
  have:=(k.lt _ h2).2
  omega
theorem He.row{w W:World}{u v:Value}{base e size n:Nat}{xs:List Value}(h:He u v)(k:w.ownsRow base e size v n xs)(hg:w.grownBy W u.ownBlock):W.ownsRow base e size v n xs:=by
 obtain⟨h1,h2⟩:=k
 refine⟨h1,?_⟩
 rcases h2 with h2|⟨g,a0,a1,rfl,hb,hh,r⟩
 ·exact Or.inl h2
 ·exact Or.inr ⟨g,a0,a1,rfl,hb,(hg.block g (Array.getElem?_eq_some_iff.1 hh).1 (fun q=>h g q.symm rfl)).trans hh,r⟩
theorem He.of_lt{w W:World}{u v:Value}{base base2 e e2 size size2 n n2:Nat}{xs ys:List Value}(k:w.ownsRow base e size u n xs)(q:W.ownsRow base2 e2 size2 v n2 ys)(h:w.heap.size≤base2):He u v:=fun j h1 h2=>by
 have:=(k.lt j h1).2
 have:=(q.lt j h2).1
 omega
theorem He.nil(v:Value):He (S0) v:=fun j h=>by cases h
theorem own_cut{w:World}{base e n m c:Nat}{p:O0}{xs:List Value}(k:w.ownsRow base e 1 (.slice p n c) n xs)(hm:m≤n)(hp:p.isSome=true):w.ownsRow base e 1 (.slice p m c) m (xs.take m):=by
 obtain⟨h1,h2⟩:=k
 refine⟨by rw[List.length_take];omega,?_⟩
 rcases h2 with ⟨h2,_⟩|⟨g,a4,a1,hv,hb,hh,hc,a3,a0,a2⟩
 ·cases h2;cases hp
 ·simp only[Value.slice.injEq] at hv
  obtain⟨rfl,_,rfl⟩:=hv
  refine Or.inr ⟨g,c,a1,rfl,hb,hh,by omega,a3,a0,?_⟩
  rw[←a2,List.take_take]
  congr 1
  omega
theorem Fy{P:Program}{a:Act}{w:World}{K:Act→World→Prop}{Q:Exit→Act→World→Prop}{o:Oper}{s x:Operand}{t e te:TypeId}{base:Nat}{v:Value}{n:Nat}{xs:List Value}{b m c:Nat}{news:List Value}(z:Value)(size bytes n':Nat)(xs':List Value)
 (ho:o.op=.call { callee:=.builtin .append,args:=#[s,x],argTypes:=#[t,t] }) (ht:P.underlying t=some (.slice e)) (hi:(P.info? e).map (fun i=>(i.zero,i.size,i.bytes))=some (some z,size,bytes)) (hzs:z.cells.size=size) (hsz:0<size) (hs:a.eval s=v)
 (hown:w.ownsRow base e size v n xs) (hx:a.eval x=.slice (S1 b) m c) (hnew:Blk w b news te) (hl:news.length=m*size) (h1:∀ u∈news,u.oneCell'=true) (h63:n+m≤maxLen) (hbytes:(n+m)*bytes≤140737488355328) (hbase:base≤w.heap.size) (hn:n+m=n') (hxs:xs++news=xs')
 (h:∀ p c W,W.ownsRow base e size (.slice p n' c) n' xs'→w.grownBy W v.ownBlock→Below base w W→((Value.slice p n' c).ownBlock=v.ownBlock∨(Value.slice p n' c).ownBlock=some w.heap.size)→K (a.put o.dst (.slice p n' c)) W):o.wp P a w K Q:=by
 cases hq:P.info? e with
 | none=>simp[hq] at hi
 | some i =>
  simp only[hq,Option.map_some,Option.some.injEq,Prod.mk.injEq] at hi
  have hc:∀ j u,news[j]? = some u→w.cell? ((⟨b,0,none⟩:Addr).add j)=some u:=fun j u hj=>by
   have hc:=hnew.cell hj
   by_cases h0:j=0
   ·subst h0;simpa [Addr.add] using hc
   ·simpa [Addr.add,h0] using hc
  obtain⟨v',W,hr,h2,h3,_,h5⟩:=run_append_own_at (P:=P) w base t o.type e i z size bytes ht hq hi.1 hi.2.1 hi.2.2 hzs hsz v n xs hown ⟨b,0,none⟩ m c news hl hc h1 h63 hbytes hbase
  subst hn hxs
  obtain⟨p,c2,rfl⟩:=(Zg h2).slice
  unfold Oper.wp execOp
  simp only[ho,resolve,invoke,builtin,Sem.run_bind,Sem.run_pure,Result.andThen_ok,List.map_toArray,List.map_cons,List.map_nil,hs,hx,hr]
  exact h p c2 W h2 h3 (Jz h3 hown (Nat.le_refl _) hbase) h5
structure WS where
 es:List Ent
 bs:List Int
 deep:Int
 looked:Nat
 fs:List (List Int×Int)
 dry:Bool
def Qg(way bs:List Int)(c:Int)(s:WS):WS:={ s with fs:=s.fs++[(way++bs,c)] }
def Vz(V:List Int→Int→Int→Int→WS→WS)(way:List Int)(no:Int)(val:Bl)(p:Int×Int)(s:WS):WS :=
 if Yo val=0 then V (way++[no]) (Kq val:Int) p.1 p.2 s else Qg way [no] (Yo val) s
def Qu(l:Bl)(no:Int):List Int:=Qy (inB l no) (Zr (inB l no))
def Nm(l:Bl)(no:Int):List Bl:=Jr (inB l no) (Zr (inB l no))
def Wm(V:List Int→Int→Int→Int→WS→WS)(l:Bl)(way:List Int)(no hi:Int)(s:WS)(i:Nat):WS :=
 if s.dry=true then s else Vz V way no ((Nm l no).getD i []) (Xg hi (Qu l no) i) s
def Xr(V:List Int→Int→Int→Int→WS→WS)(l:Bl)(way:List Int)(no hi:Int)(k:Nat)(s:WS):WS:=(List.range k).foldl (Wm V l way no hi) s
def Zn(l:Bl)(tree fuel:Int):Nat→List Int→Int→Int→Int→WS→WS
 | 0,_,_,_,_,s=>s
 | d+1,way,no,lo,hi,s =>
  if fuel≤s.looked then { Qg way [no] 12 s with dry:=true }
  else if Xn l way no tree lo hi s.deep≠0 then Qg way [no] (Xn l way no tree lo hi s.deep) { s with looked:=s.looked+1 }
  else if Xm (inB l no)=true then { s with looked:=s.looked+1,bs:=s.bs++[no],deep:=((way.length+1:Nat):Int),es:=s.es++Kr (Qu l no) (Nm l no) no (Zr (inB l no)) }
  else Xr (Zn l tree fuel d) l way no hi (Zr (inB l no)) { s with looked:=s.looked+1,bs:=s.bs++[no] }
theorem Js(V:List Int→Int→Int→Int→WS→WS)(l:Bl)(way:List Int)(no hi:Int)(k:Nat)(s:WS):Xr V l way no hi (k+1) s=Wm V l way no hi (Xr V l way no hi k s) k:=by
 simp[Xr,List.range_succ]
theorem Zbl(V:List Int→Int→Int→Int→WS→WS)(l:Bl)(way:List Int)(no hi:Int)(s:WS)(i:Nat)(h:s.dry=true):Wm V l way no hi s i=s:=by simp[Wm,h]
theorem Zdv(V:List Int→Int→Int→Int→WS→WS)(l:Bl)(way:List Int)(no hi:Int)(s:WS){k n:Nat}(hk:k≤n)(h:(Xr V l way no hi k s).dry=true):Xr V l way no hi n s=Xr V l way no hi k s:=by
 induction n with
 | zero =>
  obtain rfl:k=0:=by omega
  rfl
 | succ n ih =>
   rcases Nat.lt_or_ge n k with q|q
   ·obtain rfl:k=n+1:=by omega
    rfl
   ·rw[Js,ih q,Zbl _ _ _ _ _ _ _ h]
def Kb(w:World):List (List Int×Int)→List Value→Prop
 | [],[]=>True
 | f::r,v::q=>Qw w (f.1.map some) (some f.2) v∧Kb w r q
 | _,_=>False
theorem Kb.kept{w W:World}(hb:∀ blk cs,Blk w blk cs 152→Blk W blk cs 152):∀ {fs:List (List Int×Int)} {vs:List Value},Kb w fs vs→Kb W fs vs
 | [],[],h=>h
 | _::_,_::_,h=>⟨h.1.kept hb,Kb.kept hb h.2⟩
 | [],_::_,h=>h.elim
 | _::_,[],h=>h.elim
theorem Kb.only{T:List TypeId}{w W:World}{fs:List (List Int×Int)}{vs:List Value}(h:Kb w fs vs)(k:Ze T w W)(hT:T.contains 152=false):Kb W fs vs:=h.kept fun _ _ q=>q.only k hT
theorem Kb.below{w W:World}{fs:List (List Int×Int)}{vs:List Value}(h:Kb w fs vs)(hb:B0 w W):Kb W fs vs:=h.kept fun _ _ q=>q.below hb
theorem Kb.snoc{w:World}{f:List Int×Int}{v:Value}(hv:Qw w (f.1.map some) (some f.2) v):∀ {fs:List (List Int×Int)} {vs:List Value},Kb w fs vs→Kb w (fs++[f]) (vs++[v])
 | [],[],_=>⟨hv,trivial⟩
 | _::_,_::_,h=>⟨h.1,Kb.snoc hv h.2⟩
 | [],_::_,h=>h.elim
 | _::_,[],h=>h.elim
structure WalkR(B bw Bi b:Nat)(pi:Option Addr)(ni ci:Nat)(l:List UInt8)(tree fuel:Int)(way:List Int)(s:WS)(pe pb pf pw:Option Addr)(ce cb cf cw:Nat)(fv:List Value)(w:World):Prop where
 blk:Blk w bw [.slice pe s.es.length ce,.slice pb s.bs.length cb,.int .i64 s.deep,.int .i64 (s.looked:Int),.slice pf s.fs.length cf,.pointer (some ⟨b,0,none⟩),.int .i64 tree,.int .i64 fuel,.slice pw way.length cw,.bool s.dry] 145
 ents:w.ownsRow B 45 3 (.slice pe s.es.length ce) s.es.length (s.es.flatMap Hl)
 blks:w.ownsRow B 3 1 (.slice pb s.bs.length cb) s.bs.length (s.bs.map (Value.int .i64))
 flts:w.ownsRow B 31 1 (.slice pf s.fs.length cf) s.fs.length fv
 fltv:Kb w s.fs fv
 ways:w.ownsRow B 3 1 (.slice pw way.length cw) way.length (way.map (Value.int .i64))
 apart:He (.slice pb s.bs.length cb) (.slice pw way.length cw)
 img:ImgR Bi b pi ni ci l w
def Ze9(B bw Bi b:Nat)(pi:O0)(ni ci:Nat)(l:Bl)(tree fuel:Int)(way:List Int)(t:WS)(w:World)(e:Ending)(w':World):Prop :=
 ∃ u pe pb pf pw ce cb cf cw fv,e=.returned u∧Below B w w'∧Ze [145,45,3,31] w w'∧WalkR B bw Bi b pi ni ci l tree fuel way t pe pb pf pw ce cb cf cw fv w'
end Go.Proofs.YtgphgaehfdfjjaaGreat
namespace Go.Proofs.YtgphgaehfdfjjaaGreat
set_option maxHeartbeats 8000000
set_option maxRecDepth 100000
open Go.RowKit Go.Extern.Stop Go.Stop Go.Extern
set_option linter.unusedVariables false
attribute [local irreducible] wpList wpAnyH Code.wp Oper.wp Go
theorem Nv{w:World}{base e n c:Nat}{p:O0}{xs:List Value}(k:w.ownsRow base e 1 (.slice p n c) n xs)(hn:0<n):p.isSome=true∧n≤c:=by
 rcases k.2 with ⟨h,_⟩|⟨g,a0,a1,hv,_,_,hc,_⟩
 ·simp only[Value.slice.injEq] at h;omega
 ·simp only[Value.slice.injEq] at hv
  obtain⟨rfl,_,rfl⟩:=hv
  exact⟨rfl,hc⟩
theorem Lg{w:World}{base e c:Nat}{p:O0}{way:List Int}{no:Int}(k:w.ownsRow base e 1 (.slice p (way++[no]).length c) (way++[no]).length ((way++[no]).map V0)):w.ownsRow base e 1 (.slice p way.length c) way.length (way.map V0):=by
 have h:=own_cut (m:=way.length) k (by simp) (Nv k (by simp)).1
 rwa [List.map_append,List.take_left' (by simp)] at h
theorem Ib{w w':World}(h:Ze [145,31] w w'):Ze [145,45,3,31] w w':=h.mono fun t ht=>by
 simp only[List.contains_cons,List.contains_nil,Bool.or_eq_false_iff] at ht ⊢
 exact⟨ht.1,ht.2.2.2⟩
def Zga(B bw Bi b:Nat)(pi:O0)(ni ci:Nat)(l:Bl)(tree fuel:Int)(d:Nat):Prop :=
 ∀ (way:List Int) (no lo hi:Int) (s:WS) (pe pb pf pw:O0) (ce cb cf cw:Nat) (fv:List Value) (w:World),way.length+d=17→B≤w.heap.size→s.dry=false→WalkR B bw Bi b pi ni ci l tree fuel way s pe pb pf pw ce cb cf cw fv w →
  (Zn l tree fuel d way no lo hi s).es.length≤1000000→(Zn l tree fuel d way no lo hi s).bs.length≤1000000→(Zn l tree fuel d way no lo hi s).fs.length≤1000000 →
  C0 75 #[P0 bw,V0 no,.agg #[V0 lo,V0 hi]] w (Ze9 B bw Bi b pi ni ci l tree fuel way (Zn l tree fuel d way no lo hi s) w)
theorem Rr(B bw Bi b:Nat)(pi:O0)(ni ci:Nat)(l:Bl)(tree fuel:Int)(d:Nat)(hV:Zga B bw Bi b pi ni ci l tree fuel d)(way:List Int)(no lo hi:Int)(val:Bl)(s:WS)(pe pb pf pw:O0)(ce cb cf cw:Nat)(fv:List Value)(w:World)(hBb:B≤bw)(hBw:B≤w.heap.size)(hwd:way.length+1+d=17)(hdry:s.dry=false)(hvl:val.length≤1000)(hR:WalkR B bw Bi b pi ni ci l tree fuel (way++[no]) s pe pb pf pw ce cb cf cw fv w)(he:(Vz (Zn l tree fuel d) way no val (lo,hi) s).es.length≤1000000)(hb_:(Vz (Zn l tree fuel d) way no val (lo,hi) s).bs.length≤1000000)(hf:(Vz (Zn l tree fuel d) way no val (lo,hi) s).fs.length≤1000000) :
 C0 96 #[P0 bw,V0 no,.string ⟨val.toArray⟩,.agg #[V0 lo,V0 hi]] w (Ze9 B bw Bi b pi ni ci l tree fuel (way++[no]) (Vz (Zn l tree fuel d) way no val (lo,hi) s) w):=by
 obtain⟨kW,d4,d3,d1,d2,c8,d0,hI⟩:=hR
 have e7:=(Nv c8 (by simp)).2
 have e5:(way++[no]).length=way.length+1:=by simp
 refine zin 44 Tryz.func96 ?_
 refine xa 2 [V0 lo,V0 hi] 148 fun b1 W1 n1=>?_
 refine xr 5 (args:=#[.string ⟨val.toArray⟩]) (Gz val _ hvl) fun W2 a1=>?_
 refine xie 14 (Yo val) (0:Int) (fun d9=>?_) (fun d9=>?_)
 ·have k1:=n1.blk.below a1
  refine xlv 4 k1.rp ?_
  have a5:Vz (Zn l tree fuel d) way no val (lo,hi) s=Zn l tree fuel d (way++[no]) (Kq val:Int) lo hi s:=by unfold Vz;rw[if_pos (by assumption)]
  have hB:=blB (blB (Below.refl B w) hBw n1.below) hBw a1
  have c4:=(kW.below n1.below).below a1
  have a8:=Zb (Zb d4 n1.below) a1
  have b0:=Zb (Zb d3 n1.below) a1
  have a9:=Zb (Zb d1 n1.below) a1
  have b2:=(d2.below n1.below).below a1
  have b6:=Zb (Zb c8 n1.below) a1
  have c1:=(hI.below n1.below).below a1
  refine xc 0 (args:=#[P0 bw,V0 (↑(Kq val):Int),.agg #[V0 lo,V0 hi]]) (hV (way++[no]) (Kq val:Int) lo hi s pe pb pf pw ce cb cf cw fv _ (by simp;omega) (Nat.le_trans hBw hB.size) hdry ⟨c4,a8,b0,a9,b2,b6,d0,c1⟩ (by have q:=he;rw[a5] at q;exact q) (by have q:=hb_;rw[a5] at q;exact q) (by have q:=hf;rw[a5] at q;exact q)) ?_
  rintro _ W4 ⟨u4,e9,e2,c2,e3,e8,e6,c3,e1,e4,rfl,d8,d6,d7⟩
  have c7:=hB.trans d8
  have hO:=((show Ze [145,45,3,31] w _ from(Ze.of_below n1.below)).trans (Ze.of_below a1)).trans d6
  refine xe 4 (.tuple #[]) ?_
  rw[a5]
  exact⟨_,_,_,_,_,_,_,_,_,_,rfl,c7,hO,d7⟩
 have a0:=(kW.below n1.below).below a1
 refine xb 7 8 a0 ?_
 refine xwm 9 ((↑((way++[no]).length):Int)-1) (↑(((way++[no]).length)-1):Int) ?_
 refine xsH 0 (fun _ _ _ _ zo zx zy V=>Yn (k:=(((way++[no]).length)-1)) (b:=pw) (n:=(way++[no]).length) (c:=cw) (i:=(↑(((way++[no]).length)-1):Int)) (ki:=.i64) zo zx zy rfl (by omega) Tryz.underlying68 (by kernel_rfl) V) ?_
 refine xs 2 a0 [.slice pe s.es.length ce,.slice pb s.bs.length cb,V0 s.deep,V0 (s.looked:Int),.slice pf s.fs.length cf,P0 b,V0 tree,V0 fuel,.slice pw (((way++[no]).length)-1) cw,.bool s.dry] fun W5 u5 k5=>?_
 refine xc 8 (args:=#[V0 no,.iface 26 (V0 (Yo val))]) (Yh no (some (Yo val)) [] _ _ rfl) ?_
 rintro _ W6 ⟨r6,rfl,a2,c6⟩
 rw[Qa] at c6
 obtain⟨t6,x6,rfl⟩:=c6.iface
 have b7:=k5.below a2
 have a5:Vz (Zn l tree fuel d) way no val (lo,hi) s=Qg way [no] (Yo val) s:=by unfold Vz;rw[if_neg (by assumption)]
 rw[show(way++[no]).length-1=way.length by omega] at b7
 have hB:=blB (u5.below (blB (blB (Below.refl B w) hBw n1.below) hBw a1) hBb) hBw a2
 have a7:=Zb (u5.own2 (Zb (Zb d1 n1.below) a1) a0 (by decide)) a2
 have a3:=Zb (u5.own2 (Zb (Zb c8 n1.below) a1) a0 (by decide)) a2
 refine xc 0 (args:=#[P0 bw,.iface t6 (x6)]) (Ut B bw _ _ _ _ _ _ _ _ pf _ cf fv pw cw way [no] (Yo val) _ _ _ hBb (Nat.le_trans hBw hB.size) b7 a7 (Lg a3) c6 (by omega) (by have:=hf;rw[a5] at this;simp[Qg] at this;omega)) ?_
 rintro _ W7 ⟨u7,c2,c3,t2,x2,rfl,e0,a6,kN,c9,d5⟩
 refine xs 7 kN [.slice pe s.es.length ce,.slice pb s.bs.length cb,V0 s.deep,V0 (s.looked:Int),.slice c2 (s.fs.length+1) c3,P0 b,V0 tree,V0 fuel,.slice pw ((way++[no]).length) cw,.bool s.dry] fun W8 u8 k8=>?_
 have c0:=u8.below (hB.trans e0) hBb
 have hO:=(((((show Ze [145,45,3,31] w _ from(Ze.of_below n1.below)).trans (Ze.of_below a1)).trans (Ze.of_upd u5 a0 (by decide))).trans (Ze.of_below a2)).trans (Ib a6)).trans (Ze.of_upd u8 kN (by decide))
 have b3:=u8.own2 (Zi (Zb (u5.own2 (Zb (Zb d4 n1.below) a1) a0 (by decide)) a2) a6 (by decide)) kN (by decide)
 have b4:=u8.own2 (Zi (Zb (u5.own2 (Zb (Zb d3 n1.below) a1) a0 (by decide)) a2) a6 (by decide)) kN (by decide)
 have a4:=u8.own2 c9 kN (by decide)
 have b5:=d5.upd u8 kN (by decide)
 have b9:=(((((d2.below n1.below).below a1).only (Ze.of_upd (T:=[145]) u5 a0 (by decide)) (by decide)).below a2).only a6 (by decide)).only (Ze.of_upd (T:=[145]) u8 kN (by decide)) (by decide)
 have b8:=u8.own2 (Zi a3 a6 (by decide)) kN (by decide)
 have c5:=(((((hI.below n1.below).below a1).only (Ze.of_upd (T:=[145]) u5 a0 (by decide)) (by decide)).below a2).only a6 (by decide)).only (Ze.of_upd (T:=[145]) u8 kN (by decide)) (by decide)
 refine xe 1 (.tuple #[]) ?_
 rw[a5]
 exact⟨_,pe,pb,c2,pw,ce,cb,c3,cw,_,rfl,c0,hO,by simpa [Qg] using k8,b3,b4,by simpa [Qg] using a4,Kb.snoc b5 b9,b8,d0,c5⟩
end Go.Proofs.YtgphgaehfdfjjaaGreat
namespace Go.Proofs.YtgphgaehfdfjjaaGreat
set_option maxHeartbeats 8000000
set_option maxRecDepth 100000
open Go.RowKit Go.Extern.Stop Go.Stop Go.Extern
set_option linter.unusedVariables false
def Er(s t:WS):Prop:=s.es.length≤t.es.length∧s.bs.length≤t.bs.length∧s.fs.length≤t.fs.length
theorem Er.refl(s:WS):Er s s:=⟨Nat.le_refl _,Nat.le_refl _,Nat.le_refl _⟩
theorem Er.trans{s t u:WS}(h:Er s t)(k:Er t u):Er s u:=⟨Nat.le_trans h.1 k.1,Nat.le_trans h.2.1 k.2.1,Nat.le_trans h.2.2 k.2.2⟩
theorem Zbn(way bs:List Int)(c:Int)(s:WS):Er s (Qg way bs c s):=⟨Nat.le_refl _,Nat.le_refl _,by simp[Qg]⟩
theorem Tn{V:List Int→Int→Int→Int→WS→WS}(hV:∀ way no lo hi s,Er s (V way no lo hi s))(way:List Int)(no:Int)(val:Bl)(p:Int×Int)(s:WS):Er s (Vz V way no val p s):=by
 unfold Vz
 split
 ·exact hV _ _ _ _ _
 ·exact Zbn _ _ _ _
theorem Aa{V:List Int→Int→Int→Int→WS→WS}(hV:∀ way no lo hi s,Er s (V way no lo hi s))(l:Bl)(way:List Int)(no hi:Int)(s:WS)(i:Nat):Er s (Wm V l way no hi s i):=by
 unfold Wm
 split
 ·exact Er.refl _
 ·exact Tn hV _ _ _ _ _
theorem Cb{V:List Int→Int→Int→Int→WS→WS}(hV:∀ way no lo hi s,Er s (V way no lo hi s))(l:Bl)(way:List Int)(no hi:Int)(s:WS){k n:Nat}(hk:k≤n):Er (Xr V l way no hi k s) (Xr V l way no hi n s):=by
 induction n with
 | zero =>
  obtain rfl:k=0:=by omega
  exact Er.refl _
 | succ n ih =>
   rcases Nat.lt_or_ge n k with q|q
   ·obtain rfl:k=n+1:=by omega
    exact Er.refl _
   ·rw[Js]
    exact(ih q).trans (Aa hV _ _ _ _ _ _)
theorem Zbh(V:List Int→Int→Int→Int→WS→WS)(l:Bl)(way:List Int)(no hi:Int)(s:WS):Xr V l way no hi 0 s=s:=rfl
theorem Uu(l:Bl)(tree fuel:Int):∀ (d:Nat) (way:List Int) (no lo hi:Int) (s:WS),Er s (Zn l tree fuel d way no lo hi s)
 | 0,_,_,_,_,s=>Er.refl s
 | d+1,way,no,lo,hi,s=>by
  unfold Zn
  split
  ·exact⟨Nat.le_refl _,Nat.le_refl _,by simp[Qg]⟩
  ·split
   ·exact⟨Nat.le_refl _,Nat.le_refl _,by simp[Qg]⟩
   ·split
    ·exact⟨by simp,by simp,Nat.le_refl _⟩
    ·refine Er.trans ⟨?_,?_,?_⟩ (Cb (Uu l tree fuel d) l way no hi _ (Nat.zero_le _))
     ·exact Nat.le_refl _
     ·simp[Zbh]
     ·exact Nat.le_refl _
section
variable {B bw Bi b:Nat} {pi:Option Addr} {ni ci:Nat} {l:List UInt8} {tree fuel:Int} {way:List Int} {s:WS} {pe pb pf pw:Option Addr} {ce cb cf cw:Nat} {fv:List Value} {w W:World}
theorem WalkR.below(h:WalkR B bw Bi b pi ni ci l tree fuel way s pe pb pf pw ce cb cf cw fv w)(hb:B0 w W):WalkR B bw Bi b pi ni ci l tree fuel way s pe pb pf pw ce cb cf cw fv W :=
 ⟨h.blk.below hb,Zb h.ents hb,Zb h.blks hb,Zb h.flts hb,h.fltv.below hb,Zb h.ways hb,h.apart,h.img.below hb⟩
theorem WalkR.only{T:List TypeId}(h:WalkR B bw Bi b pi ni ci l tree fuel way s pe pb pf pw ce cb cf cw fv w)(hO:Ze T w W)
 (hT:T.contains 145=false∧T.contains 45=false∧T.contains 3=false∧T.contains 31=false∧T.contains 152=false∧T.contains 75=false∧T.contains 5=false):WalkR B bw Bi b pi ni ci l tree fuel way s pe pb pf pw ce cb cf cw fv W :=
 ⟨h.blk.only hO hT.1,Zi h.ents hO hT.2.1,Zi h.blks hO hT.2.2.1,Zi h.flts hO hT.2.2.2.1,h.fltv.only hO hT.2.2.2.2.1,Zi h.ways hO hT.2.2.1,h.apart,h.img.only hO ⟨hT.2.2.2.2.2.1,hT.2.2.2.2.2.2⟩⟩
end
end Go.Proofs.YtgphgaehfdfjjaaGreat
namespace Go.Proofs.YtgphgaehfdfjjaaGreat
set_option maxHeartbeats 8000000
set_option maxRecDepth 100000
open Go.RowKit Go.Extern.Stop Go.Stop Go.Extern
set_option linter.unusedVariables false
attribute [local irreducible] wpList wpAnyH Code.wp Oper.wp Go
theorem LookP.or{B bw:Nat}{cs:List Value}{l:Bl}{way:List Int}{no tree lo hi deep:Int}{w:World}{e:Ending}{w':World}(h:LookP B bw cs l way no tree lo hi deep w e w') :
 (Xn l way no tree lo hi deep≠0∧∃ a4 b4 k4 n4 c4 v4 m4 d4 ty x,e=.returned (.tuple #[.agg #[V0 a4,.bool b4,.slice k4 n4 c4,.slice v4 m4 d4],.iface ty x])∧Below B w w'∧Ze [145] w w'∧Blk w' bw cs 145∧Qw w' [some no] (some (Xn l way no tree lo hi deep)) (.iface ty x)) ∨
 (Xn l way no tree lo hi deep=0∧∃ kp kc vp vc,e=.returned (.tuple #[.agg #[V0 (Yq (inB l no)),.bool (Xm (inB l no)),.slice kp (Zr (inB l no)) kc,.slice vp (Zr (inB l no)) vc],.nilIface])∧Below B w w'∧Ze [145] w w'∧Blk w' bw cs 145 ∧
 w'.ownsRow w.heap.size 3 1 (.slice kp (Zr (inB l no)) kc) (Zr (inB l no)) ((Qu l no).map V0)∧w'.ownsRow w.heap.size 9 1 (.slice vp (Zr (inB l no)) vc) (Zr (inB l no)) ((Nm l no).map sv)):=by
 obtain⟨h1,h2,h3,⟨h4,a4,b4,k4,n4,c4,v4,m4,d4,ty,x,h5,h6⟩|⟨h4,_,kp,kc,vp,vc,h5,h6,h7⟩⟩:=h
 ·exact .inl ⟨h4,a4,b4,k4,n4,c4,v4,m4,d4,ty,x,h5,h1,h2,h3,h6⟩
 ·exact .inr ⟨h4,kp,kc,vp,vc,h5,h1,h2,h3,h6,h7⟩
theorem widG_24(t:Int)(b:Bool):widG t b≤24:=by
 unfold widG Jv
 repeat' split
 all_goals omega
theorem Lf(l:Bl)(n i:Nat):((Jr l n).getD i []).length≤1000:=by
 by_cases h:i<n
 ·rw[So l h]
  unfold Zbz
  rw[List.length_take]
  have:=widG_24 (Yq l) (Xm l)
  unfold Qj
  omega
 ·simp[List.getD,List.getElem?_eq_none (show(Jr l n).length≤i by rw[Mi];omega)]
theorem Na(p:O0)(n c n2 c2:Nat):(Value.slice p n c).ownBlock=(Value.slice p n2 c2).ownBlock:=by
 cases p<;>rfl
theorem He.len{p q:O0}{n c m d:Nat}(h:He (.slice p n c) (.slice q m d))(n2 c2 m2 d2:Nat):He (.slice p n2 c2) (.slice q m2 d2):=fun j h1 h2 =>
 h j ((Na _ _ _ _ _).trans h1) ((Na _ _ _ _ _).trans h2)
def prC (p:Int×Int):List Value:=[V0 p.1,V0 p.2]
theorem Zer(p:Int×Int):(prC p).length=2:=rfl
theorem Zee(l:List (Int×Int)):Gj l=l.flatMap prC:=by
 induction l with
 | nil=>rfl
 | cons x l ih=>simp only[Gj,List.flatMap_cons,prC];rfl
theorem Zfc{l:Bl}{way:List Int}{no tree lo hi deep:Int}(h:Xn l way no tree lo hi deep=0):Qv lo hi (Qu l no)=0∧way.length<16:=by
 unfold Xn at h
 by_cases h1:Yu way no=true
 ·rw[if_pos h1] at h;cases h
 rw[if_neg h1] at h
 by_cases h2:16≤way.length
 ·rw[if_pos h2] at h;cases h
 rw[if_neg h2] at h
 by_cases h3:Xi l no tree≠0
 ·rw[if_pos h3] at h;exact absurd h h3
 rw[if_neg h3] at h
 by_cases h4:Qv lo hi (Qy (inB l no) (Zr (inB l no)))≠0
 ·rw[if_pos h4] at h;cases h
 exact⟨Decidable.not_not.1 h4,by omega⟩
theorem Zbb(hi:Int)(l:List Int){i:Nat}(h:i<l.length):(Yt hi l).getD i (0,0)=Xg hi l i:=by simp[Yt,h]
theorem sts_sp{w:World}{p:O0}{n c:Nat}{L:List (Int×Int)}(h:Sl w (.slice p n c) n (Gj L))(hL:L.length=n):Sts prC w (.slice p L.length c) L:=by
 subst hL;rw[Zee] at h;exact h
theorem Dc(hi:Int)(l:List Int):(Yt hi l).length=l.length:=by simp[Yt]
theorem only_le{w w':World}(h:Ze [145,45] w w'):Ze [145,45,3,31] w w':=h.mono fun t ht=>by
 simp only[List.contains_cons,List.contains_nil,Bool.or_eq_false_iff] at ht ⊢
 exact⟨ht.1,ht.2.1,trivial⟩
theorem Zfy{w w':World}(h:Ze [145] w w'):Ze [145,45,3,31] w w':=h.mono fun t ht=>by
 simp only[List.contains_cons,List.contains_nil,Bool.or_eq_false_iff] at ht ⊢
 exact⟨ht.1,trivial⟩
theorem Pe(B bw Bi b:Nat)(pi:O0)(ni ci:Nat)(l:Bl)(tree fuel:Int)(d:Nat)(hV:d≠0→Zga B bw Bi b pi ni ci l tree fuel d)(way:List Int)(no lo hi:Int)(s:WS)(pe pb pf pw:O0)(ce cb cf cw:Nat)(fv:List Value)(w:World)(hBb:B≤bw)(hBw:B≤w.heap.size)(hwd:way.length+(d+1)=17)(hdry:s.dry=false)(hfu:fuel≤1000000)(hR:WalkR B bw Bi b pi ni ci l tree fuel way s pe pb pf pw ce cb cf cw fv w)(he:(Zn l tree fuel (d+1) way no lo hi s).es.length≤1000000)(hb_:(Zn l tree fuel (d+1) way no lo hi s).bs.length≤1000000)(hf:(Zn l tree fuel (d+1) way no lo hi s).fs.length≤1000000) :
 C0 75 #[P0 bw,V0 no,.agg #[V0 lo,V0 hi]] w (Ze9 B bw Bi b pi ni ci l tree fuel way (Zn l tree fuel (d+1) way no lo hi s) w):=by
 obtain⟨kW,f0,f1,e8,e9,e6,d0,hI⟩:=hR
 have y5:=f1
 have y9:=e6
 have bg:=Uu l tree fuel (d+1) way no lo hi s
 have ch:=Nat.le_trans bg.2.1 hb_
 refine zin 106 Tryz.func75 ?_
 refine xa 2 [V0 lo,V0 hi] 148 fun b1 W1 n1=>?_
 refine xd 4 .z ?_
 have f5:=(kW.below n1.below).below (Za W1)
 refine xb (.e [0,1,2,3] 4) 3 f5 ?_
 refine xb (.e [5,6,7] 8) 7 f5 ?_
 refine xid (.r [9] 2) ((s.looked:Int)≥fuel) (fun aq=>?_) (fun aq=>?_)
 ·refine xc 5 (args:=#[V0 no,.iface 26 (V0 12)]) (Yh no (some 12) [] _ _ rfl) ?_
  rintro _ W3 ⟨r3,rfl,f3,ab⟩
  rw[Qa] at ab
  obtain⟨t3,x3,rfl⟩:=ab.iface
  have d2:(Zn l tree fuel (d+1) way no lo hi s)={ Qg way [no] 12 s with dry:=true }:=by unfold Zn;rw[if_pos (by omega)]
  have hB:=blB (blB (blB (Below.refl B w) hBw n1.below) hBw (Za W1)) hBw f3
  have v9:=f5.below f3
  have p7:=Zb (Zb (Zb e8 n1.below) (Za W1)) f3
  have h2:=Zb (Zb (Zb e6 n1.below) (Za W1)) f3
  refine xc 0 (args:=#[P0 bw,.iface t3 (x3)]) (Ut B bw _ _ _ _ _ _ _ _ pf _ cf fv pw cw way [no] 12 _ _ _ hBb (Nat.le_trans hBw hB.size) v9 p7 h2 ab (by omega) (by have:=hf;rw[d2] at this;simp[Qg] at this;omega)) ?_
  rintro _ W4 ⟨u4,v5,u0,t2,x2,rfl,bc,l3,kN,j9,w4⟩
  refine xs 7 kN [.slice pe s.es.length ce,.slice pb s.bs.length cb,V0 s.deep,V0 (s.looked:Int),.slice v5 (s.fs.length+1) u0,P0 b,V0 tree,V0 fuel,.slice pw way.length cw,.bool true] fun W5 u5 k5=>?_
  have z1:=u5.below (hB.trans bc) hBb
  have hO:=((((show Ze [145,45,3,31] w _ from(Ze.of_below n1.below)).trans (Ze.of_below (Za W1))).trans (Ze.of_below f3)).trans (Ib l3)).trans (Ze.of_upd u5 kN (by decide))
  have l8:=u5.own2 (Zi (Zb (Zb (Zb f0 n1.below) (Za W1)) f3) l3 (by decide)) kN (by decide)
  have p8:=u5.own2 (Zi (Zb (Zb (Zb f1 n1.below) (Za W1)) f3) l3 (by decide)) kN (by decide)
  have j3:=u5.own2 j9 kN (by decide)
  have s9:=w4.upd u5 kN (by decide)
  have l9:=((((e9.below n1.below).below (Za W1)).below f3).only l3 (by decide)).only (Ze.of_upd (T:=[145]) u5 kN (by decide)) (by decide)
  have r2:=u5.own2 (Zi h2 l3 (by decide)) kN (by decide)
  have z6:=((((hI.below n1.below).below (Za W1)).below f3).only l3 (by decide)).only (Ze.of_upd (T:=[145]) u5 kN (by decide)) (by decide)
  refine xe 4 (.tuple #[]) ?_
  rw[d2]
  exact⟨_,pe,pb,v5,pw,ce,cb,u0,cw,_,rfl,z1,hO,by simpa [Qg] using k5,l8,p8,by simpa [Qg] using j3,Kb.snoc s9 l9,r2,d0,z6⟩
 have k1:=n1.blk.below (Za W1)
 refine xlv 6 k1.rp ?_
 have hB:=blB (blB (Below.refl B w) hBw n1.below) hBw (Za W1)
 have e4:=Zb (Zb e6 n1.below) (Za W1)
 have g5:=(hI.below n1.below).below (Za W1)
 refine xc 0 (args:=#[P0 bw,V0 no,.agg #[V0 lo,V0 hi]]) ((Ab B Bi b bw pi ni ci l _ _ _ _ _ pw cw way no tree lo hi s.deep (s.looked:Int) _ hBb (Nat.le_trans hBw hB.size) f5 e4 g5 (by omega) (by omega) (by omega)).mono (fun _ _ h=>LookP.or h)) ?_
 rintro e W6 bf
 rcases bf with ⟨hz,a4,b4,k4,n4,c4,v4,m4,d4,ty,x,rfl,x9,c3,y4,az⟩|⟨hz,kp,kc,vp,vc,rfl,x9,c3,y4,hk,v2⟩
 ·refine xa 3 [V0 0,.bool false,S0,S0] 117 fun b7 W7 n7=>?_
  have o6:=hB.trans x9
  have g7:=n7.ge0 o6
  refine xsv 0 n7.blk [V0 a4,.bool b4,.slice k4 n4 c4,.slice v4 m4 d4] fun W8 u8 k8=>?_
  have d2:(Zn l tree fuel (d+1) way no lo hi s)=Qg way [no] (Xn l way no tree lo hi s.deep) { s with looked:=s.looked+1 }:=by unfold Zn;rw[if_neg (by omega),if_pos hz]
  have q6:=u8.below (blB o6 hBw n7.below) (Nat.le_trans hBw g7)
  have p5:=u8.blkT (y4.below n7.below) n7.blk (by decide)
  have o4:=u8.own2 (Zb (Zi (Zb (Zb e8 n1.below) (Za W1)) c3 (by decide)) n7.below) n7.blk (by decide)
  have h4:=u8.own2 (Zb (Zi e4 c3 (by decide)) n7.below) n7.blk (by decide)
  have q4:=(az.below n7.below).upd u8 n7.blk (by decide)
  refine xc 15 (args:=#[P0 bw,.iface ty (x)]) (Ut B bw _ _ _ _ _ _ _ _ pf _ cf fv pw cw way [no] (Xn l way no tree lo hi s.deep) _ _ _ hBb (Nat.le_trans hBw q6.size) p5 o4 h4 q4 (by omega) (by have:=hf;rw[d2] at this;simp[Qg] at this;omega)) ?_
  rintro _ W9 ⟨u9,v5,u0,t2,x2,rfl,av,k7,kN,j9,w4⟩
  have v7:=q6.trans av
  have hO:=(Ze.upd_new ((((show Ze [145,45,3,31] w _ from(Ze.of_below n1.below)).trans (Ze.of_below (Za W1))).trans (Zfy c3)).trans (Ze.of_below n7.below)) u8 g7).trans (Ib k7)
  have q0:=Zi (u8.own2 (Zb (Zi (Zb (Zb f0 n1.below) (Za W1)) c3 (by decide)) n7.below) n7.blk (by decide)) k7 (by decide)
  have n6:=Zi (u8.own2 (Zb (Zi (Zb (Zb f1 n1.below) (Za W1)) c3 (by decide)) n7.below) n7.blk (by decide)) k7 (by decide)
  have o2:=(((((e9.below n1.below).below (Za W1)).only c3 (by decide)).below n7.below).only (Ze.of_upd (T:=[117]) u8 n7.blk (by decide)) (by decide)).only k7 (by decide)
  have n0:=Zi h4 k7 (by decide)
  have v8:=(((g5.only c3 (by decide)).below n7.below).only (Ze.of_upd (T:=[117]) u8 n7.blk (by decide)) (by decide)).only k7 (by decide)
  refine xe 4 (.tuple #[]) ?_
  rw[d2]
  exact⟨_,pe,pb,v5,pw,ce,cb,u0,cw,_,rfl,v7,hO,by simpa [Qg] using kN,q0,n6,by simpa [Qg] using j9,Kb.snoc w4 o2,n0,d0,v8⟩
 have y1:=(blB (blB (Below.refl B w) hBw n1.below) hBw (Za W1)).size
 have k0:=Zh hk y1
 have i4:=He.of_lt y5 k0 (Nat.le_refl _)
 have i2:=He.of_lt y9 k0 (Nat.le_refl _)
 refine xa 3 [V0 0,.bool false,S0,S0] 117 fun aj bp a7=>?_
 have m1:=hB.trans x9
 have w5:=a7.ge0 m1
 refine xsv 0 a7.blk [V0 (Yq (inB l no)),.bool (Xm (inB l no)),.slice kp (Zr (inB l no)) kc,.slice vp (Zr (inB l no)) vc] fun bu c8 bj=>?_
 have h9:=c8.blkT (y4.below a7.below) a7.blk (by decide)
 refine xb 20 1 h9 ?_
 refine xbs 1 1 [V0 no] 3 fun bh bt b8=>?_
 have s0:=c8.below (blB m1 hBw a7.below) (Nat.le_trans hBw w5)
 have cd:=b8.ge0 s0
 have h5:=c8.own2 (Zb (Zi (Zb (Zb f1 n1.below) (Za W1)) c3 (by decide)) a7.below) a7.blk (by decide)
 have u3:=Xd h5 b8
 have g8:=c8.own2 (Zb (Zi e4 c3 (by decide)) a7.below) a7.blk (by decide)
 have v1:=Xd g8 b8
 have r1:=c8.own2 (Zb k0 a7.below) a7.blk (by decide)
 have z4:=Xd r1 b8
 have a1:=Zb h5 b8.below
 have i3:=blB s0 hBw b8.below
 refine xbi 0 fun _ _ _ _ zJ zQ zo zx zy zK=>Fy (b:=bh) (c:=1) (m:=1) (news:=[V0 no]) (V0 0) 1 8 ((s.bs++[no]).length) (((s.bs++[no]).map V0)) zo Tryz.underlying68 (by kernel_rfl) rfl (by decide) zx a1 zy b8.blk rfl (by simp[Value.oneCell']) (by unfold maxLen;omega) (by omega) (Nat.le_trans hBw i3.size) (by simp) (by simp) fun t1 s6 bn ad a9 o0 o9=>?_
 have h0:=Zb g8 b8.below
 have g2:=d0.row h0 a9
 replace d0:=(d0.grow h0 o9)
 have s3:=Zb r1 b8.below
 have i9:=i4.row s3 a9
 replace i4:=(i4.grow s3 o9)
 have e5:=g2
 have h1:=i9
 refine zK _ _ ?_
 have a0:=(h9.below b8.below).grown a9 a1 (by decide)
 refine xs 3 a0 [.slice pe s.es.length ce,.slice t1 ((s.bs++[no]).length) s6,V0 s.deep,V0 ((s.looked:Int)+1),.slice pf s.fs.length cf,P0 b,V0 tree,V0 fuel,.slice pw way.length cw,.bool s.dry] fun cs c2 z5=>?_
 have e2:=c2.blkT ((bj.below b8.below).grown a9 a1 (by decide)) a0 (by decide)
 refine xb 6 1 e2 ?_
 refine xi 2 (Xm (inB l no)) (fun y0=>?_) (fun y0=>?_)
 ·refine xlv 4 e2.rp ?_
  have d2:(Zn l tree fuel (d+1) way no lo hi s)={ s with looked:=s.looked+1,bs:=s.bs++[no],deep:=((way.length+1:Nat):Int),es:=s.es++Kr (Qu l no) (Nm l no) no (Zr (inB l no)) }:=by unfold Zn;rw[if_neg (by omega),if_neg (by omega),if_pos (by assumption)]
  have s5:=c2.below (i3.trans o0) hBb
  have m9:=c2.own2 (Xb (Zb (c8.own2 (Zb (Zi (Zb (Zb f0 n1.below) (Za W1)) c3 (by decide)) a7.below) a7.blk (by decide)) b8.below) a9 a1 (by decide)) a0 (by decide)
  have y2:=c2.own2 h1 a0 (by decide)
  have p3:=c2.own2 (Xb (Zb (c8.own2 (Zb (Zh v2 y1) a7.below) a7.blk (by decide)) b8.below) a9 a1 (by decide)) a0 (by decide)
  refine xc 0 (args:=#[P0 bw,V0 no,.agg #[V0 (Yq (inB l no)),.bool (Xm (inB l no)),.slice kp (Zr (inB l no)) kc,.slice vp (Zr (inB l no)) vc]]) (Ar B bw _ _ _ _ _ _ _ _ pe ce s.es pw cw way no _ _ kp vp _ kc vc (Qu l no) (Nm l no) _ hBb (Nat.le_trans hBw s5.size) z5 m9 (fun W _ q=>Zg (Zi y2 q (by decide))) (fun W _ q=>Zg (Zi p3 q (by decide))) (by simp[Qu,Qy]) (by simp[Nm,Jr]) (by omega) (by have:=he;rw[d2] at this;simp[Wn] at this;omega)) ?_
  rintro _ cg ⟨ca,bi,au,rfl,y3,d7,kE,aw⟩
  have z2:=s5.trans y3
  have hO:=((((Ze.upd_new ((((show Ze [145,45,3,31] w _ from(Ze.of_below n1.below)).trans (Ze.of_below (Za W1))).trans (Zfy c3)).trans (Ze.of_below a7.below)) c8 w5).trans (Ze.of_below b8.below)).trans (Ze.of_grown a9 a1 (by decide))).trans (Ze.of_upd c2 a0 (by decide))).trans (only_le d7)
  have o3:=Zi (c2.own2 ad a0 (by decide)) d7 (by decide)
  have n2:=Zi (c2.own2 (Xb (Zb (c8.own2 (Zb (Zi (Zb (Zb e8 n1.below) (Za W1)) c3 (by decide)) a7.below) a7.blk (by decide)) b8.below) a9 a1 (by decide)) a0 (by decide)) d7 (by decide)
  have q1:=((((((((e9.below n1.below).below (Za W1)).only c3 (by decide)).below a7.below).only (Ze.of_upd (T:=[117]) c8 a7.blk (by decide)) (by decide)).below b8.below).only (Ze.of_grown (T:=[3]) a9 a1 (by decide)) (by decide)).only (Ze.of_upd (T:=[145]) c2 a0 (by decide)) (by decide)).only d7 (by decide)
  have o8:=Zi (c2.own2 e5 a0 (by decide)) d7 (by decide)
  have z9:=((((((g5.only c3 (by decide)).below a7.below).only (Ze.of_upd (T:=[117]) c8 a7.blk (by decide)) (by decide)).below b8.below).only (Ze.of_grown (T:=[3]) a9 a1 (by decide)) (by decide)).only (Ze.of_upd (T:=[145]) c2 a0 (by decide)) (by decide)).only d7 (by decide)
  refine xe 4 (.tuple #[]) ?_
  rw[d2]
  exact⟨_,bi,_,pf,pw,au,_,cf,cw,fv,rfl,z2,hO,by simpa [Wn] using kE,by simpa [Wn] using aw,by simpa using o3,n2,q1,o8,by simpa using d0,z9⟩
 refine xb 8 8 z5 ?_
 refine xbs 1 1 [V0 no] 3 fun ap cm c7=>?_
 have g9:=c2.below (i3.trans o0) hBb
 have bq:=c7.ge0 g9
 have i0:=c2.own2 e5 a0 (by decide)
 have v0:=Xd i0 c7
 have t5:=c2.own2 h1 a0 (by decide)
 have x5:=Xd t5 c7
 have h6:=c2.own2 ad a0 (by decide)
 have t9:=Xd h6 c7
 have a2:=Zb i0 c7.below
 have h8:=blB g9 hBw c7.below
 refine xbi 0 fun _ _ _ _ zJ zQ zo zx zy zK=>Fy (b:=ap) (c:=1) (m:=1) (news:=[V0 no]) (V0 0) 1 8 ((way++[no]).length) (((way++[no]).map V0)) zo Tryz.underlying68 (by kernel_rfl) rfl (by decide) zx a2 zy c7.blk rfl (by simp[Value.oneCell']) (by unfold maxLen;omega) (by omega) (Nat.le_trans hBw h8.size) (by simp) (by simp) fun z8 w3 co bm b9 x0 m3=>?_
 have h7:=Zb h6 c7.below
 have g4:=d0.symm.row h7 b9
 replace d0:=(d0.symm.grow h7 m3).symm
 have n8:=Zb t5 c7.below
 have j2:=i2.row n8 b9
 replace i2:=(i2.grow n8 m3)
 have i6:=g4
 have q2:=j2
 refine zK _ _ ?_
 have a3:=(z5.below c7.below).grown b9 a2 (by decide)
 refine xs 2 a3 [.slice pe s.es.length ce,.slice t1 ((s.bs++[no]).length) s6,V0 s.deep,V0 ((s.looked:Int)+1),.slice pf s.fs.length cf,P0 b,V0 tree,V0 fuel,.slice z8 ((way++[no]).length) w3,.bool s.dry] fun cc e0 ay=>?_
 have p9:=e0.blkT (((c2.blkT (((c8.blkT ((k1.only c3 (by decide)).below a7.below) a7.blk (by decide)).below b8.below).grown a9 a1 (by decide)) a0 (by decide)).below c7.below).grown b9 a2 (by decide)) a3 (by decide)
 refine xlv 5 p9.rp ?_
 have h3:=e0.blkT ((e2.below c7.below).grown b9 a2 (by decide)) a3 (by decide)
 refine xb 1 2 h3 ?_
 have g6:=e0.below (h8.trans x0) hBb
 have x4:=g6.size
 obtain⟨w9,ao⟩:=Zfc hz
 have q7:(Qu l no).length=Zr (inB l no):=by simp[Qu,Qy]
 have bz:Zr (inB l no)<65536:=Ez _ 2 2
 have x6:=e0.own2 q2 a3 (by decide)
 refine xc 0 (args:=#[.agg #[V0 lo,V0 hi],.slice kp (Zr (inB l no)) kc]) (Te lo hi _ (Qu l no) _ (by rw[q7];omega) (Ef (Zg x6) q7)) ?_
 rintro _ bd ⟨cn,rfl,b6,_,z3⟩
 obtain⟨gs,rfl,bl,kS⟩:=z3 w9
 rw[q7]
 have l2:=Xo (size:=2) (n:=Zr (inB l no)) kS (Nat.le_trans x4 bl) (by rw[Pl,Dc,q7]) (by unfold maxLen;omega)
 have d2:(Zn l tree fuel (d+1) way no lo hi s)=(Xr (Zn l tree fuel d) l way no hi (Zr (inB l no)) { s with looked:=s.looked+1,bs:=s.bs++[no] }):=by unfold Zn;rw[if_neg (by omega),if_neg (by omega),if_neg (by simp;assumption)]
 have p2:(Yt hi (Qu l no)).length=(Zr (inB l no)):=by rw[Dc,q7]
 have al:(Nm l no).length=(Zr (inB l no)):=by simp[Nm,Jr]
 have s2:=ay.below b6
 have o1:=Zb (e0.own2 (Xb (Zb (c2.own2 (Xb (Zb (c8.own2 (Zb (Zi (Zb (Zb f0 n1.below) (Za W1)) c3 (by decide)) a7.below) a7.blk (by decide)) b8.below) a9 a1 (by decide)) a0 (by decide)) c7.below) b9 a2 (by decide)) a3 (by decide)) b6
 have m5:=Zb (e0.own2 i6 a3 (by decide)) b6
 have m6:=Zb (e0.own2 (Xb (Zb (c2.own2 (Xb (Zb (c8.own2 (Zb (Zi (Zb (Zb e8 n1.below) (Za W1)) c3 (by decide)) a7.below) a7.blk (by decide)) b8.below) a9 a1 (by decide)) a0 (by decide)) c7.below) b9 a2 (by decide)) a3 (by decide)) b6
 have o7:=(((((((((((e9.below n1.below).below (Za W1)).only c3 (by decide)).below a7.below).only (Ze.of_upd (T:=[117]) c8 a7.blk (by decide)) (by decide)).below b8.below).only (Ze.of_grown (T:=[3]) a9 a1 (by decide)) (by decide)).only (Ze.of_upd (T:=[145]) c2 a0 (by decide)) (by decide)).below c7.below).only (Ze.of_grown (T:=[3]) b9 a2 (by decide)) (by decide)).only (Ze.of_upd (T:=[145]) e0 a3 (by decide)) (by decide)).below b6
 have r4:=Zb (e0.own2 bm a3 (by decide)) b6
 have x7:=(((((((((g5.only c3 (by decide)).below a7.below).only (Ze.of_upd (T:=[117]) c8 a7.blk (by decide)) (by decide)).below b8.below).only (Ze.of_grown (T:=[3]) a9 a1 (by decide)) (by decide)).only (Ze.of_upd (T:=[145]) c2 a0 (by decide)) (by decide)).below c7.below).only (Ze.of_grown (T:=[3]) b9 a2 (by decide)) (by decide)).only (Ze.of_upd (T:=[145]) e0 a3 (by decide)) (by decide)).below b6
 have hR:WalkR B bw Bi b pi ni ci l tree fuel (way++[no]) (Xr (Zn l tree fuel d) l way no hi 0 { s with looked:=s.looked+1,bs:=s.bs++[no] }) pe _ pf _ ce _ cf _ fv bd:=⟨s2,o1,m5,m6,o7,r4,d0,x7⟩
 have l6:=Zb (e0.own2 (Xb (Zb (c2.own2 (Xb (Zb (c8.own2 (Zb (Zh v2 y1) a7.below) a7.blk (by decide)) b8.below) a9 a1 (by decide)) a0 (by decide)) c7.below) b9 a2 (by decide)) a3 (by decide)) b6
 have l4:=blB g6 hBw b6
 have hO:=(((((((Ze.upd_new ((((show Ze [145,45,3,31] w _ from(Ze.of_below n1.below)).trans (Ze.of_below (Za W1))).trans (Zfy c3)).trans (Ze.of_below a7.below)) c8 w5).trans (Ze.of_below b8.below)).trans (Ze.of_grown a9 a1 (by decide))).trans (Ze.of_upd c2 a0 (by decide))).trans (Ze.of_below c7.below)).trans (Ze.of_grown b9 a2 (by decide))).trans (Ze.of_upd e0 a3 (by decide))).trans (Ze.of_below b6)
 have y6:=p9.below b6
 have q3:=h3.below b6
 refine zl 5 106 (fun zm bk V=>∃ (i:Nat) (j6 j1 i7 f6:O0) (i1 j8 j7 f4:Nat) (m0:List Value),bk=[(0,P0 bw),(1,V0 no),(6,P0 aj),(71,.slice (S1 gs) (Zr (inB l no)) (Zr (inB l no))),(72,V0 (↑(Zr (inB l no)):Int)),(73,V0 (i:Int))]∧zm=(Zr (inB l no))-((i:Int)).toNat∧Below B w V∧Ze [145,45,3,31] w V∧Blk V b1 ([V0 lo,V0 hi]) 148∧Blk V aj ([V0 (Yq (inB l no)),.bool (Xm (inB l no)),.slice kp (Zr (inB l no)) kc,.slice vp (Zr (inB l no)) vc]) 117∧WalkR B bw Bi b pi ni ci l tree fuel (way++[no]) (Xr (Zn l tree fuel d) l way no hi i { s with looked:=s.looked+1,bs:=s.bs++[no] }) j6 j1 i7 f6 i1 j8 j7 f4 m0 V∧V.ownsRow w.heap.size 9 1 (.slice vp (Zr (inB l no)) vc) (Zr (inB l no)) ((Nm l no).map sv)∧V.ownsRow w.heap.size 148 2 (.slice (S1 gs) (Zr (inB l no)) (Zr (inB l no))) (Zr (inB l no)) (Gj (Yt hi (Qu l no)))∧i≤(Zr (inB l no))∧(Xr (Zn l tree fuel d) l way no hi i { s with looked:=s.looked+1,bs:=s.bs++[no] }).dry=false) ⟨0,_,_,_,_,_,_,_,_,_,rfl,rfl,l4,hO,y6,q3,hR,l6,l2,Nat.zero_le _,hdry⟩ ?_
 rintro _ _ c0 ⟨i,j6,j1,i7,f6,i1,j8,j7,f4,m0,rfl,rfl,d5,c9,b3,c6,hR,v2,l2,ck,af⟩ cr x1 cj
 have j5:=hR.blk
 refine xid 6 ((i:Int)<(↑(Zr (inB l no)):Int)) (fun w7=>?_) (fun w7=>?_)
 ·refine xx 7 _ (Zr (inB l no)) i 2 (Sts.cell (sts_sp (Zg l2) p2) Zer (0,0) (k:=i) (i:=0) (show i<(Yt hi (Qu l no)).length by omega) rfl).1 ?_
  refine xlv 0 (Sts.rp (k:=i) (sts_sp (Zg l2) p2) Zer (0,0) (by omega) (by decide)) ?_
  refine xa 0 [V0 0,V0 0] 148 fun cq cl c5=>?_
  have d1:=c5.ne b3
  have v6:=c5.ge0 d5
  have g0:=Xd l2 c5
  refine xsv 1 c5.blk [V0 (((Yt hi (Qu l no)).getD i (0,0)).1),V0 (((Yt hi (Qu l no)).getD i (0,0)).2)] fun d8 d9 ax=>?_
  refine xd 3 (.t B [145,45,3,31]) ?_
  have b2:=(d9.blkT (c6.below c5.below) c5.blk (by decide)).below (Za d8)
  refine xbt (.e [0,1,2] 3) 3 B [145,45,3,31] b2 ?_
  have e7:=Zb (d9.own2 (Zb v2 c5.below) c5.blk (by decide)) (Za d8)
  refine xx (.e [4] 5) _ (Zr (inB l no)) i 1 (Strs.elem (Zg e7) al (k:=i) (by omega)).1 ?_
  refine xlt (.e [] 6) (.t B [145,45,3,31]) (fun V hV=>(Strs.elem (Zg (Zi e7 hV.2 (by decide))) al (k:=i) (by omega)).2) ?_
  have s7:=ax.below (Za d8)
  refine xlvt (.e [] 7) (.t B [145,45,3,31]) (fun V hV=>(s7.only hV.2 (by decide)).rp) ?_
  have ba:=Zbb hi (Qu l no) (i:=i) (by omega)
  have g1:Vz (Zn l tree fuel d) way no ((Nm l no).getD i []) (((Yt hi (Qu l no)).getD i (0,0)).1,((Yt hi (Qu l no)).getD i (0,0)).2) (Xr (Zn l tree fuel d) l way no hi i { s with looked:=s.looked+1,bs:=s.bs++[no] })=(Xr (Zn l tree fuel d) l way no hi (i+1) { s with looked:=s.looked+1,bs:=s.bs++[no] }):=by rw[Js];unfold Wm;rw[if_neg (by rw[af];decide),ba]
  have z0:=Cb (Uu l tree fuel d) l way no hi { s with looked:=s.looked+1,bs:=s.bs++[no] } (show i+1≤(Zr (inB l no)) by omega)
  rw[d2] at he hb_ hf
  have d3:=blB (d9.below (blB d5 hBw c5.below) (Nat.le_trans hBw v6)) hBw (Za d8)
  have z7:=((hR.below c5.below).only (Ze.of_upd (T:=[148]) d9 c5.blk (by decide)) (by decide)).below (Za d8)
  refine yc (.o [] 8) (args:=#[P0 bw,V0 no,.string ⟨((Nm l no).getD i []).toArray⟩,.agg #[V0 (((Yt hi (Qu l no)).getD i (0,0)).1),V0 (((Yt hi (Qu l no)).getD i (0,0)).2)]]) (.t B [145,45,3,31]) (Rr B bw Bi b pi ni ci l tree fuel d (hV (by omega)) way no _ _ ((Nm l no).getD i []) _ j6 j1 i7 f6 i1 j8 j7 f4 m0 _ hBb (Nat.le_trans hBw d3.size) (by omega) af (Lf _ _ _) z7 (by rw[g1];exact Nat.le_trans z0.1 he) (by rw[g1];exact Nat.le_trans z0.2.1 hb_) (by rw[g1];exact Nat.le_trans z0.2.2 hf)) ?_
  rintro _ c1 ⟨bx,u1,v3,u2,l1,t8,t7,u6,k6,ac,rfl,f2,b5,u7⟩
  have ag:=(d9.blkT (j5.below c5.below) c5.blk (by decide)).below (Za d8)
  refine⟨(sft_only f2 b5),?_⟩
  rw[g1] at u7
  have j5:=u7.blk
  refine xb 7 9 j5 ?_
  refine xi 2 ((Xr (Zn l tree fuel d) l way no hi (i+1) { s with looked:=s.looked+1,bs:=s.bs++[no] }).dry) (fun r0=>?_) (fun r0=>?_)
  ·obtain⟨_,f0,f1,e8,e9,e6,d0,hI⟩:=u7
   have ar:=(Nv e6 (by simp)).2
   have bb:(way++[no]).length=way.length+1:=by simp
   have e1:(Xr (Zn l tree fuel d) l way no hi (Zr (inB l no)) { s with looked:=s.looked+1,bs:=s.bs++[no] })=(Xr (Zn l tree fuel d) l way no hi (i+1) { s with looked:=s.looked+1,bs:=s.bs++[no] }):=Zdv _ _ _ _ _ _ (by omega) r0
   refine xd 6 (.t B [145]) ?_
   refine xm2 (.b [0,1,2,3,5,6,7]) 4 8 ?_ ?_
   ·have a5:=j5.below (Za c1)
    refine xb 0 8 a5 ?_
    refine xb (.o [] 8) 8 a5 ?_
    refine xwm (.e [9] 10) ((↑((way++[no]).length):Int)-1) (↑(((way++[no]).length)-1):Int) ?_
    refine xsH (.e [] 11) (fun _ _ _ _ zo zx zy V=>Yn (k:=(((way++[no]).length)-1)) (b:=l1) (n:=(way++[no]).length) (c:=k6) (i:=(↑(((way++[no]).length)-1):Int)) (ki:=.i64) zo zx zy rfl (by omega) Tryz.underlying68 (by kernel_rfl) V) ?_
    refine ys (.o [12,13] 14) a5 [.slice u1 ((Xr (Zn l tree fuel d) l way no hi (i+1) { s with looked:=s.looked+1,bs:=s.bs++[no] }).es.length) t8,.slice v3 ((Xr (Zn l tree fuel d) l way no hi (i+1) { s with looked:=s.looked+1,bs:=s.bs++[no] }).bs.length) t7,V0 (Xr (Zn l tree fuel d) l way no hi (i+1) { s with looked:=s.looked+1,bs:=s.bs++[no] }).deep,V0 ((Xr (Zn l tree fuel d) l way no hi (i+1) { s with looked:=s.looked+1,bs:=s.bs++[no] }).looked:Int),.slice u2 ((Xr (Zn l tree fuel d) l way no hi (i+1) { s with looked:=s.looked+1,bs:=s.bs++[no] }).fs.length) u6,P0 b,V0 tree,V0 fuel,.slice l1 (((way++[no]).length)-1) k6,.bool ((Xr (Zn l tree fuel d) l way no hi (i+1) { s with looked:=s.looked+1,bs:=s.bs++[no] }).dry)] (.t B [145]) fun cp g3 ai=>⟨(Zw g3 a5 hBb (by decide)),?_⟩
    have t6:=(((d9.blk (b3.below c5.below) (Ne.symm (Ne.symm d1))).below (Za d8)).only b5 (by decide)).below (Za c1)
    have k3:=(b2.only b5 (by decide)).below (Za c1)
    have m7:=g3.below (blB (d3.trans f2) hBw (Za c1)) hBb
    have w2:=((((Ze.upd_new (c9.trans (Ze.of_below c5.below)) d9 v6).trans (Ze.of_below (Za d8))).trans b5).trans (Ze.of_below (Za c1))).trans (Ze.of_upd g3 a5 (by decide))
    have q5:=g3.own2 (Zb f0 (Za c1)) a5 (by decide)
    have p0:=g3.own2 (Zb f1 (Za c1)) a5 (by decide)
    have s1:=g3.own2 (Zb e8 (Za c1)) a5 (by decide)
    have t4:=(e9.below (Za c1)).only (Ze.of_upd (T:=[145]) g3 a5 (by decide)) (by decide)
    have j0:=g3.own2 (Zb e6 (Za c1)) a5 (by decide)
    have w1:=(hI.below (Za c1)).only (Ze.of_upd (T:=[145]) g3 a5 (by decide)) (by decide)
    refine xe 1 (.tuple #[]) ?_
    rw[d2,e1]
    rw[show(way++[no]).length-1=way.length by simp] at ai
    exact⟨_,u1,v3,u2,l1,t8,t7,u6,k6,ac,rfl,m7,w2,ai,q5,p0,s1,t4,Lg j0,d0.len _ _ _ _,w1⟩
   have a6:=j5.below (Za c1)
   refine xb 0 8 a6 ?_
   refine xwm (.e [9] 10) ((↑((way++[no]).length):Int)-1) (↑(((way++[no]).length)-1):Int) ?_
   refine xb (.o [] 4) 8 a6 ?_
   refine xsH (.e [] 11) (fun _ _ _ _ zo zx zy V=>Yn (k:=(((way++[no]).length)-1)) (b:=l1) (n:=(way++[no]).length) (c:=k6) (i:=(↑(((way++[no]).length)-1):Int)) (ki:=.i64) zo zx zy rfl (by omega) Tryz.underlying68 (by kernel_rfl) V) ?_
   refine ys (.o [12,13] 14) a6 [.slice u1 ((Xr (Zn l tree fuel d) l way no hi (i+1) { s with looked:=s.looked+1,bs:=s.bs++[no] }).es.length) t8,.slice v3 ((Xr (Zn l tree fuel d) l way no hi (i+1) { s with looked:=s.looked+1,bs:=s.bs++[no] }).bs.length) t7,V0 (Xr (Zn l tree fuel d) l way no hi (i+1) { s with looked:=s.looked+1,bs:=s.bs++[no] }).deep,V0 ((Xr (Zn l tree fuel d) l way no hi (i+1) { s with looked:=s.looked+1,bs:=s.bs++[no] }).looked:Int),.slice u2 ((Xr (Zn l tree fuel d) l way no hi (i+1) { s with looked:=s.looked+1,bs:=s.bs++[no] }).fs.length) u6,P0 b,V0 tree,V0 fuel,.slice l1 (((way++[no]).length)-1) k6,.bool ((Xr (Zn l tree fuel d) l way no hi (i+1) { s with looked:=s.looked+1,bs:=s.bs++[no] }).dry)] (.t B [145]) fun br f9 ae=>⟨(Zw f9 a6 hBb (by decide)),?_⟩
   have r5:=(((d9.blk (b3.below c5.below) (Ne.symm (Ne.symm d1))).below (Za d8)).only b5 (by decide)).below (Za c1)
   have l0:=(b2.only b5 (by decide)).below (Za c1)
   have n5:=f9.below (blB (d3.trans f2) hBw (Za c1)) hBb
   have w6:=((((Ze.upd_new (c9.trans (Ze.of_below c5.below)) d9 v6).trans (Ze.of_below (Za d8))).trans b5).trans (Ze.of_below (Za c1))).trans (Ze.of_upd f9 a6 (by decide))
   have r9:=f9.own2 (Zb f0 (Za c1)) a6 (by decide)
   have r6:=f9.own2 (Zb f1 (Za c1)) a6 (by decide)
   have m2:=f9.own2 (Zb e8 (Za c1)) a6 (by decide)
   have p4:=(e9.below (Za c1)).only (Ze.of_upd (T:=[145]) f9 a6 (by decide)) (by decide)
   have i5:=f9.own2 (Zb e6 (Za c1)) a6 (by decide)
   have y7:=(hI.below (Za c1)).only (Ze.of_upd (T:=[145]) f9 a6 (by decide)) (by decide)
   refine xe 1 (.tuple #[]) ?_
   rw[d2,e1]
   rw[show(way++[no]).length-1=way.length by simp] at ae
   exact⟨_,u1,v3,u2,l1,t8,t7,u6,k6,ac,rfl,n5,w6,ae,r9,r6,m2,p4,Lg i5,d0.len _ _ _ _,y7⟩
  refine xwm 4 ((i:Int)+1) (↑(i+1):Int) ?_
  have n9:=d3.trans f2
  have aa:=((Ze.upd_new (c9.trans (Ze.of_below c5.below)) d9 v6).trans (Ze.of_below (Za d8))).trans b5
  have e3:=((d9.blk (b3.below c5.below) (Ne.symm (Ne.symm d1))).below (Za d8)).only b5 (by decide)
  have d6:=b2.only b5 (by decide)
  have q8:=Zi e7 b5 (by decide)
  have t0:=Zi (Zb (d9.own3 (Zb l2 c5.below) g0) (Za d8)) b5 (by decide)
  exact ze 2 (x1 _ _ _ ⟨i+1,_,_,_,_,_,_,_,_,_,rfl,rfl,n9,aa,e3,d6,u7,q8,t0,by omega,by assumption⟩ (by omega))
 obtain⟨_,f0,f1,e8,e9,e6,d0,hI⟩:=hR
 have ar:=(Nv e6 (by simp)).2
 have bb:(way++[no]).length=way.length+1:=by simp
 have e1:(Xr (Zn l tree fuel d) l way no hi (Zr (inB l no)) { s with looked:=s.looked+1,bs:=s.bs++[no] })=(Xr (Zn l tree fuel d) l way no hi i { s with looked:=s.looked+1,bs:=s.bs++[no] }):=by rw[show i=(Zr (inB l no)) by omega]
 refine xd 5 (.t B [145]) ?_
 refine xm2 (.b [0,1,2,3,5,6,7]) 4 8 ?_ ?_
 ·have a8:=j5.below (Za c0)
  refine xb 0 8 a8 ?_
  refine xb (.o [] 8) 8 a8 ?_
  refine xwm (.e [9] 10) ((↑((way++[no]).length):Int)-1) (↑(((way++[no]).length)-1):Int) ?_
  refine xsH (.e [] 11) (fun _ _ _ _ zo zx zy V=>Yn (k:=(((way++[no]).length)-1)) (b:=f6) (n:=(way++[no]).length) (c:=f4) (i:=(↑(((way++[no]).length)-1):Int)) (ki:=.i64) zo zx zy rfl (by omega) Tryz.underlying68 (by kernel_rfl) V) ?_
  refine ys (.o [12,13] 14) a8 [.slice j6 ((Xr (Zn l tree fuel d) l way no hi i { s with looked:=s.looked+1,bs:=s.bs++[no] }).es.length) i1,.slice j1 ((Xr (Zn l tree fuel d) l way no hi i { s with looked:=s.looked+1,bs:=s.bs++[no] }).bs.length) j8,V0 (Xr (Zn l tree fuel d) l way no hi i { s with looked:=s.looked+1,bs:=s.bs++[no] }).deep,V0 ((Xr (Zn l tree fuel d) l way no hi i { s with looked:=s.looked+1,bs:=s.bs++[no] }).looked:Int),.slice i7 ((Xr (Zn l tree fuel d) l way no hi i { s with looked:=s.looked+1,bs:=s.bs++[no] }).fs.length) j7,P0 b,V0 tree,V0 fuel,.slice f6 (((way++[no]).length)-1) f4,.bool ((Xr (Zn l tree fuel d) l way no hi i { s with looked:=s.looked+1,bs:=s.bs++[no] }).dry)] (.t B [145]) fun ct f8 ak=>⟨(Zw f8 a8 hBb (by decide)),?_⟩
  have q9:=b3.below (Za c0)
  have k9:=c6.below (Za c0)
  have n3:=f8.below (blB d5 hBw (Za c0)) hBb
  have y8:=(c9.trans (Ze.of_below (Za c0))).trans (Ze.of_upd f8 a8 (by decide))
  have r7:=f8.own2 (Zb f0 (Za c0)) a8 (by decide)
  have s8:=f8.own2 (Zb f1 (Za c0)) a8 (by decide)
  have p6:=f8.own2 (Zb e8 (Za c0)) a8 (by decide)
  have r8:=(e9.below (Za c0)).only (Ze.of_upd (T:=[145]) f8 a8 (by decide)) (by decide)
  have j4:=f8.own2 (Zb e6 (Za c0)) a8 (by decide)
  have x8:=(hI.below (Za c0)).only (Ze.of_upd (T:=[145]) f8 a8 (by decide)) (by decide)
  refine xe 1 (.tuple #[]) ?_
  rw[d2,e1]
  rw[show(way++[no]).length-1=way.length by simp] at ak
  exact⟨_,j6,j1,i7,f6,i1,j8,j7,f4,m0,rfl,n3,y8,ak,r7,s8,p6,r8,Lg j4,d0.len _ _ _ _,x8⟩
 have b0:=j5.below (Za c0)
 refine xb 0 8 b0 ?_
 refine xwm (.e [9] 10) ((↑((way++[no]).length):Int)-1) (↑(((way++[no]).length)-1):Int) ?_
 refine xb (.o [] 4) 8 b0 ?_
 refine xsH (.e [] 11) (fun _ _ _ _ zo zx zy V=>Yn (k:=(((way++[no]).length)-1)) (b:=f6) (n:=(way++[no]).length) (c:=f4) (i:=(↑(((way++[no]).length)-1):Int)) (ki:=.i64) zo zx zy rfl (by omega) Tryz.underlying68 (by kernel_rfl) V) ?_
 refine ys (.o [12,13] 14) b0 [.slice j6 ((Xr (Zn l tree fuel d) l way no hi i { s with looked:=s.looked+1,bs:=s.bs++[no] }).es.length) i1,.slice j1 ((Xr (Zn l tree fuel d) l way no hi i { s with looked:=s.looked+1,bs:=s.bs++[no] }).bs.length) j8,V0 (Xr (Zn l tree fuel d) l way no hi i { s with looked:=s.looked+1,bs:=s.bs++[no] }).deep,V0 ((Xr (Zn l tree fuel d) l way no hi i { s with looked:=s.looked+1,bs:=s.bs++[no] }).looked:Int),.slice i7 ((Xr (Zn l tree fuel d) l way no hi i { s with looked:=s.looked+1,bs:=s.bs++[no] }).fs.length) j7,P0 b,V0 tree,V0 fuel,.slice f6 (((way++[no]).length)-1) f4,.bool ((Xr (Zn l tree fuel d) l way no hi i { s with looked:=s.looked+1,bs:=s.bs++[no] }).dry)] (.t B [145]) fun bo f7 ah=>⟨(Zw f7 b0 hBb (by decide)),?_⟩
 have l5:=b3.below (Za c0)
 have k2:=c6.below (Za c0)
 have s4:=f7.below (blB d5 hBw (Za c0)) hBb
 have w8:=(c9.trans (Ze.of_below (Za c0))).trans (Ze.of_upd f7 b0 (by decide))
 have p1:=f7.own2 (Zb f0 (Za c0)) b0 (by decide)
 have m8:=f7.own2 (Zb f1 (Za c0)) b0 (by decide)
 have l7:=f7.own2 (Zb e8 (Za c0)) b0 (by decide)
 have o5:=(e9.below (Za c0)).only (Ze.of_upd (T:=[145]) f7 b0 (by decide)) (by decide)
 have i8:=f7.own2 (Zb e6 (Za c0)) b0 (by decide)
 have w0:=(hI.below (Za c0)).only (Ze.of_upd (T:=[145]) f7 b0 (by decide)) (by decide)
 refine xe 1 (.tuple #[]) ?_
 rw[d2,e1]
 rw[show(way++[no]).length-1=way.length by simp] at ah
 exact⟨_,j6,j1,i7,f6,i1,j8,j7,f4,m0,rfl,s4,w8,ah,p1,m8,l7,o5,Lg i8,d0.len _ _ _ _,w0⟩
end Go.Proofs.YtgphgaehfdfjjaaGreat
namespace Go.Proofs.YtgphgaehfdfjjaaGreat
set_option maxHeartbeats 8000000
set_option maxRecDepth 100000
open Go.RowKit Go.Extern.Stop Go.Stop Go.Extern
set_option linter.unusedVariables false
theorem Bc{V:List Int→Int→Int→Int→WS→WS}{l:Bl}{way:List Int}{no hi:Int}{s:WS}(P:Nat→WS→Prop)(h0:P 0 s) :
  ∀ n,(∀ i t,i<n→t.dry=false→P i t→P (i+1) (Vz V way no ((Nm l no).getD i []) (Xg hi (Qu l no) i) t))→(∀ i t,i<n→t.dry=true→P i t→P (i+1) t)→P n (Xr V l way no hi n s)
 | 0,_,_=>h0
 | n+1,hs,hd=>by
  have ih:=Bc P h0 n (fun i t hi=>hs i t (by omega)) (fun i t hi=>hd i t (by omega))
  rw[Js]
  unfold Wm
  split
  ·rename_i h;exact hd n _ (by omega) h ih
  ·rename_i h;exact hs n _ (by omega) (by simpa using h) ih
theorem rootE_no(v:Bl):Yo v=0∨Yo v=2∨Yo v=7:=by
 unfold Yo;split
 ·split<;>simp
 ·simp
theorem Cd(l:Bl):∀ n,Xz l n=0∨Xz l n=2∨Xz l n=8
 | 0=>.inl rfl
 | n+1=>by
  rw[Xz]
  split
  ·exact Cd l n
  ·unfold Ey;split
   ·simp
   ·split<;>simp
theorem Zcw(l:Bl)(no tree:Int):Xi l no tree≠12:=by
 unfold Xi
 split
 ·unfold Qd
  split
  ·split<;>decide
  ·unfold Ke
   split
   ·split
    ·rcases Cd (inB l no) (Zr (inB l no)) with h|h|h<;>rw[h]<;>decide
    ·decide
   ·decide
 ·unfold inE
  split
  ·unfold Yy
   repeat' split
   all_goals decide
  ·decide
theorem lookE_no(l:Bl)(way:List Int)(no tree lo hi deep:Int):Xn l way no tree lo hi deep≠12:=by
 unfold Xn
 split
 ·decide
 ·split
  ·decide
  ·split
   ·exact Zcw _ _ _
   ·split
    ·decide
    ·split<;>decide
theorem maxG_18(t:Int)(b:Bool):Zdi t b≤18:=by
 unfold Zdi Qq
 repeat' split
 all_goals omega
theorem Tx{l:Bl}(h:Ke l=0):Ld l=true:=by
 unfold Ke at h
 split at h
 ·assumption
 ·cases h
theorem Ay{l:Bl}{tree:Int}(h:Qd l tree=0):Ke l=0:=by
 unfold Qd at h
 split at h
 ·assumption
 ·assumption
theorem Zbt{l:Bl}{no tree:Int}(h:Xi l no tree=0):inE l 2 no=0∧Qd (inB l no) tree=0:=by
 unfold Xi at h
 split at h
 ·exact⟨by assumption,h⟩
 ·rename_i q;exact absurd h q
theorem Sk{l:Bl}{way:List Int}{no tree lo hi deep:Int}(h:Xn l way no tree lo hi deep=0):Xi l no tree=0∧Qv lo hi (Qu l no)=0∧Zr (inB l no)≤18:=by
 unfold Xn at h
 split at h
 ·cases h
 ·split at h
  ·cases h
  ·split at h
   ·rename_i q;exact absurd h q
   ·rename_i q
    split at h
    ·cases h
    ·rename_i q2
     have q1:Xi l no tree=0:=Decidable.not_not.1 q
     exact⟨q1,Decidable.not_not.1 q2,Nat.le_trans (Ml (Tx (Ay (Zbt q1).2))) (maxG_18 _ _)⟩
theorem Wl{lo hi:Int}{L:List Int}(h:Qv lo hi L=0):Kw lo hi=true∧Vy L∧∀ k∈L,lo≤k∧k<hi:=by
 unfold Qv at h
 split at h
 ·split at h
  ·split at h
   ·exact⟨by assumption,by assumption,by assumption⟩
   ·cases h
  ·cases h
 ·cases h
def InBlk(l:Bl)(tree:Int)(x:Ent):Prop :=
 Xi l x.2.2 tree=0∧Xm (inB l x.2.2)=true∧∃ k,k<Zr (inB l x.2.2)∧(Qu l x.2.2).getD k 0=x.1∧(Nm l x.2.2).getD k []=x.2.1∧∀ j,j<k→(Qu l x.2.2).getD j 0≠x.1
def Ox(lo hi:Int)(es:List Ent):Prop:=es.Pairwise (fun x y=>x.1<y.1)∧∀ x∈es,lo≤x.1∧x.1<hi
theorem Ox.nil(lo hi:Int):Ox lo hi []:=⟨.nil,fun _ h=>by cases h⟩
theorem Ox.app{lo mi hi:Int}{a b:List Ent}(h:Ox lo mi a)(k:Ox mi hi b)(h1:lo≤mi)(h2:mi≤hi):Ox lo hi (a++b):=by
 refine⟨List.pairwise_append.2 ⟨h.1,k.1,fun x hx y hy=>?_⟩,fun x hx=>?_⟩
 ·have:=(h.2 x hx).2;have:=(k.2 y hy).1;omega
 ·rcases List.mem_append.1 hx with q|q
  ·have:=h.2 x q;omega
  ·have:=k.2 x q;omega
structure Went(l:List UInt8)(tree fuel:Int)(hd:Option Int)(lo hi:Int)(s t:WS)(es:List Ent)(fs:List (List Int×Int)):Prop where
 esE:t.es=s.es++es
 fsE:t.fs=s.fs++fs
 rise:Ox lo hi es
 inb:∀ x∈es,InBlk l tree x
 flt:∀ f∈fs,f.1.head? = hd∧f.1≠[]∧f.2≠0
 dry:t.dry=true↔s.dry=true∨∃ f∈fs,f.2=12
 fuelE:t.dry=true→s.dry=true∨fuel≤t.looked
 look:s.looked≤fuel.toNat→t.looked≤fuel.toNat
 more:s.looked≤t.looked
 blks:t.bs.length+s.looked≤s.bs.length+t.looked
theorem Went.refl(l:Bl)(tree fuel:Int)(hd:Option Int)(lo hi:Int)(s:WS):Went l tree fuel hd lo hi s s [] [] :=
 ⟨by simp,by simp,Ox.nil _ _,by simp,by simp,by simp,fun h=>.inl h,fun h=>h,Nat.le_refl _,Nat.le_refl _⟩
theorem Went.trans{l:Bl}{tree fuel:Int}{hd:Option Int}{lo mi hi:Int}{s t u:WS}{es es2:List Ent}{fs fs2:List (List Int×Int)}(h:Went l tree fuel hd lo mi s t es fs)(k:Went l tree fuel hd mi hi t u es2 fs2)(h1:lo≤mi)(h2:mi≤hi) :
  Went l tree fuel hd lo hi s u (es++es2) (fs++fs2) where
 esE:=by rw[k.esE,h.esE,List.append_assoc]
 fsE:=by rw[k.fsE,h.fsE,List.append_assoc]
 rise:=h.rise.app k.rise h1 h2
 inb x hx:=by
  rcases List.mem_append.1 hx with q|q
  ·exact h.inb x q
  ·exact k.inb x q
 flt f hf:=by
  rcases List.mem_append.1 hf with q|q
  ·exact h.flt f q
  ·exact k.flt f q
 dry:=by
  rw[k.dry,h.dry]
  constructor
  ·rintro((q|⟨f,q1,q2⟩)|⟨f,q1,q2⟩)
   ·exact .inl q
   ·exact .inr ⟨f,List.mem_append_left _ q1,q2⟩
   ·exact .inr ⟨f,List.mem_append_right _ q1,q2⟩
  ·rintro(q|⟨f,q1,q2⟩)
   ·exact .inl (.inl q)
   ·rcases List.mem_append.1 q1 with q|q
    ·exact .inl (.inr ⟨f,q,q2⟩)
    ·exact .inr ⟨f,q,q2⟩
 fuelE h0:=by
  rcases k.fuelE h0 with q|q
  ·rcases h.fuelE q with q|q
   ·exact .inl q
   ·exact .inr (by have:=k.more;omega)
  ·exact .inr q
 look h0:=k.look (h.look h0)
 more:=Nat.le_trans h.more k.more
 blks:=by have:=h.blks;have:=k.blks;omega
theorem Went.wide{l:Bl}{tree fuel:Int}{hd:Option Int}{lo hi lo2 hi2:Int}{s t:WS}{es:List Ent}{fs:List (List Int×Int)}(h:Went l tree fuel hd lo hi s t es fs)(h1:lo2≤lo)(h2:hi≤hi2):Went l tree fuel hd lo2 hi2 s t es fs :=
 { h with rise:=⟨h.rise.1,fun x hx=>by have:=h.rise.2 x hx;omega⟩ }
theorem Went.note(l:Bl)(tree fuel:Int){hd:Option Int}(lo hi:Int)(way:List Int)(no c:Int)(s:WS)(hc:c≠0)(hc2:c≠12)(hh:(way++[no]).head? = hd):Went l tree fuel hd lo hi s (Qg way [no] c s) [] [(way++[no],c)] :=
 ⟨by simp[Qg],by simp[Qg],Ox.nil _ _,by simp,(fun f hf=>by rw[List.mem_singleton.1 hf];exact⟨hh,by simp,hc⟩),by simp[Qg,hc2],fun h=>.inl (by simpa [Qg] using h),fun h=>by simpa [Qg] using h,Nat.le_refl _,Nat.le_refl _⟩
theorem Ga{lo hi:Int}{L:List Int}(hf:Qv lo hi L=0){i:Nat}(h:i<L.length):lo≤(Xg hi L i).1∧(Xg hi L i).1≤(Xg hi L i).2∧(Xg hi L i).2≤hi∧(i+1<L.length→(Xg hi L i).2=(Xg hi L (i+1)).1):=by
 obtain⟨h1,h2,h3⟩:=Wl hf
 have h4:=h3 L[i] (List.getElem_mem _)
 unfold Xg
 simp only[List.getElem?_eq_getElem h,Option.getD_some]
 by_cases hn:i+1<L.length
 ·have h5:=h3 L[i+1] (List.getElem_mem _)
  have h6:=Vy.lt h2 (i+1) i (by omega) hn
  simp only[List.getElem?_eq_getElem h,List.getElem?_eq_getElem hn,Option.getD_some] at h6 ⊢
  exact⟨h4.1,by omega,by omega,fun _=>trivial⟩
 ·rw[List.getElem?_eq_none (by omega)]
  simp only[Option.getD_none]
  exact⟨h4.1,by omega,Int.le_refl _,fun h=>absurd h hn⟩
theorem Zfq{lo hi:Int}{l:Bl}{no:Int}(hf:Qv lo hi (Qu l no)=0)(Vs:List Bl):Ox lo hi (Kr (Qu l no) Vs no (Zr (inB l no))):=by
 obtain⟨h1,h2,h3⟩:=Wl hf
 have hl:(Qu l no).length=Zr (inB l no):=by simp[Qu,Qy]
 refine⟨?_,?_⟩
 ·unfold Kr
  rw[List.pairwise_map]
  refine List.Pairwise.imp_of_mem (R:=fun a b=>a<b) ?_ List.pairwise_lt_range
  intro a b ha hb a0
  have:=Vy.lt h2 b a a0 (by rw[hl];simpa using hb)
  simpa [List.getD] using this
 ·intro x hx
  unfold Kr at hx
  obtain⟨j,hj,rfl⟩:=List.mem_map.1 hx
  have hj:j<(Qu l no).length:=by rw[hl];simpa using hj
  have:=h3 (Qu l no)[j] (List.getElem_mem _)
  simpa [List.getD,hj] using this
theorem leaf_inb{lo hi:Int}{l:Bl}{no tree:Int}(hn:Xi l no tree=0)(hl:Xm (inB l no)=true)(hf:Qv lo hi (Qu l no)=0):∀ x∈Kr (Qu l no) (Nm l no) no (Zr (inB l no)),InBlk l tree x:=by
 intro x hx
 obtain⟨h1,h2,h3⟩:=Wl hf
 have hk:(Qu l no).length=Zr (inB l no):=by simp[Qu,Qy]
 unfold Kr at hx
 obtain⟨j,hj,rfl⟩:=List.mem_map.1 hx
 have hj:j<Zr (inB l no):=by simpa using hj
 refine⟨hn,hl,j,hj,rfl,rfl,fun i hi=>?_⟩
 have:=Vy.lt h2 j i hi (by rw[hk];exact hj)
 simp only[List.getD]
 omega
theorem Lx(l:Bl)(tree fuel:Int):∀ (d:Nat) (way:List Int) (no lo hi:Int) (s:WS),s.dry=false→∃ es fs,Went l tree fuel (way++[no]).head? lo hi s (Zn l tree fuel d way no lo hi s) es fs
  | 0,way,no,lo,hi,s,_=>⟨[],[],Went.refl _ _ _ _ _ _ _⟩
  | d + 1, way, no, lo, hi, s, hs => by
    unfold Zn
    split
    · rename_i hf
      exact⟨[],[(way++[no],12)],by simp[Qg],by simp[Qg],Ox.nil _ _,by simp,by simp,by simp,fun _=>.inr hf,fun h=>h,Nat.le_refl _,Nat.le_refl _⟩
    · rename_i hf
      have a4:s.looked+1≤fuel.toNat:=by omega
      split
      · rename_i he
        have:=Went.note l tree fuel lo hi way no _ { s with looked:=s.looked+1 } he (lookE_no _ _ _ _ _ _ _) rfl
        exact⟨_,_,this.esE,this.fsE,this.rise,this.inb,this.flt,this.dry,fun h=>by simp[Qg,hs] at h,fun _=>a4,by simp[Qg],by simp[Qg]⟩
      · rename_i he
        have he:Xn l way no tree lo hi s.deep=0:=Decidable.not_not.1 he
        obtain⟨hn,a0,hc⟩:=Sk he
        split
        · rename_i hl
          exact⟨_,[],rfl,by simp,Zfq a0 _,leaf_inb hn hl a0,by simp,by simp[hs],fun h=>by simp[hs] at h,fun _=>a4,by simp,by simp;omega⟩
        · have hk:(Qu l no).length=Zr (inB l no):=by simp[Qu,Qy]
          have a8:=Wl a0
          have b0:lo≤hi:=by have:=a8.1;unfold Kw at this;simp at this;omega
          have a1:=Bc (V:=Zn l tree fuel d) (l:=l) (way:=way) (no:=no) (hi:=hi) (s:={ s with looked:=s.looked+1,bs:=s.bs++[no] })
            (fun i t=>∃ es fs,Went l tree fuel (way++[no]).head? lo (if i=0 then lo else(Xg hi (Qu l no) (i-1)).2) { s with looked:=s.looked+1,bs:=s.bs++[no] } t es fs)
            ⟨[],[],Went.refl _ _ _ _ _ _ _⟩ (Zr (inB l no)) ?_ ?_
          · obtain⟨es,fs,q⟩:=a1
            refine⟨es,fs,q.esE,q.fsE,?_,q.inb,q.flt,q.dry,fun h=>?_,fun _=>q.look a4,by have:=q.more;simp only at this;omega,by have:=q.blks;simp at this;omega⟩
            · refine⟨q.rise.1,fun x hx=>?_⟩
              have:=q.rise.2 x hx
              split at this
              · omega
              · rename_i h0
                have:=(Ga a0 (i:=Zr (inB l no)-1) (by rw[hk];omega)).2.2.1
                omega
            · rcases q.fuelE h with q2|q2
              · exact .inl q2
              · exact .inr q2
          · rintro i t a3 a6 ⟨es,fs,q⟩
            have hp:=Ga a0 (i:=i) (by rw[hk];exact a3)
            have a2:lo≤(if i=0 then lo else(Xg hi (Qu l no) (i-1)).2)∧(if i=0 then lo else(Xg hi (Qu l no) (i-1)).2)≤(Xg hi (Qu l no) i).1:=by
              split
              · exact⟨Int.le_refl _,hp.1⟩
              · rename_i h0
                have a5:=Ga a0 (i:=i-1) (by rw[hk];omega)
                have:=a5.2.2.2 (by rw[hk];omega)
                rw[show i-1+1=i by omega] at this
                omega
            have q':=q.wide (Int.le_refl lo) a2.2
            rw[if_neg (by omega),Nat.add_sub_cancel]
            unfold Vz
            split
            · obtain⟨b1,a9,r⟩:=Lx l tree fuel d (way++[no]) (Kq ((Nm l no).getD i []):Int) (Xg hi (Qu l no) i).1 (Xg hi (Qu l no) i).2 t a6
              have hh:((way++[no])++[(Kq ((Nm l no).getD i []):Int)]).head? = (way++[no]).head? := by cases way<;>rfl
              rw[hh] at r
              exact⟨_,_,q'.trans r (by omega) hp.2.1⟩
            · rename_i a7
              have r:=Went.note l tree fuel (Xg hi (Qu l no) i).1 (Xg hi (Qu l no) i).2 way no (Yo ((Nm l no).getD i [])) t a7 (by rcases rootE_no ((Nm l no).getD i []) with h|h|h<;>rw[h]<;>decide) rfl
              exact⟨_,_,q'.trans r (by omega) hp.2.1⟩
          · rintro i t a3 a6 ⟨es,fs,q⟩
            have hp:=Ga a0 (i:=i) (by rw[hk];exact a3)
            rw[if_neg (by omega),Nat.add_sub_cancel]
            refine⟨es,fs,q.wide (Int.le_refl _) ?_⟩
            split
            · omega
            · rename_i h0
              have a5:=Ga a0 (i:=i-1) (by rw[hk];omega)
              have:=a5.2.2.2 (by rw[hk];omega)
              rw[show i-1+1=i by omega] at this
              omega
theorem Py(l:Bl)(tree fuel:Int):∀ (d:Nat) (way:List Int) (no lo hi:Int) (s:WS),s.dry=false →
  (Zn l tree fuel d way no lo hi s).fs.length+(Zn l tree fuel d way no lo hi s).es.length+18*s.looked≤s.fs.length+s.es.length+18*(Zn l tree fuel d way no lo hi s).looked+(if(Zn l tree fuel d way no lo hi s).dry=true then 1 else 0)
 | 0,way,no,lo,hi,s,hs=>by simp[Zn,hs]
 | d+1,way,no,lo,hi,s,hs=>by
  unfold Zn
  split
  ·simp[Qg];omega
  ·split
   ·simp[Qg,hs];omega
   ·rename_i he
    have he:Xn l way no tree lo hi s.deep=0:=Decidable.not_not.1 he
    obtain⟨hn,a3,hc⟩:=Sk he
    split
    ·simp[Wn,hs];omega
    ·have a1:=Bc (V:=Zn l tree fuel d) (l:=l) (way:=way) (no:=no) (hi:=hi) (s:={ s with looked:=s.looked+1,bs:=s.bs++[no] })
      (fun i t=>t.fs.length+t.es.length+18*(s.looked+1)≤s.fs.length+s.es.length+i+18*t.looked+(if t.dry=true then 1 else 0)) (by simp[hs]) (Zr (inB l no)) ?_ ?_
     ·omega
     ·intro i t a2 a0 q
      rw[a0] at q
      unfold Vz
      split
      ·have:=Py l tree fuel d (way++[no]) (Kq ((Nm l no).getD i []):Int) (Xg hi (Qu l no) i).1 (Xg hi (Qu l no) i).2 t a0
       simp at q
       omega
      ·simp[Qg,a0] at q ⊢;omega
     ·intro i t a2 a0 q;omega
end Go.Proofs.YtgphgaehfdfjjaaGreat
namespace Go.Proofs.YtgphgaehfdfjjaaGreat
set_option maxHeartbeats 8000000
set_option maxRecDepth 100000
open Go.RowKit Go.Extern.Stop Go.Stop Go.Extern
set_option linter.unusedVariables false
attribute [local irreducible] wpList wpAnyH Code.wp Oper.wp Go
theorem Sn{B bw Bi b:Nat}{pi:O0}{ni ci:Nat}{l:Bl}{tree fuel:Int}(hBb:B≤bw)(hfu:fuel≤1000000):∀ d,Zga B bw Bi b pi ni ci l tree fuel (d+1)
 | 0=>fun a0 no lo hi s pe pb pf pw ce cb cf cw fv w h1 h2 h3 h4 h5 h6 h7=>Pe B bw Bi b pi ni ci l tree fuel 0 (fun h=>absurd rfl h) a0 no lo hi s pe pb pf pw ce cb cf cw fv w hBb h2 h1 h3 hfu h4 h5 h6 h7
 | d+1=>fun a0 no lo hi s pe pb pf pw ce cb cf cw fv w h1 h2 h3 h4 h5 h6 h7=>Pe B bw Bi b pi ni ci l tree fuel (d+1) (fun _=>Sn hBb hfu d) a0 no lo hi s pe pb pf pw ce cb cf cw fv w hBb h2 h1 h3 hfu h4 h5 h6 h7
def ws0:WS:=⟨[],[],0,0,[],false⟩
def Zd(l:Bl)(root tree fuel:Int):WS:=Zn l tree fuel 17 [] root 0 281474976710656 ws0
theorem Jq(l:Bl)(root tree fuel:Int):∃ es fs,Went l tree fuel (some root) 0 281474976710656 ws0 (Zd l root tree fuel) es fs:=Lx l tree fuel 17 [] root 0 281474976710656 ws0 rfl
theorem Pp(l:Bl)(root tree fuel:Int):(Zd l root tree fuel).looked≤fuel.toNat:=by
 obtain⟨_,_,h⟩:=Jq l root tree fuel
 exact h.look (Nat.zero_le _)
theorem Hm(l:Bl)(root tree fuel:Int)(hf:fuel≤1000):(Zd l root tree fuel).es.length≤1000000∧(Zd l root tree fuel).bs.length≤1000000∧(Zd l root tree fuel).fs.length≤1000000:=by
 have h1:=Py l tree fuel 17 [] root 0 281474976710656 ws0 rfl
 have h2:=Pp l root tree fuel
 obtain⟨_,_,h3⟩:=Jq l root tree fuel
 have h4:=h3.blks
 simp only[ws0,List.length_nil] at h4
 change (Zd l root tree fuel).fs.length+(Zd l root tree fuel).es.length+18*0≤0+0+18*(Zd l root tree fuel).looked+(if(Zd l root tree fuel).dry=true then 1 else 0) at h1
 have h5:(if(Zd l root tree fuel).dry=true then 1 else 0)≤1:=by split<;>omega
 have h6:fuel.toNat≤1000:=by omega
 generalize (if(Zd l root tree fuel).dry=true then 1 else 0)=q at h1 h5
 omega
def walkC(t:WS)(pe pb pf:O0)(ce cb cf:Nat):List Value:=[.slice pe t.es.length ce,.slice pb t.bs.length cb,V0 t.deep,V0 (t.looked:Int),.slice pf t.fs.length cf]
structure WalkV(B:Nat)(t:WS)(pe pb pf:Option Addr)(ce cb cf:Nat)(fv:List Value)(w:World):Prop where
 ents:w.ownsRow B 45 3 (.slice pe t.es.length ce) t.es.length (t.es.flatMap Hl)
 blks:w.ownsRow B 3 1 (.slice pb t.bs.length cb) t.bs.length (t.bs.map (Value.int .i64))
 flts:w.ownsRow B 31 1 (.slice pf t.fs.length cf) t.fs.length fv
 fltv:Kb w t.fs fv
def ScanP(l:Bl)(root tree fuel:Int)(w:World)(e:Ending)(w':World):Prop :=
 ∃ pe pb pf ce cb cf fv,e=.returned (.agg (walkC (Zd l root tree fuel) pe pb pf ce cb cf).toArray)∧B0 w w'∧WalkV w.heap.size (Zd l root tree fuel) pe pb pf ce cb cf fv w'
theorem Zfa(Bi b:Nat)(pi:O0)(ni ci:Nat)(l:Bl)(root tree fuel:Int)(w:World)(hfu:fuel≤1000)(hI:ImgR Bi b pi ni ci l w) :
 C0 53 #[P0 b,V0 root,V0 tree,V0 fuel] w (ScanP l root tree fuel w):=by
 refine zin 23 Tryz.func53 ?_
 refine xa 2 [S0,S0,V0 0,V0 0,S0] 87 fun b1 W1 n1=>?_
 refine xa 8 [S0,S0,V0 0,V0 0,S0,P0 b,V0 tree,V0 fuel,S0,.bool false] 145 fun b2 W2 n2=>?_
 refine xr 7 (args:=#[]) (Of _) fun W3 a5=>?_
 have a0:=Hm l root tree fuel hfu
 have g2:=n2.ge n1.below
 have hB:=bln (bln n1.below n2.below) a5
 have k2:=n2.blk.below a5
 have a6:=((hI.below n1.below).below n2.below).below a5
 refine xc 0 (args:=#[P0 b2,V0 root,.agg #[V0 0,V0 281474976710656]]) (Sn (B:=w.heap.size) (bw:=b2) (Bi:=Bi) (b:=b) (pi:=pi) (ni:=ni) (ci:=ci) (l:=l) (tree:=tree) (fuel:=fuel) g2 (by omega) 16 [] root 0 281474976710656 ws0 none none none none 0 0 0 0 [] _ rfl hB.size rfl ⟨k2,World.ownsRow_nil _ _ _ _,World.ownsRow_nil _ _ _ _,World.ownsRow_nil _ _ _ _,trivial,World.ownsRow_nil _ _ _ _,He.nil _,a6⟩ a0.1 a0.2.1 a0.2.2) ?_
 rintro _ W4 ⟨u4,pe,pb,pf,pw,ce,cb,cf,cw,fv,rfl,b4,a9,hR⟩
 change WalkR _ _ _ _ _ _ _ _ _ _ _ (Zd l root tree fuel) _ _ _ _ _ _ _ _ _ _ at hR
 obtain⟨kW,b0,b5,a8,b3,b7,b6,hI⟩:=hR
 refine xlv 7 (kW.rpp 0 5) ?_
 have k1:=((n1.blk.below n2.below).below a5).only a9 (by decide)
 refine xsv 0 k1 [.slice pe ((Zd l root tree fuel).es.length) ce,.slice pb ((Zd l root tree fuel).bs.length) cb,V0 (Zd l root tree fuel).deep,V0 ((Zd l root tree fuel).looked:Int),.slice pf ((Zd l root tree fuel).fs.length) cf] fun W5 u5 k5=>?_
 have g1:=n1.ge (B3 w)
 have a7:=u5.below (hB.trans b4) g1
 have a1:=u5.own2 b0 k1 (by decide)
 have a4:=u5.own2 b5 k1 (by decide)
 have a2:=u5.own2 a8 k1 (by decide)
 have a3:=b3.only (Ze.of_upd (T:=[87]) u5 k1 (by decide)) (by decide)
 exact xec 3 k5 (.agg #[.slice pe ((Zd l root tree fuel).es.length) ce,.slice pb ((Zd l root tree fuel).bs.length) cb,V0 (Zd l root tree fuel).deep,V0 ((Zd l root tree fuel).looked:Int),.slice pf ((Zd l root tree fuel).fs.length) cf]) ⟨_,_,_,_,_,_,_,rfl,a7,⟨a1,a4,a2,a3⟩⟩
end Go.Proofs.YtgphgaehfdfjjaaGreat
namespace Go.Proofs.YtgphgaehfdfjjaaGreat
set_option maxHeartbeats 8000000
set_option maxRecDepth 100000
open Go.RowKit Go.Extern.Stop Go.Stop Go.Extern
set_option linter.unusedVariables false
section
variable {P:Program} {fn:Func} {R:Ending→World→Prop} {w:World} {s:Zs}
def Zgd(w:World):List (Nat×List Value)→Prop
 | []=>True
 | p::r=>(∃ t,Blk w p.1 p.2 t)∧Zgd w r
noncomputable def zrlm (P:Program) (n:Nat) (kv:List (Nat×Value)) (l:List ResultVar):List (List Value)→Option (List Nat×List Value):=List.rec (motive:=fun _=>List (List Value)→Option (List Nat×List Value)) (fun _=>some ([],[])) (fun r _ ih css=>match r with
 | .tmp t=>match ih css with
  | some r=>some (r.1,zget n kv t::r.2)
  | none=>none
 | .cell k t=>match css with
  | []=>none
  | p::css'=>match zget n kv k with
   | .pointer (some ⟨b,off,sp⟩)=>match sp with
    | none=>match Nat.beq off 0&&(zrow P t&&zsz P t p.length) with
     | true=>match ih css' with
      | some r=>some (b::r.1,.agg p.toArray::r.2)
      | none=>none
     | false=>none
    | some _=>none
   | _=>none) l
theorem En(n:Nat)(kv:List (Nat×Value))(w:World):∀ (l:List ResultVar) (css:List (Nat×List Value)) (vs:List Value),Zgd w css→zrlm P n kv l (css.map Prod.snd)=some (css.map Prod.fst,vs)→(l.mapM (zrf (zact n kv).tmps)).run P w=.ok vs w
  | [],css,vs,_,h=>by
    have h':some (([]:List Nat),([]:List Value))=some (css.map Prod.fst,vs):=h
    simp only[Option.some.injEq,Prod.mk.injEq] at h'
    rw[←h'.2];rfl
  | r :: l, css, vs, hb, h => by
    rw[List.mapM_cons]
    cases r with
    | tmp t =>
      have h':(match zrlm P n kv l (css.map Prod.snd) with|some r=>some (r.1,zget n kv t::r.2)|none=>none)=some (css.map Prod.fst,vs):=h
      split at h'
      · rename_i r' hv
        simp only[Option.some.injEq,Prod.mk.injEq] at h'
        obtain⟨h1,rfl⟩:=h'
        have a1:zrlm P n kv l (css.map Prod.snd)=some (css.map Prod.fst,r'.2):=by rw[hv,←h1]
        simp only[zrf,Sem.run_bind,Sem.run_pure,Result.andThen_ok,En n kv w l css r'.2 hb a1,Jo]
      · cases h'
    | cell k t' =>
      cases css with
      | nil=>cases h
      | cons p css =>
      have h':(match zget n kv k with
      | .pointer (some ⟨b,a0,sp⟩)=>match sp with
        | none=>match Nat.beq a0 0&&(zrow P t'&&zsz P t' p.2.length) with
          | true=>match zrlm P n kv l (css.map Prod.snd) with
            | some r=>some (b::r.1,.agg p.2.toArray::r.2)
            | none=>none
          | false=>none
        | some _=>none
      | _=>none)=some (p.1::css.map Prod.fst,vs):=h
      split at h'
      · rename_i b' a0 sp a2
        cases sp with
        | some _=>cases h'
        | none =>
          dsimp only at h'
          split at h'
          · rename_i hc
            simp only[Bool.and_eq_true] at hc
            split at h'
            · rename_i r' hv
              simp only[Option.some.injEq,Prod.mk.injEq,List.cons.injEq] at h'
              obtain⟨⟨rfl,h1⟩,rfl⟩:=h'
              obtain⟨⟨t,kb⟩,a3⟩:=hb
              have a1:zrlm P n kv l (css.map Prod.snd)=some (css.map Prod.fst,r'.2):=by rw[hv,←h1]
              obtain rfl:a0=0:=Nat.eq_of_beq_eq_true hc.1
              have hu:=hc.2.1
              unfold zrow at hu
              split at hu
              · rename_i d hd
                have hl:=run_loadVar_mid (P:=P) w p.1 0 t' p.2 d kb.whole hd hu (Rp hc.2.2)
                have e:(zact n kv).tmps.getD k undef=.pointer (some ⟨p.1,0,none⟩):=by rw[Jo];exact a2
                simp only[zrf,e,asAddr,Sem.run_bind,Sem.run_pure,Result.andThen_ok,hl,En n kv w l css r'.2 a3 a1]
              · cases hu
            · cases h'
          · cases h'
      · cases h'
noncomputable def zresm (P:Program) (s:Zs) (fn:Func) (css:List (List Value)):Option (List Nat×Value):=match zfin s with
 | true=>match zrlm P s.n s.kv fn.results.toList css with
  | some r=>some (r.1,zvs r.2)
  | none=>none
 | false=>none
theorem xecm(q:Zq)(css:List (Nat×List Value))(hb:Zgd w css)(v:Value)(hR:R (.returned v) w)(h:zresm P (zq P q s) fn (css.map Prod.snd)=some (css.map Prod.fst,v):=by kernel_rfl):Go P fn R s w:=by
 refine Zt q s ?_
 unfold zresm at h
 split at h
 ·rename_i hf
  split at h
  ·rename_i r hv
   simp only[Option.some.injEq,Prod.mk.injEq] at h
   obtain⟨h1,rfl⟩:=h
   have hv:zrlm P (zq P q s).n (zq P q s).kv fn.results.toList (css.map Prod.snd)=some (css.map Prod.fst,r.2):=by rw[hv,←h1]
   exact Tj hf (Uo (En _ _ _ _ _ _ hb hv)) hR
  ·cases h
 ·cases h
end
end Go.Proofs.YtgphgaehfdfjjaaGreat
namespace Go.Proofs.YtgphgaehfdfjjaaGreat
set_option maxHeartbeats 8000000
set_option maxRecDepth 100000
open Go.RowKit Go.Extern.Stop Go.Stop Go.Extern
set_option linter.unusedVariables false
attribute [local irreducible] wpList wpAnyH Code.wp Oper.wp Go
theorem Zbe(w:World) :
 C0 32 #[] w (Kg (fun w' r=>∃ b,r=.slice (S1 b) 1 1∧w.heap.size≤b∧Blk w' b [V0 4,V0 1,V0 14399] 107) w):=by
 refine zin 3 Tryz.func32 ?_
 refine xbs 8 1 [V0 4,V0 1,V0 14399] 107 fun b1 W1 n1=>?_
 have g1:=n1.ge (B3 w)
 exact xe 4 (.slice (S1 b1) 1 1) ⟨_,rfl,n1.below,_,rfl,g1,n1.blk⟩
theorem Zbg(gl gn:Nat)(n:Int)(h1:1≤n)(h2:n≤14399)(w:World)(hl:Blk w gl [V0 4,V0 1,V0 14399] 107)(hn:Blk w gn [V0 n] 3) :
 C0 25 #[.slice (S1 gl) 1 1,.slice (S1 gn) 1 1] w (Ret (.string ⟨(leB n 4).toArray⟩) w):=by
 have b2:=h1
 have b5:=h2
 clear h2
 refine zin 51 Tryz.func25 ?_
 refine xu 19 2 ?_
 refine xlv 15 hl.rp ?_
 refine xa 0 [V0 0,V0 0,V0 0] 107 fun b1 W1 n1=>?_
 have a6:=n1.ne hl
 refine xsv 1 n1.blk [V0 4,V0 1,V0 14399] fun W2 u2 k2=>?_
 have g1:=n1.ge (B3 w)
 refine xd 4 .z ?_
 have a0:=(u2.blkT (hn.below n1.below) n1.blk (by decide)).below (Za W2)
 refine xb (.e [0,1,2] 3) 0 a0 ?_
 have a1:=k2.below (Za W2)
 refine xb (.e [4] 5) 1 a1 ?_
 refine xgk (.b [6,7]) [23,24] (show(decide (n<(1:Int)):Bool)=false from decide_eq_false (by omega)) ?_
 refine xb (.e [8,9,10] 11) 0 a0 ?_
 refine xb (.e [12] 13) 2 a1 ?_
 refine xk (.r [14,15] 2) (show(decide (n>(14399:Int)):Bool)=false from decide_eq_false (by omega)) ?_
 refine xd 3 .z ?_
 have a2:=a1.below (Za W2.drew)
 refine xb (.e [0] 1) 0 a2 ?_
 have a5:=a0.below (Za W2.drew)
 refine xb (.e [2,3,4] 5) 0 a5 ?_
 refine xbs (.o [6] 7) 1 [V0 4,V0 n] 111 fun b4 W4 n4=>?_
 refine yc (.o [] 8) (args:=#[.slice (S1 b4) 1 1]) .z (Zde b4 n (by omega) (by omega) _ n4.blk) ?_
 rintro _ W5 ⟨_,rfl,a7,p2,c2,rfl,h2⟩
 have a8:=(bln (bln (bln (u2.below n1.below g1) (Za W2)) (Za W2.drew)) n4.below).size
 refine⟨a7,?_⟩
 have o6:=World.ownsRow_nil W5 w.heap.size 5 1
 have a3:=Zh h2 a8
 have hB:=bln (bln (bln (bln (u2.below n1.below g1) (Za W2)) (Za W2.drew)) n4.below) a7
 refine xbi (.r [9,10,11,12,13] 5) fun _ _ _ _ zJ zQ zo zx zy zK=>Xk (m:=4) (news:=(leB n 4).map bv) (.int .u8 0) 1 1 (4) ((leB n 4).map bv) zo Tryz.underlying36 (by kernel_rfl) rfl (by decide) zx o6 zy (Zg a3) (by simp[Zj]) (Qt _) (by unfold maxLen;omega) (by omega) hB.size (by rfl) (by simp) fun b3 b0 W7 o7 b6 a9=>?_
 refine zK _ _ ?_
 refine xcv0 24 (fun _ _ _ zo zx=>Nw zo zx (Ka (Zg o7) (Zj _ _)) (Zj _ _) Tryz.underlying36 Tryz.underlying5 Tryz.underlying9) ?_
 have a4:=hB.trans a9
 exact xe 4 (.string ⟨(leB n 4).toArray⟩) ⟨rfl,a4⟩
theorem Ct(n:Int)(h1:1≤n)(h2:n≤14399)(w:World) :
 C0 12 #[V0 n] w (Ret (.string ⟨(leB n 4).toArray⟩) w):=by
 refine zin 7 Tryz.func12 ?_
 refine xc 7 (args:=#[]) (Zbe _) ?_
 rintro _ W1 ⟨_,rfl,a1,gl,rfl,gg,kl⟩
 refine xbs 1 1 [V0 n] 3 fun b2 W2 n2=>?_
 have a0:=kl.below n2.below
 refine xr 0 (args:=#[.slice (S1 gl) 1 1,.slice (S1 b2) 1 1]) (Zbg gl b2 n h1 h2 _ a0 n2.blk) fun W3 a2=>?_
 have hB:=bln (bln a1 n2.below) a2
 exact xe 4 (.string ⟨(leB n 4).toArray⟩) ⟨rfl,hB⟩
theorem Sts.cut{α:Type}{f:α→List Value}{m:Nat}{w:World}{b:O0}{c:Nat}{l:List α}(hm:∀ x,(f x).length=m)(h:Sts f w (.slice b l.length c) l)(k:Nat)(hk:k≤l.length):Sts f w (.slice (Pq b k c m) (l.drop k).length (c-k)) (l.drop k):=by
 have a0:(l.drop k).length=l.length-k:=by simp
 have a2:=Sl.cap h
 by_cases hkn:k=l.length
 ·refine .inl ⟨Pq b k c m,c-k,by rw[show(l.drop k).length=0 by omega],by omega,?_⟩
  rw[List.drop_eq_nil_of_le (by omega)];rfl
 rcases h with ⟨a',c',h1,h2,h3⟩|⟨g,a3,a4,h1,h2,h3,h4⟩
 ·omega
 ·simp only[Value.slice.injEq] at h1
  obtain⟨rfl,_,rfl⟩:=h1
  refine .inr ⟨g,a3+k*m,c-k,?_,by omega,by omega,fun j x hj=>?_⟩
  ·rw[Pq,if_neg (by omega)];simp[Addr.add]
  ·have a1:(l.drop k).flatMap f=(l.flatMap f).drop (k*m):=by
    conv=>rhs;rw[←List.take_append_drop k l,List.flatMap_append]
    rw[List.drop_left' (by rw[Lw hm,List.length_take,Nat.min_eq_left hk])]
   rw[a1,List.getElem?_drop] at hj
   have:=h4 _ _ hj
   rwa [←Nat.add_assoc] at this
theorem Al.only{B ba b g n c:Nat}{pa:O0}{ca f N k:Nat}{l:Bl}{w W:World}{T:List TypeId}(h:Al B ba b g n c pa ca f N k l w)(hO:Ze T w W)(hT:(T.contains 72||T.contains 75||T.contains 5||T.contains 3)=false):Al B ba b g n c pa ca f N k l W:=by
 simp only[Bool.or_eq_false_iff] at hT
 exact⟨h.blkA.only hO hT.1.1.1,h.blkI.only hO hT.1.1.2,Zi h.data hO hT.1.2,Zi h.nums hO hT.2⟩
def Zo(l:List Ent)(m i:Nat):List Ent:=(l.drop (i*m)).take m
def Ym(c:List Ent):List Int:=c.map (·.1)
def Vh(c:List Ent):List Bl:=c.map (·.2.1)
def Zf0(t:Int)(leaf:Bool)(m v:Nat)(c:List Ent):Bl:=Ky m v (Vg t leaf c.length m v) (Ym c) (Vh c) c.length
def Gl(t:Int)(leaf:Bool)(m v:Nat)(l:List Ent)(q:Nat)(bs:Bl):Nat→Bl
 | 0=>bs
 | i+1=>Vb (Gl t leaf m v l q bs i) ((q+i)*256) (Yp 2 ((q+i:Nat):Int) (Zf0 t leaf m v (Zo l m i)))
def upX (l:List Ent)(m q i:Nat):Ent:=(((Zo l m i).getD 0 Zm).1,leB ((q+i:Nat):Int) 4,((q+i:Nat):Int))
def upE (l:List Ent)(m q j:Nat):List Ent:=(List.range j).map (upX l m q)
theorem upE_succ(l:List Ent)(m q j:Nat):upE l m q (j+1)=upE l m q j++[upX l m q j]:=by simp[upE,List.range_succ]
theorem Xf(l:List Ent)(m q j:Nat):(upE l m q j).length=j:=by simp[upE]
theorem Vx{l:List Ent}{m q j i:Nat}(h:i<j):(upE l m q j).getD i Zm=upX l m q i:=by simp[upE,List.getD,List.getElem?_range h]
theorem Vl(l:List Ent)(m i:Nat):(Zo l m i).length=Xw l.length m i:=by simp[Zo,Xw]
theorem Vp{l:List Ent}{m i j:Nat}(h:j<Xw l.length m i):(Zo l m i).getD j Zm=l.getD (i*m+j) Zm:=by
 unfold Xw at h
 simp[Zo,List.getD,List.getElem?_take_of_lt (show j<m by omega),List.getElem?_drop]
theorem Mo{c:List Ent}{j:Nat}(h:j<c.length):(Ym c).getD j 0=(c.getD j Zm).1:=by simp[Ym,List.getD,h]
theorem Rg{c:List Ent}{j:Nat}(h:j<c.length):(Vh c).getD j []=(c.getD j Zm).2.1:=by simp[Vh,List.getD,h]
theorem Gc(c:List Ent):(Ym c).length=c.length:=by simp[Ym]
theorem Mz(c:List Ent):(Vh c).length=c.length:=by simp[Vh]
theorem Oi{n m i:Nat}(hm:1≤m)(hn:1≤n)(h:i<ovN n m):i*m<n:=by
 unfold ovN at h
 rcases Nat.eq_zero_or_pos i with rfl|hi
 ·omega
 have h2:i<(n+m-1)/m:=by omega
 have h3:=(Nat.lt_div_iff_mul_lt (by omega)).1 h2
 omega
theorem Gm{t:Int}{leaf:Bool}{m v:Nat}{l:List Ent}(E:EntsOk v l)(h1:1≤t)(h2:t≤5)(hm:Qq t leaf=m)(hv:Jv t leaf=v)(hl:leaf=false→1≤l.length){i:Nat}(hi:i<ovN l.length m):NodeOk t leaf (Zo l m i).length m v (Ym (Zo l m i)) (Vh (Zo l m i)):=by
 have a5:=(Xv t leaf).1
 rw[hm] at a5
 have a0:=Vl l m i
 have a6:=Fp a5 hi
 have a7:(Zo l m i).length≤l.length-i*m:=by rw[a0];unfold Xw;omega
 have a4:∀ j,j<(Zo l m i).length→i*m+j<l.length∧(Ym (Zo l m i)).getD j 0=(l.getD (i*m+j) Zm).1∧(Vh (Zo l m i)).getD j []=(l.getD (i*m+j) Zm).2.1:=fun j hj=>by
  refine⟨by omega,?_,?_⟩
  ·rw[Mo hj,Vp (by omega)]
  ·rw[Rg hj,Vp (by omega)]
 refine⟨h1,h2,hm,hv,Gc _,Mz _,by rw[a0];unfold Xw;omega,fun h=>?_,fun j hj=>?_,fun j hj=>?_,fun j hj=>?_⟩
 ·have:=Oi a5 (hl h) hi
  rw[a0];unfold Xw;omega
 ·obtain⟨a1,a2,_⟩:=a4 j hj
  rw[a2];exact E.hk _ a1
 ·obtain⟨a1,a2,_⟩:=a4 j (by omega)
  obtain⟨b1,b2,_⟩:=a4 (j+1) hj
  rw[a2,b2];exact E.hs _ (by omega)
 ·obtain⟨a1,_,a3⟩:=a4 j hj
  rw[a3];exact E.hw _ a1
theorem Nq{t:Int}{leaf:Bool}{m v:Nat}{c:List Ent}(N:NodeOk t leaf c.length m v (Ym c) (Vh c)):(Zf0 t leaf m v c).length=244:=by
 have hf:=fitN t leaf
 rw[N.hm,N.hv] at hf
 exact Mn (Vd _ _ _ _ _) hf N.hn (fun j hj=>N.hw j hj)
theorem Iu{w:World}{b:O0}{n m c:Nat}(h:Sl w (.slice b (ovN n m) c) (ovN n m) ((sizL n m).map nv)){k:Nat}(hk:k<ovN n m):b.isSome=true∧w.cell? (Xa b (k*1))=some (V0 ((Xw n m k:Nat):Int)):=by
 have:=Zu h (sizL_len n m) hk
 rwa [show(sizL n m).getD k 0=Xw n m k from by simp[sizL,List.getD,List.getElem?_range hk]] at this
theorem Zeb{l:List Ent}{j:Nat}(h:j<l.length):((Ym l).take (j+1)).map V0=((Ym l).take j).map V0++[V0 (l.getD j Zm).1]:=by
 rw[List.take_succ_eq_append_getElem (by rw[Gc];exact h)]
 simp[Ym,List.getD,h]
theorem Zgf{l:List Ent}{j:Nat}(h:j<l.length):((Vh l).take (j+1)).map sv=((Vh l).take j).map sv++[.string ⟨(l.getD j Zm).2.1.toArray⟩]:=by
 rw[List.take_succ_eq_append_getElem (by rw[Mz];exact h)]
 simp[Vh,List.getD,h,sv]
theorem Zca{l:List Ent}{m i s:Nat}(hs:Xw l.length m i=s):(Ym (l.drop (i*m))).take s=Ym (Zo l m i):=by
 subst hs
 unfold Ym Zo Xw
 rw[←List.map_take]
 congr 1
 rw[List.take_eq_take_iff];simp
theorem Zb5{l:List Ent}{m i s:Nat}(hs:Xw l.length m i=s):(Vh (l.drop (i*m))).take s=Vh (Zo l m i):=by
 subst hs
 unfold Vh Zo Xw
 rw[←List.map_take]
 congr 1
 rw[List.take_eq_take_iff];simp
theorem EntsOk.mono{v:Nat}{l:List Ent}(E:EntsOk v l):∀ {a b:Nat},a<b→b<l.length→(l.getD a Zm).1<(l.getD b Zm).1:=by
 intro a b h hb
 induction b with
 | zero=>omega
 | succ b ih =>
  have h1:=E.hs b (by omega)
  rcases Nat.lt_or_ge a b with h2|h2
  ·have:=ih h2 (by omega);omega
  ·obtain rfl:a=b:=by omega
   exact h1
theorem Rs{v:Nat}{l:List Ent}{m:Nat}(hm:1≤m)(hl:1≤l.length){i q:Nat}(hi:i<ovN l.length m):(upX l m q i).1=(l.getD (i*m) Zm).1∧i*m<l.length:=by
 have h:=Oi hm hl hi
 refine⟨?_,h⟩
 unfold upX
 rw[Vp (by unfold Xw;omega)];rfl
theorem Nk{v:Nat}{l:List Ent}(E:EntsOk v l){m q:Nat}(hm:1≤m):EntsOk 4 (upE l m q (ovN l.length m)):=by
 rcases Nat.eq_zero_or_pos l.length with h0|hl
 ·have h1:ovN l.length m=1:=by
   rw[h0];unfold ovN
   have:(0+m-1)/m=0:=Nat.div_eq_of_lt (by omega)
   omega
  have a0:l=[]:=List.eq_nil_of_length_eq_zero h0
  subst a0
  constructor
  ·intro i hi;rw[Xf,h1] at hi;rw[Vx (by omega)];simp[upX,Zo,Zm]
  ·intro j hj;rw[Xf,h1] at hj;omega
  ·intro i hi;rw[Xf,h1] at hi;rw[Vx (by omega)];simp[upX,Zj]
 constructor
 ·intro i hi
  rw[Xf] at hi
  obtain⟨h1,h2⟩:=Rs (v:=v) (q:=q) hm hl hi
  rw[Vx hi,h1];exact E.hk _ h2
 ·intro j hj
  rw[Xf] at hj
  obtain⟨h1,h2⟩:=Rs (v:=v) (q:=q) hm hl hj
  obtain⟨h3,h4⟩:=Rs (v:=v) (q:=q) hm hl (show j<ovN l.length m by omega)
  rw[Vx hj,Vx (by omega),h1,h3]
  refine E.mono ?_ h2
  rw[Nat.add_mul];omega
 ·intro i hi
  rw[Xf] at hi
  rw[Vx hi];simp[upX,Zj]
def Ys(t:Int)(u:List Ent)(q:Nat)(bs:Bl):Int×Bl :=
 if h:u.length≤1 then((u.getD 0 Zm).2.2,bs)
 else Ys t (upE u 18 q (ovN u.length 18)) (q+ovN u.length 18) (Gl t false 18 4 u q bs (ovN u.length 18))
termination_by u.length
decreasing_by rw[Xf];have:=Zf9 (x:=u.length) (by omega);omega
theorem Qr{t:Int}{u:List Ent}{q:Nat}{bs:Bl}(h:u.length≤1):Ys t u q bs=((u.getD 0 Zm).2.2,bs):=by rw[Ys];simp[h]
theorem Yi{t:Int}{u:List Ent}{q:Nat}{bs:Bl}(h:¬ u.length≤1):Ys t u q bs=Ys t (upE u 18 q (ovN u.length 18)) (q+ovN u.length 18) (Gl t false 18 4 u q bs (ovN u.length 18)):=by rw[Ys];simp[h]
def Xu(t:Int)(l:List Ent)(q:Nat)(bs:Bl):Int×Bl :=
 Ys t (upE l (Qq t true) q (ovN l.length (Qq t true))) (q+ovN l.length (Qq t true)) (Gl t true (Qq t true) (Jv t true) l q bs (ovN l.length (Qq t true)))
theorem Tv{t:Int}{u:List Ent}{q:Nat}{bs:Bl}(h1:1≤u.length)(hu:(u.getD (u.length-1) Zm).2.2=((q-1:Nat):Int))(hq:1≤q):(Ys t u q bs).1=((q-1+((Kx u.length).sum-u.length):Nat):Int):=by
 induction hx:u.length using Nat.strongRecOn generalizing u q bs with
 | _ x ih =>
  subst hx
  by_cases h:u.length≤1
  ·rw[Qr h,Vk h]
   rw[show u.length-1=0 by omega] at hu
   show(u.getD 0 Zm).2.2=_
   rw[hu];simp
  ·have a0:=Zf9 (x:=u.length) (by omega)
   have hp:=Yd u.length 18
   rw[Yi h,ih (ovN u.length 18) (by omega) (u:=upE u 18 q (ovN u.length 18)) (q:=q+ovN u.length 18) (by rw[Xf];exact hp) ?_ (by omega) (Xf _ _ _ _),Yz h]
   ·have a1:=Vj (ovN u.length 18)
    simp only[List.sum_cons]
    congr 1
    omega
   ·rw[Xf,Vx (by omega)]
    simp only[upX]
    congr 1
    omega
def LaidQ(B ba b g n c:Nat)(pa:O0)(ca f N k:Nat)(l:Bl)(kind:Int)(li:Bl)(q:Nat)(w:World)(e:Ending)(w':World):Prop :=
 e=.returned (.tuple #[V0 (q:Int),.nilIface])∧Below B w w'∧Ze [72,5] w w'∧Fr [ba,g] w w'∧Al B ba b g n c pa ca f N (k+1) (Vb l (q*256) (Yp kind (q:Int) li)) w'
theorem Zci(B ba b g n c:Nat)(p:O0)(ca f N k:Nat)(l:Bl)(kind:Int)(a:O0)(ci:Nat)(li:Bl)(q n':Nat)(w:World)(hq:f+k=q)(hn':li.length=n')(hC:AlC B ba n c ca f N)(hA:Al B ba b g n c p ca f N k l w)(hkN:k<N)(h1:1≤kind)(h2:kind≤4)(hin:∀ W,Below B w W→Ze [72] w W→Bys W (.slice a n' ci) li)(hl:n'≤244)(hBw:B≤w.heap.size) :
 C0 52 #[P0 ba,V0 kind,.slice a n' ci] w (LaidQ B ba b g n c p ca f N k l kind li q w):=by
 subst hq hn';exact Zf5 B ba b g n c p ca f N k l kind a ci li w hC hA hkN h1 h2 hin hl hBw
theorem up_row{l:List Ent}{m q i:Nat}{key:Int}(hk:key=((Zo l m i).getD 0 Zm).1):(upE l m q i).flatMap Hl++[V0 key,.string ⟨(leB ((q+i:Nat):Int) 4).toArray⟩,V0 ((q+i:Nat):Int)]=(upE l m q (i+1)).flatMap Hl:=by
 subst hk;rw[upE_succ];simp[Hl,upX]
theorem Zfz{l:List Ent}{m i j:Nat}(hs:Xw l.length m i=j)(hj:0<j):((Ym (Zo l m i))).getD 0 0=((Zo l m i).getD 0 Zm).1:=Mo (by rw[Vl];omega)
theorem Tg{l:List Ent}{m i j:Nat}(hs:Xw l.length m i=j)(hj:j=0):(0:Int)=((Zo l m i).getD 0 Zm).1:=by
 have:Zo l m i=[]:=List.eq_nil_of_length_eq_zero (by rw[Vl];omega)
 rw[this];rfl
theorem ImgR.mono{B B' b:Nat}{p:O0}{n c:Nat}{l:Bl}{w:World}(h:ImgR B b p n c l w)(hB:B'≤B):ImgR B' b p n c l w:=⟨h.blk,Zh h.row hB,h.hn⟩
theorem Zgb(a:O0)(c n m:Nat)(l:Bl)(w:World)(hn:l.length=n)(hm:min (n/256) 14400*256=m)(h:Bys w (.slice a n c) l)(hl:n≤100000000)(hc:n≤c) :
 C0 9 #[.slice a n c] w (Kg (fun w' r=>∃ b p c2,r=P0 b∧w.heap.size≤b∧ImgR w.heap.size b p m c2 (l.take m) w') w):=by
 subst hn hm
 refine(Ip a c l w h hl hc).mono ?_
 rintro e W ⟨_,rfl,hb,b,p,c2,rfl,h1,h2,h3⟩
 exact⟨_,rfl,hb,b,p,c2,rfl,h1,h2,h3,by omega⟩
theorem Kb.at{w:World}:∀ {fs:List (List Int×Int)} {vs:List Value},Kb w fs vs→∀ {j:Nat},j<fs.length→∃ ty x,vs[j]? = some (.iface ty x)∧Qw w ((fs.getD j ([],0)).1.map some) (some (fs.getD j ([],0)).2) (.iface ty x)
 | f::r,v::q,h,0,_=>by
  obtain⟨ty,x,rfl⟩:=h.1.iface
  exact⟨ty,x,rfl,h.1⟩
 | f::r,v::q,h,j+1,hj=>by
  obtain⟨ty,x,h1,h2⟩:=h.2.at (j:=j) (by simpa using hj)
  exact⟨ty,x,by simpa using h1,by simpa using h2⟩
 | [],_,_,j,hj=>absurd hj (by simp)
 | _::_,[],h,_,_=>h.elim
theorem Sl.elem1{w:World}{b:O0}{n c:Nat}{xs:List Value}(h:Sl w (.slice b n c) n xs){j:Nat}{x:Value}(hj:xs[j]? = some x):b.isSome=true∧w.cell? (Xa b (j*1))=some x:=by rw[Nat.mul_one];exact Sl.elem h hj
theorem scan_law(l:Bl)(root tree fuel:Int):(Zd l root tree fuel).looked≤fuel.toNat∧(Zd l root tree fuel).bs.length≤(Zd l root tree fuel).looked∧(∀ x∈(Zd l root tree fuel).es,InBlk l tree x) ∧
 (Zd l root tree fuel).es.Pairwise (fun x y=>x.1<y.1)∧∀ f∈(Zd l root tree fuel).fs,f.1≠[]∧f.1.getD 0 0=root:=by
 obtain⟨es,fs,h⟩:=Jq l root tree fuel
 have h1:(Zd l root tree fuel).es=es:=by rw[h.esE];rfl
 have h2:(Zd l root tree fuel).fs=fs:=by rw[h.fsE];rfl
 have h3:=h.blks
 refine⟨Pp _ _ _ _,by simpa [ws0] using h3,fun x hx=>h.inb x (h1▸hx),by rw[h1];exact h.rise.1,fun f hf=>?_⟩
 obtain⟨q1,q2,_⟩:=h.flt f (h2▸hf)
 refine⟨q2,?_⟩
 cases e:f.1 with
 | nil=>exact absurd e q2
 | cons a r=>rw[e] at q1;simpa using q1
structure WalkS(t:WS)(pe pb pf:Option Addr)(ce cb cf:Nat)(fv:List Value)(w:World):Prop where
 ents:Sts Hl w (.slice pe t.es.length ce) t.es
 blks:Ints w (.slice pb t.bs.length cb) t.bs
 flts:Sl w (.slice pf t.fs.length cf) t.fs.length fv
 fltv:Kb w t.fs fv
theorem WalkS.below{t:WS}{pe pb pf:O0}{ce cb cf:Nat}{fv:List Value}{w W:World}(h:WalkS t pe pb pf ce cb cf fv w)(hb:B0 w W):WalkS t pe pb pf ce cb cf fv W :=
 ⟨Sl.below h.ents hb,Sl.below h.blks hb,Sl.below h.flts hb,h.fltv.below hb⟩
def eL (S:WS):List (Option Int):=if S.fs=[] then [] else(S.fs.getD 0 ([],0)).1.map some
def eT (S:WS):Option Int:=if S.fs=[] then none else some (S.fs.getD 0 ([],0)).2
def Si(S:WS):WS:=if S.fs=[] then S else ws0
def Qz(S:WS):List Int×Int:=if S.fs=[] then([],0) else S.fs.getD 0 ([],0)
def FirstP(fs:List (List Int×Int))(w:World)(e:Ending)(w':World):Prop :=
 (fs=[]∧e=.returned .nilIface∧B0 w w')∨(fs≠[]∧∃ ty x,e=.returned (.iface ty x)∧B0 w w'∧Qw w' ((fs.getD 0 ([],0)).1.map some) (some (fs.getD 0 ([],0)).2) (.iface ty x))
theorem Nn(p:O0)(n c:Nat)(fv:List Value)(ty:TypeId)(x:Value)(w:World)(hn:0<n)(hS:Sl w (.slice p n c) n fv)(hx:fv[0]? = some (.iface ty x)) :
 C0 54 #[.slice p n c] w (Ret (.iface ty x) w):=by
 refine zin 15 Tryz.func54 ?_
 refine xu 14 1 ?_
 refine xk 6 (show(decide ((0:Int)<(n:Int)):Bool)=true from decide_eq_true (by omega)) ?_
 refine xx 6 _ n 0 1 (Sl.elem1 hS hx).1 ?_
 refine xl 0 ((Sl.elem1 hS hx).2) ?_
 exact xe 22 (.iface ty (x)) ⟨rfl,(B3 w)⟩
theorem Nl(p:O0)(c:Nat)(w:World) :
 C0 54 #[.slice p 0 c] w (Ret .nilIface w):=by
 refine zin 15 Tryz.func54 ?_
 refine xu 14 1 ?_
 exact xe 18 .nilIface ⟨rfl,(B3 w)⟩
theorem Rm(p:O0)(n c:Nat)(fs:List (List Int×Int))(fv:List Value)(w:World)(hn:fs.length=n)(hS:Sl w (.slice p n c) n fv)(hF:Kb w fs fv):C0 54 #[.slice p n c] w (FirstP fs w):=by
 subst hn
 match fs,hS,hF with
 | [],hS,hF =>
  refine(Nl p c w).mono ?_
  rintro e W ⟨rfl,hb⟩
  exact .inl ⟨rfl,rfl,hb⟩
 | f::r,hS,hF =>
  obtain⟨ty,x,h1,h2⟩:=hF.at (j:=0) (by simp)
  refine(Nn p _ c fv ty x w (by simp) hS h1).mono ?_
  rintro e W ⟨rfl,hb⟩
  exact .inr ⟨by simp,ty,x,rfl,hb,h2.below hb⟩
theorem WalkV.mono{B B':Nat}{t:WS}{pe pb pf:O0}{ce cb cf:Nat}{fv:List Value}{w:World}(h:WalkV B t pe pb pf ce cb cf fv w)(hB:B'≤B):WalkV B' t pe pb pf ce cb cf fv w:=⟨Zh h.ents hB,Zh h.blks hB,Zh h.flts hB,h.fltv⟩
theorem WalkV.below{B:Nat}{t:WS}{pe pb pf:O0}{ce cb cf:Nat}{fv:List Value}{w W:World}(h:WalkV B t pe pb pf ce cb cf fv w)(hb:B0 w W):WalkV B t pe pb pf ce cb cf fv W:=⟨Zb h.ents hb,Zb h.blks hb,Zb h.flts hb,h.fltv.below hb⟩
theorem WalkV.only{B:Nat}{T:List TypeId}{t:WS}{pe pb pf:O0}{ce cb cf:Nat}{fv:List Value}{w W:World}(h:WalkV B t pe pb pf ce cb cf fv w)(hO:Ze T w W)(hT:T.contains 45=false∧T.contains 3=false∧T.contains 31=false∧T.contains 152=false):WalkV B t pe pb pf ce cb cf fv W:=⟨Zi h.ents hO hT.1,Zi h.blks hO hT.2.1,Zi h.flts hO hT.2.2.1,h.fltv.only hO hT.2.2.2⟩
theorem WalkV.s{B:Nat}{t:WS}{pe pb pf:O0}{ce cb cf:Nat}{fv:List Value}{w:World}(h:WalkV B t pe pb pf ce cb cf fv w):WalkS t pe pb pf ce cb cf fv w:=⟨Zg h.ents,Zg h.blks,Zg h.flts,h.fltv⟩
theorem WalkV.zero(B:Nat)(w:World):WalkV B ws0 none none none 0 0 0 [] w:=⟨World.ownsRow_nil _ _ _ _,World.ownsRow_nil _ _ _ _,World.ownsRow_nil _ _ _ _,trivial⟩
theorem Zai{S:WS}(h:S.fs=[]):Si S=S∧Qz S=([],0)∧eL S=[]∧eT S=none:=by unfold Si Qz eL eT;simp[h]
theorem Bb{S:WS}(h:S.fs≠[]):Si S=ws0∧Qz S=S.fs.getD 0 ([],0)∧eL S=(S.fs.getD 0 ([],0)).1.map some∧eT S=some (S.fs.getD 0 ([],0)).2:=by unfold Si Qz eL eT;simp[h]
def WholeP(S:WS)(w:World)(e:Ending)(w':World):Prop:=∃ t pe pb pf ce cb cf fv v,t=Si S∧e=.returned (.tuple #[.agg (walkC t pe pb pf ce cb cf).toArray,v])∧B0 w w'∧WalkV w.heap.size t pe pb pf ce cb cf fv w'∧Qw w' (eL S) (eT S) v
theorem Ak(Bi b:Nat)(pi:O0)(ni ci:Nat)(l:Bl)(root tree fuel:Int)(w:World)(hfu:fuel≤1000)(hI:ImgR Bi b pi ni ci l w) :
 C0 34 #[P0 b,V0 root,V0 tree,V0 fuel] w (WholeP (Zd l root tree fuel) w):=by
 refine zin 25 Tryz.func34 ?_
 refine xa 2 [S0,S0,V0 0,V0 0,S0] 87 fun b1 W1 n1=>?_
 have b6:=n1.below.size
 refine xc 9 (args:=#[P0 b,V0 root,V0 tree,V0 fuel]) (Zfa Bi b pi ni ci l root tree fuel _ hfu (hI.below n1.below)) ?_
 rintro _ W2 ⟨pe,pb,pf,ce,cb,cf,fv,rfl,b4,b5⟩
 have hW:=b5.mono b6
 refine xa 0 [S0,S0,V0 0,V0 0,S0] 87 fun b3 W3 n3=>?_
 have k1:=n1.blk.below b4
 have a1:=n3.ne k1
 have a3:=bln n1.below b4
 have g3:=n3.ge a3
 refine xsv 0 n3.blk [.slice pe ((Zd l root tree fuel).es.length) ce,.slice pb ((Zd l root tree fuel).bs.length) cb,V0 ((Zd l root tree fuel).deep),V0 (↑(Zd l root tree fuel).looked:Int),.slice pf ((Zd l root tree fuel).fs.length) cf] fun W4 u4 k4=>?_
 refine xb 6 4 k4 ?_
 have a2:=(hW.below n3.below).only (Ze.of_upd (T:=[87]) u4 n3.blk (by decide)) (by decide)
 refine xc 0 (args:=#[.slice pf ((Zd l root tree fuel).fs.length) cf]) (Rm pf _ cf (Zd l root tree fuel).fs fv _ rfl (Zg a2.flts) a2.fltv) ?_
 rintro e W5 b7
 rcases b7 with ⟨hz,rfl,a4⟩|⟨hz,ty,x,rfl,a4,hv⟩
 ·have a0:=Zai hz
  have a9:=k4.below a4
  refine xlv 14 a9.rp ?_
  have a6:=(u4.blk (k1.below n3.below) (Ne.symm (Ne.symm a1))).below a4
  refine xsv 0 a6 [.slice pe ((Zd l root tree fuel).es.length) ce,.slice pb ((Zd l root tree fuel).bs.length) cb,V0 ((Zd l root tree fuel).deep),V0 (↑(Zd l root tree fuel).looked:Int),.slice pf ((Zd l root tree fuel).fs.length) cf] fun W6 u6 k6=>?_
  have g1:=n1.ge (B3 w)
  have a8:=u6.below (bln (u4.below (bln a3 n3.below) g3) a4) g1
  have b0:=(a2.below a4).only (Ze.of_upd (T:=[87]) u6 a6 (by decide)) (by decide)
  exact xec 4 k6 (.tuple #[.agg #[.slice pe ((Zd l root tree fuel).es.length) ce,.slice pb ((Zd l root tree fuel).bs.length) cb,V0 ((Zd l root tree fuel).deep),V0 (↑(Zd l root tree fuel).looked:Int),.slice pf ((Zd l root tree fuel).fs.length) cf],.nilIface]) ⟨_,pe,pb,pf,ce,cb,cf,fv,_,rfl,by rw[a0.1];rfl,a8,by rw[a0.1];exact b0,by rw[a0.2.2.1,a0.2.2.2];rfl⟩
 have a0:=Bb hz
 have a5:=(u4.blk (k1.below n3.below) (Ne.symm (Ne.symm a1))).below a4
 refine xsv 14 a5 [S0,S0,V0 0,V0 0,S0] fun W7 u7 k7=>?_
 have g1:=n1.ge (B3 w)
 have b2:=u7.below (bln (u4.below (bln a3 n3.below) g3) a4) g1
 have a7:=hv.upd u7 a5 (by decide)
 exact xec 5 k7 (.tuple #[.agg #[S0,S0,V0 0,V0 0,S0],.iface ty (x)]) ⟨_,none,none,none,0,0,0,[],_,rfl,by rw[a0.1];rfl,b2,by rw[a0.1];exact WalkV.zero _ _,by rw[a0.2.2.1,a0.2.2.2];exact a7⟩
def Hu:List Gv:=[(8,0,1099511627775)]
theorem Zd8:Ji Hu:=by
 refine⟨by decide,fun i hi=>?_⟩
 have a0:i<1:=hi
 obtain rfl:i=0:=by omega
 simp[Hu,List.getD]
def Ku:List Gv:=[(8,0,16384),(8,0,2147483647),(4,0,16777215),(4,0,16777215)]
theorem Ts:Ji Ku:=by
 refine⟨by decide,fun i hi=>?_⟩
 have a0:i<4:=hi
 obtain rfl|rfl|rfl|rfl:i=0∨i=1∨i=2∨i=3:=by omega
 all_goals simp[Ku,List.getD]
def mapN(v:Bl):Nat:=(Yr Hu v).getD 0 0
def Ni(v:Bl):Nat:=mapN v/16777216
def Bw(v:Bl):Nat:=mapN v%16777216
theorem Zd2(v:Bl):mapN v≤1099511627775:=by
 unfold mapN Yr
 by_cases h:Xt Hu v=0
 ·rw[if_pos h]
  unfold Xt at h
  split at h
  ·split at h
   ·rename_i h1 h2
    unfold Gb Uh at h2
    rw[List.all_eq_true] at h2
    have h3:=of_decide_eq_true (h2 0 (List.mem_range.2 (by decide)))
    rw[show((Jt Hu v).map fun n:Nat=>(n:Int)).getD 0 0=(((Jt Hu v).getD 0 0:Nat):Int) by simp[List.getD,show 0<(Jt Hu v).length by rw[Uz];decide]] at h3
    have h4:(((Jt Hu v).getD 0 0:Nat):Int)≤1099511627775:=h3.2
    omega
   ·simp at h
  ·simp at h
 ·rw[if_neg h];decide
theorem mapB_bd(v:Bl):Ni v≤65535∧Bw v≤16777215:=by
 have:=Zd2 v
 unfold Ni Bw;omega
def Fd(data:Int)(v:Bl):Int:=if Xt Hu v≠0 then Xt Hu v else if data≤(Ni v:Int) then 2 else 0
abbrev Mp:=Int×Int×Int
def Zcl(x:Ent):Mp:=(x.1,(Ni x.2.1:Int),(Bw x.2.1:Int))
def Uf(m:Mp):List Value:=[V0 m.1,V0 m.2.1,V0 m.2.2]
theorem Je(m:Mp):(Uf m).length=3:=rfl
def Za2(data:Int)(es:List Ent)(i:Nat):Prop:=∀ j,j<i→Fd data (es.getD j Zm).2.1=0
theorem Ce{data:Int}{es:List Ent}{i:Nat}(h:Za2 data es i)(h2:Fd data (es.getD i Zm).2.1=0):Za2 data es (i+1):=fun j hj=>by
 by_cases e:j=i
 ·subst e;exact h2
 ·exact h j (by omega)
def Ea(es:List Ent)(data:Int):List Int×Int×List Mp :=
 match (List.range es.length).find? (fun i=>Fd data (es.getD i Zm).2.1 != 0) with
 | some i=>([(es.getD i Zm).2.2],Fd data (es.getD i Zm).2.1,[])
 | none=>([],0,es.map Zcl)
theorem Se{es:List Ent}{data:Int}{i:Nat}(hi:i<es.length)(h:Za2 data es i)(hb:Fd data (es.getD i Zm).2.1≠0):Ea es data=([(es.getD i Zm).2.2],Fd data (es.getD i Zm).2.1,[]):=by
 unfold Ea
 rw[show(List.range es.length).find? (fun i=>Fd data (es.getD i Zm).2.1 != 0)=some i from by
  rw[List.find?_range_eq_some]
  exact⟨by simpa using hb,List.mem_range.2 hi,fun m hm=>by simpa using h m hm⟩]
theorem Ev{es:List Ent}{data:Int}(h:Za2 data es es.length):Ea es data=([],0,es.map Zcl):=by
 unfold Ea
 rw[show(List.range es.length).find? (fun i=>Fd data (es.getD i Zm).2.1 != 0)=none from by
  rw[List.find?_eq_none]
  intro i hi
  have:=h i (List.mem_range.1 hi)
  simpa using this]
def Su(l:Bl)(root data fuel:Int):List Int×Int×List Mp :=
 if(Zd l root 2 fuel).fs≠[] then((Qz (Zd l root 2 fuel)).1,(Qz (Zd l root 2 fuel)).2,[])
 else Ea (Zd l root 2 fuel).es data
theorem Sa{l:Bl}{root data fuel:Int}(h:(Zd l root 2 fuel).fs≠[]):Su l root data fuel=((Qz (Zd l root 2 fuel)).1,(Qz (Zd l root 2 fuel)).2,[]):=if_pos h
theorem Wc{l:Bl}{root data fuel:Int}(h:(Zd l root 2 fuel).fs=[]):Su l root data fuel=Ea (Zd l root 2 fuel).es data:=if_neg (fun q=>q h)
def Yk(v:Bl)(i:Nat):Nat:=(Yr Ku v).getD i 0
abbrev Dv:=(Int×Int×Int×Int)×List Mp
def Vm(l:Bl)(y:Ent)(data fuel:Int):List Int×Int×List Mp:=Su l (Kq y.2.1:Int) data fuel
def Nh(l:Bl)(x y:Ent)(data fuel:Int)(sum:Nat):List Int×Int :=
 if 16777215<x.1 then([x.2.2],9)
 else if Xt Ku x.2.1≠0 then([x.2.2],Xt Ku x.2.1)
 else if Yo y.2.1≠0 then([y.2.2],Yo y.2.1)
 else if(Vm l y data fuel).2.1≠0 then(y.2.2::(Vm l y data fuel).1,(Vm l y data fuel).2.1)
 else if(Vm l y data fuel).2.2.length≠Yk x.2.1 0 then([x.2.2],13)
 else if 16384<sum+(Vm l y data fuel).2.2.length then([y.2.2],2)
 else([],0)
def devX(l:Bl)(x y:Ent)(data fuel:Int):Dv:=((x.1,(Yk x.2.1 1:Int),(Yk x.2.1 2:Int),(Yk x.2.1 3:Int)),(Vm l y data fuel).2.2)
def sumL(l:Bl)(T:List Ent)(data fuel:Int):Nat→Nat
 | 0=>0
 | i+1=>sumL l T data fuel i+(Vm l (T.getD i Zm) data fuel).2.2.length
def Zd9(l:Bl)(D T:List Ent)(data fuel:Int)(i:Nat):List Int×Int:=Nh l (D.getD i Zm) (T.getD i Zm) data fuel (sumL l T data fuel i)
def Zgk(l:Bl)(D T:List Ent)(data fuel:Int)(i:Nat):List Dv:=(List.range i).map fun k=>devX l (D.getD k Zm) (T.getD k Zm) data fuel
theorem devL_len(l:Bl)(D T:List Ent)(data fuel:Int)(i:Nat):(Zgk l D T data fuel i).length=i:=by simp[Zgk]
theorem Be(l:Bl)(D T:List Ent)(data fuel:Int)(i:Nat):Zgk l D T data fuel (i+1)=Zgk l D T data fuel i++[devX l (D.getD i Zm) (T.getD i Zm) data fuel]:=by simp[Zgk,List.range_succ]
def devK(l:Bl)(D T:List Ent)(data fuel:Int)(i:Nat):Prop:=∀ j,j<i→(Zd9 l D T data fuel j).2=0
theorem Sh{l:Bl}{D T:List Ent}{data fuel:Int}{i:Nat}(h:devK l D T data fuel i)(h2:(Zd9 l D T data fuel i).2=0):devK l D T data fuel (i+1):=fun j hj=>by
 by_cases e:j=i
 ·subst e;exact h2
 ·exact h j (by omega)
def Sr(l:Bl)(D T:List Ent)(data fuel:Int):List Int×Int×List Dv :=
 match (List.range D.length).find? (fun i=>(Zd9 l D T data fuel i).2 != 0) with
 | some i=>((Zd9 l D T data fuel i).1,(Zd9 l D T data fuel i).2,[])
 | none=>([],0,Zgk l D T data fuel D.length)
theorem Sb{l:Bl}{D T:List Ent}{data fuel:Int}{i:Nat}(hi:i<D.length)(h:devK l D T data fuel i)(hb:(Zd9 l D T data fuel i).2≠0):Sr l D T data fuel=((Zd9 l D T data fuel i).1,(Zd9 l D T data fuel i).2,[]):=by
 unfold Sr
 rw[show(List.range D.length).find? (fun i=>(Zd9 l D T data fuel i).2 != 0)=some i from by
  rw[List.find?_range_eq_some]
  exact⟨by simpa using hb,List.mem_range.2 hi,fun m hm=>by simpa using h m hm⟩]
theorem Fh{l:Bl}{D T:List Ent}{data fuel:Int}(h:devK l D T data fuel D.length):Sr l D T data fuel=([],0,Zgk l D T data fuel D.length):=by
 unfold Sr
 rw[show(List.range D.length).find? (fun i=>(Zd9 l D T data fuel i).2 != 0)=none from by
  rw[List.find?_eq_none]
  intro i hi
  have:=h i (List.mem_range.1 hi)
  simpa using this]
def Hj:List Ent→List Ent→Nat
 | [],[]=>0
 | [],_::_=>1
 | _::_,[]=>2
 | x::a,y::b=>if x.1=y.1 then Hj a b else if x.1<y.1 then 2 else 1
theorem Zb8{D T:List Ent}(h:Hj D T=0):D.length=T.length∧∀ i,i<D.length→(D.getD i Zm).1=(T.getD i Zm).1:=by
 induction D generalizing T with
 | nil =>
  cases T with
  | nil=>exact⟨rfl,fun i hi=>absurd hi (by simp)⟩
  | cons y b=>simp[Hj] at h
 | cons x a ih =>
  cases T with
  | nil=>simp[Hj] at h
  | cons y b =>
   by_cases e:x.1=y.1
   ·have h2:Hj a b=0:=by simpa [Hj,e] using h
    obtain⟨h3,h4⟩:=ih h2
    refine⟨by simp[h3],fun i hi=>?_⟩
    cases i with
    | zero=>simpa [List.getD] using e
    | succ i=>simpa [List.getD] using h4 i (by simpa using hi)
   ·by_cases q:x.1<y.1<;>simp[Hj,e,q] at h
def Qp(l:Bl)(top details data fuel:Int):List Int×Int×List Dv :=
 if(Zd l details 3 fuel).fs≠[] then((Qz (Zd l details 3 fuel)).1,(Qz (Zd l details 3 fuel)).2,[])
 else if(Zd l top 1 fuel).fs≠[] then((Qz (Zd l top 1 fuel)).1,(Qz (Zd l top 1 fuel)).2,[])
 else if 4096<(Zd l details 3 fuel).es.length then([details],2,[])
 else if Hj (Zd l details 3 fuel).es (Zd l top 1 fuel).es=1 then([details],18,[])
 else if Hj (Zd l details 3 fuel).es (Zd l top 1 fuel).es=2 then([top],18,[])
 else Sr l (Zd l details 3 fuel).es (Zd l top 1 fuel).es data fuel
theorem Ua(w:World) :
 C0 26 #[] w (Kg (fun w' r=>∃ b,r=.slice (S1 b) 1 1∧w.heap.size≤b∧Blk w' b [V0 8,V0 0,V0 1099511627775] 107) w):=by
 refine zin 3 Tryz.func26 ?_
 refine xbs 8 1 [V0 8,V0 0,V0 1099511627775] 107 fun b1 W1 n1=>?_
 exact xe 4 (.slice (S1 b1) 1 1) ⟨_,rfl,n1.below,b1,rfl,(n1.ge (B3 w)),n1.blk⟩
theorem map_shr(s:Bl):Int.fdiv (↑((Yr Hu s).getD 0 0):Int) (2 ^ 24)=(Ni s:Int):=by
 show Int.fdiv ((mapN s:Nat):Int) ((16777216:Nat):Int)=_
 rw[Int.fdiv_eq_ediv_of_nonneg _ (by omega)]
 unfold Ni;omega
theorem map_and(s:Bl):IntKind.i64.wrap (↑(BitVec.ofInt 64 (↑((Yr Hu s).getD 0 0):Int) &&& BitVec.ofInt 64 (16777215:Int)).toNat:Int)=(Bw s:Int):=by
 show IntKind.i64.wrap (↑(BitVec.ofInt 64 (mapN s:Int) &&& BitVec.ofInt 64 (16777215:Int)).toNat:Int)=(Bw s:Int)
 have:=Zd2 s
 rw[show(16777215:Int)=((16777215:Nat):Int) from rfl,BitVec.ofInt_natCast,BitVec.ofInt_natCast,BitVec.toNat_and,BitVec.toNat_ofNat,BitVec.toNat_ofNat,Nat.mod_eq_of_lt (by omega),Nat.mod_eq_of_lt (by omega)]
 rw[show mapN s &&& 16777215=mapN s%16777216 from Nat.and_two_pow_sub_one_eq_mod (mapN s) 24]
 exact Lp (by omega)
theorem Dy(s:Bl)(w:World)(hs:s.length≤1000) :
 C0 98 #[.string ⟨s.toArray⟩] w (Ret (.tuple #[V0 (↑(Ni s):Int),V0 (↑(Bw s):Int),V0 (Xt Hu s)]) w):=by
 refine zin 22 Tryz.func98 ?_
 refine xc 9 (args:=#[]) (Ua _) ?_
 rintro _ W1 ⟨_,rfl,a1,gl,rfl,gg,kl⟩
 refine xc 1 (args:=#[.slice (S1 gl) 1 1,.string ⟨s.toArray⟩]) (My Hu s (S1 gl) 1 _ Zd8 (by decide) (by omega) (kl.sl 1 1 (by decide) (by decide))) ?_
 rintro _ W2 ⟨_,rfl,a2,p5,c5,rfl,h5⟩
 refine xd 8 .z ?_
 have a0:=Zb (Zh h5 a1.size) (Za W2)
 refine xx (.e [0] 1) _ 1 0 1 (Zu (l:=Yr Hu s) (Zg a0) (Yl _ _) (k:=0) (by decide)).1 ?_
 refine xl (.e [] 2) ((Zu (l:=Yr Hu s) (Zg a0) (Yl _ _) (k:=0) (by decide)).2) ?_
 refine xq (.e [] 3) (congrArg V0 (show(Int.fdiv (↑((Yr Hu s).getD 0 0):Int) (2 ^ 24):Int)=(↑(Ni s):Int) from map_shr s)) ?_
 refine xx (.e [4] 5) _ 1 0 1 (Zu (l:=Yr Hu s) (Zg a0) (Yl _ _) (k:=0) (by decide)).1 ?_
 refine xl (.e [] 6) ((Zu (l:=Yr Hu s) (Zg a0) (Yl _ _) (k:=0) (by decide)).2) ?_
 refine xq (.e [] 7) (congrArg V0 (show(IntKind.i64.wrap (↑(BitVec.ofInt 64 (↑((Yr Hu s).getD 0 0):Int) &&& BitVec.ofInt 64 (16777215:Int)).toNat:Int):Int)=(↑(Bw s):Int) from map_and s)) ?_
 have hB:=bln (bln a1 a2) (Za W2)
 exact xe (.r [8,9,10,11] 3) (.tuple #[V0 (↑(Ni s):Int),V0 (↑(Bw s):Int),V0 (Xt Hu s)]) ⟨rfl,hB⟩
theorem Jk(w:World) :
 C0 33 #[] w (Kg (fun w' r=>∃ b,r=.slice (S1 b) 4 4∧w.heap.size≤b∧Blk w' b [V0 8,V0 0,V0 16384,V0 8,V0 0,V0 2147483647,V0 4,V0 0,V0 16777215,V0 4,V0 0,V0 16777215] 107) w):=by
 refine zin 6 Tryz.func33 ?_
 refine xbs 11 4 [V0 8,V0 0,V0 16384,V0 8,V0 0,V0 2147483647,V0 4,V0 0,V0 16777215,V0 4,V0 0,V0 16777215] 107 fun b1 W1 n1=>?_
 exact xe 4 (.slice (S1 b1) 4 4) ⟨_,rfl,n1.below,b1,rfl,(n1.ge (B3 w)),n1.blk⟩
theorem Nj(s:Bl)(w:World)(hs:s.length≤1000) :
 C0 57 #[.string ⟨s.toArray⟩] w (Ret (.tuple #[.agg #[V0 (↑(Yk s 0):Int),V0 (↑(Yk s 1):Int),V0 (↑(Yk s 2):Int),V0 (↑(Yk s 3):Int)],V0 (Xt Ku s)]) w):=by
 refine zin 26 Tryz.func57 ?_
 refine xa 2 [V0 0,V0 0,V0 0,V0 0] 51 fun b1 W1 n1=>?_
 refine xc 5 (args:=#[]) (Jk _) ?_
 rintro _ W2 ⟨_,rfl,a1,gl,rfl,gg,kl⟩
 refine xc 1 (args:=#[.slice (S1 gl) 4 4,.string ⟨s.toArray⟩]) (My Ku s (S1 gl) 4 _ Ts (by decide) (by omega) (kl.sl 4 4 (by decide) (by decide))) ?_
 rintro _ W3 ⟨_,rfl,a2,p5,c5,rfl,h5⟩
 have a3:=(bln n1.below a1).size
 refine xd 8 (.t w.heap.size [51]) ?_
 have a0:=Zb (Zh h5 a3) (Za W3)
 refine xx (.e [0] 1) _ 4 0 1 (Zu (l:=Yr Ku s) (Zg a0) (Yl _ _) (k:=0) (by decide)).1 ?_
 refine xlt (.e [] 2) (.t w.heap.size [51]) (fun V hV=>(Zu (l:=Yr Ku s) (Zg (Zi a0 hV.2 (by decide))) (Yl _ _) (k:=0) (by decide)).2) ?_
 refine xx (.e [3] 4) _ 4 1 1 (Zu (l:=Yr Ku s) (Zg a0) (Yl _ _) (k:=1) (by decide)).1 ?_
 refine xlt (.e [] 5) (.t w.heap.size [51]) (fun V hV=>(Zu (l:=Yr Ku s) (Zg (Zi a0 hV.2 (by decide))) (Yl _ _) (k:=1) (by decide)).2) ?_
 refine xx (.e [6] 7) _ 4 2 1 (Zu (l:=Yr Ku s) (Zg a0) (Yl _ _) (k:=2) (by decide)).1 ?_
 refine xlt (.e [] 8) (.t w.heap.size [51]) (fun V hV=>(Zu (l:=Yr Ku s) (Zg (Zi a0 hV.2 (by decide))) (Yl _ _) (k:=2) (by decide)).2) ?_
 refine xx (.e [9] 10) _ 4 3 1 (Zu (l:=Yr Ku s) (Zg a0) (Yl _ _) (k:=3) (by decide)).1 ?_
 refine xlt (.e [] 11) (.t w.heap.size [51]) (fun V hV=>(Zu (l:=Yr Ku s) (Zg (Zi a0 hV.2 (by decide))) (Yl _ _) (k:=3) (by decide)).2) ?_
 have k1:=((n1.blk.below a1).below a2).below (Za W3)
 have g1:=n1.ge (B3 w)
 refine ysv (.o [12,13] 14) k1 [V0 (↑((Yr Ku s).getD 0 0):Int),V0 (↑((Yr Ku s).getD 1 0):Int),V0 (↑((Yr Ku s).getD 2 0):Int),V0 (↑((Yr Ku s).getD 3 0):Int)] (.t w.heap.size [51]) fun W4 u4 k4=>⟨(Zw u4 k1 g1 (by decide)),?_⟩
 have hB:=u4.below (bln (bln (bln n1.below a1) a2) (Za W3)) g1
 exact xec (.r [15] 3) k4 (.tuple #[.agg #[V0 (↑((Yr Ku s).getD 0 0):Int),V0 (↑((Yr Ku s).getD 1 0):Int),V0 (↑((Yr Ku s).getD 2 0):Int),V0 (↑((Yr Ku s).getD 3 0):Int)],V0 (Xt Ku s)]) ⟨rfl,hB⟩
theorem Kn(l:Bl)(root tree fuel:Int):∀ i,i<(Zd l root tree fuel).es.length→((Zd l root tree fuel).es.getD i Zm).2.1.length≤1000:=fun i hi=>by
 have hx:(Zd l root tree fuel).es.getD i Zm∈(Zd l root tree fuel).es:=by rw[show(Zd l root tree fuel).es.getD i Zm=(Zd l root tree fuel).es[i] from by simp[List.getD,hi]];exact List.getElem_mem hi
 obtain⟨_,_,k,_,_,h,_⟩:=(scan_law l root tree fuel).2.2.1 _ hx
 rw[←h]
 exact Lf _ _ _
theorem Hg(Bi b:Nat)(pi:O0)(ni ci:Nat)(l:Bl)(root tree fuel:Int)(w:World)(hfu:fuel≤1000)(hI:ImgR Bi b pi ni ci l w) :
 C0 34 #[P0 b,V0 root,V0 tree,V0 fuel] w (fun e w' =>
 ((Zd l root tree fuel).fs≠[]∧∃ pe ce pb cb pf cf ty x,e=.returned (.tuple #[.agg #[.slice pe 0 ce,.slice pb 0 cb,V0 0,V0 0,.slice pf 0 cf],.iface ty x])∧B0 w w'∧Qw w' ((Qz (Zd l root tree fuel)).1.map some) (some (Qz (Zd l root tree fuel)).2) (.iface ty x)) ∨
 ((Zd l root tree fuel).fs=[]∧∃ pe ce pb nb cb dp lk pf cf,e=.returned (.tuple #[.agg #[.slice pe (Zd l root tree fuel).es.length ce,.slice pb nb cb,V0 dp,V0 lk,.slice pf 0 cf],.nilIface])∧B0 w w'∧w'.ownsRow w.heap.size 45 3 (.slice pe (Zd l root tree fuel).es.length ce) (Zd l root tree fuel).es.length ((Zd l root tree fuel).es.flatMap Hl))):=by
 refine(Ak Bi b pi ni ci l root tree fuel w hfu hI).mono ?_
 rintro e W ⟨t,pe,pb,pf,ce,cb,cf,fv,v,ht,rfl,hb,hW,hv⟩
 by_cases h:(Zd l root tree fuel).fs=[]
 ·obtain⟨h1,_,h3,h4⟩:=Zai h
  rw[h1] at ht
  rw[h3,h4] at hv
  subst ht
  have a0:v=.nilIface:=hv
  subst a0
  refine .inr ⟨h,pe,ce,pb,(Zd l root tree fuel).bs.length,cb,(Zd l root tree fuel).deep,((Zd l root tree fuel).looked:Int),pf,cf,?_,hb,hW.ents⟩
  unfold walkC
  rw[h];rfl
 ·obtain⟨h1,h2,h3,h4⟩:=Bb h
  rw[h1] at ht
  rw[h3,h4,←h2] at hv
  subst ht
  rcases hv.nil_or with ⟨hz,_⟩|⟨_,ty,x,rfl⟩
  ·simp[Ie] at hz
  ·exact .inl ⟨h,pe,ce,pb,cb,pf,cf,ty,x,rfl,hb,hv⟩
theorem Rx(no er:Int)(bl:List Int)(v:Value)(w:World)(hv:Qw w (bl.map some) (some er) v) :
 C0 55 #[V0 no,v] w (fun e w'=>∃ ty x,e=.returned (.iface ty x)∧B0 w w'∧Qw w' ((no::bl).map some) (some er) (.iface ty x)):=by
 refine(Yh no (some er) (bl.map some) v w hv).mono ?_
 rintro e W ⟨r,rfl,hb,hr⟩
 rw[show atL no (bl.map some) (some er)=(no::bl).map some from by unfold atL Ie;simp] at hr
 have a0:Qw W (some no::bl.map some) (some er) r:=hr
 obtain⟨a1,v',rfl,h1,h2⟩:=a0
 exact⟨_,_,rfl,hb,a1,v',rfl,h1,h2⟩
theorem Wh{l:Bl}{root tree fuel:Int}(h:(Zd l root tree fuel).fs≠[]):(Qz (Zd l root tree fuel)).2≠0:=by
 obtain⟨es,fs,hw⟩:=Jq l root tree fuel
 have h2:(Zd l root tree fuel).fs=fs:=by rw[hw.fsE];rfl
 rw[(Bb h).2.1]
 rw[h2] at h ⊢
 cases fs with
 | nil=>exact absurd rfl h
 | cons f r=>exact(hw.flt f (by simp)).2.2
end Go.Proofs.YtgphgaehfdfjjaaGreat
