/- What the iterator of slices.Backward hands over: the elements of a slice of ints from the last one to the first. -/
import Derived.RangeFuncNested
import Derived.RangeFuncBound
import Derived.RangeFuncCalls
import Derived.RangeFuncLeaves
import Derived.Shelf.Abstract
import Derived.Shelf.RegionOpen
import Derived.OwnWalkIn
import Derived.TacticsInMore
import Derived.LoopNIn
import Derived.LoopIn
import Derived.Test.YtekomodnkfhihaaGreatDoorMg3
namespace Go.Proofs.YtekomodnkfhihaaGreatDoor
set_option maxHeartbeats 8000000
open Prod (fst)
open List (range replicate getD)
set_option maxRecDepth 100000
set_option linter.unusedVariables false
section
open Go.RowKit
section
attribute [local go_sem] Oper.semAt_some
def encB(l:V6 Int)(j:Fin l.length):Array V2:=#[V0 (qOf j:Int),V0 (l[qOf j]?.getD 0)]
theorem back1_in(l Bk:Nat)(p:Nat→Prop)(b off cap:Nat)(zs:V6 Int)(hlen:zs.length≤9223372036854775807)(hb':zs.length=0∨p b)(hBk:p Bk)(J Jx:V6 (Fin zs.length)→V1→Prop)
  (hY:∀ pre x W,J pre W→pre.length<zs.length→YieldAt Fence.wide 2 Tryz.prog l (encB zs x) W fun e W' =>
   (e=.returned (.bool true)∧J (pre++[x]) W'∧Keeps p W W')∨(e=.returned (.bool false)∧Jx (pre++[x]) W'))
  (W:V1) (hck:W.cell? ⟨Bk,0,none⟩=some (.slice (some ⟨b,off,none⟩) zs.length cap))
  (hc:∀ j x,zs[j]? = some x→W.cell? ⟨b,off+j,none⟩=some (V0 x)) (h0:J [] W) :
  CallsIn Fence.wide 3 Tryz.prog 283 #[.func (.yield l) #[] #[],P0 Bk] W fun e W'=>(∃ v,e=.returned v) ∧
   ((∃ ys,ys=List.finRange zs.length∧J ys W')∨(∃ pre,(∃ k,k≤zs.length∧pre=(List.finRange zs.length).take k)∧Jx pre W')):=by
 refine callsIn_of_wp Tryz.func283 rfl trivial ?_ rfl
 simp only[Tryz.ntmps283,Gt,C5,E4,Nat.reduceAdd,Nat.reduceSub,H9,Id,I9,I2,F7,Ge]
 gi_wp2
 gi_loopw [3] (fun i wr=>∃ k:Nat,k≤zs.length∧i=V0 ((zs.length:Int)-1-k)∧J ((List.finRange zs.length).take k) wr∧Keeps p W wr)
  (fun i _=>((intOf i)+1).toNat)
 case atStart=>exact⟨0,A5 _,Y5,h0,Keeps.refl _ _⟩
 case round =>
  obtain⟨k,hk,rfl,a1,a2⟩:=hrel
  by_cases hlt:k<zs.length
  ·have hb:p b:=hb'.resolve_left M0
   obtain⟨x,hx⟩:∃ x,zs[zs.length-1-k]? = some x:=⟨zs[zs.length-1-k],Y5⟩
   have a7:=(a2.cell (a:=⟨Bk,0,none⟩) hBk).trans hck
   have b0:=(a2.cell (a:=⟨b,off+(zs.length-1-k),none⟩) hb).trans (hc _ _ hx)
   obtain⟨q,hq⟩:∃ q:Nat,q=zs.length-1-k:=⟨_,rfl⟩
   have a3:((zs.length:Int)-1-k)=(q:Int):=M0
   have b2:q<zs.length:=M0
   obtain⟨fn,b1,a4,a9,hy,hR⟩:=hY _ ⟨k,hlt⟩ wr a1 (by rw[Ww hk];exact hlt)
   have hE:encB zs ⟨k,hlt⟩=#[V0 (q:Int),V0 x]:=by
    have e0:zs[q]? = some x:=(by rw[hq];exact hx);have e2:qOf (⟨k,hlt⟩:Fin zs.length)=q:=hq.symm;simp only[encB,e2,e0,K2]
   rw[hE] at hy
   rw[←hq] at b0
   rw[a3]
   clear hq
   have HI:=Lib.hid a3;clear a3
   clear hx
   clear hE
   gi_wp2
   refine hR.mono ?_
   rintro e W3 (⟨rfl,a6,a8⟩|⟨rfl,a5⟩)
   ·gi_wp2
    go_roundw
    case rel =>
     refine⟨k+1,M0,?_,by rw[Kz hlt];exact a6,a2.trans a8⟩
     exact congrArg V0 (by have:=HI.out;omega)
    case measure=>simp[intOf]
   ·gi_wp2
    refine bodyPost_ret (results_none rfl _ _ _) rfl ?_
    exact⟨⟨_,rfl⟩,.inr ⟨_,⟨k+1,M0,by rw[Kz hlt]⟩,a5⟩⟩
  ·obtain rfl:k=zs.length:=M0
   have a0:((zs.length:Int)-1-zs.length) = -1:=M0
   rw[a0]
   clear a0
   rw[Ch] at a1
   have HJ:=Lib.hid a1;clear a1
   gi_wp2
   go_end0
   exact⟨⟨_,rfl⟩,.inl ⟨_,rfl,HJ.out⟩⟩
theorem Zin{α:Type}(l Bk:Nat)(J:V6 α→V1→Prop)(W:V1){a0:O0}{c0:Nat}(hck:W.cell? ⟨Bk,0,none⟩=some (.slice a0 0 c0))(h0:J [] W) :
 CallsIn Fence.wide 3 Tryz.prog 283 #[.func (.yield l) #[] #[],P0 Bk] W fun e W'=>(∃ v,e=.returned v)∧J [] W':=by
 refine callsIn_of_wp Tryz.func283 rfl trivial ?_ rfl
 simp only[Tryz.ntmps283,Gt,C5,E4,Nat.reduceAdd,Nat.reduceSub,H9,Id,I9,I2,F7,Ge]
 gi_wp2
 gi_loopw [3] (fun i wr=>i=V0 (-1)∧J [] wr) (fun _ _=>0)
 case atStart=>exact⟨rfl,h0⟩
 case round =>
  obtain⟨rfl,a1⟩:=hrel
  gi_wp2
  go_end0
  exact⟨⟨_,rfl⟩,a1⟩
theorem Zpe(Bk:Nat)(p:Nat→Prop)(v:V2)(zs:V6 Int)(w:V1)(hp:∀ b,p b→b<w.heap.size)(hk:p Bk)(hlen:zs.length≤9223372036854775807)(hv:Ints w v zs)
  (hvp:zs.length≠0→∀ b off n cap,v=.slice (some ⟨b,off,none⟩) n cap→p b) (hck:w.cell? ⟨Bk,0,none⟩=some v) :
  SeqStopsK Fence.wide 3 Tryz.prog 283 #[P0 Bk] (encB zs) (Keeps p)
   (fun ys=>ys=List.finRange zs.length) (fun pre=>∃ k,k≤zs.length∧pre=(List.finRange zs.length).take k) zs.length w:=fun l J Jx W hW _ _ hY h0=>by
 have a1:=Fh hW hck
 rcases hv with ⟨a0,c0,rfl,h1,h2⟩|⟨b,off,cap,rfl,a4,a2,a3⟩
 ·obtain rfl:zs=[]:=by simpa using h2
  exact(Zin l Bk J W a1 h0).mono fun e W' ⟨he,hj⟩=>⟨he,.inl ⟨_,rfl,hj⟩⟩
 ·refine back1_in l Bk p b off cap zs hlen ?_ hk J Jx hY W a1 (fun j x hj=>Fh hW (a3 j _ (by simp[hj]))) h0
  by_cases h:zs.length=0
  ·exact .inl h
  ·exact .inr (hvp h _ _ _ _ rfl)
end
end
section
open Go.RowKit Go.Extern.Stop Go.Stop Go.Extern
section
attribute [local irreducible] wpList wpAnyH Code.wp Oper.wp Go
theorem Zbr(p:O0)(n c:Nat)(w:V1) :
 C0 267 #[.slice p n c] w (fun e w'=>∃ b,e=.returned (.func (.func 283) #[] #[P0 b])∧B3 w w'∧w.heap.size≤b∧Blk w' b [.slice p n c] 27):=by
 refine zin 4 Tryz.func267 ?_
 refine xa 2 [.slice p n c] 27 fun b1 W1 n1=>?_
 have g1:=n1.ge (B4 w)
 exact xe 10 (.func (.func 283) #[] #[P0 b1]) ⟨_,rfl,n1.i,g1,n1.blk⟩
end
section
attribute [local irreducible] wpList wpAnyH Code.wp Oper.wp Go
attribute [local go_sem] Oper.semAt_some
theorem Q7(w:V1)(D:Nat)(o:Obj):Upd w D (w.putObj D o):=⟨rfl,rfl,rfl,by simp[World.putObj],fun k hk=>H4 hk⟩
def Dfr (D:Nat)(w:V1):Prop:=w.heap[D]? = some (.deferred (some []))
theorem Dfr.i{D:Nat}{w W:V1}(h:Dfr D w)(hb:B3 w W):Dfr D W:=(hb.block D (Array.getElem?_eq_some_iff.1 h).1).trans h
theorem Dfr.ne{D b:Nat}{w:V1}{cs:V6 V2}{t:V3}(h:Dfr D w)(k:Blk w b cs t):b≠D:=by
 rintro rfl;have h':w.heap[b]? = _:=h;rw[show w.heap[b]? = _ from k] at h';cases h'
theorem Dfr.I{D b:Nat}{w W:V1}{cs:V6 V2}{t:V3}(h:Dfr D w)(u:Upd w b W)(k:Blk w b cs t):Dfr D W:=(u.block D fun e=>h.ne k e.symm).trans h
theorem Dfr.row{D:Nat}{w:V1}{base e size n:Nat}{v:V2}{xs:V6 V2}(h:Dfr D w)(k:w.ownsRow base e size v n xs):∀ g,v.ownBlock=some g→g≠D:=by
 rintro g hg rfl;rcases k.2 with ⟨rfl,_⟩|⟨g',a0,a1,rfl,_,hh,_⟩
 ·cases hg
 ·simp only[Value.ownBlock,A0] at hg;subst hg;rw[show w.heap[g']? = _ from h] at hh;cases hh
theorem Dfr.grown{D:Nat}{w W:V1}{base e size n:Nat}{v:V2}{xs:V6 V2}(h:Dfr D w)(hg:w.grownBy W v.ownBlock)(k:w.ownsRow base e size v n xs):Dfr D W :=
 (hg.block D (Array.getElem?_eq_some_iff.1 h).1 fun q=>h.row k D q.symm rfl).trans h
theorem Zi2{P:V4}{fn:Func}{R:V5→V1→Prop}{a:Act}{w:V1}{D:Nat}(hK:Dfr D w)(v:V2)(hd:a.defers=[{ target:=.collected D,args:=#[] }])(hr:(results fn a.tmps).run P (w.putObj D (.deferred none))=.ok v (w.putObj D (.deferred none)))(h:R (.returned v) (w.putObj D (.deferred none))):bodyPostM Fence.wide 4 P fn R .normal a w :=
 by
 show LeavesInM _ _ _ _ a.tmps R a.defers .returning w
 rw[hd]
 exact⟨Y5,.inl ⟨_,_,rfl,run_takeDeferred hK,_,hr,h⟩⟩
def noPan(Q:Exit→Act→V1→Prop):Exit→Act→V1→Prop
 | .normal,a,w=>Q .normal a w
 | .ret,a,w=>Q .ret a w
 | _,_,_=>False
theorem Zks{P:V4}{c:Code}{Q:Exit→Act→V1→Prop}{a:Act}{w:V1}(h:c.wp P (noPan Q) a w):c.wp P Q a w:=wp_mono h fun e a w q=>by cases e<;>first|exact q|exact q.elim
theorem Xp{w:V1}{base size n b:Nat}{e t:V3}{v:V2}{xs cs:V6 V2}(k:w.ownsRow base e size v n xs)(q:Blk w b cs t)(hne:e≠t):∀ g,v.ownBlock=some g→g≠b:=by
 rintro g hg rfl;rcases k.2 with ⟨rfl,_⟩|⟨g',a0,a1,rfl,_,hh,_⟩
 ·cases hg
 ·simp only[Value.ownBlock,A0] at hg;subst hg;rw[show w.heap[g']? = _ from q] at hh;simp only[A0,Obj.cells.injEq] at hh;exact hne hh.2.1.symm
theorem Cp{w W:V1}(h:B3 w W):KeepsOthers w W:=⟨h.size,fun b o hb _=>(h.block b (Array.getElem?_eq_some_iff.1 hb).1).trans hb⟩
theorem Zc7{w W:V1}{b:Nat}{cs:V6 V2}{t:V3}(u:Upd w b W)(k:Blk w b cs t):KeepsOthers w W:=⟨N7 u.size.symm,fun d o hd ho=>(u.block d (by rintro rfl;rw[show w.heap[d]? = _ from k] at hd;cases hd;cases ho)).trans hd⟩
theorem Dfr.e8{T:V6 V3}{a w W:V1}{b:Nat}(h:Zd T a w)(hbb:BelowBut w b W)(hb:a.heap.size≤b):Zd T a W:=fun k cs t fr hk ht=>by
 have h0:=(Array.getElem?_eq_some_iff.1 hk).1;have h1:=h k cs t fr hk ht;rw[hbb.block k (Array.getElem?_eq_some_iff.1 h1).1 M0];exact h1
theorem BelowBut.O{w W:V1}{b base size n:Nat}{e:V3}{v:V2}{xs:V6 V2}(h:BelowBut w b W)(k:w.ownsRow base e size v n xs)(hs:∀ j,v.ownBlock=some j→j≠b):W.ownsRow base e size v n xs:=by
 obtain⟨h1,h2⟩:=k;refine⟨h1,?_⟩;rcases h2 with h2|⟨g,a0,a1,rfl,hg,hh,r⟩
 ·exact Or.inl h2
 ·exact Or.inr ⟨g,a0,a1,rfl,hg,by rw[h.block g (Array.getElem?_eq_some_iff.1 hh).1 (hs g rfl)];exact hh,r⟩
theorem Zbt{β:Type}{w:V1}{b B:Nat}(hB:w.heap.size≤B):OwnFrom B (fun(_:β) W=>BelowBut w b W):=fun _ W W' a1 hs hg hr =>
 ⟨hg.os.trans hs.os,hg.tape.trans hs.tape,hg.output.trans hs.output,N0 hs.size hg.size,fun k hk a0=>(hg.block k (D5 hk hs.size) (fun e=>by have:=(hr k e.symm).1;omega)).trans (hs.block k hk a0)⟩
theorem Kx.a6{A B:V1}{row:Option Nat}{l:V6 (Option Int)}{c:Option Int}{v:V2}(h:Kx A l c v)(hg:A.grownBy B row)(hr:∀ r,row=some r→∃ o:Obj,A.heap[r]? = some o∧o.isCells=false):Kx B l c v:=h.kept fun _ _ k=>k.a6 hg hr
def atW (me:V6 Int)(pre:V6 (Fin me.length))(bs:V6 Int):V6 Int:=(pre.map fun j=>me[qOf j]?.getD 0).reverse++bs
theorem atW_snoc(me:V6 Int)(pre:V6 (Fin me.length))(x:Fin me.length)(bs:V6 Int):atW me (pre++[x]) bs=(me[qOf x]?.getD 0)::atW me pre bs:=by simp[atW]
theorem atW_all(me bs:V6 Int):atW me (List.finRange me.length) bs=me++bs:=by
 unfold atW;congr 1;apply F6
 ·simp
 ·intro i h1 h2;simp only[List.length_reverse,A3,List.length_finRange] at h1;rw[List.getElem_reverse,List.getElem_map];simp only[A3,List.length_finRange,List.getElem_finRange,qOf];have e:me.length-1-(me.length-1-i)=i:=M0;simp[e,h2]
theorem Kx.one{w:V1}{l:V6 (Option Int)}{c:Option Int}{v:V2}(h:Kx w l c v):v.oneCell'=true:=by
 rcases h.a5 with ⟨_,rfl⟩|⟨_,t,x,rfl⟩<;>rfl
theorem Kx.iface{w:V1}{l:V6 (Option Int)}{c:Int}{v:V2}(h:Kx w l (some c) v):∃ t x,v=.iface t x:=by
 rcases h.a5 with ⟨q,_⟩|⟨_,q⟩
 ·simp[Fp] at q
 ·exact q
theorem Jc{b c:Int}{l:V6 (Option Int)}:atL b l (some c)=some b::l:=by simp[atL,Fp]
theorem Zk3{v:V2}(h:v.oneCell'=true):∀ u∈[v],u.oneCell'=true:=by simpa using h
def NoteP(B bw:Nat)(c0 c1 c2 c3 c5 c6 c7 c8 c9:V2)(nf:Nat)(fs:V6 V2)(l:V6 Int)(ec:Int)(w:V1)(e:V5)(w':V1):Prop :=
 ∃ u p c ty x,e=.returned u∧Below B w w'∧Zd [292,39] w w'∧Blk w' bw [c0,c1,c2,c3,.slice p (nf+1) c,c5,c6,c7,c8,c9] 292∧w'.ownsRow B 39 1 (.slice p (nf+1) c) (nf+1) (fs++[.iface ty x])∧Kx w' (l.map some) (some ec) (.iface ty x)
theorem Eg(B bw:Nat)(c0 c1 c2 c3 c5 c6 c7 c9:V2)(pf:O0)(nf cf:Nat)(fs:V6 V2)(pw:O0)(cw:Nat)(me bs:V6 Int)(ec:Int)(ty:V3)(ev:V2)(w:V1)(hBb:B≤bw)(hBw:B≤w.heap.size)(kW:Blk w bw [c0,c1,c2,c3,.slice pf nf cf,c5,c6,c7,.slice pw me.length cw,c9] 292)(hF:w.ownsRow B 39 1 (.slice pf nf cf) nf fs)(hway:w.ownsRow B 3 1 (.slice pw me.length cw) me.length (me.map V0))(hE:Kx w (bs.map some) (some ec) (.iface ty ev))(hwl:me.length≤100000000)(hnf:nf≤100000000) :
 C0 242 #[P0 bw,.iface ty ev] w (NoteP B bw c0 c1 c2 c3 c5 c6 c7 (.slice pw me.length cw) c9 nf fs (me++bs) ec w):=by
 refine Jm Tryz.func242 rfl ?_
 refine Zzm ⟨#[P0 bw,.iface ty ev,undef,undef,undef,undef,undef,undef,undef,undef,undef,undef,undef,undef,undef,undef,undef,undef,undef,undef,undef,undef,undef,undef,undef,undef,undef,undef],[]⟩ K0 ?_
 refine wp_seq ?_
 refine wp_region_lit ?_
 refine Jh K0 (Zc5 [.iface ty ev] rfl K0 ?_)
 intro b1 W1 n1
 have d1_bw:=n1.ne kW
 have g1:=n1.Q (U3 B _)
 have r1_hF:=Hg hF n1
 have hO:Zd [292,39] w _:=(Q0 n1.i)
 have hB:=blB (U3 B w) hBw n1.i
 replace kW:=kW.i n1.i
 replace hF:=Zb hF n1.i
 replace hway:=Zb hway n1.i
 replace hE:=hE.i n1.i
 have k1:=n1.blk
 refine wpList_nil ?_
 refine wp_seq ?_
 refine wp_seq ?_
 refine wp_region_lit ?_
 refine Gg 3 [(6,P0 bw),(7,P0 bw),(8,.pointer (some ⟨bw,8,none⟩))] K0 ?_
 refine Jh K0 (Qd ⟨bw,8,none⟩ (.slice pw me.length cw) rfl K0 K0 (kW.cell (i:=8) rfl) ?_)
 have lt2_bw:=kW.lt
 have lt2_b1:=k1.lt
 have hs2:w.heap.size≤(W1).heap.size:=hB.size
 refine Jh K0 (Ks (lb:=#[]) 267 #[.slice pw me.length cw] rfl K0 (fun _ _=>by kernel_rfl) K0 ((Zbr pw me.length cw _).mono ?_))
 rintro e W2 ⟨bk2,rfl,hb2,hg2,kk2⟩
 refine⟨_,rfl,?_⟩
 replace hO:=hO.trans (Q0 hb2)
 replace hB:=blB hB hBw hb2
 replace kW:=kW.i hb2
 replace k1:=k1.i hb2
 replace hF:=Zb hF hb2
 replace hway:=Zb hway hb2
 replace hE:=hE.i hb2
 have gb2:w.heap.size≤bk2:=N0 hs2 hg2
 have nb2_bw:bk2≠bw:=M0
 have nb2_b1:bk2≠b1:=M0
 refine wpList_nil ?_
 refine wp_block ?_
 have hzk:=kk2.lt
 have hz3:=k1.lt
 have hst:=Zpe bk2 (fun b=>b<W2.heap.size∧b≠b1) (.slice pw me.length cw) me W2 (fun b h=>h.1) ⟨hzk,nb2_b1⟩ M0 (Zf hway) (fun _ b off n cap q=>by cases q;exact⟨(hway.lt b rfl).2,Xp hway k1 Do b rfl⟩) (kk2.cell (i:=0) rfl)
 refine Zzm ⟨#[P0 bw,.iface ty ev,undef,P0 b1,undef,undef,P0 bw,P0 bw,.pointer (some ⟨bw,8,none⟩),.slice pw me.length cw,.func (.func 283) #[] #[P0 bk2],undef,undef,undef,undef,undef,undef,undef,undef,undef,undef,undef,undef,undef,undef,undef,undef,undef],[]⟩ K0 ?_
 refine Zfr (g:=.tmp 10) (gf:=283) (lb:=#[P0 bk2]) rfl (enters_of Tryz.func283 K0 rfl) _ (fun b h=>h.1) hst (fun _=>rfl)
  (fun pre W=>(∃ v',Blk W b1 [v'] 39∧Kx W ((atW me pre bs).map some) (some ec) v')∧BelowBut W2 b1 W)
  (fun _ _ _=>False) ?own (fun _ _ _ _ _ h _ _=>h) ⟨⟨_,k1,hE⟩,(U3 _ _).j2 _⟩
  (fun x a' _=>a'={ tmps:=#[P0 bw,.iface ty ev,undef,P0 b1,undef,V0 (me[qOf x]?.getD 0),P0 bw,P0 bw,.pointer (some ⟨bw,8,none⟩),.slice pw me.length cw,.func (.func 283) #[] #[P0 bk2],V0 (qOf x:Int),V0 (me[qOf x]?.getD 0),undef,undef,undef,undef,undef,undef,undef,undef,undef,undef,undef,undef,undef,undef,undef],defers:=[] }) (fun _ _ _ _ _ _ h _ _=>h) ?assign ?body ?done (fun _ _ _ _ _ _ h _=>h.elim)
 case own=>exact OwnFrom.and (Own.from (fun s A B row hs hg hr=>by obtain⟨v',h1,h2⟩:=hs;exact⟨v',h1.a6 hg hr,h2.a6 hg hr⟩) _) (Zbt (At _))
 case assign =>
  rintro lr pre x W K hI hK
  unfold encB
  gi_wp2
  exact hK _ _ (KeepsFrom.refl _ _) (Keeps.refl _ _) hI rfl
 case body =>
  rintro lr pre x a' W hlr ⟨⟨v',m3,hv'⟩,hbb⟩ rfl hlt
  have mc:=m3.cell (i:=0) rfl
  gi_wp2_with (refine⟨trivial,?_⟩;gi_at_call 65;refine(CallsIn.inRound lr (callsIn_wide.2 (Vw _ _ _ _ _ hv'))).mono ?_;rintro e w2 ⟨r2,rfl,hb2,hE2⟩;obtain⟨t2,x2,rfl⟩:=hE2.iface;have m4:=m3.i hb2;have mg:=m4.frozen 0;have md:=m4.cell (i:=0) rfl)
  have hb2s:=hb2.size
  have u2:=Upd.setCell w2 b1 0 (.iface t2 x2)
  exact⟨((Cp hb2).trans (KeepsOthers.setCell _ _ _)).from _,Keeps.setCell (X4 hb2 (fun b hb=>by have:=hbb.size;have:=hb.1;omega)) (fun hb=>hb.2 rfl) _,⟨_,m4.set 0 _,by rw[atW_snoc,D7,←Jc (c:=ec)];exact(hE2.I u2 m4 Do)⟩,(hbb.next hb2).I u2⟩
 case done =>
 rintro D xs W hD rfl ⟨⟨v',m3,hv'⟩,hbb⟩ hK0
 rw[atW_all] at hv'
 have hK:Dfr D W:=hK0;clear hK0
 refine Zks ?_
 refine Zzm ⟨#[P0 bw,.iface ty ev,undef,P0 b1,undef,undef,P0 bw,P0 bw,.pointer (some ⟨bw,8,none⟩),.slice pw me.length cw,.func (.func 283) #[] #[P0 bk2],undef,undef,undef,undef,undef,undef,undef,undef,undef,undef,undef,undef,undef,undef,undef,undef,undef],[{ target:=.collected D,args:=#[] }]⟩ K0 ?_
 have hv1:=hv'.one
 obtain⟨ty',x',rfl⟩:=hv'.iface
 have hDB:w.heap.size≤D:=N0 (N0 (by have:=hz3;have:=g1;omega) (At _)) hD
 replace kW:=hbb.blk kW d1_bw
 replace kk2:=hbb.blk kk2 nb2_b1
 replace hF:=hbb.O hF r1_hF
 replace hway:=hbb.j hway k1 Do
 have hB0:=hB
 replace hB:=hbb.i hB (N0 hBw g1) (N0 hBw hB0.size)
 replace hO:=Dfr.e8 hO hbb g1
 replace k1:=m3
 replace hO:=hO.trans (Q0 (Za W))
 replace hB:=blB hB hBw (Za W)
 replace kW:=kW.i (Za W)
 replace k1:=k1.i (Za W)
 replace kk2:=kk2.i (Za W)
 replace hF:=Zb hF (Za W)
 replace hway:=Zb hway (Za W)
 replace hv':=hv'.i (Za W)
 replace hK:=hK.i (Za W)
 refine h_reg (Below B (W.drew)) 13 rfl #[false,false,false,false,false,false,false,false,false,false,false,false,false] rfl K0 (U3 _ _) ?_
 intro hS3
 have hBd5:=hB
 have kd5_bw:=kW
 have kd5_b1:=k1
 have kd5_bk2:=kk2
 have hOd5:=hO
 refine Zwv [0,1,2,3,4] 8 rfl #[true,true,true,true,true,false,false,false,false,false,false,false,false] [(16,P0 bw),(17,P0 bw),(18,P0 bw),(19,P0 bw),(20,.pointer (some ⟨bw,4,none⟩))] K0 (fun _ _ _ _ _ h=>h) K0 hS3 ?_
 refine Zu0 5 6 7 rfl K0 rfl rfl K0 K0 ?_ ?_
 ·refine Qd ⟨bw,4,none⟩ (.slice pf nf cf) rfl K0 K0 (kW.cell (i:=4) rfl) ?_
  have hS6:Below B (W.drew) (W.drew):=hS3
  refine⟨hS6,?_⟩
  refine Wa 6 6 rfl K0 rfl K0 (Qd ⟨b1,0,none⟩ (.iface ty' x') rfl K0 K0 (k1.cell (i:=0) rfl) ?_)
  have hS7:Below B (W.drew) (W.drew):=hS6
  refine⟨hS7,?_⟩
  refine Wa 7 5 rfl K0 rfl K0 (Yl 39 [.iface ty' x'] rfl K0 ?_)
  intro b8 W8 n8
  have d8_bw:=n8.ne kW
  have d8_b1:=n8.ne k1
  have d8_bk2:=n8.ne kk2
  have g8:=n8.Q hB
  have r8_hF:=Hg hF n8
  replace hO:=hO.trans (Q0 n8.i)
  replace hB:=blB hB hBw n8.i
  replace kW:=kW.i n8.i
  replace k1:=k1.i n8.i
  replace kk2:=kk2.i n8.i
  replace hF:=Zb hF n8.i
  replace hway:=Zb hway n8.i
  replace hv':=hv'.i n8.i
  replace hK:=hK.i n8.i
  have k8:=n8.blk
  have hS9:Below B (W.drew) (W8):=blB hS7 (N0 hBw hBd5.size) n8.i
  refine⟨hS9,?_⟩
  refine Wa 8 4 rfl K0 rfl K0 (Xd (e:=39) (n:=nf) (xs:=fs) (m:=1) (news:=[.iface ty' x']) (.nilIface) 1 16 (nf+1) (fs++[.iface ty' x']) rfl Tryz.underlying116 K0 rfl Do K0 hF K0 (k8.sl 1 1 Do Do) rfl (Zk3 hv1) Y2 M0 (N0 hBw hB.size) Y5 Y5 ?_)
  intro p10 c10 W10 o10 hg10 hb10
  replace hO:=hO.trans (Q4 hg10 hF Do)
  replace kW:=kW.grown hg10 hF Do
  replace k1:=k1.b3 hg10 r1_hF
  replace kk2:=kk2.grown hg10 hF Do
  replace hway:=Zt hway hg10 hF Do
  replace hv':=hv'.grown hg10 hF Do
  replace hK:=hK.grown hg10 hF
  replace hB:=hB.trans hb10
  have hS11:Below B (W.drew) (W10):=hS9.trans hb10
  refine⟨hS11,?_⟩
  refine Zwv [9,10,11] 1 rfl #[true,true,true,true,true,true,true,true,true,true,true,true,false] [(25,P0 bw),(26,P0 bw),(27,.pointer (some ⟨bw,4,none⟩))] K0 (fun _ _ _ _ _ h=>h) K0 hS11 ?_
  refine Wa 12 0 rfl K0 rfl K0 (Kk (v:=.slice p10 (nf+1) c10) (b:=bw) (off:=4) rfl K0 K0 K0 rfl kW (by first|decide|simp) ?_)
  intro W12 u12 k12
  change Blk _ _ [c0,c1,c2,c3,.slice p10 (nf+1) c10,c5,c6,c7,.slice pw me.length cw,c9] _ at k12
  replace hO:=hO.trans (Q1 u12 kW Do)
  replace hB:=u12.i hB hBb
  replace k1:=u12.blk k1 (S4 d1_bw)
  replace kk2:=u12.blk kk2 nb2_bw
  replace hway:=u12.j hway kW Do
  replace hv':=hv'.I u12 kW Do
  replace hK:=hK.I u12 kW
  replace o10:=u12.j o10 kW Do
  have hS13:Below B (W.drew) (W12):=u12.i hS11 hBb
  refine⟨hS13,?_⟩
  refine Te _ K0 ?_
  exact Zi2 hK (.tuple #[]) K0 K0 ⟨_,_,_,_,_,rfl,(Q7 _ _ _).i hB (N0 hBw hDB),Q3 hO (Q7 _ _ _) hDB,(Q7 _ _ _).blk k12 (hK.ne k12),(Q7 _ _ _).O o10 (hK.row o10),hv'.kept fun _ _ q=>(Q7 _ _ _).blk q (hK.ne q)⟩
 ·refine Qd ⟨b1,0,none⟩ (.iface ty' x') rfl K0 K0 (k1.cell (i:=0) rfl) ?_
  have hS14:Below B (W.drew) (W.drew):=hS3
  refine⟨hS14,?_⟩
  refine Zu0 5 7 6 rfl K0 rfl rfl K0 K0 ?_ ?_
  ·refine Qd ⟨bw,4,none⟩ (.slice pf nf cf) rfl K0 K0 (kW.cell (i:=4) rfl) ?_
   have hS15:Below B (W.drew) (W.drew):=hS14
   refine⟨hS15,?_⟩
   refine Wa 7 5 rfl K0 rfl K0 (Yl 39 [.iface ty' x'] rfl K0 ?_)
   intro b16 W16 n16
   have d16_bw:=n16.ne kW
   have d16_b1:=n16.ne k1
   have d16_bk2:=n16.ne kk2
   have g16:=n16.Q hB
   have r16_hF:=Hg hF n16
   replace hO:=hO.trans (Q0 n16.i)
   replace hB:=blB hB hBw n16.i
   replace kW:=kW.i n16.i
   replace k1:=k1.i n16.i
   replace kk2:=kk2.i n16.i
   replace hF:=Zb hF n16.i
   replace hway:=Zb hway n16.i
   replace hv':=hv'.i n16.i
   replace hK:=hK.i n16.i
   have k16:=n16.blk
   have hS17:Below B (W.drew) (W16):=blB hS15 (N0 hBw hBd5.size) n16.i
   refine⟨hS17,?_⟩
   refine Wa 8 4 rfl K0 rfl K0 (Xd (e:=39) (n:=nf) (xs:=fs) (m:=1) (news:=[.iface ty' x']) (.nilIface) 1 16 (nf+1) (fs++[.iface ty' x']) rfl Tryz.underlying116 K0 rfl Do K0 hF K0 (k16.sl 1 1 Do Do) rfl (Zk3 hv1) Y2 M0 (N0 hBw hB.size) Y5 Y5 ?_)
   intro p18 c18 W18 o18 hg18 hb18
   replace hO:=hO.trans (Q4 hg18 hF Do)
   replace kW:=kW.grown hg18 hF Do
   replace k1:=k1.b3 hg18 r1_hF
   replace kk2:=kk2.grown hg18 hF Do
   replace hway:=Zt hway hg18 hF Do
   replace hv':=hv'.grown hg18 hF Do
   replace hK:=hK.grown hg18 hF
   replace hB:=hB.trans hb18
   have hS19:Below B (W.drew) (W18):=hS17.trans hb18
   refine⟨hS19,?_⟩
   refine Zwv [9,10,11] 1 rfl #[true,true,true,true,true,true,true,true,true,true,true,true,false] [(25,P0 bw),(26,P0 bw),(27,.pointer (some ⟨bw,4,none⟩))] K0 (fun _ _ _ _ _ h=>h) K0 hS19 ?_
   refine Wa 12 0 rfl K0 rfl K0 (Kk (v:=.slice p18 (nf+1) c18) (b:=bw) (off:=4) rfl K0 K0 K0 rfl kW (by first|decide|simp) ?_)
   intro W20 u20 k20
   change Blk _ _ [c0,c1,c2,c3,.slice p18 (nf+1) c18,c5,c6,c7,.slice pw me.length cw,c9] _ at k20
   replace hO:=hO.trans (Q1 u20 kW Do)
   replace hB:=u20.i hB hBb
   replace k1:=u20.blk k1 (S4 d1_bw)
   replace kk2:=u20.blk kk2 nb2_bw
   replace hway:=u20.j hway kW Do
   replace hv':=hv'.I u20 kW Do
   replace hK:=hK.I u20 kW
   replace o18:=u20.j o18 kW Do
   have hS21:Below B (W.drew) (W20):=u20.i hS19 hBb
   refine⟨hS21,?_⟩
   refine Te _ K0 ?_
   exact Zi2 hK (.tuple #[]) K0 K0 ⟨_,_,_,_,_,rfl,(Q7 _ _ _).i hB (N0 hBw hDB),Q3 hO (Q7 _ _ _) hDB,(Q7 _ _ _).blk k20 (hK.ne k20),(Q7 _ _ _).O o18 (hK.row o18),hv'.kept fun _ _ q=>(Q7 _ _ _).blk q (hK.ne q)⟩
  ·refine Yl 39 [.iface ty' x'] rfl K0 ?_
   intro b22 W22 n22
   have d22_bw:=n22.ne kW
   have d22_b1:=n22.ne k1
   have d22_bk2:=n22.ne kk2
   have g22:=n22.Q hB
   have r22_hF:=Hg hF n22
   replace hO:=hO.trans (Q0 n22.i)
   replace hB:=blB hB hBw n22.i
   replace kW:=kW.i n22.i
   replace k1:=k1.i n22.i
   replace kk2:=kk2.i n22.i
   replace hF:=Zb hF n22.i
   replace hway:=Zb hway n22.i
   replace hv':=hv'.i n22.i
   replace hK:=hK.i n22.i
   have k22:=n22.blk
   have hS23:Below B (W.drew) (W22):=blB hS14 (N0 hBw hBd5.size) n22.i
   refine⟨hS23,?_⟩
   refine Wa 5 5 rfl K0 rfl K0 (Qd ⟨bw,4,none⟩ (.slice pf nf cf) rfl K0 K0 (kW.cell (i:=4) rfl) ?_)
   have hS24:Below B (W.drew) (W22):=hS23
   refine⟨hS24,?_⟩
   refine Wa 8 4 rfl K0 rfl K0 (Xd (e:=39) (n:=nf) (xs:=fs) (m:=1) (news:=[.iface ty' x']) (.nilIface) 1 16 (nf+1) (fs++[.iface ty' x']) rfl Tryz.underlying116 K0 rfl Do K0 hF K0 (k22.sl 1 1 Do Do) rfl (Zk3 hv1) Y2 M0 (N0 hBw hB.size) Y5 Y5 ?_)
   intro p25 c25 W25 o25 hg25 hb25
   replace hO:=hO.trans (Q4 hg25 hF Do)
   replace kW:=kW.grown hg25 hF Do
   replace k1:=k1.b3 hg25 r1_hF
   replace kk2:=kk2.grown hg25 hF Do
   replace hway:=Zt hway hg25 hF Do
   replace hv':=hv'.grown hg25 hF Do
   replace hK:=hK.grown hg25 hF
   replace hB:=hB.trans hb25
   have hS26:Below B (W.drew) (W25):=hS24.trans hb25
   refine⟨hS26,?_⟩
   refine Zwv [9,10,11] 1 rfl #[true,true,true,true,true,true,true,true,true,true,true,true,false] [(25,P0 bw),(26,P0 bw),(27,.pointer (some ⟨bw,4,none⟩))] K0 (fun _ _ _ _ _ h=>h) K0 hS26 ?_
   refine Wa 12 0 rfl K0 rfl K0 (Kk (v:=.slice p25 (nf+1) c25) (b:=bw) (off:=4) rfl K0 K0 K0 rfl kW (by first|decide|simp) ?_)
   intro W27 u27 k27
   change Blk _ _ [c0,c1,c2,c3,.slice p25 (nf+1) c25,c5,c6,c7,.slice pw me.length cw,c9] _ at k27
   replace hO:=hO.trans (Q1 u27 kW Do)
   replace hB:=u27.i hB hBb
   replace k1:=u27.blk k1 (S4 d1_bw)
   replace kk2:=u27.blk kk2 nb2_bw
   replace hway:=u27.j hway kW Do
   replace hv':=hv'.I u27 kW Do
   replace hK:=hK.I u27 kW
   replace o25:=u27.j o25 kW Do
   have hS28:Below B (W.drew) (W27):=u27.i hS26 hBb
   refine⟨hS28,?_⟩
   refine Te _ K0 ?_
   exact Zi2 hK (.tuple #[]) K0 K0 ⟨_,_,_,_,_,rfl,(Q7 _ _ _).i hB (N0 hBw hDB),Q3 hO (Q7 _ _ _) hDB,(Q7 _ _ _).blk k27 (hK.ne k27),(Q7 _ _ _).O o25 (hK.row o25),hv'.kept fun _ _ q=>(Q7 _ _ _).blk q (hK.ne q)⟩
end
end
section
open Go.RowKit
theorem Znd{A B:V1}{row:Option Nat}{base size n:Nat}{e:V3}{v:V2}{xs:V6 V2}(k:A.ownsRow base e size v n xs)(hg:A.grownBy B row)(hr:∀ r,row=some r→∃ o:Obj,A.heap[r]? = some o∧o.isCells=false):B.ownsRow base e size v n xs:=by
 obtain⟨h1,h2⟩:=k;refine⟨h1,?_⟩;rcases h2 with h2|⟨g,a0,a1,hv,hb,hh,r⟩
 ·exact Or.inl h2
 ·refine Or.inr ⟨g,a0,a1,hv,hb,?_,r⟩;rw[hg.block g (Array.getElem?_eq_some_iff.1 hh).1 (fun q=>by
   obtain⟨o,ho,hc⟩:=hr g q.symm;rw[hh] at ho;cases ho;cases hc)]
  exact hh
theorem Lists.a6{A B:V1}{row:Option Nat}{base:Nat}{v:V2}{gs:V6 (Nat×Nat)}{L:V6 (V6 Int)}(h:Lists A base v gs L)(hg:A.grownBy B row)(hr:∀ r,row=some r→∃ o:Obj,A.heap[r]? = some o∧o.isCells=false):Lists B base v gs L:=⟨Znd h.row hg hr,fun i hi=>Znd (h.each i hi) hg hr⟩
structure RdZ(w0:V1)(b:Nat)(W V:V1):Prop where
 bb:BelowBut w0 b V
 ko:KeepsOthers W V
 fr:∀ k,k<w0.heap.size→k≠b→V.heap[k]? = W.heap[k]?
 le:W.heap.size≤V.heap.size
theorem RdZ.refl{w0 W:V1}{b:Nat}(h:BelowBut w0 b W):RdZ w0 b W W:=⟨h,⟨At _,fun _ _ h _=>h⟩,fun _ _ _=>rfl,At _⟩
theorem RdZ.i{w0 W V U:V1}{b:Nat}(h:RdZ w0 b W V)(hb:Below V.heap.size V U):RdZ w0 b W U :=
 ⟨h.bb.next hb,h.ko.trans (Cp hb),fun k hk hn=>(hb.block k (D5 hk h.bb.size)).trans (h.fr k hk hn),N0 h.le hb.size⟩
theorem RdZ.I{w0 W V U:V1}{b:Nat}{cs:V6 V2}{t:V3}(h:RdZ w0 b W V)(u:Upd V b U)(k:Blk V b cs t):RdZ w0 b W U :=
 ⟨h.bb.I u,h.ko.trans (Zc7 u k),fun k hk hn=>(u.block k hn).trans (h.fr k hk hn),N0 h.le (N7 u.size.symm)⟩
theorem RdZ.grown{w0 W V U:V1}{b size n:Nat}{e:V3}{v:V2}{xs:V6 V2}(h:RdZ w0 b W V)(hg:V.grownBy U v.ownBlock)(k:V.ownsRow w0.heap.size e size v n xs):RdZ w0 b W U :=
 ⟨⟨hg.os.trans h.bb.os,hg.tape.trans h.bb.tape,hg.output.trans h.bb.output,N0 h.bb.size hg.size,fun i hi hn=>(hg.block i (D5 hi h.bb.size) (fun e=>by have:=(k.lt i e.symm).1;omega)).trans (h.bb.block i hi hn)⟩,
  ⟨N0 h.ko.size hg.size,fun i o hi ho=>by
   have h1:=h.ko.same i o hi ho;rw[hg.block i (Array.getElem?_eq_some_iff.1 h1).1 (fun q=>by
    rcases k.2 with ⟨rfl,_⟩|⟨g,a0,a1,rfl,_,hh,_⟩
    ·cases q
    ·simp only[Value.ownBlock,A0] at q;subst q;rw[hh] at h1;cases h1;cases ho)]
   exact h1⟩,
  fun i hi hn=>(hg.block i (D5 hi h.bb.size) (fun e=>by have:=(k.lt i e.symm).1;omega)).trans (h.fr i hi hn),N0 h.le hg.size⟩
theorem row_or{w:V1}{base e n c:Nat}{p:O0}{xs:V6 V2}(k:w.ownsRow base e 1 (.slice p n c) n xs):∃ g,(n=0∧∃ a c',Value.slice p n c=.slice a 0 c')∨Value.slice p n c=.slice (S3 g) n c∧n≤c:=by
 rcases k.2 with ⟨h,_⟩|⟨g,a0,a1,hv,_,_,hc,_⟩
 ·simp only[C2] at h;exact⟨0,.inl ⟨h.2.1,none,0,by rw[h.1,h.2.1,h.2.2]⟩⟩
 ·simp only[C2] at hv;obtain⟨rfl,_,rfl⟩:=hv;exact⟨g,.inr ⟨rfl,hc⟩⟩
def Ztb(w:V1)(base:Nat)(gs:V6 (Nat×Nat))(L:V6 (V6 Int)):Prop:=∀ i,i<L.length→w.ownsRow base 3 1 (Zbx gs L i) (L.getD i []).length ((L.getD i []).map V0)
theorem Ztb.i{w W:V1}{base:Nat}{gs:V6 (Nat×Nat)}{L:V6 (V6 Int)}(h:Ztb w base gs L)(hb:B3 w W):Ztb W base gs L:=fun i hi=>Zb (h i hi) hb
theorem Ztb.q{T:V6 V3}{w W:V1}{base:Nat}{gs:V6 (Nat×Nat)}{L:V6 (V6 Int)}(h:Ztb w base gs L)(hO:Zd T w W)(hT:T.contains 3=false):Ztb W base gs L:=fun i hi=>Zi (h i hi) hO hT
theorem Ig{gs:V6 (Nat×Nat)}{L:V6 (V6 Int)}{g c i:Nat}{ch:V6 Int}(hg:gs.length=L.length)(hi:i<L.length):Zbx (gs++[(g,c)]) (L++[ch]) i=Zbx gs L i:=by
 unfold Zbx;simp[getD,G5,hi,hg]
theorem Ie{gs:V6 (Nat×Nat)}{L:V6 (V6 Int)}{g c:Nat}{ch:V6 Int}(hg:gs.length=L.length):Zbx (gs++[(g,c)]) (L++[ch]) L.length=.slice (S3 g) ch.length c:=by
 unfold Zbx;rw[show(gs++[(g,c)]).getD L.length (0,0)=(g,c) from by rw[←hg];simp[getD],show(L++[ch]).getD L.length []=ch from by simp[getD]]
theorem Lists.a8{w:V1}{base g c n:Nat}{v:V2}{gs:V6 (Nat×Nat)}{L:V6 (V6 Int)}{ch:V6 Int}(hn:n=L.length+1)(hrow:w.ownsRow base 27 1 v n ((range L.length).map (Zbx gs L)++[.slice (S3 g) ch.length c]))(he:Ztb w base gs L)(hnew:w.ownsRow base 3 1 (.slice (S3 g) ch.length c) ch.length (ch.map V0))(hg:gs.length=L.length):Lists w base v (gs++[(g,c)]) (L++[ch]):=by
 subst hn;refine⟨?_,fun i hi=>?_⟩
 ·rw[show(L++[ch]).length=L.length+1 from by simp,B8,A6];rw[show(range L.length).map (Zbx (gs++[(g,c)]) (L++[ch]))=(range L.length).map (Zbx gs L) from F9 fun i hi=>Ig hg (A7.1 hi),List.map_singleton,Ie hg];exact hrow
 ·by_cases h:i<L.length
  ·rw[Ig hg h,show(L++[ch]).getD i []=L.getD i [] from by simp[getD,G5,h]];exact he i h
  ·obtain rfl:i=L.length:=(by simp at hi;omega);rw[Ie hg,show(L++[ch]).getD L.length []=ch from by simp[getD]];exact hnew
theorem Sl.h6{w:V1}{g n c:Nat}{xs:V6 V2}(h:Sl w (.slice (S3 g) n c) n xs)(hl:xs.length=n)(k m:Nat)(hm:0<m)(hk:k+m≤n):Sl w (.slice (some ⟨g,0+k,none⟩) m m) m ((xs.drop k).take m):=by
 rcases h with ⟨a',c',h1,h2,h3⟩|⟨g',a1,a2,h1,h2,h3,h4⟩
 ·omega
 ·simp only[C2,A0,Addr.mk.injEq] at h1;obtain⟨⟨rfl,rfl,_⟩,_,rfl⟩:=h1;refine .inr ⟨g,0+k,m,rfl,At _,M0,fun j x hj=>?_⟩;have a0:j<m:=by
   rcases F0 j m with q|q
   ·exact q
   ·rw[C4 (by simp;omega)] at hj;cases hj
  rw[I3 a0,G0] at hj;have:=h4 (k+j) x hj;rw[show 0+k+j=0+(k+j) from by omega];exact this
end
section
open Go.RowKit Go.Extern.Stop Go.Stop Go.Extern
section
attribute [local irreducible] wpList wpAnyH Code.wp Oper.wp Go
def Kl(l:V6 Int)(x:Int):Bool:=l.any fun y=>decide (x=y)
theorem Zzr{l:V6 Int}{x:Int}{i:Nat}(hi:i<l.length)(h:x=l.getD i 0):Kl l x=true:=by
 unfold Kl;rw[List.any_eq_true];exact⟨l[i],F3 _,by rw[decide_eq_true_iff,h];simp[hi]⟩
theorem Zr3{l:V6 Int}{x:Int}(h:∀ j,j<l.length→x≠l.getD j 0):Kl l x=false:=by
 unfold Kl;rw[List.any_eq_false];intro y hy;obtain⟨j,hj,rfl⟩:=O6 hy;have:=h j hj;simpa [hj] using this
theorem indexI(a:O0)(c:Nat)(l:V6 Int)(x:Int)(w:V1)(h:Ints w (.slice a l.length c) l)(hln:l.length≤1000000) :
 C0 284 #[.slice a l.length c,V0 x] w (fun e w'=>(Kl l x=false∧e=.returned (V0 (-1))∧B3 w w')∨(Kl l x=true∧∃ i:Nat,e=.returned (V0 (i:Int))∧B3 w w')):=by
 refine zin 19 Tryz.func284 ?_
 have hB:=U3 w.heap.size w
 refine zl 14 19 (fun zm a1 V=>∃ (i:Nat),a1=[(0,.slice a l.length c),(1,V0 x),(7,V0 (l.length:Int)),(8,V0 (i:Int))]∧zm=l.length-((i:Int)).toNat∧B3 w V∧i≤l.length∧(∀ j,j<i→x≠l.getD j 0)) ⟨0,rfl,rfl,hB,A5 _,?_⟩ ?_
 ·exact fun j hj=>absurd hj M0
 rintro _ _ W1 ⟨i,rfl,rfl,a0,hi,hz⟩ J1 a3 r1
 refine xid 6 ((i:Int)<(l.length:Int)) (fun a4=>?_) (fun a4=>?_)
 ·refine xx 15 _ l.length i 1 (Ints.elem h (k:=i) M0).1 ?_
  refine xl 0 ((Ints.elem (h.i a0) (k:=i) M0).2) ?_
  refine xie 3 x (l.getD i 0) (fun a2=>?_) (fun a2=>?_)
  ·exact xe 12 (V0 (i:Int)) (.inr ⟨Zzr (i:=i) M0 M0,_,rfl,a0⟩)
  refine xwm 4 ((i:Int)+1) (↑(i+1):Int) ?_
  exact ze 2 (a3 _ _ _ ⟨i+1,rfl,rfl,a0,M0,fun j hj=>(F0 j i).elim (hz j) (fun q=>by obtain rfl:j=i:=M0;omega)⟩ M0)
 exact xe 11 (V0 (-1)) (.inl ⟨Zr3 (fun j hj=>hz j M0),rfl,a0⟩)
theorem Zts(a:O0)(c:Nat)(l:V6 Int)(x:Int)(w:V1)(h:Ints w (.slice a l.length c) l)(hln:l.length≤1000000) :
 C0 268 #[.slice a l.length c,V0 x] w (Ret (.bool (Kl l x)) w):=by
 refine zin 9 Tryz.func268 ?_
 refine xc 9 (indexI a c l x _ (h.i (B4 w)) hln) ?_
 rintro e W1 a1
 rcases a1 with ⟨hz,rfl,a0⟩|⟨hz,i0,rfl,a0⟩
 ·refine xe 5 (.bool false) ?_
  rw[hz];exact⟨rfl,a0⟩
 refine xe 5 (.bool (decide ((i0:Int)≥(0:Int)))) ?_
 rw[hz,show decide ((i0:Int)≥(0:Int))=true from U0 M0];exact⟨rfl,a0⟩
end
end
section
open Go.RowKit
section
attribute [local go_sem] Oper.semAt_some
def Kh(hi:Int)(l:V6 Int):V6 (Int×Int):=(range l.length).map (Yb hi l)
def Wp(hi:Int)(l:V6 Int)(cs:V6 V2)(x:Fin l.length):V6 V2 :=
 (cs.set (qOf x*2) (V0 (Yb hi l (qOf x)).1)).set (qOf x*2+1) (V0 (Yb hi l (qOf x)).2)
def outC(hi:Int)(l:V6 Int)(pre:V6 (Fin l.length)):V6 V2:=pre.foldl (Wp hi l) (Gw [V0 0,V0 0] l.length)
theorem Zwp(hi:Int)(l:V6 Int)(pre:V6 (Fin l.length))(x:Fin l.length):outC hi l (pre++[x])=Wp hi l (outC hi l pre) x:=by simp[outC]
theorem Ds(hi:Int)(l:V6 Int):∀ (pre:V6 (Fin l.length)) (cs:V6 V2),(pre.foldl (Wp hi l) cs).length=cs.length
 | [],_=>rfl
 | x::pre,cs=>by rw[List.foldl_cons,Ds hi l pre];simp[Wp]
theorem Oq(hi:Int)(l:V6 Int)(pre:V6 (Fin l.length)):(outC hi l pre).length=l.length*2:=by
 rw[outC,Ds,Sx];rfl
theorem Zbg(hi:Int)(l:V6 Int)(q:Nat)(hq:q<l.length):∀ (pre:V6 (Fin l.length)) (cs:V6 V2),cs.length=l.length*2 →
  ((∃ x∈pre,qOf x=q)∨(cs[q*2]? = some (V0 (Yb hi l q).1)∧cs[q*2+1]? = some (V0 (Yb hi l q).2))) →
  (pre.foldl (Wp hi l) cs)[q*2]? = some (V0 (Yb hi l q).1)∧(pre.foldl (Wp hi l) cs)[q*2+1]? = some (V0 (Yb hi l q).2)
 | [],cs,hl,h=>by
  rcases h with ⟨x,hx,_⟩|h
  ·cases hx
  ·exact h
 | x::pre,cs,hl,h=>by
  rw[List.foldl_cons];refine Zbg hi l q hq pre _ (by simp[Wp,hl]) ?_;by_cases hx:qOf x=q
  ·subst hx;refine .inr ⟨?_,?_⟩
   ·simp only[Wp];rw[H7 M0,K8 M0]
   ·simp only[Wp];rw[K8 (by simp;omega)]
  ·rcases h with ⟨y,hy,a0⟩|h
   ·rcases B6.1 hy with rfl|hy
    ·exact absurd a0 hx
    ·exact .inl ⟨y,hy,a0⟩
   ·refine .inr ⟨?_,?_⟩
    ·simp only[Wp];rw[H7 M0,H7 M0];exact h.1
    ·simp only[Wp];rw[H7 M0,H7 M0];exact h.2
theorem outC_all(hi:Int)(l:V6 Int):outC hi l (List.finRange l.length)=Cs (Kh hi l):=by
 have hs:(Kh hi l).length=l.length:=by simp[Kh]
 have hg:∀ q,q<l.length→(Kh hi l)[q]? = some (Yb hi l q):=fun q hq=>by simp[Kh,hq]
 apply H3;intro j;by_cases hj:j<l.length*2
 ·have hq:j/2<l.length:=M0;have h:=Zbg hi l (j/2) hq (List.finRange l.length) (Gw [V0 0,V0 0] l.length) (by rw[Sx];rfl)
   (.inl ⟨⟨l.length-1-j/2,M0⟩,Y5,by simp only[qOf];omega⟩)
  by_cases h2:j%2=0
  ·have e:j=j/2*2:=M0;rw[e,Se,hg _ hq];exact h.1
  ·have e:j=j/2*2+1:=M0;rw[e,Zi5,hg _ hq];exact h.2
 ·rw[C4 (by rw[Oq];omega),C4 (by rw[Tf,hs];omega)]
def Zil(lo hi:Int)(l:V6 Int):V6 (Int×Int):=if Hi lo hi l=0 then Kh hi l else []
theorem Tryz.g1:(Tryz.prog.info? 295).map (fun i=>(i.zero,i.size,i.bytes))=some (some (.agg #[V0 0,V0 0]),2,16):=K0
theorem Zj1(lo hi:Int)(v:V2)(l:V6 Int)(w:V1)(hlen:l.length≤1000000)(hl:Ints w v l) :
 C0 245 #[spanV lo hi,v] w (Kd (fun w' r=>Pairs w' r (Zil lo hi l)∧(Hi lo hi l=0→∃ g,r=.slice (S3 g) l.length l.length∧w.heap.size≤g∧Blk w' g (Cs (Kh hi l)) 295)) w):=by
 obtain⟨i0,a5,a8,b4,b0⟩:=info_parts Tryz.g1
 have b7:=fun w=>Zc0 (P:=Tryz.prog) (t:=347) (e:=295) (i:=i0) [V0 0,V0 0] Tryz.underlying347 a5 a8 rfl b4 b0 l.length M0 M0 w
 clear a5 a8 b4 b0
 unfold spanV
 refine Jm Tryz.func245 rfl ?_
 simp only[Tryz.ntmps245,Gt,C5,E4,Nat.reduceAdd,Nat.reduceSub,H9,Id,I9,I2,F7,Ge]
 go_wp2_with fail
 refine(Za2 lo hi v l _ (hl.i (blx _ _))).mono ?_
 rintro e w' ⟨rfl,hb⟩
 have k0:=Blk.i (X0 w [V0 lo,V0 hi] 295) hb
 have hB:B3 w w':=bln (blx _ _) hb
 have b1:=hl.i hB
 have HB:l.length≠0→∀ {b a7 n a6:Nat},v=.slice (some ⟨b,a7,none⟩) n a6→b<w.heap.size:=fun h _ _ _ _ e=>hl.blk h e
 clear hb hl
 obtain⟨a,c,rfl⟩:=b1.slice
 have z0:=k0.lt
 have c4:=k0.cell (i:=0) rfl
 have c8:=k0.cell (i:=1) rfl
 by_cases hf:Hi lo hi l=0
 case neg =>
  have c0:(Hi lo hi l != 0)=true:=by simpa using hf
  have HF:=Lib.hid hf;clear hf
  go_wp2_with fail
  refine⟨_,results_tmp rfl _ _ _,?_⟩
  have e:Zil lo hi l=[]:=by simp[Zil,HF.out]
  rw[e]
  exact⟨_,rfl,hB,.inl ⟨_,_,rfl,rfl,rfl⟩,fun q=>absurd q HF.out⟩
 have c0:(Hi lo hi l != 0)=false:=by simpa using hf
 have HF:=Lib.hid hf;clear hf
 go_wp2_with fail
 refine(Zzs lo hi a l.length c _).mono ?_
 rintro e W1 ⟨rfl,a0⟩
 have hz:w'.heap.size+4=W1.heap.size:=by rw[a0];simp
 have a9:Below w'.heap.size w' W1:=by rw[a0];exact bln (bln (bln (blx _ _) (blx _ _)) (blx _ _)) (blx _ _)
 have s1:W1.cell? ⟨w'.heap.size+1+1,1,none⟩=some (V0 hi):=by rw[a0];simp[go_sem]
 have s2:W1.cell? ⟨w'.heap.size+1+1+1,0,none⟩=some (.slice a l.length c):=by rw[a0];simp[go_sem]
 have m1:Blk W1 w'.heap.size (Gw [V0 0,V0 0] l.length) 295:=by rw[a0];exact(((X0 w' _ _).alloc _).alloc _).alloc _
 have m2:Blk W1 (w'.heap.size+1) [.slice (some ⟨w'.heap.size,0,none⟩) l.length l.length] 347:=by
  rw[a0];have:=((X0 (w'.alloc (.cells (Gw [V0 0,V0 0] l.length).toArray 295)) [.slice (some ⟨w'.heap.size,0,none⟩) l.length l.length] 347).alloc (.cells #[V0 lo,V0 hi] 295)).alloc (.cells #[.slice a l.length c] 27);simpa using this
 have a3:=bln hB a9
 have c1:=b1.i a9
 have b9:=Zp6 (w'.heap.size+1+1) (w'.heap.size+1+1+1) (fun b=>b<W1.heap.size∧b≠w'.heap.size) hi (.slice a l.length c) l W1 (fun b h=>h.1) M0 M0 M0 c1 ?hvp s1 s2
 case hvp=>exact fun h b a7 n' a6 e=>by have:=HB h e;have:=a3.size;exact⟨M0,M0⟩
 clear a0 s1 s2 b7
 go_wp2_with fail
 refine Zfr (g:=.tmp 17) (gf:=287) (lb:=#[.pointer (some ⟨w'.heap.size+1+1,0,none⟩),.pointer (some ⟨w'.heap.size+1+1+1,0,none⟩)]) rfl (enters_of Tryz.func287 K0 rfl) _ (fun b h=>h.1) b9 (fun _=>rfl)
  (fun a1 W=>(Blk W w'.heap.size (outC hi l a1) 295∧Blk W (w'.heap.size+1) [.slice (some ⟨w'.heap.size,0,none⟩) l.length l.length] 347)∧(B3 w W∧W1.heap.size≤W.heap.size))
  (fun _ _ _=>False) ?own (fun _ _ _ _ _ h _ _=>h) ⟨⟨m1,m2⟩,a3,At _⟩
  (fun x a' W=>∃ Bx,W1.heap.size≤Bx∧Blk W Bx [V0 (Yb hi l (qOf x)).1,V0 (Yb hi l (qOf x)).2] 295 ∧
   a'={ tmps:=#[.agg #[V0 lo,V0 hi],.slice a l.length c,.pointer (some ⟨w.heap.size,0,none⟩),undef,S1,.pointer (some ⟨w'.heap.size+1,0,none⟩),V0 (qOf x:Int),P0 Bx,.agg #[V0 lo,V0 hi],.slice a l.length c,V0 (Hi lo hi l),.bool false,.slice a l.length c,V0 l.length,.slice (some ⟨w'.heap.size,0,none⟩) l.length l.length,.agg #[V0 lo,V0 hi],.slice a l.length c,.func (.func 287) #[] #[.pointer (some ⟨w'.heap.size+1+1,0,none⟩),.pointer (some ⟨w'.heap.size+1+1+1,0,none⟩)],V0 (qOf x:Int),spanV (Yb hi l (qOf x)).1 (Yb hi l (qOf x)).2,undef,undef,undef,undef,undef],defers:=[] }) ?ownax ?assign ?body ?done ?stop
 case own=>exact OwnFrom.and (Own.from (fun s A B b6 hs hg hr=>⟨hs.1.a6 hg hr,hs.2.a6 hg hr⟩) _) (OwnFrom.and (ownFrom_below (At _) a3.size) Zja)
 case ownax=>exact fun x a'=>Own.from (fun s A B b6 hs hg hr=>by obtain⟨Bx,h1,h2,h3⟩:=hs;exact⟨Bx,h1,h2.a6 hg hr,h3⟩) _
 case assign =>
  rintro lr a1 x W K ⟨⟨h1,h2⟩,a2,a4⟩ hK
  unfold encE
  gi_wp2
  exact hK _ _ ((KeepsOthers.alloc _ _).from _) (X4 (blx W _) (fun b hb=>by have:=hb.1;omega)) ⟨⟨h1.alloc _,h2.alloc _⟩,bln a2 (blx _ _),by simp;omega⟩ ⟨W.heap.size,a4,X0 W _ _,rfl⟩
 case body =>
  rintro lr a1 x a' W c7 ⟨⟨h1,h2⟩,a2,a4⟩ ⟨Bx,d0,hx,rfl⟩ b3
  have d1:=hx.cell (i:=0) rfl
  have c5:=hx.cell (i:=1) rfl
  have ci:=h2.cell (i:=0) rfl
  have hq:qOf x<l.length:=by have:=x.2;simp only[qOf];omega
  have b8:=Oq hi l a1
  obtain⟨u0,b2⟩:∃ u0,(outC hi l a1)[qOf x*2]? = some u0:=⟨_,A9 M0⟩
  obtain⟨u1,b5⟩:∃ u1,(outC hi l a1)[qOf x*2+1]? = some u1:=⟨_,A9 M0⟩
  have d3:=h1.cell b2
  have d2:=h1.cell b5
  have c6:=h1.frozen (qOf x*2)
  have c9:=h1.frozen (qOf x*2+1)
  clear b2 b5 b8
  gi_wp2
  refine⟨((KeepsOthers.setCell _ _ _).trans (KeepsOthers.setCell _ _ _)).from _,((Keeps.refl _ W).setCell Y5 _).setCell Y5 _,⟨by rw[Zwp];exact(h1.set _ _).set _ _,(h2.d9 Y5 _).d9 Y5 _⟩,(a2.setCell (Nat.le_of_lt z0) _).setCell (Nat.le_of_lt z0) _,by simpa [World.setCell] using a4⟩
 case done =>
  rintro D xs W hD rfl ⟨⟨h1,h2⟩,a2,a4⟩ hK
  have ci:=h2.cell (i:=0) rfl
  have b3:D<W.heap.size:=(Array.getElem?_eq_some_iff.1 hK).1
  rw[outC_all] at h1
  have hs:(Kh hi l).length=l.length:=by simp[Kh]
  have hR:Pairs (W.putObj D (.deferred none)) (.slice (some ⟨w'.heap.size,0,none⟩) l.length l.length) (Kh hi l):=by
   have c3:=h1.put hK rfl (.deferred none);exact .inr ⟨_,0,l.length,by rw[hs],M0,Y2,fun j x hj=>by rw[F5];exact c3.cell hj⟩
  have HR:=Lib.hid hR
  have c2:=Lib.hid (h1.put hK rfl (.deferred none))
  clear hR h1 hs
  go_wp2_with fail
  refine⟨Y5,.inl ⟨_,_,rfl,run_takeDeferred hK,_,results_tmp rfl _ _ _,?_⟩⟩
  have e:Zil lo hi l=Kh hi l:=by simp[Zil,HF.out]
  rw[e]
  exact⟨_,rfl,Ztu a2 (by have:=a3.size;omega) b3 _,HR.out,fun _=>⟨_,rfl,hB.size,c2.out⟩⟩
 case stop=>exact fun _ _ _ _ _ _ h _=>h.elim
end
end
section
open Go.RowKit Go.Extern.Stop Go.Stop Go.Extern
section
attribute [local irreducible] wpList wpAnyH Code.wp Oper.wp Go
def Yy(l:Bl)(me:V6 Int)(no tree lo hi deep:Int):Int :=
 if Kl me no=true then 11 else if 16≤me.length then 10 else if Xy l no tree≠0 then Xy l no tree else if Hi lo hi (Hy (inB l no) (Xa (inB l no)))≠0 then 9 else
  if Yg (inB l no)=true∧deep≠0∧deep≠((me.length+1:Nat):Int) then 10 else 0
def LookP(B bw:Nat)(cs:V6 V2)(l:Bl)(me:V6 Int)(no tree lo hi deep:Int)(w:V1)(e:V5)(w':V1):Prop :=
 Below B w w'∧Zd [292] w w'∧Blk w' bw cs 292 ∧
 ((Yy l me no tree lo hi deep≠0∧∃ a4 b4 k4 n4 c4 v4 m4 d4 ty x,e=.returned (.tuple #[.agg #[V0 a4,.bool b4,.slice k4 n4 c4,.slice v4 m4 d4],.iface ty x])∧Kx w' [some no] (some (Yy l me no tree lo hi deep)) (.iface ty x)) ∨
  (Yy l me no tree lo hi deep=0∧Xy l no tree=0∧∃ kp kc vp vc,e=.returned (.tuple #[.agg #[V0 (Qt (inB l no)),.bool (Yg (inB l no)),.slice kp (Xa (inB l no)) kc,.slice vp (Xa (inB l no)) vc],.nilIface]) ∧
   w'.ownsRow w.heap.size 3 1 (.slice kp (Xa (inB l no)) kc) (Xa (inB l no)) ((Hy (inB l no) (Xa (inB l no))).map V0)∧w'.ownsRow w.heap.size 9 1 (.slice vp (Xa (inB l no)) vc) (Xa (inB l no)) ((Nt (inB l no) (Xa (inB l no))).map sv)))
theorem Zep{w:V1}{v:V2}{n:Nat}{l:V6 Int}(h:Sl w v n (l.map V0))(hl:l.length=n):Ints w v l:=by subst hl;exact h
theorem Zlv(B Bi b bw:Nat)(p:O0)(n c:Nat)(l:Bl)(c0 c1 c4 c7 c9:V2)(pw:O0)(cw:Nat)(me:V6 Int)(no tree lo hi deep looked:Int)(w:V1)(hBb:B≤bw)(hBw:B≤w.heap.size)(kW:Blk w bw [c0,c1,V0 deep,V0 looked,c4,P0 b,V0 tree,c7,.slice pw me.length cw,c9] 292)(hway:w.ownsRow B 3 1 (.slice pw me.length cw) me.length (me.map V0))(hI:ImgR Bi b p n c l w)(hwl:me.length≤1000000)(hl0:0≤looked)(hl1:looked<9223372036854775807) :
 C0 243 #[P0 bw,V0 no,.agg #[V0 lo,V0 hi]] w (LookP B bw [c0,c1,V0 deep,V0 (looked+1),c4,P0 b,V0 tree,c7,.slice pw me.length cw,c9] l me no tree lo hi deep w):=by
 refine zin 97 Tryz.func243 ?_
 refine xa 2 [V0 lo,V0 hi] 295 fun b1 W1 n1=>?_
 refine xa 0 [V0 0,.bool false,S1,S1] 191 fun b2 W2 n2=>?_
 have a3:=(kW.i n1.i).i n2.i
 refine xb 9 3 a3 ?_
 refine xw 0 (looked+1) ?_
 refine xs 3 a3 [c0,c1,V0 deep,V0 (looked+1),c4,P0 b,V0 tree,c7,.slice pw me.length cw,c9] fun W3 u3 k3=>?_
 refine xb 8 8 k3 ?_
 have g5:=u3.j (Zb (Zb hway n1.i) n2.i) a3 Do
 refine xr 1 (Zts pw cw me no _ (Zf g5) hwl) fun W4 a9=>?_
 refine xi 2 (Kl me no) (fun s7=>?_) (fun s7=>?_)
 ·refine xc 5 (args:=#[V0 no,.iface 33 (V0 11)]) (Vw no (some 11) [] _ _ rfl) ?_
  rintro _ W6 ⟨r6,rfl,o5,o8⟩
  rw[Jc] at o8
  obtain⟨t6,x6,rfl⟩:=o8.iface
  have k2:=((u3.A n2.blk a3 Do).i a9).i o5
  refine xsv 0 k2 [V0 0,.bool false,S1,S1] fun W7 u7 k7=>?_
  have g2:=n2.Q (blB (U3 B w) hBw n1.i)
  have hB:=u7.i (blB (blB (u3.i (blB (blB (U3 B w) hBw n1.i) hBw n2.i) hBb) hBw a9) hBw o5) (N0 hBw g2)
  have hO:=(Q3 (((((show Zd [292] w _ from(Q0 n1.i)).trans (Q0 n2.i)).trans (Q1 u3 a3 Do)).trans (Q0 a9)).trans (Q0 o5)) u7 g2)
  have p0:=u7.A ((k3.i a9).i o5) k2 Do
  have i8:=o8.I u7 k2 Do
  exact xec 5 k7 (.tuple #[.agg #[V0 0,.bool false,S1,S1],.iface t6 (x6)]) ⟨hB,hO,p0,.inl ⟨by(unfold Yy;(repeat' split)<;>first|rfl|assumption|decide|omega|exact absurd (C6 (D4 ‹Kl _ _=true›) ‹Kl _ _=false›) Do|(rename_i q;exact absurd ⟨Y3,Y3,Y3⟩ q)|(rename_i q;obtain⟨q1,q2,q3⟩:=q;exact absurd (C6 (D4 q1) ‹Yg _=false›) Do)|(rename_i q;obtain⟨q1,q2,q3⟩:=q;omega)),_,_,_,_,_,_,_,_,_,_,rfl,by(unfold Yy;(repeat' split)<;>first|exact i8|(exfalso;omega)|contradiction|exact absurd (C6 (D4 ‹Kl _ _=true›) ‹Kl _ _=false›) Do|(rename_i q;exact absurd ⟨Y3,Y3,Y3⟩ q)|(rename_i q;obtain⟨q1,q2,q3⟩:=q;exact absurd (C6 (D4 q1) ‹Yg _=false›) Do)|(rename_i q;obtain⟨q1,q2,q3⟩:=q;omega))⟩⟩
 have f8:=k3.i a9
 refine xb 8 8 f8 ?_
 refine xid 4 ((me.length:Int)≥(16:Int)) (fun t4=>?_) (fun t4=>?_)
 ·refine xc 5 (args:=#[V0 no,.iface 33 (V0 10)]) (Vw no (some 10) [] _ _ rfl) ?_
  rintro _ W9 ⟨r9,rfl,o0,q5⟩
  rw[Jc] at q5
  obtain⟨t9,x9,rfl⟩:=q5.iface
  have k2:=((u3.A n2.blk a3 Do).i a9).i o0
  refine xsv 0 k2 [V0 0,.bool false,S1,S1] fun ao n9 w7=>?_
  have g2:=n2.Q (blB (U3 B w) hBw n1.i)
  have hB:=n9.i (blB (blB (u3.i (blB (blB (U3 B w) hBw n1.i) hBw n2.i) hBb) hBw a9) hBw o0) (N0 hBw g2)
  have hO:=(Q3 (((((show Zd [292] w _ from(Q0 n1.i)).trans (Q0 n2.i)).trans (Q1 u3 a3 Do)).trans (Q0 a9)).trans (Q0 o0)) n9 g2)
  have q9:=n9.A (f8.i o0) k2 Do
  have m0:=q5.I n9 k2 Do
  exact xec 5 w7 (.tuple #[.agg #[V0 0,.bool false,S1,S1],.iface t9 (x9)]) ⟨hB,hO,q9,.inl ⟨by(unfold Yy;(repeat' split)<;>first|rfl|assumption|decide|omega|exact absurd (C6 (D4 ‹Kl _ _=true›) ‹Kl _ _=false›) Do|(rename_i q;exact absurd ⟨Y3,Y3,Y3⟩ q)|(rename_i q;obtain⟨q1,q2,q3⟩:=q;exact absurd (C6 (D4 q1) ‹Yg _=false›) Do)|(rename_i q;obtain⟨q1,q2,q3⟩:=q;omega)),_,_,_,_,_,_,_,_,_,_,rfl,by(unfold Yy;(repeat' split)<;>first|exact m0|(exfalso;omega)|contradiction|exact absurd (C6 (D4 ‹Kl _ _=true›) ‹Kl _ _=false›) Do|(rename_i q;exact absurd ⟨Y3,Y3,Y3⟩ q)|(rename_i q;obtain⟨q1,q2,q3⟩:=q;exact absurd (C6 (D4 q1) ‹Yg _=false›) Do)|(rename_i q;obtain⟨q1,q2,q3⟩:=q;omega))⟩⟩
 refine xd 3 (.t B [191]) ?_
 have b6:=f8.i (Za W4)
 refine xbt (.e [0,1,2] 3) 5 B [191] b6 ?_
 refine xbt (.e [4,5,6,7] 8) 6 B [191] b6 ?_
 refine xm2 0 9 13 ?_ ?_
 ·have p8:=((((hI.i n1.i).i n2.i).q (Q1 (T:=[292]) u3 a3 Do) Do).i a9).i (Za W4)
  refine yc 0 (.t B [191]) (Sq Bi b p n c l no tree _ p8) ?_
  rintro e y9 p9
  rcases p9 with ⟨he,bf,rfl,a7,hv⟩|⟨he,kp,kc,vp,vc,rfl,a7,hk,h1⟩
  ·refine⟨(Q5 _ a7),?_⟩
   refine xa (.o [10,11,12] 13) [V0 0,.bool false,S1,S1] 191 fun x8 aj e4=>?_
   have k2:=(((u3.A n2.blk a3 Do).i a9).i (Za W4)).i a7
   have h8:=e4.ne k2
   have hB:=blB (blB (blB (u3.i (blB (blB (U3 B w) hBw n1.i) hBw n2.i) hBb) hBw a9) hBw (Za W4)) hBw a7
   have r8:=e4.Q hB
   refine ysv (.o [] 14) e4.blk [V0 0,.bool false,S1,S1] (.t B [191]) fun ag i2 v0=>⟨(Zr i2 e4.blk (N0 hBw r8) Do),?_⟩
   refine xlv (.r [15] 14) v0.rp ?_
   have h9:=i2.blk (k2.i e4.i) h8
   refine xsv 1 h9 [V0 0,.bool false,S1,S1] fun aa o1 v1=>?_
   have g2:=n2.Q (blB (U3 B w) hBw n1.i)
   have s0:=o1.i (i2.i (blB hB hBw e4.i) (N0 hBw r8)) (N0 hBw g2)
   have hO:=(Q3 (Q3 (((((((show Zd [292] w _ from(Q0 n1.i)).trans (Q0 n2.i)).trans (Q1 u3 a3 Do)).trans (Q0 a9)).trans (Q0 (Za W4))).trans (Q0 a7)).trans (Q0 e4.i)) i2 r8) o1 g2)
   have r4:=o1.A (i2.A ((b6.i a7).i e4.i) e4.blk Do) h9 Do
   have p5:=((hv.i e4.i).I i2 e4.blk Do).I o1 h9 Do
   exact xec 6 v1 (.tuple #[.agg #[V0 0,.bool false,S1,S1],.iface 201 (P0 bf)]) ⟨s0,hO,r4,.inl ⟨by(unfold Yy;(repeat' split)<;>first|rfl|assumption|decide|omega|exact absurd (C6 (D4 ‹Kl _ _=true›) ‹Kl _ _=false›) Do|(rename_i q;exact absurd ⟨Y3,Y3,Y3⟩ q)|(rename_i q;obtain⟨q1,q2,q3⟩:=q;exact absurd (C6 (D4 q1) ‹Yg _=false›) Do)|(rename_i q;obtain⟨q1,q2,q3⟩:=q;omega)),_,_,_,_,_,_,_,_,_,_,rfl,by(unfold Yy;(repeat' split)<;>first|exact p5|(exfalso;omega)|contradiction|exact absurd (C6 (D4 ‹Kl _ _=true›) ‹Kl _ _=false›) Do|(rename_i q;exact absurd ⟨Y3,Y3,Y3⟩ q)|(rename_i q;obtain⟨q1,q2,q3⟩:=q;exact absurd (C6 (D4 q1) ‹Yg _=false›) Do)|(rename_i q;obtain⟨q1,q2,q3⟩:=q;omega))⟩⟩
  have e9:=(blB (blB (u3.i (blB (blB (U3 B w) hBw n1.i) hBw n2.i) hBb) hBw a9) hBw (Za W4)).size
  refine⟨(Q5 _ a7),?_⟩
  refine xa (.o [10,11,12] 13) [V0 0,.bool false,S1,S1] 191 fun y0 z6 a6=>?_
  have k2:=(((u3.A n2.blk a3 Do).i a9).i (Za W4)).i a7
  have b3:=a6.ne k2
  have hB:=blB (blB (blB (u3.i (blB (blB (U3 B w) hBw n1.i) hBw n2.i) hBb) hBw a9) hBw (Za W4)) hBw a7
  have c6:=a6.Q hB
  refine ysv (.o [] 14) a6.blk [V0 (Qt (inB l no)),.bool (Yg (inB l no)),.slice kp (Xa (inB l no)) kc,.slice vp (Xa (inB l no)) vc] (.t B [191]) fun ac b5 o2=>⟨(Zr b5 a6.blk (N0 hBw c6) Do),?_⟩
  have k1:=b5.A (((((u3.A (n1.blk.i n2.i) a3 Do).i a9).i (Za W4)).i a7).i a6.i) a6.blk Do
  refine xlv (.r [15] 14) k1.rp ?_
  refine xb 1 2 o2 ?_
  have f1:=b5.j (Zb (Zg hk e9) a6.i) a6.blk Do
  refine xr 0 (args:=#[.agg #[V0 lo,V0 hi],.slice kp (Xa (inB l no)) kc]) (Za2 lo hi _ (Hy (inB l no) (Xa (inB l no))) _ (Zep (Zf f1) (Bb _ _))) fun a4 a1=>?_
  refine xin 4 (Hi lo hi (Hy (inB l no) (Xa (inB l no)))) (0:Int) (fun q6=>?_) (fun q6=>?_)
  ·refine xd 1 (.t B [191]) ?_
   refine xm2 (.b [1,2]) 0 3 ?_ ?_
   ·have n0:=(o2.i a1).i (Za a4)
    refine xlv 0 n0.rp ?_
    refine yc (.o [] 3) (.t B [191]) (Vw no (some 9) [] _ _ rfl) ?_
    rintro _ aq ⟨y7,rfl,e3,f9⟩
    refine⟨(Q5 _ e3),?_⟩
    rw[Jc] at f9
    obtain⟨t1,t3,rfl⟩:=f9.iface
    have f5:=(((b5.blk (k2.i a6.i) b3).i a1).i (Za a4)).i e3
    have g2:=n2.Q (blB (U3 B w) hBw n1.i)
    refine ysv (.o [] 4) f5 [V0 (Qt (inB l no)),.bool (Yg (inB l no)),.slice kp (Xa (inB l no)) kc,.slice vp (Xa (inB l no)) vc] (.t B [191]) fun z8 l2 u6=>⟨(Zr l2 f5 (N0 hBw g2) Do),?_⟩
    have q0:=l2.i (blB (blB (blB (b5.i (blB hB hBw a6.i) (N0 hBw c6)) hBw a1) hBw (Za a4)) hBw e3) (N0 hBw g2)
    have hO:=(Q3 ((((Q3 (((((((show Zd [292] w _ from(Q0 n1.i)).trans (Q0 n2.i)).trans (Q1 u3 a3 Do)).trans (Q0 a9)).trans (Q0 (Za W4))).trans (Q0 a7)).trans (Q0 a6.i)) b5 c6).trans (Q0 a1)).trans (Q0 (Za a4))).trans (Q0 e3)) l2 g2)
    have r0:=l2.A ((((b5.A ((b6.i a7).i a6.i) a6.blk Do).i a1).i (Za a4)).i e3) f5 Do
    have g9:=f9.I l2 f5 Do
    exact xec (.r [5] 5) u6 (.tuple #[.agg #[V0 (Qt (inB l no)),.bool (Yg (inB l no)),.slice kp (Xa (inB l no)) kc,.slice vp (Xa (inB l no)) vc],.iface t1 (t3)]) ⟨q0,hO,r0,.inl ⟨by(unfold Yy;(repeat' split)<;>first|rfl|assumption|decide|omega|exact absurd (C6 (D4 ‹Kl _ _=true›) ‹Kl _ _=false›) Do|(rename_i q;exact absurd ⟨Y3,Y3,Y3⟩ q)|(rename_i q;obtain⟨q1,q2,q3⟩:=q;exact absurd (C6 (D4 q1) ‹Yg _=false›) Do)|(rename_i q;obtain⟨q1,q2,q3⟩:=q;omega)),_,_,_,_,_,_,_,_,_,_,rfl,by(unfold Yy;(repeat' split)<;>first|exact g9|(exfalso;omega)|contradiction|exact absurd (C6 (D4 ‹Kl _ _=true›) ‹Kl _ _=false›) Do|(rename_i q;exact absurd ⟨Y3,Y3,Y3⟩ q)|(rename_i q;obtain⟨q1,q2,q3⟩:=q;exact absurd (C6 (D4 q1) ‹Yg _=false›) Do)|(rename_i q;obtain⟨q1,q2,q3⟩:=q;omega))⟩⟩
   refine yc 0 (.t B [191]) (Vw no (some 9) [] _ _ rfl) ?_
   rintro _ z0 ⟨ak,rfl,d9,h4⟩
   refine⟨(Q5 _ d9),?_⟩
   rw[Jc] at h4
   obtain⟨v4,t5,rfl⟩:=h4.iface
   have j9:=((o2.i a1).i (Za a4)).i d9
   refine xlv (.o [] 0) j9.rp ?_
   have f4:=(((b5.blk (k2.i a6.i) b3).i a1).i (Za a4)).i d9
   have g2:=n2.Q (blB (U3 B w) hBw n1.i)
   refine ysv (.o [] 4) f4 [V0 (Qt (inB l no)),.bool (Yg (inB l no)),.slice kp (Xa (inB l no)) kc,.slice vp (Xa (inB l no)) vc] (.t B [191]) fun af j3 v3=>⟨(Zr j3 f4 (N0 hBw g2) Do),?_⟩
   have s3:=j3.i (blB (blB (blB (b5.i (blB hB hBw a6.i) (N0 hBw c6)) hBw a1) hBw (Za a4)) hBw d9) (N0 hBw g2)
   have hO:=(Q3 ((((Q3 (((((((show Zd [292] w _ from(Q0 n1.i)).trans (Q0 n2.i)).trans (Q1 u3 a3 Do)).trans (Q0 a9)).trans (Q0 (Za W4))).trans (Q0 a7)).trans (Q0 a6.i)) b5 c6).trans (Q0 a1)).trans (Q0 (Za a4))).trans (Q0 d9)) j3 g2)
   have r3:=j3.A ((((b5.A ((b6.i a7).i a6.i) a6.blk Do).i a1).i (Za a4)).i d9) f4 Do
   have h2:=h4.I j3 f4 Do
   exact xec (.r [5] 5) v3 (.tuple #[.agg #[V0 (Qt (inB l no)),.bool (Yg (inB l no)),.slice kp (Xa (inB l no)) kc,.slice vp (Xa (inB l no)) vc],.iface v4 (t5)]) ⟨s3,hO,r3,.inl ⟨by(unfold Yy;(repeat' split)<;>first|rfl|assumption|decide|omega|exact absurd (C6 (D4 ‹Kl _ _=true›) ‹Kl _ _=false›) Do|(rename_i q;exact absurd ⟨Y3,Y3,Y3⟩ q)|(rename_i q;obtain⟨q1,q2,q3⟩:=q;exact absurd (C6 (D4 q1) ‹Yg _=false›) Do)|(rename_i q;obtain⟨q1,q2,q3⟩:=q;omega)),_,_,_,_,_,_,_,_,_,_,rfl,by(unfold Yy;(repeat' split)<;>first|exact h2|(exfalso;omega)|contradiction|exact absurd (C6 (D4 ‹Kl _ _=true›) ‹Kl _ _=false›) Do|(rename_i q;exact absurd ⟨Y3,Y3,Y3⟩ q)|(rename_i q;obtain⟨q1,q2,q3⟩:=q;exact absurd (C6 (D4 q1) ‹Yg _=false›) Do)|(rename_i q;obtain⟨q1,q2,q3⟩:=q;omega))⟩⟩
  refine xd 1 .z ?_
  have b9:=(o2.i a1).i (Za a4)
  refine xb (.e [0] 1) 1 b9 ?_
  refine xg (.b [2]) [69,70] (Yg (inB l no)) (fun r5=>?_) (fun r5=>?_)
  ·have c5:=((b5.A ((b6.i a7).i a6.i) a6.blk Do).i a1).i (Za a4)
   refine xb (.e [3,4,5,6] 7) 2 c5 ?_
   refine xg (.b [8,9,10]) [76,77,78] (deep != (0:Int)) (fun e6=>?_) (fun e6=>?_)
   ·have e6:=Cc e6
    refine xb (.e [11,12,13,14] 15) 2 c5 ?_
    refine xb (.e [16,17,18] 19) 8 c5 ?_
    refine xwm (.e [20] 21) ((me.length:Int)+1) (↑(me.length+1):Int) ?_
    refine xin (.r [22,23,24] 2) deep (↑(me.length+1):Int) (fun o6=>?_) (fun o6=>?_)
    ·refine xd 1 (.t B [191]) ?_
     refine xm2 (.b [1,2]) 0 3 ?_ ?_
     ·have l1:=b9.i (Za a4.drew)
      refine xlv 0 l1.rp ?_
      refine yc (.o [] 3) (.t B [191]) (Vw no (some 10) [] _ _ rfl) ?_
      rintro _ x7 ⟨y4,rfl,e1,g7⟩
      refine⟨(Q5 _ e1),?_⟩
      rw[Jc] at g7
      obtain⟨v6,w3,rfl⟩:=g7.iface
      have e8:=((((b5.blk (k2.i a6.i) b3).i a1).i (Za a4)).i (Za a4.drew)).i e1
      have g2:=n2.Q (blB (U3 B w) hBw n1.i)
      refine ysv (.o [] 4) e8 [V0 (Qt (inB l no)),.bool (Yg (inB l no)),.slice kp (Xa (inB l no)) kc,.slice vp (Xa (inB l no)) vc] (.t B [191]) fun ad l8 w4=>⟨(Zr l8 e8 (N0 hBw g2) Do),?_⟩
      have r1:=l8.i (blB (blB (blB (blB (b5.i (blB hB hBw a6.i) (N0 hBw c6)) hBw a1) hBw (Za a4)) hBw (Za a4.drew)) hBw e1) (N0 hBw g2)
      have hO:=(Q3 (((((Q3 (((((((show Zd [292] w _ from(Q0 n1.i)).trans (Q0 n2.i)).trans (Q1 u3 a3 Do)).trans (Q0 a9)).trans (Q0 (Za W4))).trans (Q0 a7)).trans (Q0 a6.i)) b5 c6).trans (Q0 a1)).trans (Q0 (Za a4))).trans (Q0 (Za a4.drew))).trans (Q0 e1)) l8 g2)
      have p1:=l8.A ((c5.i (Za a4.drew)).i e1) e8 Do
      have g8:=g7.I l8 e8 Do
      exact xec (.r [5] 5) w4 (.tuple #[.agg #[V0 (Qt (inB l no)),.bool (Yg (inB l no)),.slice kp (Xa (inB l no)) kc,.slice vp (Xa (inB l no)) vc],.iface v6 (w3)]) ⟨r1,hO,p1,.inl ⟨by(unfold Yy;(repeat' split)<;>first|rfl|assumption|decide|omega|exact absurd (C6 (D4 ‹Kl _ _=true›) ‹Kl _ _=false›) Do|(rename_i q;exact absurd ⟨Y3,Y3,Y3⟩ q)|(rename_i q;obtain⟨q1,q2,q3⟩:=q;exact absurd (C6 (D4 q1) ‹Yg _=false›) Do)|(rename_i q;obtain⟨q1,q2,q3⟩:=q;omega)),_,_,_,_,_,_,_,_,_,_,rfl,by(unfold Yy;(repeat' split)<;>first|exact g8|(exfalso;omega)|contradiction|exact absurd (C6 (D4 ‹Kl _ _=true›) ‹Kl _ _=false›) Do|(rename_i q;exact absurd ⟨Y3,Y3,Y3⟩ q)|(rename_i q;obtain⟨q1,q2,q3⟩:=q;exact absurd (C6 (D4 q1) ‹Yg _=false›) Do)|(rename_i q;obtain⟨q1,q2,q3⟩:=q;omega))⟩⟩
     refine yc 0 (.t B [191]) (Vw no (some 10) [] _ _ rfl) ?_
     rintro _ w8 ⟨z5,rfl,d8,g0⟩
     refine⟨(Q5 _ d8),?_⟩
     rw[Jc] at g0
     obtain⟨v2,v9,rfl⟩:=g0.iface
     have n5:=(b9.i (Za a4.drew)).i d8
     refine xlv (.o [] 0) n5.rp ?_
     have f2:=((((b5.blk (k2.i a6.i) b3).i a1).i (Za a4)).i (Za a4.drew)).i d8
     have g2:=n2.Q (blB (U3 B w) hBw n1.i)
     refine ysv (.o [] 4) f2 [V0 (Qt (inB l no)),.bool (Yg (inB l no)),.slice kp (Xa (inB l no)) kc,.slice vp (Xa (inB l no)) vc] (.t B [191]) fun ah m8 w2=>⟨(Zr m8 f2 (N0 hBw g2) Do),?_⟩
     have s2:=m8.i (blB (blB (blB (blB (b5.i (blB hB hBw a6.i) (N0 hBw c6)) hBw a1) hBw (Za a4)) hBw (Za a4.drew)) hBw d8) (N0 hBw g2)
     have hO:=(Q3 (((((Q3 (((((((show Zd [292] w _ from(Q0 n1.i)).trans (Q0 n2.i)).trans (Q1 u3 a3 Do)).trans (Q0 a9)).trans (Q0 (Za W4))).trans (Q0 a7)).trans (Q0 a6.i)) b5 c6).trans (Q0 a1)).trans (Q0 (Za a4))).trans (Q0 (Za a4.drew))).trans (Q0 d8)) m8 g2)
     have k6:=m8.A ((c5.i (Za a4.drew)).i d8) f2 Do
     have g3:=g0.I m8 f2 Do
     exact xec (.r [5] 5) w2 (.tuple #[.agg #[V0 (Qt (inB l no)),.bool (Yg (inB l no)),.slice kp (Xa (inB l no)) kc,.slice vp (Xa (inB l no)) vc],.iface v2 (v9)]) ⟨s2,hO,k6,.inl ⟨by(unfold Yy;(repeat' split)<;>first|rfl|assumption|decide|omega|exact absurd (C6 (D4 ‹Kl _ _=true›) ‹Kl _ _=false›) Do|(rename_i q;exact absurd ⟨Y3,Y3,Y3⟩ q)|(rename_i q;obtain⟨q1,q2,q3⟩:=q;exact absurd (C6 (D4 q1) ‹Yg _=false›) Do)|(rename_i q;obtain⟨q1,q2,q3⟩:=q;omega)),_,_,_,_,_,_,_,_,_,_,rfl,by(unfold Yy;(repeat' split)<;>first|exact g3|(exfalso;omega)|contradiction|exact absurd (C6 (D4 ‹Kl _ _=true›) ‹Kl _ _=false›) Do|(rename_i q;exact absurd ⟨Y3,Y3,Y3⟩ q)|(rename_i q;obtain⟨q1,q2,q3⟩:=q;exact absurd (C6 (D4 q1) ‹Yg _=false›) Do)|(rename_i q;obtain⟨q1,q2,q3⟩:=q;omega))⟩⟩
    refine xlv 5 b9.rp ?_
    have f7:=((b5.blk (k2.i a6.i) b3).i a1).i (Za a4)
    refine xsv 0 f7 [V0 (Qt (inB l no)),.bool (Yg (inB l no)),.slice kp (Xa (inB l no)) kc,.slice vp (Xa (inB l no)) vc] fun z7 k8 v8=>?_
    have g2:=n2.Q (blB (U3 B w) hBw n1.i)
    have s1:=k8.i (blB (blB (b5.i (blB hB hBw a6.i) (N0 hBw c6)) hBw a1) hBw (Za a4)) (N0 hBw g2)
    have hO:=(Q3 (((Q3 (((((((show Zd [292] w _ from(Q0 n1.i)).trans (Q0 n2.i)).trans (Q1 u3 a3 Do)).trans (Q0 a9)).trans (Q0 (Za W4))).trans (Q0 a7)).trans (Q0 a6.i)) b5 c6).trans (Q0 a1)).trans (Q0 (Za a4))) k8 g2)
    have j5:=k8.A c5 f7 Do
    have p6:=k8.j (Zb (Zb f1 a1) (Za a4)) f7 Do
    have m2:=k8.j (Zb (Zb (b5.j (Zb (Zg h1 e9) a6.i) a6.blk Do) a1) (Za a4)) f7 Do
    exact xec 4 v8 (.tuple #[.agg #[V0 (Qt (inB l no)),.bool (Yg (inB l no)),.slice kp (Xa (inB l no)) kc,.slice vp (Xa (inB l no)) vc],.nilIface]) ⟨s1,hO,j5,.inr ⟨by(unfold Yy;(repeat' split)<;>first|rfl|assumption|decide|omega|exact absurd (C6 (D4 ‹Kl _ _=true›) ‹Kl _ _=false›) Do|(rename_i q;exact absurd ⟨Y3,Y3,Y3⟩ q)|(rename_i q;obtain⟨q1,q2,q3⟩:=q;exact absurd (C6 (D4 q1) ‹Yg _=false›) Do)|(rename_i q;obtain⟨q1,q2,q3⟩:=q;omega)),Y3,_,_,_,_,rfl,p6,m2⟩⟩
   have e6:=Vg e6
   refine xlv (.r [11,12,13,14,15,16,17,18,19,20,21,22,23,24] 8) b9.rp ?_
   have f6:=((b5.blk (k2.i a6.i) b3).i a1).i (Za a4)
   refine xsv 0 f6 [V0 (Qt (inB l no)),.bool (Yg (inB l no)),.slice kp (Xa (inB l no)) kc,.slice vp (Xa (inB l no)) vc] fun z2 j4 u4=>?_
   have g2:=n2.Q (blB (U3 B w) hBw n1.i)
   have s5:=j4.i (blB (blB (b5.i (blB hB hBw a6.i) (N0 hBw c6)) hBw a1) hBw (Za a4)) (N0 hBw g2)
   have hO:=(Q3 (((Q3 (((((((show Zd [292] w _ from(Q0 n1.i)).trans (Q0 n2.i)).trans (Q1 u3 a3 Do)).trans (Q0 a9)).trans (Q0 (Za W4))).trans (Q0 a7)).trans (Q0 a6.i)) b5 c6).trans (Q0 a1)).trans (Q0 (Za a4))) j4 g2)
   have n6:=j4.A c5 f6 Do
   have q4:=j4.j (Zb (Zb f1 a1) (Za a4)) f6 Do
   have i5:=j4.j (Zb (Zb (b5.j (Zb (Zg h1 e9) a6.i) a6.blk Do) a1) (Za a4)) f6 Do
   exact xec 4 u4 (.tuple #[.agg #[V0 (Qt (inB l no)),.bool (Yg (inB l no)),.slice kp (Xa (inB l no)) kc,.slice vp (Xa (inB l no)) vc],.nilIface]) ⟨s5,hO,n6,.inr ⟨by(unfold Yy;(repeat' split)<;>first|rfl|assumption|decide|omega|exact absurd (C6 (D4 ‹Kl _ _=true›) ‹Kl _ _=false›) Do|(rename_i q;exact absurd ⟨Y3,Y3,Y3⟩ q)|(rename_i q;obtain⟨q1,q2,q3⟩:=q;exact absurd (C6 (D4 q1) ‹Yg _=false›) Do)|(rename_i q;obtain⟨q1,q2,q3⟩:=q;omega)),Y3,_,_,_,_,rfl,q4,i5⟩⟩
  refine xlv (.r [3,4,5,6,7,8,9,10,11,12,13,14,15,16,17,18,19,20,21,22,23,24] 8) b9.rp ?_
  have f0:=((b5.blk (k2.i a6.i) b3).i a1).i (Za a4)
  refine xsv 0 f0 [V0 (Qt (inB l no)),.bool (Yg (inB l no)),.slice kp (Xa (inB l no)) kc,.slice vp (Xa (inB l no)) vc] fun z1 i4 u0=>?_
  have g2:=n2.Q (blB (U3 B w) hBw n1.i)
  have s4:=i4.i (blB (blB (b5.i (blB hB hBw a6.i) (N0 hBw c6)) hBw a1) hBw (Za a4)) (N0 hBw g2)
  have hO:=(Q3 (((Q3 (((((((show Zd [292] w _ from(Q0 n1.i)).trans (Q0 n2.i)).trans (Q1 u3 a3 Do)).trans (Q0 a9)).trans (Q0 (Za W4))).trans (Q0 a7)).trans (Q0 a6.i)) b5 c6).trans (Q0 a1)).trans (Q0 (Za a4))) i4 g2)
  have k5:=i4.A (((b5.A ((b6.i a7).i a6.i) a6.blk Do).i a1).i (Za a4)) f0 Do
  have r2:=i4.j (Zb (Zb f1 a1) (Za a4)) f0 Do
  have m6:=i4.j (Zb (Zb (b5.j (Zb (Zg h1 e9) a6.i) a6.blk Do) a1) (Za a4)) f0 Do
  exact xec 4 u0 (.tuple #[.agg #[V0 (Qt (inB l no)),.bool (Yg (inB l no)),.slice kp (Xa (inB l no)) kc,.slice vp (Xa (inB l no)) vc],.nilIface]) ⟨s4,hO,k5,.inr ⟨by(unfold Yy;(repeat' split)<;>first|rfl|assumption|decide|omega|exact absurd (C6 (D4 ‹Kl _ _=true›) ‹Kl _ _=false›) Do|(rename_i q;exact absurd ⟨Y3,Y3,Y3⟩ q)|(rename_i q;obtain⟨q1,q2,q3⟩:=q;exact absurd (C6 (D4 q1) ‹Yg _=false›) Do)|(rename_i q;obtain⟨q1,q2,q3⟩:=q;omega)),Y3,_,_,_,_,rfl,r2,m6⟩⟩
 refine xa 0 [V0 0,.bool false,S1,S1] 191 fun y5 y1 a8=>?_
 have k2:=((u3.A n2.blk a3 Do).i a9).i (Za W4)
 have b0:=a8.ne k2
 have hB:=blB (blB (u3.i (blB (blB (U3 B w) hBw n1.i) hBw n2.i) hBb) hBw a9) hBw (Za W4)
 have c2:=a8.Q hB
 have p7:=(((((hI.i n1.i).i n2.i).q (Q1 (T:=[292]) u3 a3 Do) Do).i a9).i (Za W4)).i a8.i
 refine yc (.o [] 9) (.t B [191]) (Sq Bi b p n c l no tree _ p7) ?_
 rintro e z9 o7
 rcases o7 with ⟨he,bf,rfl,a0,hv⟩|⟨he,kp,kc,vp,vc,rfl,a0,hk,h1⟩
 ·refine⟨(Q5 _ a0),?_⟩
  have c3:=a8.blk.i a0
  refine ysv (.o [10,11,12] 14) c3 [V0 0,.bool false,S1,S1] (.t B [191]) fun ai i3 v7=>⟨(Zr i3 c3 (N0 hBw c2) Do),?_⟩
  refine xlv (.r [15] 14) v7.rp ?_
  have h6:=i3.blk ((k2.i a8.i).i a0) b0
  refine xsv 1 h6 [V0 0,.bool false,S1,S1] fun z4 o4 u9=>?_
  have g2:=n2.Q (blB (U3 B w) hBw n1.i)
  have p2:=o4.i (i3.i (blB (blB hB hBw a8.i) hBw a0) (N0 hBw c2)) (N0 hBw g2)
  have hO:=(Q3 (Q3 (((((((show Zd [292] w _ from(Q0 n1.i)).trans (Q0 n2.i)).trans (Q1 u3 a3 Do)).trans (Q0 a9)).trans (Q0 (Za W4))).trans (Q0 a8.i)).trans (Q0 a0)) i3 c2) o4 g2)
  have j6:=o4.A (i3.A ((b6.i a8.i).i a0) c3 Do) h6 Do
  have o9:=(hv.I i3 c3 Do).I o4 h6 Do
  exact xec 6 u9 (.tuple #[.agg #[V0 0,.bool false,S1,S1],.iface 201 (P0 bf)]) ⟨p2,hO,j6,.inl ⟨by(unfold Yy;(repeat' split)<;>first|rfl|assumption|decide|omega|exact absurd (C6 (D4 ‹Kl _ _=true›) ‹Kl _ _=false›) Do|(rename_i q;exact absurd ⟨Y3,Y3,Y3⟩ q)|(rename_i q;obtain⟨q1,q2,q3⟩:=q;exact absurd (C6 (D4 q1) ‹Yg _=false›) Do)|(rename_i q;obtain⟨q1,q2,q3⟩:=q;omega)),_,_,_,_,_,_,_,_,_,_,rfl,by(unfold Yy;(repeat' split)<;>first|exact o9|(exfalso;omega)|contradiction|exact absurd (C6 (D4 ‹Kl _ _=true›) ‹Kl _ _=false›) Do|(rename_i q;exact absurd ⟨Y3,Y3,Y3⟩ q)|(rename_i q;obtain⟨q1,q2,q3⟩:=q;exact absurd (C6 (D4 q1) ‹Yg _=false›) Do)|(rename_i q;obtain⟨q1,q2,q3⟩:=q;omega))⟩⟩
 have e7:=(blB hB hBw a8.i).size
 refine⟨(Q5 _ a0),?_⟩
 have c3:=a8.blk.i a0
 refine ysv (.o [10,11,12] 14) c3 [V0 (Qt (inB l no)),.bool (Yg (inB l no)),.slice kp (Xa (inB l no)) kc,.slice vp (Xa (inB l no)) vc] (.t B [191]) fun x0 b4 o3=>⟨(Zr b4 c3 (N0 hBw c2) Do),?_⟩
 have k1:=b4.A (((((u3.A (n1.blk.i n2.i) a3 Do).i a9).i (Za W4)).i a8.i).i a0) c3 Do
 refine xlv (.r [15] 14) k1.rp ?_
 refine xb 1 2 o3 ?_
 have f3:=b4.j (Zg hk e7) c3 Do
 refine xr 0 (args:=#[.agg #[V0 lo,V0 hi],.slice kp (Xa (inB l no)) kc]) (Za2 lo hi _ (Hy (inB l no) (Xa (inB l no))) _ (Zep (Zf f3) (Bb _ _))) fun a5 a2=>?_
 refine xin 4 (Hi lo hi (Hy (inB l no) (Xa (inB l no)))) (0:Int) (fun p4=>?_) (fun p4=>?_)
 ·refine xd 1 (.t B [191]) ?_
  refine xm2 (.b [1,2]) 0 3 ?_ ?_
  ·have l6:=(o3.i a2).i (Za a5)
   refine xlv 0 l6.rp ?_
   refine yc (.o [] 3) (.t B [191]) (Vw no (some 9) [] _ _ rfl) ?_
   rintro _ x2 ⟨z3,rfl,e0,h0⟩
   refine⟨(Q5 _ e0),?_⟩
   rw[Jc] at h0
   obtain⟨u8,u1,rfl⟩:=h0.iface
   have d0:=(((b4.blk ((k2.i a8.i).i a0) b0).i a2).i (Za a5)).i e0
   have g2:=n2.Q (blB (U3 B w) hBw n1.i)
   refine ysv (.o [] 4) d0 [V0 (Qt (inB l no)),.bool (Yg (inB l no)),.slice kp (Xa (inB l no)) kc,.slice vp (Xa (inB l no)) vc] (.t B [191]) fun y8 l7 u2=>⟨(Zr l7 d0 (N0 hBw g2) Do),?_⟩
   have j1:=l7.i (blB (blB (blB (b4.i (blB (blB hB hBw a8.i) hBw a0) (N0 hBw c2)) hBw a2) hBw (Za a5)) hBw e0) (N0 hBw g2)
   have hO:=(Q3 ((((Q3 (((((((show Zd [292] w _ from(Q0 n1.i)).trans (Q0 n2.i)).trans (Q1 u3 a3 Do)).trans (Q0 a9)).trans (Q0 (Za W4))).trans (Q0 a8.i)).trans (Q0 a0)) b4 c2).trans (Q0 a2)).trans (Q0 (Za a5))).trans (Q0 e0)) l7 g2)
   have j7:=l7.A ((((b4.A ((b6.i a8.i).i a0) c3 Do).i a2).i (Za a5)).i e0) d0 Do
   have i0:=h0.I l7 d0 Do
   exact xec (.r [5] 5) u2 (.tuple #[.agg #[V0 (Qt (inB l no)),.bool (Yg (inB l no)),.slice kp (Xa (inB l no)) kc,.slice vp (Xa (inB l no)) vc],.iface u8 (u1)]) ⟨j1,hO,j7,.inl ⟨by(unfold Yy;(repeat' split)<;>first|rfl|assumption|decide|omega|exact absurd (C6 (D4 ‹Kl _ _=true›) ‹Kl _ _=false›) Do|(rename_i q;exact absurd ⟨Y3,Y3,Y3⟩ q)|(rename_i q;obtain⟨q1,q2,q3⟩:=q;exact absurd (C6 (D4 q1) ‹Yg _=false›) Do)|(rename_i q;obtain⟨q1,q2,q3⟩:=q;omega)),_,_,_,_,_,_,_,_,_,_,rfl,by(unfold Yy;(repeat' split)<;>first|exact i0|(exfalso;omega)|contradiction|exact absurd (C6 (D4 ‹Kl _ _=true›) ‹Kl _ _=false›) Do|(rename_i q;exact absurd ⟨Y3,Y3,Y3⟩ q)|(rename_i q;obtain⟨q1,q2,q3⟩:=q;exact absurd (C6 (D4 q1) ‹Yg _=false›) Do)|(rename_i q;obtain⟨q1,q2,q3⟩:=q;omega))⟩⟩
  refine yc 0 (.t B [191]) (Vw no (some 9) [] _ _ rfl) ?_
  rintro _ x4 ⟨y6,rfl,d6,g1⟩
  refine⟨(Q5 _ d6),?_⟩
  rw[Jc] at g1
  obtain⟨s9,t2,rfl⟩:=g1.iface
  have i7:=((o3.i a2).i (Za a5)).i d6
  refine xlv (.o [] 0) i7.rp ?_
  have c8:=(((b4.blk ((k2.i a8.i).i a0) b0).i a2).i (Za a5)).i d6
  have g2:=n2.Q (blB (U3 B w) hBw n1.i)
  refine ysv (.o [] 4) c8 [V0 (Qt (inB l no)),.bool (Yg (inB l no)),.slice kp (Xa (inB l no)) kc,.slice vp (Xa (inB l no)) vc] (.t B [191]) fun y2 m1 w5=>⟨(Zr m1 c8 (N0 hBw g2) Do),?_⟩
  have l9:=m1.i (blB (blB (blB (b4.i (blB (blB hB hBw a8.i) hBw a0) (N0 hBw c2)) hBw a2) hBw (Za a5)) hBw d6) (N0 hBw g2)
  have hO:=(Q3 ((((Q3 (((((((show Zd [292] w _ from(Q0 n1.i)).trans (Q0 n2.i)).trans (Q1 u3 a3 Do)).trans (Q0 a9)).trans (Q0 (Za W4))).trans (Q0 a8.i)).trans (Q0 a0)) b4 c2).trans (Q0 a2)).trans (Q0 (Za a5))).trans (Q0 d6)) m1 g2)
  have l0:=m1.A ((((b4.A ((b6.i a8.i).i a0) c3 Do).i a2).i (Za a5)).i d6) c8 Do
  have g6:=g1.I m1 c8 Do
  exact xec (.r [5] 5) w5 (.tuple #[.agg #[V0 (Qt (inB l no)),.bool (Yg (inB l no)),.slice kp (Xa (inB l no)) kc,.slice vp (Xa (inB l no)) vc],.iface s9 (t2)]) ⟨l9,hO,l0,.inl ⟨by(unfold Yy;(repeat' split)<;>first|rfl|assumption|decide|omega|exact absurd (C6 (D4 ‹Kl _ _=true›) ‹Kl _ _=false›) Do|(rename_i q;exact absurd ⟨Y3,Y3,Y3⟩ q)|(rename_i q;obtain⟨q1,q2,q3⟩:=q;exact absurd (C6 (D4 q1) ‹Yg _=false›) Do)|(rename_i q;obtain⟨q1,q2,q3⟩:=q;omega)),_,_,_,_,_,_,_,_,_,_,rfl,by(unfold Yy;(repeat' split)<;>first|exact g6|(exfalso;omega)|contradiction|exact absurd (C6 (D4 ‹Kl _ _=true›) ‹Kl _ _=false›) Do|(rename_i q;exact absurd ⟨Y3,Y3,Y3⟩ q)|(rename_i q;obtain⟨q1,q2,q3⟩:=q;exact absurd (C6 (D4 q1) ‹Yg _=false›) Do)|(rename_i q;obtain⟨q1,q2,q3⟩:=q;omega))⟩⟩
 refine xd 1 .z ?_
 have b8:=(o3.i a2).i (Za a5)
 refine xb (.e [0] 1) 1 b8 ?_
 refine xg (.b [2]) [69,70] (Yg (inB l no)) (fun q7=>?_) (fun q7=>?_)
 ·have b7:=((b4.A ((b6.i a8.i).i a0) c3 Do).i a2).i (Za a5)
  refine xb (.e [3,4,5,6] 7) 2 b7 ?_
  refine xg (.b [8,9,10]) [76,77,78] (deep != (0:Int)) (fun e2=>?_) (fun e2=>?_)
  ·have e2:=Cc e2
   refine xb (.e [11,12,13,14] 15) 2 b7 ?_
   refine xb (.e [16,17,18] 19) 8 b7 ?_
   refine xwm (.e [20] 21) ((me.length:Int)+1) (↑(me.length+1):Int) ?_
   refine xin (.r [22,23,24] 2) deep (↑(me.length+1):Int) (fun p3=>?_) (fun p3=>?_)
   ·refine xd 1 (.t B [191]) ?_
    refine xm2 (.b [1,2]) 0 3 ?_ ?_
    ·have j2:=b8.i (Za a5.drew)
     refine xlv 0 j2.rp ?_
     refine yc (.o [] 3) (.t B [191]) (Vw no (some 10) [] _ _ rfl) ?_
     rintro _ ae ⟨x5,rfl,e5,i1⟩
     refine⟨(Q5 _ e5),?_⟩
     rw[Jc] at i1
     obtain⟨u5,s8,rfl⟩:=i1.iface
     have d1:=((((b4.blk ((k2.i a8.i).i a0) b0).i a2).i (Za a5)).i (Za a5.drew)).i e5
     have g2:=n2.Q (blB (U3 B w) hBw n1.i)
     refine ysv (.o [] 4) d1 [V0 (Qt (inB l no)),.bool (Yg (inB l no)),.slice kp (Xa (inB l no)) kc,.slice vp (Xa (inB l no)) vc] (.t B [191]) fun y3 i9 t0=>⟨(Zr i9 d1 (N0 hBw g2) Do),?_⟩
     have l4:=i9.i (blB (blB (blB (blB (b4.i (blB (blB hB hBw a8.i) hBw a0) (N0 hBw c2)) hBw a2) hBw (Za a5)) hBw (Za a5.drew)) hBw e5) (N0 hBw g2)
     have hO:=(Q3 (((((Q3 (((((((show Zd [292] w _ from(Q0 n1.i)).trans (Q0 n2.i)).trans (Q1 u3 a3 Do)).trans (Q0 a9)).trans (Q0 (Za W4))).trans (Q0 a8.i)).trans (Q0 a0)) b4 c2).trans (Q0 a2)).trans (Q0 (Za a5))).trans (Q0 (Za a5.drew))).trans (Q0 e5)) i9 g2)
     have j0:=i9.A ((b7.i (Za a5.drew)).i e5) d1 Do
     have h7:=i1.I i9 d1 Do
     exact xec (.r [5] 5) t0 (.tuple #[.agg #[V0 (Qt (inB l no)),.bool (Yg (inB l no)),.slice kp (Xa (inB l no)) kc,.slice vp (Xa (inB l no)) vc],.iface u5 (s8)]) ⟨l4,hO,j0,.inl ⟨by(unfold Yy;(repeat' split)<;>first|rfl|assumption|decide|omega|exact absurd (C6 (D4 ‹Kl _ _=true›) ‹Kl _ _=false›) Do|(rename_i q;exact absurd ⟨Y3,Y3,Y3⟩ q)|(rename_i q;obtain⟨q1,q2,q3⟩:=q;exact absurd (C6 (D4 q1) ‹Yg _=false›) Do)|(rename_i q;obtain⟨q1,q2,q3⟩:=q;omega)),_,_,_,_,_,_,_,_,_,_,rfl,by(unfold Yy;(repeat' split)<;>first|exact h7|(exfalso;omega)|contradiction|exact absurd (C6 (D4 ‹Kl _ _=true›) ‹Kl _ _=false›) Do|(rename_i q;exact absurd ⟨Y3,Y3,Y3⟩ q)|(rename_i q;obtain⟨q1,q2,q3⟩:=q;exact absurd (C6 (D4 q1) ‹Yg _=false›) Do)|(rename_i q;obtain⟨q1,q2,q3⟩:=q;omega))⟩⟩
    refine yc 0 (.t B [191]) (Vw no (some 10) [] _ _ rfl) ?_
    rintro _ x1 ⟨al,rfl,d7,h5⟩
    refine⟨(Q5 _ d7),?_⟩
    rw[Jc] at h5
    obtain⟨t8,t7,rfl⟩:=h5.iface
    have k0:=(b8.i (Za a5.drew)).i d7
    refine xlv (.o [] 0) k0.rp ?_
    have d4:=((((b4.blk ((k2.i a8.i).i a0) b0).i a2).i (Za a5)).i (Za a5.drew)).i d7
    have g2:=n2.Q (blB (U3 B w) hBw n1.i)
    refine ysv (.o [] 4) d4 [V0 (Qt (inB l no)),.bool (Yg (inB l no)),.slice kp (Xa (inB l no)) kc,.slice vp (Xa (inB l no)) vc] (.t B [191]) fun x3 m5 w0=>⟨(Zr m5 d4 (N0 hBw g2) Do),?_⟩
    have n4:=m5.i (blB (blB (blB (blB (b4.i (blB (blB hB hBw a8.i) hBw a0) (N0 hBw c2)) hBw a2) hBw (Za a5)) hBw (Za a5.drew)) hBw d7) (N0 hBw g2)
    have hO:=(Q3 (((((Q3 (((((((show Zd [292] w _ from(Q0 n1.i)).trans (Q0 n2.i)).trans (Q1 u3 a3 Do)).trans (Q0 a9)).trans (Q0 (Za W4))).trans (Q0 a8.i)).trans (Q0 a0)) b4 c2).trans (Q0 a2)).trans (Q0 (Za a5))).trans (Q0 (Za a5.drew))).trans (Q0 d7)) m5 g2)
    have l3:=m5.A ((b7.i (Za a5.drew)).i d7) d4 Do
    have h3:=h5.I m5 d4 Do
    exact xec (.r [5] 5) w0 (.tuple #[.agg #[V0 (Qt (inB l no)),.bool (Yg (inB l no)),.slice kp (Xa (inB l no)) kc,.slice vp (Xa (inB l no)) vc],.iface t8 (t7)]) ⟨n4,hO,l3,.inl ⟨by(unfold Yy;(repeat' split)<;>first|rfl|assumption|decide|omega|exact absurd (C6 (D4 ‹Kl _ _=true›) ‹Kl _ _=false›) Do|(rename_i q;exact absurd ⟨Y3,Y3,Y3⟩ q)|(rename_i q;obtain⟨q1,q2,q3⟩:=q;exact absurd (C6 (D4 q1) ‹Yg _=false›) Do)|(rename_i q;obtain⟨q1,q2,q3⟩:=q;omega)),_,_,_,_,_,_,_,_,_,_,rfl,by(unfold Yy;(repeat' split)<;>first|exact h3|(exfalso;omega)|contradiction|exact absurd (C6 (D4 ‹Kl _ _=true›) ‹Kl _ _=false›) Do|(rename_i q;exact absurd ⟨Y3,Y3,Y3⟩ q)|(rename_i q;obtain⟨q1,q2,q3⟩:=q;exact absurd (C6 (D4 q1) ‹Yg _=false›) Do)|(rename_i q;obtain⟨q1,q2,q3⟩:=q;omega))⟩⟩
   refine xlv 5 b8.rp ?_
   have d3:=((b4.blk ((k2.i a8.i).i a0) b0).i a2).i (Za a5)
   refine xsv 0 d3 [V0 (Qt (inB l no)),.bool (Yg (inB l no)),.slice kp (Xa (inB l no)) kc,.slice vp (Xa (inB l no)) vc] fun ab m3 v5=>?_
   have g2:=n2.Q (blB (U3 B w) hBw n1.i)
   have j8:=m3.i (blB (blB (b4.i (blB (blB hB hBw a8.i) hBw a0) (N0 hBw c2)) hBw a2) hBw (Za a5)) (N0 hBw g2)
   have hO:=(Q3 (((Q3 (((((((show Zd [292] w _ from(Q0 n1.i)).trans (Q0 n2.i)).trans (Q1 u3 a3 Do)).trans (Q0 a9)).trans (Q0 (Za W4))).trans (Q0 a8.i)).trans (Q0 a0)) b4 c2).trans (Q0 a2)).trans (Q0 (Za a5))) m3 g2)
   have i6:=m3.A b7 d3 Do
   have q8:=m3.j (Zb (Zb f3 a2) (Za a5)) d3 Do
   have l5:=m3.j (Zb (Zb (b4.j (Zg h1 e7) c3 Do) a2) (Za a5)) d3 Do
   exact xec 4 v5 (.tuple #[.agg #[V0 (Qt (inB l no)),.bool (Yg (inB l no)),.slice kp (Xa (inB l no)) kc,.slice vp (Xa (inB l no)) vc],.nilIface]) ⟨j8,hO,i6,.inr ⟨by(unfold Yy;(repeat' split)<;>first|rfl|assumption|decide|omega|exact absurd (C6 (D4 ‹Kl _ _=true›) ‹Kl _ _=false›) Do|(rename_i q;exact absurd ⟨Y3,Y3,Y3⟩ q)|(rename_i q;obtain⟨q1,q2,q3⟩:=q;exact absurd (C6 (D4 q1) ‹Yg _=false›) Do)|(rename_i q;obtain⟨q1,q2,q3⟩:=q;omega)),Y3,_,_,_,_,rfl,q8,l5⟩⟩
  have e2:=Vg e2
  refine xlv (.r [11,12,13,14,15,16,17,18,19,20,21,22,23,24] 8) b8.rp ?_
  have d5:=((b4.blk ((k2.i a8.i).i a0) b0).i a2).i (Za a5)
  refine xsv 0 d5 [V0 (Qt (inB l no)),.bool (Yg (inB l no)),.slice kp (Xa (inB l no)) kc,.slice vp (Xa (inB l no)) vc] fun w9 n8 w1=>?_
  have g2:=n2.Q (blB (U3 B w) hBw n1.i)
  have k9:=n8.i (blB (blB (b4.i (blB (blB hB hBw a8.i) hBw a0) (N0 hBw c2)) hBw a2) hBw (Za a5)) (N0 hBw g2)
  have hO:=(Q3 (((Q3 (((((((show Zd [292] w _ from(Q0 n1.i)).trans (Q0 n2.i)).trans (Q1 u3 a3 Do)).trans (Q0 a9)).trans (Q0 (Za W4))).trans (Q0 a8.i)).trans (Q0 a0)) b4 c2).trans (Q0 a2)).trans (Q0 (Za a5))) n8 g2)
  have m4:=n8.A b7 d5 Do
  have r7:=n8.j (Zb (Zb f3 a2) (Za a5)) d5 Do
  have n7:=n8.j (Zb (Zb (b4.j (Zg h1 e7) c3 Do) a2) (Za a5)) d5 Do
  exact xec 4 w1 (.tuple #[.agg #[V0 (Qt (inB l no)),.bool (Yg (inB l no)),.slice kp (Xa (inB l no)) kc,.slice vp (Xa (inB l no)) vc],.nilIface]) ⟨k9,hO,m4,.inr ⟨by(unfold Yy;(repeat' split)<;>first|rfl|assumption|decide|omega|exact absurd (C6 (D4 ‹Kl _ _=true›) ‹Kl _ _=false›) Do|(rename_i q;exact absurd ⟨Y3,Y3,Y3⟩ q)|(rename_i q;obtain⟨q1,q2,q3⟩:=q;exact absurd (C6 (D4 q1) ‹Yg _=false›) Do)|(rename_i q;obtain⟨q1,q2,q3⟩:=q;omega)),Y3,_,_,_,_,rfl,r7,n7⟩⟩
 refine xlv (.r [3,4,5,6,7,8,9,10,11,12,13,14,15,16,17,18,19,20,21,22,23,24] 8) b8.rp ?_
 have d2:=((b4.blk ((k2.i a8.i).i a0) b0).i a2).i (Za a5)
 refine xsv 0 d2 [V0 (Qt (inB l no)),.bool (Yg (inB l no)),.slice kp (Xa (inB l no)) kc,.slice vp (Xa (inB l no)) vc] fun ap m7 w6=>?_
 have g2:=n2.Q (blB (U3 B w) hBw n1.i)
 have m9:=m7.i (blB (blB (b4.i (blB (blB hB hBw a8.i) hBw a0) (N0 hBw c2)) hBw a2) hBw (Za a5)) (N0 hBw g2)
 have hO:=(Q3 (((Q3 (((((((show Zd [292] w _ from(Q0 n1.i)).trans (Q0 n2.i)).trans (Q1 u3 a3 Do)).trans (Q0 a9)).trans (Q0 (Za W4))).trans (Q0 a8.i)).trans (Q0 a0)) b4 c2).trans (Q0 a2)).trans (Q0 (Za a5))) m7 g2)
 have k4:=m7.A (((b4.A ((b6.i a8.i).i a0) c3 Do).i a2).i (Za a5)) d2 Do
 have s6:=m7.j (Zb (Zb f3 a2) (Za a5)) d2 Do
 have n3:=m7.j (Zb (Zb (b4.j (Zg h1 e7) c3 Do) a2) (Za a5)) d2 Do
 exact xec 4 w6 (.tuple #[.agg #[V0 (Qt (inB l no)),.bool (Yg (inB l no)),.slice kp (Xa (inB l no)) kc,.slice vp (Xa (inB l no)) vc],.nilIface]) ⟨m9,hO,k4,.inr ⟨by(unfold Yy;(repeat' split)<;>first|rfl|assumption|decide|omega|exact absurd (C6 (D4 ‹Kl _ _=true›) ‹Kl _ _=false›) Do|(rename_i q;exact absurd ⟨Y3,Y3,Y3⟩ q)|(rename_i q;obtain⟨q1,q2,q3⟩:=q;exact absurd (C6 (D4 q1) ‹Yg _=false›) Do)|(rename_i q;obtain⟨q1,q2,q3⟩:=q;omega)),Y3,_,_,_,_,rfl,s6,n3⟩⟩
def Wq(K:V6 Int)(Vs:V6 Bl)(no:Int)(k:Nat):V6 Ent:=(range k).map fun j=>(K.getD j 0,Vs.getD j [],no)
theorem Rd(K:V6 Int)(Vs:V6 Bl)(no:Int)(k:Nat):(Wq K Vs no k).length=k:=by simp[Wq]
theorem Zqx(K:V6 Int)(Vs:V6 Bl)(no:Int)(k:Nat):Wq K Vs no (k+1)=Wq K Vs no k++[(K.getD k 0,Vs.getD k [],no)]:=by simp[Wq,B8]
theorem Zm2(es:V6 Ent)(K:V6 Int)(Vs:V6 Bl)(no:Int)(k:Nat):(es++Wq K Vs no k).flatMap Ki++[V0 (K.getD k 0),.string ⟨(Vs.getD k []).toArray⟩,V0 no]=(es++Wq K Vs no (k+1)).flatMap Ki:=by
 rw[Zqx,←A4,C7 (xs:=es++Wq K Vs no k)];rfl
def LeafP(B bw:Nat)(c1 c3 c4 c5 c6 c7:V2)(pw:O0)(cw:Nat)(me:V6 Int)(c9:V2)(es:V6 Ent)(K:V6 Int)(Vs:V6 Bl)(no:Int)(n:Nat)(w:V1)(e:V5)(w':V1):Prop :=
 ∃ u pe ce,e=.returned u∧Below B w w'∧Zd [292,124] w w'∧Blk w' bw [.slice pe (es.length+n) ce,c1,V0 (↑(me.length+1):Int),c3,c4,c5,c6,c7,.slice pw me.length cw,c9] 292∧w'.ownsRow B 124 3 (.slice pe (es.length+n) ce) (es.length+n) ((es++Wq K Vs no n).flatMap Ki)
theorem Zka(B bw:Nat)(c1 c2 c3 c4 c5 c6 c7 c9:V2)(pe:O0)(ce:Nat)(es:V6 Ent)(pw:O0)(cw:Nat)(me:V6 Int)(no:Int)(nt:Int)(nl:Bool)(kp vp:O0)(n kc vc:Nat)(K:V6 Int)(Vs:V6 Bl)(w:V1)(hBb:B≤bw)(hBw:B≤w.heap.size)(kW:Blk w bw [.slice pe es.length ce,c1,c2,c3,c4,c5,c6,c7,.slice pw me.length cw,c9] 292)(hE:w.ownsRow B 124 3 (.slice pe es.length ce) es.length (es.flatMap Ki))(hKs:∀ W,Below B w W→Zd [292,124] w W→Sl W (.slice kp n kc) n (K.map V0))(hVs:∀ W,Below B w W→Zd [292,124] w W→Sl W (.slice vp n vc) n (Vs.map sv))(hKl:K.length=n)(hVl:Vs.length=n)(hwl:me.length≤100000000)(hn:es.length+n≤100000000) :
 C0 244 #[P0 bw,V0 no,.agg #[V0 nt,.bool nl,.slice kp n kc,.slice vp n vc]] w (LeafP B bw c1 c3 c4 c5 c6 c7 pw cw me c9 es K Vs no n w):=by
 refine zin 46 Tryz.func244 ?_
 refine xa 2 [V0 nt,.bool nl,.slice kp n kc,.slice vp n vc] 191 fun b1 W1 n1=>?_
 have a7:=kW.i n1.i
 refine xb 8 8 a7 ?_
 refine xwm 1 ((me.length:Int)+1) (↑(me.length+1):Int) ?_
 refine xs 3 a7 [.slice pe es.length ce,c1,V0 (↑(me.length+1):Int),c3,c4,c5,c6,c7,.slice pw me.length cw,c9] fun W2 u2 k2=>?_
 have k1:=u2.A n1.blk a7 Do
 refine xb 5 2 k1 ?_
 have d5:=u2.j (Zb hE n1.i) a7 Do
 have hB:=u2.i (blB (U3 B w) hBw n1.i) hBb
 have hO:=(show Zd [292,124] w _ from(Q0 n1.i)).trans (Q1 u2 a7 Do)
 refine zl 5 46 (fun zm e6 V=>∃ (i:Nat) (pe:O0) (ce:Nat),e6=[(0,P0 bw),(1,V0 no),(5,P0 b1),(19,.slice kp n kc),(20,V0 (n:Int)),(21,V0 (i:Int))]∧zm=n-((i:Int)).toNat∧Below B w V∧Zd [292,124] w V∧Blk V bw ([.slice pe (es.length+i) ce,c1,V0 (↑(me.length+1):Int),c3,c4,c5,c6,c7,.slice pw me.length cw,c9]) 292∧Blk V b1 ([V0 nt,.bool nl,.slice kp n kc,.slice vp n vc]) 191∧V.ownsRow B 124 3 (.slice pe (es.length+i) ce) (es.length+i) ((es++Wq K Vs no i).flatMap Ki)∧i≤n) ⟨0,_,_,rfl,rfl,hB,hO,k2,k1,(by simpa [Wq] using d5),A5 _⟩ ?_
 rintro _ _ W3 ⟨i,pe,ce,rfl,rfl,a9,b0,a8,c0,hE,hi⟩ J3 e1 r3
 refine xid 6 ((i:Int)<(n:Int)) (fun e9=>?_) (fun e9=>?_)
 ·refine xx 7 _ n i 1 (IntsN.elem (hKs _ a9 b0) hKl (k:=i) M0).1 ?_
  refine xl 0 ((IntsN.elem (hKs _ a9 b0) hKl (k:=i) M0).2) ?_
  refine xd 4 (.t B [292,124]) ?_
  have a2:=c0.i (Za W3)
  refine xbt (.e [0,1,2,3,4,6,7] 8) 3 B [292,124] a2 ?_
  have b3:=blB a9 hBw (Za W3)
  have b6:=b0.trans (Q0 (Za W3))
  refine xx (.e [9] 10) _ n i 1 (Strs.elem (hVs _ b3 b6) hVl (k:=i) M0).1 ?_
  refine xlt (.e [] 11) (.t B [292,124]) (fun V hV=>(Strs.elem (hVs _ (Zf7 b3 hV hBw) (b6.trans hV.2)) hVl (k:=i) M0).2) ?_
  refine xm2 (.b [12,13]) 5 14 ?_ ?_
  ·have a4:=a8.i (Za W3)
   refine xb 0 0 a4 ?_
   refine xbs (.o [] 14) 1 [V0 (K.getD i 0),.string ⟨(Vs.getD i []).toArray⟩,V0 no] 124 fun b5 W5 n5=>?_
   have d3:=Zb hE (Za W3)
   have a6:=Zb d3 n5.i
   have b7:=blB b3 hBw n5.i
   refine ybi (.o [] 15) (.t B [292,124]) fun _ _ _ _ zJ zQ zo zx zy zK=>Xd (m:=1) (news:=[V0 (K.getD i 0),.string ⟨(Vs.getD i []).toArray⟩,V0 no]) (.agg #[V0 0,.string ⟨#[]⟩,V0 0]) 3 32 ((es.length+(i+1))) (((es++Wq K Vs no (i+1)).flatMap Ki)) zo Tryz.underlying99 K0 rfl Do zx a6 zy (n5.blk.sl 1 1 Do Do) rfl Y4 Y2 M0 (N0 hBw b7.size) M0 (Zm2 _ _ _ _ _) fun f0 e5 W6 o6 d1 e3=>?_
   refine zK _ _ (Xj e3 d1 a6 Do) ?_
   have a1:=(a4.i n5.i).grown d1 a6 Do
   refine ys (.o [16,17,18] 19) a1 [.slice f0 (es.length+(i+1)) e5,c1,V0 (↑(me.length+1):Int),c3,c4,c5,c6,c7,.slice pw me.length cw,c9] (.t B [292,124]) fun W7 u7 k7=>⟨(Zr u7 a1 hBb Do),?_⟩
   refine xwm 4 ((i:Int)+1) (↑(i+1):Int) ?_
   have e0:=u7.i (b7.trans e3) hBb
   have d2:=((b6.trans (Q0 n5.i)).trans (Q4 d1 a6 Do)).trans (Q1 u7 a1 Do)
   have b2:=u7.A ((a2.i n5.i).grown d1 a6 Do) a1 Do
   have d7:=u7.j o6 a1 Do
   exact ze 2 (e1 _ _ _ ⟨i+1,_,_,rfl,rfl,e0,d2,k7,b2,d7,M0⟩ M0)
  refine xbs 0 1 [V0 (K.getD i 0),.string ⟨(Vs.getD i []).toArray⟩,V0 no] 124 fun b8 W8 n8=>?_
  have d6:=Zb hE (Za W3)
  have a3:=(a8.i (Za W3)).i n8.i
  refine xb (.o [] 5) 0 a3 ?_
  have a5:=Zb d6 n8.i
  have c8:=blB b3 hBw n8.i
  refine ybi (.o [] 15) (.t B [292,124]) fun _ _ _ _ zJ zQ zo zx zy zK=>Xd (m:=1) (news:=[V0 (K.getD i 0),.string ⟨(Vs.getD i []).toArray⟩,V0 no]) (.agg #[V0 0,.string ⟨#[]⟩,V0 0]) 3 32 ((es.length+(i+1))) (((es++Wq K Vs no (i+1)).flatMap Ki)) zo Tryz.underlying99 K0 rfl Do zx a5 zy (n8.blk.sl 1 1 Do Do) rfl Y4 Y2 M0 (N0 hBw c8.size) M0 (Zm2 _ _ _ _ _) fun e7 e4 W9 o9 d0 e2=>?_
  refine zK _ _ (Xj e2 d0 a5 Do) ?_
  have a0:=a3.grown d0 a5 Do
  refine ys (.o [16,17,18] 19) a0 [.slice e7 (es.length+(i+1)) e4,c1,V0 (↑(me.length+1):Int),c3,c4,c5,c6,c7,.slice pw me.length cw,c9] (.t B [292,124]) fun f1 b9 e8=>⟨(Zr b9 a0 hBb Do),?_⟩
  refine xwm 4 ((i:Int)+1) (↑(i+1):Int) ?_
  have d9:=b9.i (c8.trans e2) hBb
  have d8:=((b6.trans (Q0 n8.i)).trans (Q4 d0 a5 Do)).trans (Q1 b9 a0 Do)
  have b4:=b9.A ((a2.i n8.i).grown d0 a5 Do) a0 Do
  have d4:=b9.j o9 a0 Do
  exact ze 2 (e1 _ _ _ ⟨i+1,_,_,rfl,rfl,d9,d8,e8,b4,d4,M0⟩ M0)
 refine xe 4 (.tuple #[]) ?_
 obtain rfl:i=n:=M0
 exact⟨_,_,_,rfl,a9,b0,a8,hE⟩
end
def Vi(u v:V2):Prop:=∀ j,u.ownBlock=some j→v.ownBlock≠some j
theorem Vi.symm{u v:V2}(h:Vi u v):Vi v u:=fun j h1 h2=>h j h2 h1
theorem Vi.grow{w:V1}{u v u':V2}{base e size n:Nat}{xs:V6 V2}(h:Vi u v)(k:w.ownsRow base e size v n xs)(hl:u'.ownBlock=u.ownBlock∨u'.ownBlock=some w.heap.size):Vi u' v:=by
 rintro j h1 h2;rcases hl with hl|hl
 ·exact h j (hl▸h1) h2
 ·rw[hl,A0] at h1;subst h1;have:=(k.lt _ h2).2;omega
theorem Vi.row{w W:V1}{u v:V2}{base e size n:Nat}{xs:V6 V2}(h:Vi u v)(k:w.ownsRow base e size v n xs)(hg:w.grownBy W u.ownBlock):W.ownsRow base e size v n xs:=by
 obtain⟨h1,h2⟩:=k;refine⟨h1,?_⟩;rcases h2 with h2|⟨g,a0,a1,rfl,hb,hh,r⟩
 ·exact Or.inl h2
 ·exact Or.inr ⟨g,a0,a1,rfl,hb,(hg.block g (Array.getElem?_eq_some_iff.1 hh).1 (fun q=>h g q.symm rfl)).trans hh,r⟩
theorem X3{w W:V1}{u v:V2}{base base2 e e2 size size2 n n2:Nat}{xs ys:V6 V2}(k:w.ownsRow base e size u n xs)(q:W.ownsRow base2 e2 size2 v n2 ys)(h:w.heap.size≤base2):Vi u v:=fun j h1 h2=>by
 have:=(k.lt j h1).2;have:=(q.lt j h2).1;omega
theorem Vi.nil(v:V2):Vi (S1) v:=fun j h=>by cases h
theorem own_cut{w:V1}{base e n m c:Nat}{p:O0}{xs:V6 V2}(k:w.ownsRow base e 1 (.slice p n c) n xs)(hm:m≤n)(hp:p.isSome=true):w.ownsRow base e 1 (.slice p m c) m (xs.take m):=by
 obtain⟨h1,h2⟩:=k;refine⟨by rw[D8];omega,?_⟩;rcases h2 with ⟨h2,_⟩|⟨g,a4,a2,hv,hb,hh,hc,a0,a1,a3⟩
 ·cases h2;cases hp
 ·simp only[C2] at hv;obtain⟨rfl,_,rfl⟩:=hv;refine Or.inr ⟨g,c,a2,rfl,hb,hh,M0,a0,a1,?_⟩;rw[←a3,P8];congr 1;omega
theorem Qo{P:V4}{a:Act}{w:V1}{K:Act→V1→Prop}{Q:Exit→Act→V1→Prop}{o:Oper}{s x:Operand}{t e te:V3}{base:Nat}{v:V2}{n:Nat}{xs:V6 V2}{b m c:Nat}{news:V6 V2}(z:V2)(size bytes n':Nat)(xs':V6 V2)
 (ho:o.op=.call { callee:=.builtin .append,args:=#[s,x],argTypes:=#[t,t] }) (ht:P.underlying t=some (.slice e)) (hi:(P.info? e).map (fun i=>(i.zero,i.size,i.bytes))=some (some z,size,bytes)) (hzs:z.cells.size=size) (hsz:0<size) (hs:a.eval s=v)
 (hown:w.ownsRow base e size v n xs) (hx:a.eval x=.slice (S3 b) m c) (hnew:Blk w b news te) (hl:news.length=m*size) (h1:∀ u∈news,u.oneCell'=true) (h63:n+m≤maxLen) (hbytes:(n+m)*bytes≤140737488355328) (hbase:base≤w.heap.size) (hn:n+m=n') (hxs:xs++news=xs')
 (h:∀ p c W,W.ownsRow base e size (.slice p n' c) n' xs'→w.grownBy W v.ownBlock→Below base w W→((Value.slice p n' c).ownBlock=v.ownBlock∨(Value.slice p n' c).ownBlock=some w.heap.size)→K (a.put o.dst (.slice p n' c)) W):o.wp P a w K Q:=by
 cases hq:P.info? e with
 | none=>simp[hq] at hi
 | some i =>
  simp only[hq,D3,A0,D9] at hi
  have hc:∀ j u,news[j]? = some u→w.cell? ((⟨b,0,none⟩:Addr).add j)=some u:=fun j u hj=>by
   have hc:=hnew.cell hj;by_cases h0:j=0
   ·subst h0;simpa [Addr.add] using hc
   ·simpa [Addr.add,h0] using hc
  obtain⟨v',W,hr,h2,h3,_,h5⟩:=run_append_own_at (P:=P) w base t o.type e i z size bytes ht hq hi.1 hi.2.1 hi.2.2 hzs hsz v n xs hown ⟨b,0,none⟩ m c news hl hc h1 h63 hbytes hbase
  subst hn hxs
  obtain⟨p,c2,rfl⟩:=(Zf h2).slice
  unfold Oper.wp execOp
  simp only[ho,resolve,invoke,builtin,C9,H5,E0,M2,D7,H0,hs,hx,hr]
  exact h p c2 W h2 h3 (Gr h3 hown (At _) hbase) h5
section
attribute [local irreducible] wpList wpAnyH Code.wp Oper.wp Go
def rsC (x:Nat×Nat×Nat):V6 V2:=[V0 (x.1:Int),V0 (x.2.1:Int),V0 (x.2.2:Int)]
theorem Zul(x:Nat×Nat×Nat):(rsC x).length=3:=rfl
def rsD:Nat×Nat×Nat:=(0,0,0)
def Rs (L:V6 (V6 Int))(q n:Nat):V6 (Nat×Nat×Nat):=(range n).map fun i=>(q+i,Yn (L.getD i []),Xi (L.getD i []))
theorem Du(L:V6 (V6 Int))(q n:Nat):(Rs L q n).length=n:=by simp[Rs]
theorem Ztv{L:V6 (V6 Int)}{q n i:Nat}(h:i<n):(Rs L q n).getD i rsD=(q+i,Yn (L.getD i []),Xi (L.getD i [])):=by simp[Rs,getD,C1 h]
theorem rsL_Rs(L:V6 (V6 Int))(q n:Nat):rsL L q n=(Rs L q n).flatMap rsC:=by simp[rsL,Rs,List.flatMap_map];rfl
theorem Rs_sts{L:V6 (V6 Int)}{q n c:Nat}{p:O0}{w:V1}(h:Sl w (.slice p n c) n (rsL L q n)):Sts rsC w (.slice p (Rs L q n).length c) (Rs L q n):=by unfold Sts;rw[Du,←rsL_Rs];exact h
theorem Oo(w:V1) :
 C0 249 #[] w (Kd (fun w' r=>∃ b,r=.slice (S3 b) 1 1∧w.heap.size≤b∧Blk w' b [V0 4,V0 3,V0 2147483647] 298) w):=by
 refine zin 3 Tryz.func249 ?_
 refine xbs 8 1 [V0 4,V0 3,V0 2147483647] 298 fun b1 W1 n1=>?_
 have g1:=n1.ge (B4 w)
 exact xe 4 (.slice (S3 b1) 1 1) ⟨_,rfl,n1.i,_,rfl,g1,n1.blk⟩
theorem Zae(gl gn:Nat)(n:Int)(h1:3≤n)(h2:n≤2147483647)(w:V1)(hl:Blk w gl [V0 4,V0 3,V0 2147483647] 298)(hn:Blk w gn [V0 n] 3) :
 C0 146 #[.slice (S3 gl) 1 1,.slice (S3 gn) 1 1] w (Ret (.string ⟨(leB n 4).toArray⟩) w):=by
 refine zin 51 Tryz.func146 ?_
 refine xu 19 2 ?_
 refine xlv 15 hl.rp ?_
 refine xa 0 [V0 0,V0 0,V0 0] 298 fun b1 W1 n1=>?_
 refine xsv 1 n1.blk [V0 4,V0 3,V0 2147483647] fun W2 u2 k2=>?_
 have g1:=n1.ge (B4 w)
 refine xd 4 .z ?_
 have a2:=(u2.A (hn.i n1.i) n1.blk Do).i (Za W2)
 refine xb (.e [0,1,2] 3) 0 a2 ?_
 have a1:=k2.i (Za W2)
 refine xb (.e [4] 5) 1 a1 ?_
 refine xgk (.b [6,7]) [23,24] (show(decide (n<(3:Int)):Bool)=false from V9 M0) ?_
 refine xb (.e [8,9,10] 11) 0 a2 ?_
 refine xb (.e [12] 13) 2 a1 ?_
 refine xk (.r [14,15] 2) (show(decide (n>(2147483647:Int)):Bool)=false from V9 M0) ?_
 refine xd 3 .z ?_
 have a3:=a1.i (Za W2.drew)
 refine xb (.e [0] 1) 0 a3 ?_
 have a6:=a2.i (Za W2.drew)
 refine xb (.e [2,3,4] 5) 0 a6 ?_
 refine xbs (.o [6] 7) 1 [V0 4,V0 n] 178 fun b4 W4 n4=>?_
 refine yc (.o [] 8) (args:=#[.slice (S3 b4) 1 1]) .z (Td b4 n M0 M0 _ n4.blk) ?_
 rintro _ W5 ⟨_,rfl,a7,a8,b0,rfl,a4⟩
 have a9:=(bln (bln (bln (u2.i n1.i g1) (Za W2)) (Za W2.drew)) n4.i).size
 refine⟨a7,?_⟩
 have o6:=A8 W5 w.heap.size 5 1
 have a0:=Zg a4 a9
 have hB:=bln (bln (bln (bln (u2.i n1.i g1) (Za W2)) (Za W2.drew)) n4.i) a7
 refine xbi (.r [9,10,11,12,13] 5) fun _ _ _ _ zJ zQ zo zx zy zK=>Xd (m:=4) (news:=(leB n 4).map bv) (.int .u8 0) 1 1 (4) ((leB n 4).map bv) zo Tryz.underlying50 K0 rfl Do zx o6 zy (Zf a0) (by simp[Zl]) (Vq _) Y2 M0 hB.size Y6 Y5 fun b3 b6 W7 o7 b5 b2=>?_
 refine zK _ _ ?_
 refine xcv0 24 (fun _ _ _ zo zx=>Mq zo zx (Vr (Zf o7) (by simp[Zl])) (by simp[Zl]) Tryz.underlying50 Tryz.underlying5 Tryz.underlying9) ?_
 have a5:=hB.trans b2
 exact xe 4 (.string ⟨(leB n 4).toArray⟩) ⟨rfl,a5⟩
theorem Zj8(n:Int)(h1:3≤n)(h2:n≤2147483647)(w:V1) :
 C0 216 #[V0 n] w (Ret (.string ⟨(leB n 4).toArray⟩) w):=by
 refine zin 7 Tryz.func216 ?_
 refine xc 7 (Oo _) ?_
 rintro _ W1 ⟨_,rfl,a1,gl,rfl,gg,kl⟩
 refine xbs 1 1 [V0 n] 3 fun b2 W2 n2=>?_
 have a0:=kl.i n2.i
 refine xr 0 (Zae gl b2 n h1 h2 _ a0 n2.blk) fun W3 a2=>?_
 have hB:=bln (bln a1 n2.i) a2
 exact xe 4 (.string ⟨(leB n 4).toArray⟩) ⟨rfl,hB⟩
theorem Zdx(w:V1) :
 C0 128 #[] w (Kd (fun w' r=>∃ b,r=.slice (S3 b) 3 3∧w.heap.size≤b∧Blk w' b [V0 8,V0 1,V0 14399,V0 4,V0 0,V0 960,V0 4,V0 0,V0 960] 298) w):=by
 refine zin 5 Tryz.func128 ?_
 refine xbs 10 3 [V0 8,V0 1,V0 14399,V0 4,V0 0,V0 960,V0 4,V0 0,V0 960] 298 fun b1 W1 n1=>?_
 have g1:=n1.ge (B4 w)
 exact xe 4 (.slice (S3 b1) 3 3) ⟨_,rfl,n1.i,_,rfl,g1,n1.blk⟩
theorem Dw(gl gn:Nat)(n f g:Int)(h1:1≤n)(h2:n≤14399)(h3:0≤f)(h4:f≤960)(h5:0≤g)(h6:g≤960)(w:V1)(hl:Blk w gl [V0 8,V0 1,V0 14399,V0 4,V0 0,V0 960,V0 4,V0 0,V0 960] 298)(hn:Blk w gn [V0 n,V0 f,V0 g] 3) :
 C0 146 #[.slice (S3 gl) 3 3,.slice (S3 gn) 3 3] w (Ret (.string ⟨(leB n 8++leB f 4++leB g 4).toArray⟩) w):=by
 refine zin 51 Tryz.func146 ?_
 refine xu 19 4 ?_
 refine xlv 15 (hl.a2 0 3) ?_
 refine xa 0 [V0 0,V0 0,V0 0] 298 fun b1 W1 n1=>?_
 have c9:=n1.ne hl
 refine xsv 1 n1.blk [V0 8,V0 1,V0 14399] fun W2 u2 k2=>?_
 have g1:=n1.ge (B4 w)
 refine xd 4 .z ?_
 have a6:=(u2.A (hn.i n1.i) n1.blk Do).i (Za W2)
 refine xb (.e [0,1,2] 3) 0 a6 ?_
 have b0:=k2.i (Za W2)
 refine xb (.e [4] 5) 1 b0 ?_
 refine xgk (.b [6,7]) [23,24] (show(decide (n<(1:Int)):Bool)=false from V9 M0) ?_
 refine xb (.e [8,9,10] 11) 0 a6 ?_
 refine xb (.e [12] 13) 2 b0 ?_
 refine xk (.r [14,15] 2) (show(decide (n>(14399:Int)):Bool)=false from V9 M0) ?_
 refine xd 3 .z ?_
 have e2:=b0.i (Za W2.drew)
 refine xb (.e [0] 1) 0 e2 ?_
 have c4:=a6.i (Za W2.drew)
 refine xb (.e [2,3,4] 5) 0 c4 ?_
 refine xbs (.o [6] 7) 1 [V0 8,V0 n] 178 fun b4 W4 n4=>?_
 refine yc (.o [] 8) (args:=#[.slice (S3 b4) 1 1]) .z (Zu7 b4 n M0 _ n4.blk) ?_
 rintro _ W5 ⟨_,rfl,d2,f0,g2,rfl,e3⟩
 have f1:=(bln (bln (bln (u2.i n1.i g1) (Za W2)) (Za W2.drew)) n4.i).size
 refine⟨d2,?_⟩
 have o6:=A8 W5 w.heap.size 5 1
 have b3:=Zg e3 f1
 have hB:=bln (bln (bln (bln (u2.i n1.i g1) (Za W2)) (Za W2.drew)) n4.i) d2
 refine xbi (.r [9,10,11,12,13] 5) fun _ _ _ _ zJ zQ zo zx zy zK=>Xd (m:=8) (news:=(leB n 8).map bv) (.int .u8 0) 1 1 (8) ((leB n 8).map bv) zo Tryz.underlying50 K0 rfl Do zx o6 zy (Zf b3) (by simp[Zl]) (Vq _) Y2 M0 hB.size Y6 Y5 fun h7 i1 W7 o7 e9 f5=>?_
 refine zK _ _ ?_
 have b2:=(((((u2.blk (hl.i n1.i) c9).i (Za W2)).i (Za W2.drew)).i n4.i).i d2).grown e9 o6 Do
 refine xlv 24 (b2.a2 3 3) ?_
 refine xa 0 [V0 0,V0 0,V0 0] 298 fun b8 W8 n8=>?_
 have c2:=n8.ne b2
 have c5:=hB.trans f5
 have g8:=n8.ge c5
 refine xsv 1 n8.blk [V0 4,V0 0,V0 960] fun W9 u9 k9=>?_
 refine xd 4 .z ?_
 have a5:=(u9.A ((((c4.i n4.i).i d2).grown e9 o6 Do).i n8.i) n8.blk Do).i (Za W9)
 refine xb (.e [0,1,2] 3) 1 a5 ?_
 have b5:=k9.i (Za W9)
 refine xb (.e [4] 5) 1 b5 ?_
 refine xgk (.b [6,7]) [23,24] (show(decide (f<(0:Int)):Bool)=false from V9 M0) ?_
 refine xb (.e [8,9,10] 11) 1 a5 ?_
 refine xb (.e [12] 13) 2 b5 ?_
 refine xk (.r [14,15] 2) (show(decide (f>(960:Int)):Bool)=false from V9 M0) ?_
 refine xd 3 .z ?_
 have d7:=b5.i (Za W9.drew)
 refine xb (.e [0] 1) 0 d7 ?_
 have c0:=a5.i (Za W9.drew)
 refine xb (.e [2,3,4] 5) 1 c0 ?_
 refine xbs (.o [6] 7) 1 [V0 4,V0 f] 178 fun e8 h0 b7=>?_
 have b9:=bln (bln (u9.i (bln c5 n8.i) g8) (Za W9)) (Za W9.drew)
 refine yc (.o [] 8) (args:=#[.slice (S3 e8) 1 1]) .z (Td e8 f M0 M0 _ b7.blk) ?_
 rintro _ i3 ⟨_,rfl,a0,f9,f3,rfl,d8⟩
 have e5:=(bln b9 b7.i).size
 refine⟨a0,?_⟩
 have b6:=Zb (Zb (Zb (Zb (u9.j (Zb o7 n8.i) n8.blk Do) (Za W9)) (Za W9.drew)) b7.i) a0
 have a8:=Zg d8 e5
 have d1:=bln (bln b9 b7.i) a0
 refine xbi (.r [9,10,11,12,13] 5) fun _ _ _ _ zJ zQ zo zx zy zK=>Xd (m:=4) (news:=(leB f 4).map bv) (.int .u8 0) 1 1 (12) ((leB n 8++leB f 4).map bv) zo Tryz.underlying50 K0 rfl Do zx b6 zy (Zf a8) (by simp[Zl]) (Vq _) Y2 M0 d1.size Y6 Y5 fun f6 g6 h9 f7 c6 d4=>?_
 refine zK _ _ ?_
 have e0:=(((((u9.blk (b2.i n8.i) c2).i (Za W9)).i (Za W9.drew)).i b7.i).i a0).grown c6 b6 Do
 refine xlv 24 (e0.a2 6 3) ?_
 refine xa 0 [V0 0,V0 0,V0 0] 298 fun i2 i4 a9=>?_
 have c8:=d1.trans d4
 have f2:=a9.ge c8
 refine xsv 1 a9.blk [V0 4,V0 0,V0 960] fun a2 e6 g7=>?_
 refine xd 4 .z ?_
 have a4:=(e6.A ((((c0.i b7.i).i a0).grown c6 b6 Do).i a9.i) a9.blk Do).i (Za a2)
 refine xb (.e [0,1,2] 3) 2 a4 ?_
 have a1:=g7.i (Za a2)
 refine xb (.e [4] 5) 1 a1 ?_
 refine xgk (.b [6,7]) [23,24] (show(decide (g<(0:Int)):Bool)=false from V9 M0) ?_
 refine xb (.e [8,9,10] 11) 2 a4 ?_
 refine xb (.e [12] 13) 2 a1 ?_
 refine xk (.r [14,15] 2) (show(decide (g>(960:Int)):Bool)=false from V9 M0) ?_
 refine xd 3 .z ?_
 have c3:=a1.i (Za a2.drew)
 refine xb (.e [0] 1) 0 c3 ?_
 have d9:=a4.i (Za a2.drew)
 refine xb (.e [2,3,4] 5) 2 d9 ?_
 refine xbs (.o [6] 7) 1 [V0 4,V0 g] 178 fun e7 i0 d3=>?_
 have d0:=bln (bln (e6.i (bln c8 a9.i) f2) (Za a2)) (Za a2.drew)
 refine yc (.o [] 8) (args:=#[.slice (S3 e7) 1 1]) .z (Td e7 g M0 M0 _ d3.blk) ?_
 rintro _ h8 ⟨_,rfl,a7,g3,g5,rfl,d6⟩
 have e1:=(bln d0 d3.i).size
 refine⟨a7,?_⟩
 have c1:=Zb (Zb (Zb (Zb (e6.j (Zb f7 a9.i) a9.blk Do) (Za a2)) (Za a2.drew)) d3.i) a7
 have a3:=Zg d6 e1
 have c7:=bln (bln d0 d3.i) a7
 refine xbi (.r [9,10,11,12,13] 5) fun _ _ _ _ zJ zQ zo zx zy zK=>Xd (m:=4) (news:=(leB g 4).map bv) (.int .u8 0) 1 1 (16) ((leB n 8++leB f 4++leB g 4).map bv) zo Tryz.underlying50 K0 rfl Do zx c1 zy (Zf a3) (by simp[Zl]) (Vq _) Y2 M0 c7.size Y6 Y5 fun f4 g0 i5 g9 f8 d5=>?_
 refine zK _ _ ?_
 refine xcv0 24 (fun _ _ _ zo zx=>Mq zo zx (Vr (Zf g9) (by simp[Zl])) (by simp[Zl]) Tryz.underlying50 Tryz.underlying5 Tryz.underlying9) ?_
 have e4:=c7.trans d5
 exact xe 4 (.string ⟨(leB n 8++leB f 4++leB g 4).toArray⟩) ⟨rfl,e4⟩
theorem Wl(n f g:Int)(h1:1≤n)(h2:n≤14399)(h3:0≤f)(h4:f≤960)(h5:0≤g)(h6:g≤960)(w:V1) :
 C0 156 #[.agg #[V0 n,V0 f,V0 g]] w (Ret (.string ⟨(leB n 8++leB f 4++leB g 4).toArray⟩) w):=by
 refine zin 12 Tryz.func156 ?_
 refine xa 2 [V0 n,V0 f,V0 g] 126 fun b1 W1 n1=>?_
 refine xd 4 .z ?_
 have k1:=n1.blk.i (Za W1)
 refine xb (.e [1] 2) 0 k1 ?_
 refine xb (.e [3] 4) 1 k1 ?_
 refine xb (.e [5] 6) 2 k1 ?_
 refine xm2 0 0 7 ?_ ?_
 ·refine yc 0 (args:=#[]) .z (Zdx _) ?_
  rintro _ W2 ⟨_,rfl,a2,gl,rfl,gg,kl⟩
  refine⟨a2,?_⟩
  refine xbs (.o [] 7) 3 [V0 n,V0 f,V0 g] 3 fun b3 W3 n3=>?_
  have a1:=kl.i n3.i
  refine xr (.o [] 8) (Dw gl b3 n f g h1 h2 h3 h4 h5 h6 _ a1 n3.blk) fun W4 a4=>?_
  have hB:=bln (bln (bln (bln n1.i (Za W1)) a2) n3.i) a4
  exact xe (.r [9] 3) (.string ⟨(leB n 8++leB f 4++leB g 4).toArray⟩) ⟨rfl,hB⟩
 refine xbs 0 3 [V0 n,V0 f,V0 g] 3 fun b5 W5 n5=>?_
 refine yc (.o [] 0) (args:=#[]) .z (Zdx _) ?_
 rintro _ W6 ⟨_,rfl,a0,gl,rfl,gg,kl⟩
 refine⟨a0,?_⟩
 have k5:=n5.blk.i a0
 refine xr (.o [] 8) (Dw gl b5 n f g h1 h2 h3 h4 h5 h6 _ kl k5) fun W7 a3=>?_
 have hB:=bln (bln (bln (bln n1.i (Za W1)) n5.i) a0) a3
 exact xe (.r [9] 3) (.string ⟨(leB n 8++leB f 4++leB g 4).toArray⟩) ⟨rfl,hB⟩
def slB (x:Nat×Nat×Nat):Bl:=leB (x.1:Int) 8++leB (x.2.1:Int) 4++leB (x.2.2:Int) 4
theorem Zj3(x:Nat×Nat×Nat):(slB x).length=16:=by simp[slB,Zl]
def Zqi(S:V6 (Nat×Nat×Nat))(i:Nat):Bl:=leB (S.length:Int) 4++(range i).flatMap fun j=>slB (S.getD j rsD)
theorem Ri(S:V6 (Nat×Nat×Nat))(i:Nat):Zqi S (i+1)=Zqi S i++slB (S.getD i rsD):=by simp[Zqi,B8]
theorem Ih(S:V6 (Nat×Nat×Nat)):∀ i,(Zqi S i).length=4+i*16
 | 0=>by simp[Zqi,Zl]
 | i+1=>by rw[Ri,A1,Ih S i,Zj3];omega
def Fw(S:V6 (Nat×Nat×Nat)):Bl:=Zqi S S.length++replicate (244-(4+S.length*16)) 0
theorem Db{S:V6 (Nat×Nat×Nat)}(h:S.length≤15):(Fw S).length=244:=by unfold Fw;rw[A1,Ih,B7];omega
def Rv(S:V6 (Nat×Nat×Nat)):Prop:=S.length≤14∧∀ i,i<S.length→1≤(S.getD i rsD).1∧(S.getD i rsD).1≤14399∧(S.getD i rsD).2.1≤960∧(S.getD i rsD).2.2≤960
theorem slB_ne(x:Nat×Nat×Nat):((⟨(leB (x.1:Int) 8++leB (x.2.1:Int) 4++leB (x.2.2:Int) 4).toArray⟩:ByteArray).toList==(⟨#[]⟩:ByteArray).toList)=false:=by
 rw[show(⟨#[]⟩:ByteArray)=⟨([]:Bl).toArray⟩ from rfl,Zx7];apply beq_false_of_ne;intro q;have h1:=congrArg List.length q;simp[Zl] at h1
theorem Zw3(a:O0)(c:Nat)(S:V6 (Nat×Nat×Nat))(w:V1)(hS:Rv S)(h:Sts rsC w (.slice a S.length c) S) :
 C0 160 #[.slice a S.length c] w (Kd (fun w' r=>∃ p c,r=.tuple #[.slice p 244 c,V0 0]∧w'.ownsRow w.heap.size 5 1 (.slice p 244 c) 244 ((Fw S).map bv)) w):=by
 have c3:=hS.1
 refine zin 39 Tryz.func160 ?_
 refine xk 14 (show(decide ((S.length:Int)>(15:Int)):Bool)=false from V9 M0) ?_
 refine xbs 7 1 [V0 4,V0 (S.length:Int)] 178 fun b1 W1 n1=>?_
 refine xc 0 (Td b1 (S.length:Int) M0 M0 _ n1.blk) ?_
 rintro _ W2 ⟨_,rfl,b0,p2,c2,rfl,h2⟩
 have a7:=Zg h2 n1.i.size
 have hB:=bln n1.i b0
 have a8:=n1.blk.i b0
 refine zl 16 39 (fun zm b4 V=>∃ (i:Nat) (p4:O0) (c4:Nat),b4=[(4,.slice p4 (4+i*16) c4),(20,.slice a S.length c),(21,V0 (S.length:Int)),(22,V0 (i:Int))]∧zm=S.length-((i:Int)).toNat∧B3 w V∧Blk V b1 ([V0 4,V0 (S.length:Int)]) 178∧V.ownsRow w.heap.size 5 1 (.slice p4 (4+i*16) c4) (4+i*16) ((Zqi S i).map bv)∧i≤S.length) ⟨0,p2,c2,rfl,rfl,hB,a8,(by simpa [Zqi] using a7),A5 _⟩ ?_
 rintro _ _ W3 ⟨i,p4,c4,rfl,rfl,a0,a2,ho,hi⟩ J3 b3 r3
 refine xid 6 ((i:Int)<(S.length:Int)) (fun c0=>?_) (fun c0=>?_)
 ·refine xx 6 _ S.length i 3 (Sts.cell h Zul rsD (k:=i) (i:=0) M0 rfl).1 ?_
  refine xlv 0 (Sts.rp (k:=i) (h.i a0) Zul rsD M0 Do) ?_
  refine xa 0 [V0 0,V0 0,V0 0] 126 fun b5 W5 n5=>?_
  have g5:=n5.ge a0
  refine xsv 0 n5.blk [V0 (↑(S.getD i rsD).1:Int),V0 (↑(S.getD i rsD).2.1:Int),V0 (↑(S.getD i rsD).2.2:Int)] fun W6 u6 k6=>?_
  refine xlv 4 k6.rp ?_
  refine xr 0 (Wl (↑(S.getD i rsD).1:Int) (↑(S.getD i rsD).2.1:Int) (↑(S.getD i rsD).2.2:Int) (by have:=hS.2 i M0;omega) (by have:=hS.2 i M0;omega) M0 (by have:=hS.2 i M0;omega) M0 (by have:=hS.2 i M0;omega) _) fun W7 a6=>?_
  refine xk 10 (show(((⟨(leB (↑(S.getD i rsD).1:Int) 8++leB (↑(S.getD i rsD).2.1:Int) 4++leB (↑(S.getD i rsD).2.2:Int) 4).toArray⟩:ByteArray).toList==(⟨#[]⟩:ByteArray).toList):Bool)=false from slB_ne _) ?_
  have a4:=Zb (u6.j (Zb ho n5.i) n5.blk Do) a6
  have a3:=bln (u6.i (bln a0 n5.i) g5) a6
  refine xbi 5 (t2:=9) fun _ _ _ _ zJ zQ zo zx zy zK=>Zxj (leB (↑(S.getD i rsD).1:Int) 8++leB (↑(S.getD i rsD).2.1:Int) 4++leB (↑(S.getD i rsD).2.2:Int) 4) ((4+(i+1)*16)) ((Zqi S (i+1)).map bv) zo Tryz.underlying50 Tryz.underlying9 K0 zx a4 zy (by simp[Zl];omega) a3.size (by simp[Zl];omega) (by simp[Ri,slB]) fun c5 c6 W8 o8 b7 b8=>?_
  refine zK _ _ ?_
  refine xwm 5 ((i:Int)+1) (↑(i+1):Int) ?_
  have a5:=a3.trans b8
  have a1:=((u6.A (a2.i n5.i) n5.blk Do).i a6).grown b7 a4 Do
  exact ze 2 (b3 _ _ _ ⟨i+1,_,_,rfl,rfl,a5,a1,o8,M0⟩ M0)
 refine xwm 10 (244-(↑(4+i*16):Int)) (↑(244-(4+i*16)):Int) ?_
 refine xbi 0 (t2:=3) fun _ _ _ _ zJ zQ zo zx zy zK=>op_appZo (kq:=.i64) (244-(4+i*16)) (244) ((Fw S).map bv) zo Tryz.underlying50 Tryz.underlying3 K0 zx ho zy M0 M0 a0.size M0 (by rw[show i=S.length by omega];unfold Fw;rw[A6,O9];rfl) fun b6 b2 W9 o9 c1 b9=>?_
 refine zK _ _ ?_
 have a9:=a0.trans b9
 exact xe 5 (.tuple #[.slice b6 244 b2,V0 0]) ⟨_,rfl,a9,_,_,rfl,o9⟩
def Qy(l:V6 Int)(f n:Nat):V6 Int:=(range l.length).map fun i=>l.getD i 0+(if f≤i∧i<f+n then 1 else 0)
theorem Qe(l:V6 Int)(f n:Nat):(Qy l f n).length=l.length:=by simp[Qy]
theorem Fm{l:V6 Int}{f n i:Nat}(h:i<l.length):(Qy l f n).getD i 0=l.getD i 0+(if f≤i∧i<f+n then 1 else 0):=by simp[Qy,getD,C1 h]
theorem Zo2(l:V6 Int)(f:Nat):Qy l f 0=l:=by
 apply F6 (by simp[Qy]);intro i h1 h2;simp[Qy,getD,h2];omega
theorem Ztw{l:V6 Int}{f j:Nat}(h:f+j<l.length):((Qy l f j).map V0).set (f+j) (V0 (l.getD (f+j) 0+1))=(Qy l f (j+1)).map V0:=by
 apply H3;intro i;by_cases hi:i<l.length
 ·by_cases e:f+j=i
  ·subst e;rw[K8 (by simp[Qe];exact h)];simp[Qy,C1 h]
  ·rw[H7 e];have hc:(f≤i∧i<f+j)↔(f≤i∧i<f+(j+1)):=M0;simp only[Qy,C3,C1 hi,D3];by_cases q:f≤i∧i<f+j
   ·rw[V8 q,V8 (hc.1 q)]
   ·rw[V7 q,V7 (fun z=>q (hc.2 z))]
 ·rw[C4 (by simp[Qe];omega),C4 (by simp[Qe];omega)]
def Zbe(l:V6 Int)(f:Int):Prop:=∀ i,i<l.length→(f≤(i:Int)→l.getD i 0=0)∧l.getD i 0≤1073741824
theorem Ii{l:V6 Int}{f n:Nat}(h:Zbe l (f:Int))(hc:∀ k,k<l.length→Ph (l.getD k 0)):∀ k,k<(Qy l f n).length→Ph ((Qy l f n).getD k 0):=by
 intro k hk;rw[Qe] at hk;rw[Fm hk];have h1:=(h k hk).2;have h2:=hc k hk;unfold Ph at h2 ⊢;split<;>omega
def Yj(l:V6 Int):Nat:=Zy 5 (Zp l l.length).length+bmN l.length+1
theorem Zcw{w:V1}{b:O0}{n c f N k i:Nat}(h:Sl w (.slice b n c) n ((((Zb9 f N).drop k).take n).map V0))(hn:k+n≤N)(hi:i<n):b.isSome=true∧w.cell? (Zx b (i*1))=some (V0 ((f+k+i:Nat):Int)):=by
 have a0:(((Zb9 f N).drop k).take n).length=n:=by simp[Zb9];omega
 have h1:=IntsN.elem h a0 hi;have e:(((Zb9 f N).drop k).take n).getD i 0=((f+k+i:Nat):Int):=by
  have h2:=Zms (f:=f) (N:=N) (k:=k+i) M0;rw[←F2] at h2;rw[←h2];simp only[getD,H2,G0,V8 hi]
 rwa [e] at h1
def Ke(l:V6 Int)(f k0:Nat)(bs:Bl):Int×Int×Bl:=(((f+k0+(Zy 5 (Zp l l.length).length)+(bmN (Qy l (f+k0) (Yj l)).length)):Nat),(Xf 5 (Zp l l.length) (f+k0) bs).1,Qj (Xt (Xe (Zj (Qy l (f+k0) (Yj l))) (bmN (Qy l (f+k0) (Yj l)).length)) (f+k0+(Zy 5 (Zp l l.length).length)) (Xf 5 (Zp l l.length) (f+k0) bs).2 (bmN (Qy l (f+k0) (Yj l)).length)) ((f+k0+(Zy 5 (Zp l l.length).length)+(bmN (Qy l (f+k0) (Yj l)).length))*256) (Yf 4 (((f+k0+(Zy 5 (Zp l l.length).length)+(bmN (Qy l (f+k0) (Yj l)).length)):Nat):Int) (Fw (Rs (Xe (Zj (Qy l (f+k0) (Yj l))) (bmN (Qy l (f+k0) (Yj l)).length)) (f+k0+(Zy 5 (Zp l l.length).length)) (bmN (Qy l (f+k0) (Yj l)).length)))))
theorem Zoa(l:V6 Int)(q n:Nat):bmN (Qy l q n).length=bmN l.length:=by rw[Qe]
theorem Zb1{w:V1}{b:O0}{n c q i:Nat}{l:V6 Int}(h:Sl w (.slice b n c) n ((Qy l q i).map V0))(hn:l.length=n)(hi:q+i<n):b.isSome=true∧w.cell? (Zx b ((q+i)*1))=some (V0 (l.getD (q+i) 0)):=by
 have h1:=IntsN.elem h (by rw[Qe];exact hn) hi;rw[Fm M0,V7 M0,Int.add_zero] at h1;exact h1
end
section
attribute [local irreducible] wpList wpAnyH Code.wp Oper.wp Go
section
variable {P:V4} {a:Act}
theorem shl_bd{n:Int}(h:0≤n∧n≤3){s:Nat}(hs:s≤6):0≤n*2 ^ s∧n*2 ^ s≤192:=by
 obtain rfl|rfl|rfl|rfl:n=0∨n=1∨n=2∨n=3:=M0;all_goals obtain rfl|rfl|rfl|rfl|rfl|rfl|rfl:s=0∨s=1∨s=2∨s=3∨s=4∨s=5∨s=6:=M0
 all_goals decide
theorem run_shlS{o:Oper}{t t2:V3}{x y:Operand}{n:Int}{s:Nat}{j:Int}{kj:IntKind}(ho:o.op=.binOp .shl t x y t2)(hx:a.eval x=V0 n)(hy:a.eval y=.int kj j)(hj:j=(s:Int))(hn:0≤n∧n≤3)(hs:s≤6)(w:V1):(execOp a.eval o).run P w=.ok (.value (V0 (n*2 ^ s))) w:=by
 subst hj;have e:=shift_shl .i64 kj n (s:Int) (K3 s) (by show(s:Int)≤64;omega);rw[show((s:Int)).toNat=s from by omega] at e;have hb:=shl_bd hn hs;rw[IntWalk.i64_in _ M0] at e;simp only[execOp,ho,hx,hy,eqGuard_shl,binOp_shl,e];simp
end
section
variable {P:V4} {fn:Func} {R:V5→V1→Prop} {w:V1} {s:Zs}
theorem xbot(q:Zq){b:BinOp}{t t2:V3}{u1 u2 v:V2}(hv:∀ (a:Act) (o:Oper) (x y:Operand),o.op=.binOp b t x y t2→a.eval x=u1→a.eval y=u2→∀ V,True→(execOp a.eval o).run P V=.ok (.value v) V)(g:Go P fn R (znx (zq P q s) v) w)(h:zk (zq P q s)=some (.bn b t t2 u1 u2):=by kernel_rfl):Go P fn R s w:=by
 refine Zw q s ?_;obtain⟨o,ho,h⟩:=Qq h;exact Zf2 ho (fun V _=>by
  obtain⟨x,y,h1,h2,h3⟩:=Bq h;exact hv _ o x y h1 h2 h3 V trivial) g
end
theorem u8_shl{n:Int}(h:0≤n∧n≤3){s:Nat}(hs:s≤6):IntKind.u8.wrap (n*2 ^ s)=n*2 ^ s:=by
 have hb:=shl_bd h hs;generalize n*2 ^ s=m at *;simp[IntKind.wrap,IntKind.bits,IntKind.signed];omega
theorem Zof(l:V6 Int)(i:Nat){k:Nat}(hk:k<240):(Ei l i).getD (4+k) 0=g4B l i k:=by
 unfold Ei;rw[getD,L8 (by rw[Zl];omega),Zl,Nat.add_sub_cancel_left];simp[hk]
theorem bits_or{l:V6 Int}(h:Uo l){i:Nat}(hi:i<960):IntKind.u8.wrap (↑(BitVec.ofInt 8 (↑((Ei l i).getD (4+(i/4)) 0).toNat:Int) ||| BitVec.ofInt 8 (l.getD i 0*2 ^ ((i%4)*2))).toNat:Int)=((g4B l (i+1) (i/4)).toNat:Int):=by
 rw[Zof l i M0];obtain⟨h1,h2⟩:=g4B_at h (i:=i);rw[h1];obtain⟨n,hn⟩:∃ n:Nat,l.getD i 0=n:=⟨(l.getD i 0).toNat,by have:=(Gn h i).1;omega⟩;have hb:=Gn h i;rw[hn] at hb ⊢;generalize (g4B l i (i/4)).toNat=o at *;have hr:i%4<4:=M0;generalize i%4=r at *;have ho:o<64:=D5 h2 (by
  obtain rfl|rfl|rfl|rfl:r=0∨r=1∨r=2∨r=3:=M0;all_goals decide)
 have hs:=or_step ⟨r,hr⟩ ⟨n,M0⟩ ⟨o,ho⟩ h2;simp only at hs;have e4:(4:Nat) ^ r=2 ^ (r*2):=by rw[M4,Nat.pow_mul]
 have e:((n:Int)*2 ^ (r*2))=((n*4 ^ r:Nat):Int):=by rw[e4];simp
 have e':((n:Int)*4 ^ r)=((n*4 ^ r:Nat):Int):=Y5;have hm:n*4 ^ r≤192:=by
   have h3:4 ^ r≤64:=by
    obtain rfl|rfl|rfl|rfl:r=0∨r=1∨r=2∨r=3:=M0;all_goals decide
   calc n*4 ^ r≤3*64:=Nat.mul_le_mul M0 h3
     _=192:=rfl
 rw[e,e',E6,E6,BitVec.toNat_or,E9,E9,E5 M0,E5 M0,hs];generalize n*4 ^ r=m at *;simp[IntKind.wrap,IntKind.bits,IntKind.signed];omega
theorem bits_set{l:V6 Int}{i:Nat}(hi:i<960):((Ei l i).map bv).set (4+(i/4)) (.int .u8 ((g4B l (i+1) (i/4)).toNat:Int))=(Ei l (i+1)).map bv:=by
 rw[show Value.int .u8 ((g4B l (i+1) (i/4)).toNat:Int)=bv (g4B l (i+1) (i/4)) from rfl,←List.map_set];congr 1;unfold Ei;rw[List.set_append_right _ _ (by rw[Zl];omega),Zl,Nat.add_sub_cancel_left];congr 1;apply F6
 ·simp
 ·intro k h1 h2;rw[List.getElem_set];split
  ·rename_i e;subst e;simp
  ·rename_i e;simp only[List.getElem_map,List.getElem_range];unfold g4B;rw[g4_ne M0]
theorem bits0(l:V6 Int):((replicate 244 (0:UInt8)).map bv).take 0++(leB (l.length:Int) 4).map bv++((replicate 244 (0:UInt8)).map bv).drop (0+4)=(Ei l 0).map bv:=by
 unfold Ei;rw[A6,O2,F7];congr 1
theorem BysN.elem{w:V1}{b:O0}{n c:Nat}{l:Bl}(h:Sl w (.slice b n c) n (l.map bv))(hl:l.length=n){k:Nat}(hk:k<n):b.isSome=true∧w.cell? (Zx b (k*1))=some (.int .u8 ((l.getD k 0).toNat:Int)):=by
 subst hl;exact Bys.elem (Vr h rfl) hk
theorem Zuo(n:Int)(w:V1)(h0:0≤n)(h3:n≤3) :
 C0 262 #[V0 n] w (Ret (.bool false) w):=by
 refine zin 9 Tryz.func262 ?_
 refine xgk 10 [4,5] (show(decide (n<(0:Int)):Bool)=false from V9 M0) ?_
 refine xe 7 (.bool (decide (n>(3:Int)))) ?_
 rw[show decide (n>(3:Int))=false from V9 M0];exact⟨rfl,(B4 w)⟩
theorem Zrg(a:O0)(c:Nat)(l:V6 Int)(w:V1)(hS:Uo l)(hl:l.length≤960)(h:Sl w (.slice a l.length c) l.length (l.map V0)) :
 C0 144 #[.slice a l.length c,.func (.func 262) #[] #[]] w (Ret (V0 (-1)) w):=by
 refine zin 19 Tryz.func144 ?_
 have hB:=U3 w.heap.size w
 refine zl 14 19 (fun zm a2 V=>∃ (i:Nat),a2=[(0,.slice a l.length c),(1,.func (.func 262) #[] #[]),(7,V0 (l.length:Int)),(8,V0 (i:Int))]∧zm=l.length-((i:Int)).toNat∧B3 w V∧i≤l.length) ⟨0,rfl,rfl,hB,A5 _⟩ ?_
 rintro _ _ W1 ⟨i,rfl,rfl,a0,hi⟩ J1 a4 r1
 refine xid 6 ((i:Int)<(l.length:Int)) (fun a5=>?_) (fun a5=>?_)
 ·refine xx 15 _ l.length i 1 (Ints.elem h (k:=i) M0).1 ?_
  refine xl 0 ((Ints.elem (h.i a0) (k:=i) M0).2) ?_
  refine xr 0 (Zuo (l.getD i 0) _ (Gn hS i).1 (Gn hS i).2) fun W3 a3=>?_
  refine xwm 7 ((i:Int)+1) (↑(i+1):Int) ?_
  have a1:=bln a0 a3
  exact ze 2 (a4 _ _ _ ⟨i+1,rfl,rfl,a1,M0⟩ M0)
 exact xe 11 (V0 (-1)) ⟨rfl,a0⟩
theorem Zf4(a:O0)(c:Nat)(l:V6 Int)(w:V1)(hS:Uo l)(hl:l.length≤960)(h:Sl w (.slice a l.length c) l.length (l.map V0)) :
 C0 83 #[.slice a l.length c,.func (.func 262) #[] #[]] w (Ret (.bool false) w):=by
 refine zin 9 Tryz.func83 ?_
 refine xr 9 (Zrg a c l _ hS hl (h.i (B4 w))) fun W1 a0=>?_
 exact xe 5 (.bool false) ⟨rfl,a0⟩
theorem Za1(a:O0)(c:Nat)(l:V6 Int)(w:V1)(hl:l.length≤960)(h:Sl w (.slice a l.length c) l.length (l.map V0)) :
 C0 200 #[.slice a l.length c] w (Ret (.tuple #[V0 (↑(Yn l):Int),V0 (↑(Xi l):Int)]) w):=by
 refine zin 27 Tryz.func200 ?_
 have hB:=U3 w.heap.size w
 refine zl 23 27 (fun zm a4 V=>∃ (i f g:Nat),a4=[(2,V0 0),(3,V0 0),(4,V0 (f:Int)),(5,V0 (g:Int)),(10,.slice a l.length c),(11,V0 (l.length:Int)),(12,V0 (i:Int))]∧zm=l.length-((i:Int)).toNat∧B3 w V∧i≤l.length∧f=Zpr l i∧((f=0∧g=l.length∧∀ j,j<i→l.getD j 0≠0)∨(0<f∧g=Xi l))) ⟨0,0,l.length,rfl,rfl,hB,A5 _,rfl,?_⟩ ?_
 ·exact .inl ⟨rfl,rfl,fun j hj=>absurd hj M0⟩
 rintro _ _ W1 ⟨i,f,g,rfl,rfl,a0,hi,hf,hg⟩ J1 a3 r1
 have a2:=fun(q:i<l.length)=>Zrr q
 have a8:=Mt l i
 refine xid 6 ((i:Int)<(l.length:Int)) (fun a7=>?_) (fun a7=>?_)
 ·refine xx 7 _ l.length i 1 (Ints.elem h (k:=i) M0).1 ?_
  refine xl 0 ((Ints.elem (h.i a0) (k:=i) M0).2) ?_
  refine xin 11 (l.getD i 0) (0:Int) (fun a5=>?_) (fun a5=>?_)
  ·refine xwm 5 ((i:Int)+1) (↑(i+1):Int) ?_
   exact ze 2 (a3 _ _ _ ⟨i+1,f,g,rfl,rfl,a0,M0,by rw[a2 M0,V7 Y3];exact hf,hg.elim (fun⟨h1,h2,h3⟩=>.inl ⟨h1,h2,fun j hj=>(F0 j i).elim (fun q=>h3 j q) (fun q=>by obtain rfl:j=i:=M0;assumption)⟩) .inr⟩ M0)
  refine xie 9 (f:Int) (0:Int) (fun a6=>?_) (fun a6=>?_)
  ·refine xwm 7 ((f:Int)+1) (↑(f+1):Int) ?_
   refine xwm 5 ((i:Int)+1) (↑(i+1):Int) ?_
   exact ze 2 (a3 _ _ _ ⟨i+1,f+1,i,rfl,rfl,a0,M0,by rw[a2 M0,V8 Y3,hf],.inr ⟨M0,hg.elim (fun⟨_,_,h3⟩=>(Ztt M0 Y3 h3).symm) (fun q=>absurd q.1 M0)⟩⟩ M0)
  refine xwm 4 ((f:Int)+1) (↑(f+1):Int) ?_
  refine xwm 5 ((i:Int)+1) (↑(i+1):Int) ?_
  exact ze 2 (a3 _ _ _ ⟨i+1,f+1,g,rfl,rfl,a0,M0,by rw[a2 M0,V8 Y3,hf],.inr ⟨M0,hg.elim (fun⟨h1,_,_⟩=>absurd h1 M0) (fun q=>q.2)⟩⟩ M0)
 refine xe 14 (.tuple #[V0 (f:Int),V0 (g:Int)]) ?_
 obtain rfl:i=l.length:=M0
 have a1:f=Yn l:=hf
 rcases hg with ⟨h1,h2,h3⟩|⟨h1,h2⟩
 ·exact⟨by rw[a1,h2,Zli h3],a0⟩
 ·exact⟨by rw[a1,h2],a0⟩
theorem Znk(a:O0)(c:Nat)(l:V6 Int)(w:V1)(hS:Uo l)(hl:l.length≤960)(h:Sl w (.slice a l.length c) l.length (l.map V0)) :
 C0 219 #[.slice a l.length c] w (Kd (fun w' r=>∃ g,r=.tuple #[.slice (S3 g) 244 244,V0 0]∧w'.ownsRow w.heap.size 5 1 (.slice (S3 g) 244 244) 244 ((Jr l).map bv)) w):=by
 refine zin 51 Tryz.func219 ?_
 refine xgk 13 [11,12] (show(decide ((l.length:Int)>(960:Int)):Bool)=false from V9 M0) ?_
 refine xr 1 (Zf4 a c l _ hS hl (h.i (B4 w))) fun W2 b0=>?_
 refine xbs 11 1 [V0 4,V0 (l.length:Int)] 178 fun b3 W3 n3=>?_
 refine xc 0 (Td b3 (l.length:Int) M0 M0 _ n3.blk) ?_
 rintro _ W4 ⟨_,rfl,b1,p2,c2,rfl,h2⟩
 have b7:=(bln b0 n3.i).size
 refine xmk 9 fun _ _ _ _ zJ zQ zo zx zy zK=>Ht 244 (.int .u8 0) 1 1 ((replicate 244 (0:UInt8)).map bv) zo zx zy Tryz.underlying50 K0 rfl M0 M0 (Zjf 244) fun b5 W5 n5=>?_
 have a9:=Zg h2 b7
 refine zK _ _ ?_
 have o5:=Xw (size:=1) (n:=244) n5.blk (n5.ge (bln (bln b0 n3.i) b1)) (by rw[A3,B7]) Y2
 have a7:=Zb a9 n5.i
 have hB:=bln (bln (bln b0 n3.i) b1) n5.i
 refine xbi 7 (t2:=50) fun _ _ _ _ zJ zQ zo zx zy zK=>Ct (dLen:=244) (dCap:=244) (off:=0) 4 ((leB (l.length:Int) 4).map bv) ((Ei l 0).map bv) zo Tryz.underlying50 K0 zx zy (Zf a7) o5 (by simp[Zl]) M0 M0 (Vq _) hB.size (bits0 l) fun W6 o6 b6 b4=>?_
 refine zK _ _ ?_
 have a8:=hB.trans b4
 have a5:=((n3.blk.i b1).i n5.i).grown b6 o5 Do
 refine zl 11 51 (fun zm b2 V=>∃ (i:Nat),b2=[(2,S1),(3,V0 0),(6,.slice (S3 b5) 244 244),(28,.slice a l.length c),(29,V0 (l.length:Int)),(30,V0 (i:Int))]∧zm=l.length-((i:Int)).toNat∧B3 w V∧Blk V b3 ([V0 4,V0 (l.length:Int)]) 178∧V.ownsRow w.heap.size 5 1 (.slice (S3 b5) 244 244) 244 ((Ei l i).map bv)∧i≤l.length) ⟨0,rfl,rfl,a8,a5,o6,A5 _⟩ ?_
 rintro _ _ W7 ⟨i,rfl,rfl,a3,a4,ho,hi⟩ J7 b8 r7
 refine xid 6 ((i:Int)<(l.length:Int)) (fun b9=>?_) (fun b9=>?_)
 ·refine xx 7 _ l.length i 1 (Ints.elem h (k:=i) M0).1 ?_
  refine xl 0 ((Ints.elem (h.i a3) (k:=i) M0).2) ?_
  refine xd 4 (.t w.heap.size [5]) ?_
  refine xq (.e [0,1] 2) (congrArg V0 (show(IntKind.i64.wrap (Int.tdiv (i:Int) 4):Int)=(↑(i/4):Int) from An i 4 M0 Do)) ?_
  refine xwm (.e [] 3) (4+(↑(i/4):Int)) (↑(4+(i/4)):Int) ?_
  refine xx (.e [] 4) _ 244 (4+(i/4)) 1 (show(some (⟨b5,0,none⟩:Addr)).isSome=true from rfl) ?_
  refine xq (.e [6,7] 8) (congrArg V0 (show(Int.tmod (i:Int) 4:Int)=(↑(i%4):Int) from Zhs i 4)) ?_
  refine xwm (.e [] 9) ((↑(i%4):Int)*2) (↑((i%4)*2):Int) ?_
  refine xbot (.e [] 10) (t:=3) (t2:=3) (fun _ _ _ _ zo zx zy V hV=>run_shlS (n:=(l.getD i 0)) (s:=((i%4)*2)) (kj:=.i64) (j:=(↑((i%4)*2):Int)) zo zx zy rfl (Gn hS i) M0 V) ?_
  refine xq (.e [] 11) (congrArg (Value.int .u8) (show(IntKind.u8.wrap (l.getD i 0*2 ^ ((i%4)*2)):Int)=l.getD i 0*2 ^ ((i%4)*2) from u8_shl (Gn hS i) M0)) ?_
  have a1:=Zb ho (Za W7)
  refine xl (.o [] 5) ((BysN.elem (Zf a1) (Vj l i) (k:=(4+(i/4))) M0).2) ?_
  refine xq (.e [] 12) (congrArg (Value.int .u8) (show(IntKind.u8.wrap (↑(BitVec.ofInt 8 (↑((Ei l i).getD (4+(i/4)) 0).toNat:Int) ||| BitVec.ofInt 8 (l.getD i 0*2 ^ ((i%4)*2))).toNat:Int):Int)=(↑(g4B l (i+1) (i/4)).toNat:Int) from bits_or hS M0)) ?_
  refine xx (.e [] 13) _ 244 (4+(i/4)) 1 (show(some (⟨b5,0,none⟩:Addr)).isSome=true from rfl) ?_
  refine yst (.o [] 14) (.t w.heap.size [5]) fun _ _ _ _ zJ zQ zo zx zy zK=>Vx (t:=5) (k:=(4+(i/4))) (v:=.int .u8 (↑(g4B l (i+1) (i/4)).toNat:Int)) zo zx zy K0 rfl a1 M0 fun W9 u9 o9=>?_
  rw[bits_set (l:=l) (i:=i) M0] at o9
  have a0:=a4.i (Za W7)
  refine zK _ _ (Lb (T:=[5]) (u9.i (U3 _ _) (Ux a1)) (Q9 u9 a1 Do)) ?_
  refine xwm 4 ((i:Int)+1) (↑(i+1):Int) ?_
  have a6:=u9.i (bln a3 (Za W7)) (Ux a1)
  have a2:=u9.blk a0 (Yc a0 a1 Do)
  exact ze 2 (b8 _ _ _ ⟨i+1,rfl,rfl,a6,a2,o9,M0⟩ M0)
 refine xe 13 (.tuple #[.slice (S3 b5) 244 244,V0 0]) ?_
 obtain rfl:i=l.length:=M0
 exact⟨_,rfl,a3,_,rfl,ho⟩
theorem Fv(p:Addr)(N c:Nat)(xs:V6 V2)(w:V1)(h:Sl w (.slice (some p) N c) N xs)(hl:xs.length=N)(h1:∀ u∈xs,u.oneCell'=true)(hn:N≤1000000) :
 C0 135 #[.slice (some p) N c] w (Kd (fun w' r=>∃ q c2,r=.slice q N c2∧w'.ownsRow w.heap.size 3 1 (.slice q N c2) N xs) w):=by
 refine zin 8 Tryz.func135 ?_
 refine xb0 17 3 fun b1 W1 n1=>?_
 have o1:=Xw (size:=1) (n:=0) n1.blk (n1.ge (B4 w)) rfl Do
 refine xbi 1 fun _ _ _ _ zJ zQ zo zx zy zK=>Xd (m:=N) (news:=xs) (V0 0) 1 8 (N) (xs) zo Tryz.underlying27 K0 rfl Do zx o1 zy (h.i n1.i) (by rw[hl,G7]) h1 Y2 M0 n1.i.size M0 Y6 fun a3 a1 W2 o2 a4 a2=>?_
 refine zK _ _ ?_
 have a0:=n1.i.trans a2
 exact xe 4 (.slice a3 N a1) ⟨_,rfl,a0,_,_,rfl,o2⟩
end
section
attribute [local irreducible] wpList wpAnyH Code.wp Oper.wp Go
def ClosP(B Bx bl:Nat)(L:V6 (V6 Int))(q i:Nat)(w:V1)(e:V5)(w':V1):Prop :=
 ∃ u p c,e=.returned u∧Below B w w'∧Zd [99,124] w w'∧Blk w' bl [.slice p (i+1) c] 99∧w'.ownsRow Bx 124 3 (.slice p (i+1) c) (i+1) ((Xl L q (i+1)).flatMap Ki)∧FrB Bx [bl] w w'
theorem Ug(L:V6 (V6 Int))(q i:Nat):(Xl L q i).flatMap Ki++[V0 (i:Int),.string ⟨(leB ((q+i:Nat):Int) 8++leB (Yn (L.getD i []):Int) 4++leB (Xi (L.getD i []):Int) 4).toArray⟩,V0 0]=(Xl L q (i+1)).flatMap Ki:=by
 rw[Zko];simp[Ki,Zfl,slotB]
structure FrZ(Bx:Nat)(S:V6 Nat)(a w:V1):Prop where
 fr:FrB Bx S a w
 le:Bx≤a.heap.size
theorem FrZ.refl{Bx:Nat}{S:V6 Nat}{w:V1}(h:Bx≤w.heap.size):FrZ Bx S w w:=⟨⟨At _,fun _ _ _=>rfl⟩,h⟩
theorem FrZ.i{Bx:Nat}{S:V6 Nat}{a w W:V1}(h:FrZ Bx S a w)(hb:B3 w W):FrZ Bx S a W:=⟨⟨N0 h.fr.1 hb.size,fun k hk hn=>(hb.block k (by have:=h.fr.1;have:=h.le;omega)).trans (h.fr.2 k hk hn)⟩,h.le⟩
theorem FrZ.I{Bx b:Nat}{S:V6 Nat}{a w W:V1}(h:FrZ Bx S a w)(u:Upd w b W)(hb:b∈S):FrZ Bx S a W:=⟨⟨N0 h.fr.1 (N7 u.size.symm),fun k hk hn=>(u.block k fun e=>hn (e▸hb)).trans (h.fr.2 k hk hn)⟩,h.le⟩
theorem FrZ.grown{Bx:Nat}{S:V6 Nat}{a w W:V1}{size n:Nat}{e:V3}{v:V2}{xs:V6 V2}(h:FrZ Bx S a w)(hg:w.grownBy W v.ownBlock)(hown:w.ownsRow Bx e size v n xs):FrZ Bx S a W:=⟨⟨N0 h.fr.1 hg.size,fun k hk hn=>(hg.block k (by have:=h.fr.1;have:=h.le;omega) (fun e=>by have:=(hown.lt k e.symm).1;omega)).trans (h.fr.2 k hk hn)⟩,h.le⟩
theorem Zqm(B Bx bl:Nat)(p:O0)(c:Nat)(L:V6 (V6 Int))(q i:Nat)(w:V1)(hBm:B≤Bx)(hBx:Bx≤w.heap.size)(hBw:B≤w.heap.size)(hBl:B≤bl)(kl:Blk w bl [.slice p i c] 99)(hup:w.ownsRow Bx 124 3 (.slice p i c) i ((Xl L q i).flatMap Ki))(hq:1≤q+i)(hq2:q+i≤14399)(hi:i≤100000)(hf:Yn (L.getD i [])≤960)(hg:Xi (L.getD i [])≤960) :
 C0 155 #[.agg #[V0 (↑(q+i):Int),V0 (↑(Yn (L.getD i [])):Int),V0 (↑(Xi (L.getD i [])):Int)],P0 bl] w (ClosP B Bx bl L q i w):=by
 have hZ:FrZ Bx [bl] w w:=FrZ.refl hBx
 refine zin 11 Tryz.func155 ?_
 refine xa 2 [V0 (↑(q+i):Int),V0 (↑(Yn (L.getD i [])):Int),V0 (↑(Xi (L.getD i [])):Int)] 126 fun b1 W1 n1=>?_
 refine xd 2 (.t B [99,124]) ?_
 have k1:=n1.blk.i (Za W1)
 refine xlvt (.e [] 3) (.t B [99,124]) (fun V hV=>(k1.q hV.2 Do).rp) ?_
 refine xm3 0 0 1 4 ?_ ?_ ?_
 ·have d0:=(kl.i n1.i).i (Za W1)
  refine xb 0 0 d0 ?_
  refine xm2 0 1 4 ?_ ?_
  ·refine xb 0 0 d0 ?_
   refine xr (.o [2] 4) (Wl (↑(q+i):Int) (↑(Yn (L.getD i [])):Int) (↑(Xi (L.getD i [])):Int) M0 M0 M0 M0 M0 M0 _) fun W2 h0=>?_
   refine xbs (.o [5] 6) 1 [V0 (i:Int),.string ⟨(leB (↑(q+i):Int) 8++leB (↑(Yn (L.getD i [])):Int) 4++leB (↑(Xi (L.getD i [])):Int) 4).toArray⟩,V0 0] 124 fun b3 W3 n3=>?_
   have e2:=Zb (Zb (Zb hup n1.i) (Za W1)) h0
   have a8:=Zb e2 n3.i
   have hB:=blB (blB (blB (blB (U3 B w) hBw n1.i) hBw (Za W1)) hBw h0) hBw n3.i
   refine ybi (.o [] 7) (.t B [99,124]) fun _ _ _ _ zJ zQ zo zx zy zK=>Xd (m:=1) (news:=[V0 (i:Int),.string ⟨(leB (↑(q+i):Int) 8++leB (↑(Yn (L.getD i [])):Int) 4++leB (↑(Xi (L.getD i [])):Int) 4).toArray⟩,V0 0]) (.agg #[V0 0,.string ⟨#[]⟩,V0 0]) 3 32 (i+1) ((Xl L q (i+1)).flatMap Ki) zo Tryz.underlying99 K0 rfl Do zx a8 zy (n3.blk.sl 1 1 Do Do) rfl Y4 Y2 M0 (N0 hBx hB.size) Y6 (Ug L q i) fun m1 k7 W4 o4 h1 k4=>?_
   refine zK _ _ (Xj (k4.mono hBm) h1 a8 Do) ?_
   have c3:=((d0.i h0).i n3.i).grown h1 a8 Do
   refine ys (.o [] 8) c3 [.slice m1 (i+1) k7] (.t B [99,124]) fun W5 u5 k5=>⟨(Zr u5 c3 hBl Do),?_⟩
   have j4:=u5.i (hB.trans (k4.mono hBm)) hBl
   have hO:=(((((show Zd [99,124] w _ from(Q0 n1.i)).trans (Q0 (Za W1))).trans (Q0 h0)).trans (Q0 n3.i)).trans (Q4 h1 a8 Do)).trans (Q1 u5 c3 Do)
   have k2:=u5.j o4 c3 Do
   have h7:=(((((hZ.i n1.i).i (Za W1)).i h0).i n3.i).grown h1 a8).I u5 Y5
   exact xe 1 (.tuple #[]) ⟨_,_,_,rfl,j4,hO,k5,k2,h7.fr⟩
  refine xr 0 (Wl (↑(q+i):Int) (↑(Yn (L.getD i [])):Int) (↑(Xi (L.getD i [])):Int) M0 M0 M0 M0 M0 M0 _) fun W6 g9=>?_
  have f0:=d0.i g9
  refine xb (.o [] 1) 0 f0 ?_
  refine xbs (.o [2,5] 6) 1 [V0 (i:Int),.string ⟨(leB (↑(q+i):Int) 8++leB (↑(Yn (L.getD i [])):Int) 4++leB (↑(Xi (L.getD i [])):Int) 4).toArray⟩,V0 0] 124 fun b7 W7 n7=>?_
  have g1:=Zb (Zb (Zb hup n1.i) (Za W1)) g9
  have a7:=Zb g1 n7.i
  have hB:=blB (blB (blB (blB (U3 B w) hBw n1.i) hBw (Za W1)) hBw g9) hBw n7.i
  refine ybi (.o [] 7) (.t B [99,124]) fun _ _ _ _ zJ zQ zo zx zy zK=>Xd (m:=1) (news:=[V0 (i:Int),.string ⟨(leB (↑(q+i):Int) 8++leB (↑(Yn (L.getD i [])):Int) 4++leB (↑(Xi (L.getD i [])):Int) 4).toArray⟩,V0 0]) (.agg #[V0 0,.string ⟨#[]⟩,V0 0]) 3 32 (i+1) ((Xl L q (i+1)).flatMap Ki) zo Tryz.underlying99 K0 rfl Do zx a7 zy (n7.blk.sl 1 1 Do Do) rfl Y4 Y2 M0 (N0 hBx hB.size) Y6 (Ug L q i) fun l9 m3 W8 o8 h2 k6=>?_
  refine zK _ _ (Xj (k6.mono hBm) h2 a7 Do) ?_
  have c6:=(f0.i n7.i).grown h2 a7 Do
  refine ys (.o [] 8) c6 [.slice l9 (i+1) m3] (.t B [99,124]) fun W9 u9 k9=>⟨(Zr u9 c6 hBl Do),?_⟩
  have i2:=u9.i (hB.trans (k6.mono hBm)) hBl
  have hO:=(((((show Zd [99,124] w _ from(Q0 n1.i)).trans (Q0 (Za W1))).trans (Q0 g9)).trans (Q0 n7.i)).trans (Q4 h2 a7 Do)).trans (Q1 u9 c6 Do)
  have i4:=u9.j o8 c6 Do
  have h6:=(((((hZ.i n1.i).i (Za W1)).i g9).i n7.i).grown h2 a7).I u9 Y5
  exact xe 1 (.tuple #[]) ⟨_,_,_,rfl,i2,hO,k9,i4,h6.fr⟩
 ·have b8:=(kl.i n1.i).i (Za W1)
  refine xb 0 0 b8 ?_
  refine xm2 (.b [2]) 0 4 ?_ ?_
  ·refine xb 0 0 b8 ?_
   refine xr (.o [] 4) (Wl (↑(q+i):Int) (↑(Yn (L.getD i [])):Int) (↑(Xi (L.getD i [])):Int) M0 M0 M0 M0 M0 M0 _) fun p4 c0=>?_
   refine xbs (.o [5] 6) 1 [V0 (i:Int),.string ⟨(leB (↑(q+i):Int) 8++leB (↑(Yn (L.getD i [])):Int) 4++leB (↑(Xi (L.getD i [])):Int) 4).toArray⟩,V0 0] 124 fun m5 n2 d7=>?_
   have e9:=Zb (Zb (Zb hup n1.i) (Za W1)) c0
   have a6:=Zb e9 d7.i
   have hB:=blB (blB (blB (blB (U3 B w) hBw n1.i) hBw (Za W1)) hBw c0) hBw d7.i
   refine ybi (.o [] 7) (.t B [99,124]) fun _ _ _ _ zJ zQ zo zx zy zK=>Xd (m:=1) (news:=[V0 (i:Int),.string ⟨(leB (↑(q+i):Int) 8++leB (↑(Yn (L.getD i [])):Int) 4++leB (↑(Xi (L.getD i [])):Int) 4).toArray⟩,V0 0]) (.agg #[V0 0,.string ⟨#[]⟩,V0 0]) 3 32 (i+1) ((Xl L q (i+1)).flatMap Ki) zo Tryz.underlying99 K0 rfl Do zx a6 zy (d7.blk.sl 1 1 Do Do) rfl Y4 Y2 M0 (N0 hBx hB.size) Y6 (Ug L q i) fun i1 j1 p3 l7 c5 g5=>?_
   refine zK _ _ (Xj (g5.mono hBm) c5 a6 Do) ?_
   have c8:=((b8.i c0).i d7.i).grown c5 a6 Do
   refine ys (.o [] 8) c8 [.slice i1 (i+1) j1] (.t B [99,124]) fun o7 e8 l3=>⟨(Zr e8 c8 hBl Do),?_⟩
   have j8:=e8.i (hB.trans (g5.mono hBm)) hBl
   have hO:=(((((show Zd [99,124] w _ from(Q0 n1.i)).trans (Q0 (Za W1))).trans (Q0 c0)).trans (Q0 d7.i)).trans (Q4 c5 a6 Do)).trans (Q1 e8 c8 Do)
   have f3:=e8.j l7 c8 Do
   have i9:=(((((hZ.i n1.i).i (Za W1)).i c0).i d7.i).grown c5 a6).I e8 Y5
   exact xe 1 (.tuple #[]) ⟨_,_,_,rfl,j8,hO,l3,f3,i9.fr⟩
  refine xr 0 (Wl (↑(q+i):Int) (↑(Yn (L.getD i [])):Int) (↑(Xi (L.getD i [])):Int) M0 M0 M0 M0 M0 M0 _) fun o2 a5=>?_
  refine xm2 (.b [5]) 0 6 ?_ ?_
  ·have g2:=b8.i a5
   refine xb 0 0 g2 ?_
   refine xbs (.o [] 6) 1 [V0 (i:Int),.string ⟨(leB (↑(q+i):Int) 8++leB (↑(Yn (L.getD i [])):Int) 4++leB (↑(Xi (L.getD i [])):Int) 4).toArray⟩,V0 0] 124 fun m9 n9 d6=>?_
   have g6:=Zb (Zb (Zb hup n1.i) (Za W1)) a5
   have a9:=Zb g6 d6.i
   have hB:=blB (blB (blB (blB (U3 B w) hBw n1.i) hBw (Za W1)) hBw a5) hBw d6.i
   refine ybi (.o [] 7) (.t B [99,124]) fun _ _ _ _ zJ zQ zo zx zy zK=>Xd (m:=1) (news:=[V0 (i:Int),.string ⟨(leB (↑(q+i):Int) 8++leB (↑(Yn (L.getD i [])):Int) 4++leB (↑(Xi (L.getD i [])):Int) 4).toArray⟩,V0 0]) (.agg #[V0 0,.string ⟨#[]⟩,V0 0]) 3 32 (i+1) ((Xl L q (i+1)).flatMap Ki) zo Tryz.underlying99 K0 rfl Do zx a9 zy (d6.blk.sl 1 1 Do Do) rfl Y4 Y2 M0 (N0 hBx hB.size) Y6 (Ug L q i) fun i3 k0 o3 l6 c7 e6=>?_
   refine zK _ _ (Xj (e6.mono hBm) c7 a9 Do) ?_
   have c4:=(g2.i d6.i).grown c7 a9 Do
   refine ys (.o [] 8) c4 [.slice i3 (i+1) k0] (.t B [99,124]) fun n6 e4 l4=>⟨(Zr e4 c4 hBl Do),?_⟩
   have i8:=e4.i (hB.trans (e6.mono hBm)) hBl
   have hO:=(((((show Zd [99,124] w _ from(Q0 n1.i)).trans (Q0 (Za W1))).trans (Q0 a5)).trans (Q0 d6.i)).trans (Q4 c7 a9 Do)).trans (Q1 e4 c4 Do)
   have e3:=e4.j l6 c4 Do
   have j0:=(((((hZ.i n1.i).i (Za W1)).i a5).i d6.i).grown c7 a9).I e4 Y5
   exact xe 1 (.tuple #[]) ⟨_,_,_,rfl,i8,hO,l4,e3,j0.fr⟩
  refine xbs 0 1 [V0 (i:Int),.string ⟨(leB (↑(q+i):Int) 8++leB (↑(Yn (L.getD i [])):Int) 4++leB (↑(Xi (L.getD i [])):Int) 4).toArray⟩,V0 0] 124 fun n0 n5 e0=>?_
  have f5:=Zb (Zb (Zb hup n1.i) (Za W1)) a5
  have g3:=(b8.i a5).i e0.i
  refine xb (.o [] 0) 0 g3 ?_
  have a1:=Zb f5 e0.i
  have hB:=blB (blB (blB (blB (U3 B w) hBw n1.i) hBw (Za W1)) hBw a5) hBw e0.i
  refine ybi (.o [] 7) (.t B [99,124]) fun _ _ _ _ zJ zQ zo zx zy zK=>Xd (m:=1) (news:=[V0 (i:Int),.string ⟨(leB (↑(q+i):Int) 8++leB (↑(Yn (L.getD i [])):Int) 4++leB (↑(Xi (L.getD i [])):Int) 4).toArray⟩,V0 0]) (.agg #[V0 0,.string ⟨#[]⟩,V0 0]) 3 32 (i+1) ((Xl L q (i+1)).flatMap Ki) zo Tryz.underlying99 K0 rfl Do zx a1 zy (e0.blk.sl 1 1 Do Do) rfl Y4 Y2 M0 (N0 hBx hB.size) Y6 (Ug L q i) fun h5 j5 p5 k8 d1 f7=>?_
  refine zK _ _ (Xj (f7.mono hBm) d1 a1 Do) ?_
  have b5:=g3.grown d1 a1 Do
  refine ys (.o [] 8) b5 [.slice h5 (i+1) j5] (.t B [99,124]) fun o1 f4 l2=>⟨(Zr f4 b5 hBl Do),?_⟩
  have j7:=f4.i (hB.trans (f7.mono hBm)) hBl
  have hO:=(((((show Zd [99,124] w _ from(Q0 n1.i)).trans (Q0 (Za W1))).trans (Q0 a5)).trans (Q0 e0.i)).trans (Q4 d1 a1 Do)).trans (Q1 f4 b5 Do)
  have f2:=f4.j k8 b5 Do
  have h9:=(((((hZ.i n1.i).i (Za W1)).i a5).i e0.i).grown d1 a1).I f4 Y5
  exact xe 1 (.tuple #[]) ⟨_,_,_,rfl,j7,hO,l2,f2,h9.fr⟩
 refine xr 0 (Wl (↑(q+i):Int) (↑(Yn (L.getD i [])):Int) (↑(Xi (L.getD i [])):Int) M0 M0 M0 M0 M0 M0 _) fun n4 a0=>?_
 refine xm2 0 0 1 ?_ ?_
 ·have b9:=((kl.i n1.i).i (Za W1)).i a0
  refine xb 0 0 b9 ?_
  refine xb (.o [] 1) 0 b9 ?_
  refine xbs (.o [2,5] 6) 1 [V0 (i:Int),.string ⟨(leB (↑(q+i):Int) 8++leB (↑(Yn (L.getD i [])):Int) 4++leB (↑(Xi (L.getD i [])):Int) 4).toArray⟩,V0 0] 124 fun p2 o6 d8=>?_
  have d4:=Zb (Zb (Zb hup n1.i) (Za W1)) a0
  have a4:=Zb d4 d8.i
  have hB:=blB (blB (blB (blB (U3 B w) hBw n1.i) hBw (Za W1)) hBw a0) hBw d8.i
  refine ybi (.o [] 7) (.t B [99,124]) fun _ _ _ _ zJ zQ zo zx zy zK=>Xd (m:=1) (news:=[V0 (i:Int),.string ⟨(leB (↑(q+i):Int) 8++leB (↑(Yn (L.getD i [])):Int) 4++leB (↑(Xi (L.getD i [])):Int) 4).toArray⟩,V0 0]) (.agg #[V0 0,.string ⟨#[]⟩,V0 0]) 3 32 (i+1) ((Xl L q (i+1)).flatMap Ki) zo Tryz.underlying99 K0 rfl Do zx a4 zy (d8.blk.sl 1 1 Do Do) rfl Y4 Y2 M0 (N0 hBx hB.size) Y6 (Ug L q i) fun i7 j3 p1 l8 c1 f6=>?_
  refine zK _ _ (Xj (f6.mono hBm) c1 a4 Do) ?_
  have b0:=(b9.i d8.i).grown c1 a4 Do
  refine ys (.o [] 8) b0 [.slice i7 (i+1) j3] (.t B [99,124]) fun m7 g7 l1=>⟨(Zr g7 b0 hBl Do),?_⟩
  have j6:=g7.i (hB.trans (f6.mono hBm)) hBl
  have hO:=(((((show Zd [99,124] w _ from(Q0 n1.i)).trans (Q0 (Za W1))).trans (Q0 a0)).trans (Q0 d8.i)).trans (Q4 c1 a4 Do)).trans (Q1 g7 b0 Do)
  have f8:=g7.j l8 b0 Do
  have h4:=(((((hZ.i n1.i).i (Za W1)).i a0).i d8.i).grown c1 a4).I g7 Y5
  exact xe 1 (.tuple #[]) ⟨_,_,_,rfl,j6,hO,l1,f8,h4.fr⟩
 have b4:=((kl.i n1.i).i (Za W1)).i a0
 refine xb 0 0 b4 ?_
 refine xm2 (.b [2,5]) 0 6 ?_ ?_
 ·refine xb 0 0 b4 ?_
  refine xbs (.o [] 6) 1 [V0 (i:Int),.string ⟨(leB (↑(q+i):Int) 8++leB (↑(Yn (L.getD i [])):Int) 4++leB (↑(Xi (L.getD i [])):Int) 4).toArray⟩,V0 0] 124 fun p0 m6 e1=>?_
  have d5:=Zb (Zb (Zb hup n1.i) (Za W1)) a0
  have a3:=Zb d5 e1.i
  have hB:=blB (blB (blB (blB (U3 B w) hBw n1.i) hBw (Za W1)) hBw a0) hBw e1.i
  refine ybi (.o [] 7) (.t B [99,124]) fun _ _ _ _ zJ zQ zo zx zy zK=>Xd (m:=1) (news:=[V0 (i:Int),.string ⟨(leB (↑(q+i):Int) 8++leB (↑(Yn (L.getD i [])):Int) 4++leB (↑(Xi (L.getD i [])):Int) 4).toArray⟩,V0 0]) (.agg #[V0 0,.string ⟨#[]⟩,V0 0]) 3 32 (i+1) ((Xl L q (i+1)).flatMap Ki) zo Tryz.underlying99 K0 rfl Do zx a3 zy (e1.blk.sl 1 1 Do Do) rfl Y4 Y2 M0 (N0 hBx hB.size) Y6 (Ug L q i) fun i0 j2 m8 m0 c9 e5=>?_
  refine zK _ _ (Xj (e5.mono hBm) c9 a3 Do) ?_
  have b2:=(b4.i e1.i).grown c9 a3 Do
  refine ys (.o [] 8) b2 [.slice i0 (i+1) j2] (.t B [99,124]) fun o5 f9 m2=>⟨(Zr f9 b2 hBl Do),?_⟩
  have k3:=f9.i (hB.trans (e5.mono hBm)) hBl
  have hO:=(((((show Zd [99,124] w _ from(Q0 n1.i)).trans (Q0 (Za W1))).trans (Q0 a0)).trans (Q0 e1.i)).trans (Q4 c9 a3 Do)).trans (Q1 f9 b2 Do)
  have g0:=f9.j m0 b2 Do
  have i5:=(((((hZ.i n1.i).i (Za W1)).i a0).i e1.i).grown c9 a3).I f9 Y5
  exact xe 1 (.tuple #[]) ⟨_,_,_,rfl,k3,hO,m2,g0,i5.fr⟩
 refine xbs 0 1 [V0 (i:Int),.string ⟨(leB (↑(q+i):Int) 8++leB (↑(Yn (L.getD i [])):Int) 4++leB (↑(Xi (L.getD i [])):Int) 4).toArray⟩,V0 0] 124 fun n8 m4 d9=>?_
 have d3:=Zb (Zb (Zb hup n1.i) (Za W1)) a0
 have d2:=b4.i d9.i
 refine xb (.o [] 0) 0 d2 ?_
 have a2:=Zb d3 d9.i
 have hB:=blB (blB (blB (blB (U3 B w) hBw n1.i) hBw (Za W1)) hBw a0) hBw d9.i
 refine ybi (.o [] 7) (.t B [99,124]) fun _ _ _ _ zJ zQ zo zx zy zK=>Xd (m:=1) (news:=[V0 (i:Int),.string ⟨(leB (↑(q+i):Int) 8++leB (↑(Yn (L.getD i [])):Int) 4++leB (↑(Xi (L.getD i [])):Int) 4).toArray⟩,V0 0]) (.agg #[V0 0,.string ⟨#[]⟩,V0 0]) 3 32 (i+1) ((Xl L q (i+1)).flatMap Ki) zo Tryz.underlying99 K0 rfl Do zx a2 zy (d9.blk.sl 1 1 Do Do) rfl Y4 Y2 M0 (N0 hBx hB.size) Y6 (Ug L q i) fun h8 h3 o9 l0 c2 g8=>?_
 refine zK _ _ (Xj (g8.mono hBm) c2 a2 Do) ?_
 have b6:=d2.grown c2 a2 Do
 refine ys (.o [] 8) b6 [.slice h8 (i+1) h3] (.t B [99,124]) fun o0 f1 l5=>⟨(Zr f1 b6 hBl Do),?_⟩
 have j9:=f1.i (hB.trans (g8.mono hBm)) hBl
 have hO:=(((((show Zd [99,124] w _ from(Q0 n1.i)).trans (Q0 (Za W1))).trans (Q0 a0)).trans (Q0 d9.i)).trans (Q4 c2 a2 Do)).trans (Q1 f1 b6 Do)
 have e7:=f1.j l0 b6 Do
 have i6:=(((((hZ.i n1.i).i (Za W1)).i a0).i d9.i).grown c2 a2).I f1 Y5
 exact xe 1 (.tuple #[]) ⟨_,_,_,rfl,j9,hO,l5,e7,i6.fr⟩
def ClosM(B Bx bl:Nat)(L:V6 (V6 Int))(q i:Nat)(w:V1)(e:V5)(w':V1):Prop :=
 ∃ u p c,e=.returned u∧Below B w w'∧Zd [132,126] w w'∧Blk w' bl [.slice p (i+1) c] 132∧w'.ownsRow Bx 126 3 (.slice p (i+1) c) (i+1) (rsL L q (i+1))∧FrB Bx [bl] w w'
theorem Zoy(B Bx bl:Nat)(p:O0)(c:Nat)(L:V6 (V6 Int))(q i:Nat)(w:V1)(hBm:B≤Bx)(hBx:Bx≤w.heap.size)(hBw:B≤w.heap.size)(hBl:B≤bl)(kl:Blk w bl [.slice p i c] 132)(hup:w.ownsRow Bx 126 3 (.slice p i c) i (rsL L q i))(hi:i≤100000) :
 C0 159 #[.agg #[V0 (↑(q+i):Int),V0 (↑(Yn (L.getD i [])):Int),V0 (↑(Xi (L.getD i [])):Int)],P0 bl] w (ClosM B Bx bl L q i w):=by
 have hZ:FrZ Bx [bl] w w:=FrZ.refl hBx
 refine zin 7 Tryz.func159 ?_
 refine xa 2 [V0 (↑(q+i):Int),V0 (↑(Yn (L.getD i [])):Int),V0 (↑(Xi (L.getD i [])):Int)] 126 fun b1 W1 n1=>?_
 have a2:=kl.i n1.i
 refine xb 3 0 a2 ?_
 refine xlv 0 n1.blk.rp ?_
 refine xbs 0 1 [V0 (↑(q+i):Int),V0 (↑(Yn (L.getD i [])):Int),V0 (↑(Xi (L.getD i [])):Int)] 126 fun b2 W2 n2=>?_
 have a3:=Zb hup n1.i
 have a0:=Zb a3 n2.i
 have hB:=blB (blB (U3 B w) hBw n1.i) hBw n2.i
 refine xbi 0 fun _ _ _ _ zJ zQ zo zx zy zK=>Xd (m:=1) (news:=[V0 (↑(q+i):Int),V0 (↑(Yn (L.getD i [])):Int),V0 (↑(Xi (L.getD i [])):Int)]) (.agg #[V0 0,V0 0,V0 0]) 3 24 (i+1) ((rsL L q (i+1))) zo Tryz.underlying132 K0 rfl Do zx a0 zy (n2.blk.sl 1 1 Do Do) rfl Y4 Y2 M0 (N0 hBx hB.size) Y6 (by rw[rsL_succ];rfl) fun b0 a9 W3 o3 a6 a8=>?_
 refine zK _ _ ?_
 have a1:=(a2.i n2.i).grown a6 a0 Do
 refine xs 0 a1 [.slice b0 (i+1) a9] fun W4 u4 k4=>?_
 have a4:=u4.i (hB.trans (a8.mono hBm)) hBl
 have hO:=(((show Zd [132,126] w _ from(Q0 n1.i)).trans (Q0 n2.i)).trans (Q4 a6 a0 Do)).trans (Q1 u4 a1 Do)
 have a5:=u4.j o3 a1 Do
 have a7:=(((hZ.i n1.i).i n2.i).grown a6 a0).I u4 Y5
 exact xe 1 (.tuple #[]) ⟨_,_,_,rfl,a4,hO,k4,a5,a7.fr⟩
def LayPostM(B ba b g nn cc:Nat)(pa:O0)(ca f N k0:Nat)(bs:Bl)(bl:Nat)(L:V6 (V6 Int))(w:V1)(e:V5)(w':V1):Prop :=
 ∃ p c,e=.returned .nilIface∧Below B w w'∧Zd [169,5,132,126] w w'∧Fr [ba,g,bl] w w'∧Al B ba b g nn cc pa ca f N (k0+L.length) (Xt L (f+k0) bs L.length) w'∧Blk w' bl [.slice p L.length c] 132∧w'.ownsRow w.heap.size 126 3 (.slice p L.length c) L.length (rsL L (f+k0) L.length)
theorem Zyk(B ba b g nn cc:Nat)(pa:O0)(ca f N k0:Nat)(bs:Bl)(bl B2:Nat)(pl:O0)(cl:Nat)(gs:V6 (Nat×Nat))(L:V6 (V6 Int))(w:V1)(hC:AlC B ba nn cc ca f N)(hA:Al B ba b g nn cc pa ca f N k0 bs w)(hL:Lists w B2 (.slice pl L.length cl) gs L)(hS:∀ i,i<L.length→Uo (L.getD i [])∧(L.getD i []).length≤960)(hf1:1≤f)(hk:k0+L.length≤N)(kl:Blk w bl [S1] 132)(hBl:B≤bl)(hBw:B≤w.heap.size) :
 C0 154 #[P0 ba,.slice pl L.length cl,.func (.func 159) #[] #[P0 bl]] w (LayPostM B ba b g nn cc pa ca f N k0 bs bl L w):=by
 have d1:=hC.hf
 have d2:=hC.hn
 refine zin 51 Tryz.func154 ?_
 have hB:=U3 B w
 refine zl 14 51 (fun zm c3 V=>∃ (i:Nat) (p:O0) (c:Nat),c3=[(0,P0 ba),(2,.func (.func 159) #[] #[P0 bl]),(15,.slice pl L.length cl),(16,V0 (L.length:Int)),(17,V0 (i:Int))]∧zm=L.length-((i:Int)).toNat∧Below B w V∧Fr [ba,g,bl] w V∧Zd [169,5,132,126] w V∧Blk V bl ([.slice p i c]) 132∧Al B ba b g nn cc pa ca f N (k0+i) (Xt L (f+k0) bs i) V∧Lists V B2 (.slice pl L.length cl) gs L∧V.ownsRow w.heap.size 126 3 (.slice p i c) i (rsL L (f+k0) i)∧i≤L.length) ⟨0,none,0,rfl,rfl,hB,(Fr.refl _ _),(Zd.refl _ _),kl,hA,hL,A8 _ _ _ _,A5 _⟩ ?_
 rintro _ _ W1 ⟨i,p,c,rfl,rfl,a5,a8,b1,a1,hA,hL,b2,hi⟩ J1 c2 r1
 refine xid 6 ((i:Int)<(L.length:Int)) (fun d0=>?_) (fun d0=>?_)
 ·refine xx 6 _ L.length i 1 (Lists.elem hL rfl (k:=i) M0).1 ?_
  refine xl 0 ((Lists.elem hL rfl (k:=i) M0).2) ?_
  refine xc 6 (args:=#[.slice (some ⟨(gs.getD i (0,0)).1,0,none⟩) ((L.getD i []).length) ((gs.getD i (0,0)).2)]) (Znk _ _ (L.getD i []) _ (hS i M0).1 (hS i M0).2 (Zf (hL.each i M0))) ?_
  rintro _ W3 ⟨_,rfl,a4,g6,rfl,h6⟩
  have b7:=hA.i a4
  have a6:=b1.trans (Q0 a4)
  have b9:=Zg h6 a5.size
  have a9:=blB a5 hBw a4
  refine xc 21 (args:=#[P0 ba,V0 3,.slice (S3 g6) 244 244]) (Cz B ba b g nn cc pa ca f N (k0+i) (Xt L (f+k0) bs i) 3 (S3 g6) 244 (Jr (L.getD i [])) (f+k0+i) 244 _ (F2 _ _ _).symm (Vj _ _) hC b7 M0 Do Do (fun W _ a6=>Vr (Zf (Zi b9 a6 Do)) (Vj _ _)) Do (N0 hBw a9.size)) ?_
  rintro _ W4 ⟨rfl,c6,b3,c4,hA⟩
  have b0:=(hL.i a4).q b3 Do
  refine xr 20 (args:=#[.slice (some ⟨(gs.getD i (0,0)).1,0,none⟩) ((L.getD i []).length) ((gs.getD i (0,0)).2)]) (Za1 _ _ (L.getD i []) _ (hS i M0).2 (Zf (b0.each i M0))) fun W5 a3=>?_
  have a2:=blB (a9.trans c6) hBw a3
  have a0:=((a1.i a4).q b3 Do).i a3
  have a7:=Zb (Zi (Zb b2 a4) b3 Do) a3
  refine xc 13 (Zoy B w.heap.size bl p c L (f+k0) i _ hBw a2.size (N0 hBw a2.size) hBl a0 a7 M0) ?_
  rintro _ W6 ⟨_,p9,c9,rfl,c7,b5,c5,b2,c8⟩
  refine xwm 4 ((i:Int)+1) (↑(i+1):Int) ?_
  have c1:=(hA.i a3).q b5 Do
  have b8:=(b0.i a3).q b5 Do
  have c0:=a2.trans c7
  have b6:=(Fr.d2 (((a8.trans (Q2 a4)).trans (c4.mono Y5)).trans (Q2 a3)) c8 Y5)
  have b4:=((a6.trans (b3.wide)).trans (Q0 a3)).trans (b5.wide)
  exact ze 2 (c2 _ _ _ ⟨i+1,_,_,rfl,rfl,c0,b6,b4,c5,c1,b8,b2,M0⟩ M0)
 refine xe 11 .nilIface ?_
 obtain rfl:i=L.length:=M0
 exact⟨_,_,rfl,a5,b1,a8,hA,a1,b2⟩
end
section
attribute [local irreducible] wpList wpAnyH Code.wp Oper.wp Go
def SplitP(l:V6 Int)(w:V1)(e:V5)(w':V1):Prop :=
 (Jn l≠0∧e=.returned (.tuple #[S1,S1,V0 2])∧B3 w w') ∨
 (Jn l=0∧∃ pb cb gs po co,e=.returned (.tuple #[.slice pb (bmN l.length) cb,.slice po (Zp l l.length).length co,V0 0])∧B3 w w'∧Lists w' w.heap.size (.slice pb (bmN l.length) cb) gs (Xe (Zj l) (bmN l.length))∧w'.ownsRow w.heap.size 124 3 (.slice po (Zp l l.length).length co) (Zp l l.length).length ((Zp l l.length).flatMap Ki))
theorem Zdk{l:V6 Int}{i:Nat}(hl:l.length≤65536)(hi:i<l.length)(h:¬ Ph (l.getD i 0)):Jn l≠0:=fun q=>h ((Ws q).2 i hi)
theorem Zk4{l:V6 Int}(hl:l.length≤65536)(h:∀ k,k<l.length→Ph (l.getD k 0)):Jn l=0:=by
 unfold Jn;rw[V7 M0,V8 h]
attribute [local go_sem] Oper.semAt_some
theorem g_retM{P:V4}{fn:Func}{R:V5→V1→Prop}{a:Act}{w:V1}(v:V2)(hd:a.defers=[])(hr:(results fn a.tmps).run P w=.ok v w)(h:R (.returned v) w):bodyPostM Fence.wide 4 P fn R .ret a w:=by
 show LeavesInM _ _ _ _ a.tmps R a.defers .returning w;rw[hd];exact⟨v,hr,h⟩
theorem Lists.put{W U:V1}{D base:Nat}{v:V2}{gs:V6 (Nat×Nat)}{L:V6 (V6 Int)}(h:Lists W base v gs L)(u:Upd W D U)(hK:Dfr D W):Lists U base v gs L:=⟨u.O h.row (hK.row h.row),fun i hi=>u.O (h.each i hi) (hK.row (h.each i hi))⟩
theorem mn3_if(n:Int):(if 3<n then 3 else n)=mn3 n:=by unfold mn3;split<;>split<;>omega
def Ns(s:V6 Int){n:Nat}(pre:V6 (Fin n)):V6 (V6 Int):=pre.map fun j=>Yv s j.val
theorem Mc(s:V6 Int){n:Nat}(pre:V6 (Fin n))(x:Fin n):Ns s (pre++[x])=Ns s pre++[Yv s x.val]:=by simp[Ns]
theorem preC_all(s:V6 Int)(n:Nat):Ns s (List.finRange n)=Xe s n:=by
 unfold Ns Xe;apply F6
 ·simp
 ·intro i h1 h2;simp
theorem Zls(a:O0)(c:Nat)(l:V6 Int)(w:V1)(h:Sl w (.slice a l.length c) l.length (l.map V0))(hl:l.length≤65536) :
 C0 152 #[.slice a l.length c] w (SplitP l w):=by
 refine Jm Tryz.func152 rfl ?_
 refine Zzm ⟨#[.slice a l.length c,undef,undef,undef,undef,undef,undef,undef,undef,undef,undef,undef,undef,undef,undef,undef,undef,undef,undef,undef,undef,undef,undef,undef,undef,undef,undef,undef,undef,undef,undef,undef,undef,undef,undef,undef,undef,undef,undef,undef,undef,undef,undef,undef,undef,undef,undef,undef,undef,undef,undef,undef],[]⟩ K0 ?_
 refine wp_seq ?_
 refine wp_region_lit ?_
 refine Gg 3 [(2,S1),(3,S1),(4,V0 0)] K0 ?_
 refine wpList_nil ?_
 refine wp_seq ?_
 refine wp_seq ?_
 refine wp_region_lit ?_
 refine Gg 3 [(11,.slice a l.length c),(12,V0 (l.length:Int)),(13,.bool (decide ((l.length:Int)>(65536:Int))))] K0 ?_
 refine wpList_nil ?_
 refine wp_cond_split (t:=decide ((l.length:Int)>(65536:Int))) K0 (fun hh=>absurd (hh.symm.trans (show(decide ((l.length:Int)>(65536:Int)):Bool)=false from V9 M0)) Do) (fun _=>?_)
 refine wp_skip ?_
 refine wp_seq ?_
 refine wp_region_lit ?_
 refine Gg 1 [(5,S1)] K0 ?_
 refine wpList_nil ?_
 refine wp_seq ?_
 refine wp_region_lit ?_
 refine Gg 1 [(6,S1)] K0 ?_
 refine wpList_nil ?_
 refine wp_seq ?_
 refine wp_seq ?_
 refine wp_region_lit ?_
 refine Gg 3 [(14,.slice a l.length c),(15,V0 (l.length:Int)),(16,V0 0)] K0 ?_
 refine wpList_nil ?_
 refine wp_block ?_
 refine Zzm ⟨#[.slice a l.length c,undef,S1,S1,V0 0,S1,S1,undef,undef,undef,undef,.slice a l.length c,V0 (l.length:Int),.bool (decide ((l.length:Int)>(65536:Int))),.slice a l.length c,V0 (l.length:Int),V0 0,undef,undef,undef,undef,undef,undef,undef,undef,undef,undef,undef,undef,undef,undef,undef,undef,undef,undef,undef,undef,undef,undef,undef,undef,undef,undef,undef,undef,undef,undef,undef,undef,undef,undef,undef],[]⟩ K0 ?_
 have hB:=U3 w.heap.size w
 refine wp_loop (fun h7 V=>∃ (i:Nat) (ps:O0) (cs:Nat) (po:O0) (co:Nat) (x2:Nat→V2),h7=⟨#[.slice a l.length c,undef,(x2 0),(x2 1),(x2 2),.slice ps i cs,.slice po ((Zp l i).length) co,(x2 3),(x2 4),undef,undef,.slice a l.length c,V0 (l.length:Int),.bool (decide ((l.length:Int)>(65536:Int))),.slice a l.length c,V0 (l.length:Int),V0 (i:Int),(x2 5),(x2 6),(x2 7),(x2 8),(x2 9),(x2 10),(x2 11),(x2 12),(x2 13),(x2 14),(x2 15),(x2 16),(x2 17),(x2 18),(x2 19),(x2 20),(x2 21),(x2 22),(x2 23),(x2 24),(x2 25),(x2 26),(x2 27),(x2 28),(x2 29),undef,undef,undef,undef,undef,undef,undef,undef,undef,undef],[]⟩∧B3 w V∧V.ownsRow w.heap.size 3 1 (.slice ps i cs) i ((Zj (l.take i)).map V0)∧V.ownsRow w.heap.size 124 3 (.slice po (Zp l i).length co) (Zp l i).length ((Zp l i).flatMap Ki)∧i≤l.length∧((∀ j,j<i→Ph (l.getD j 0)))) (fun h7 V=>l.length-((intOf (h7.tmps.getD 16 undef))).toNat) ⟨0,none,0,none,0,(pk [S1,S1,V0 0,undef,undef,undef,undef,undef,undef,undef,undef,undef,undef,undef,undef,undef,undef,undef,undef,undef,undef,undef,undef,undef,undef,undef,undef,undef,undef,undef]),rfl,hB,A8 _ _ _ _,A8 _ _ _ _,A5 _,?_⟩ ?_
 ·exact fun j hj=>absurd hj M0
 rintro _ W2 ⟨i,ps,cs,po,co,x2,rfl,hB,hs,ho,hi,hz⟩
 refine wp_seq ?_
 refine wp_region_lit ?_
 refine Gg 1 [(17,.bool (decide ((i:Int)<(l.length:Int))))] K0 ?_
 refine wpList_nil ?_
 refine wp_seq ?_
 refine wp_cond_split (t:=decide ((i:Int)<(l.length:Int))) K0 (fun f2=>?_) (fun f2=>?_)
 ·have f2:=U1 f2
  refine wp_skip ?_
  refine wp_seq ?_
  refine wp_block ?_
  refine wp_seq ?_
  refine wp_region_lit ?_
  refine Gg 1 [(18,V0 (i:Int))] K0 ?_
  refine Jh K0 (Uw (Zdi (size:=1) (k:=i) (b:=a) (n:=l.length) (c:=c) (i:=(i:Int)) (ki:=.i64) rfl K0 K0 rfl M0 (Ints.elem h (k:=i) M0).1 Tryz.underlying27 K0 W2) ?_)
  refine Jh K0 (Qd (Zx a (i*1)) (V0 (l.getD i 0)) rfl K0 K0 (Ints.elem (h.i hB) (k:=i) M0).2 ?_)
  refine Gg 2 [(7,V0 (i:Int)),(8,V0 (l.getD i 0))] K0 ?_
  refine wpList_nil ?_
  refine wp_seq ?_
  refine wp_seq ?_
  refine wp_region_lit ?_
  refine Gg 3 [(21,V0 (l.getD i 0)),(22,.bool (decide ((l.getD i 0)<(0:Int)))),(23,.bool (decide ((l.getD i 0)<(0:Int))))] K0 ?_
  rcases Bool.eq_false_or_eq_true (decide ((l.getD i 0)<(0:Int))) with d8|d8
  ·refine g_b [22,23] _ _ d8 K0 ?_
   have d8:=U1 d8
   refine Gg 3 [(24,undef),(25,undef),(26,.bool true)] K0 ?_
   refine wpList_nil ?_
   refine wp_cond_true K0 ?_
   refine wp_seq ?_
   refine wp_region_lit ?_
   refine Gg 3 [(2,S1),(3,S1),(4,V0 2)] K0 ?_
   refine wpList_nil ?_
   refine wp_ret (Px (Lk (Px (Px (Lk (Px ?_))))))
   exact g_retM (.tuple #[S1,S1,V0 2]) K0 K0 (.inl ⟨Zdk (i:=i) hl M0 (fun q=>by unfold Ph at q;omega),rfl,hB⟩)
  ·refine g_b [22,23] _ _ d8 K0 ?_
   have d8:=U2 d8
   refine Gg 3 [(24,V0 (l.getD i 0)),(25,.bool (decide ((l.getD i 0)>(2147483647:Int)))),(26,.bool (decide ((l.getD i 0)>(2147483647:Int))))] K0 ?_
   refine wpList_nil ?_
   refine wp_cond_split (t:=decide ((l.getD i 0)>(2147483647:Int))) K0 (fun e6=>?_) (fun e6=>?_)
   ·have e6:=U1 e6
    refine wp_seq ?_
    refine wp_region_lit ?_
    refine Gg 3 [(2,S1),(3,S1),(4,V0 2)] K0 ?_
    refine wpList_nil ?_
    refine wp_ret (Px (Lk (Px (Px (Lk (Px ?_))))))
    exact g_retM (.tuple #[S1,S1,V0 2]) K0 K0 (.inl ⟨Zdk (i:=i) hl M0 (fun q=>by unfold Ph at q;omega),rfl,hB⟩)
   ·have e6:=U2 e6
    refine wp_skip ?_
    refine wp_seq ?_
    refine wp_region_lit ?_
    refine Gg 3 [(27,.slice ps i cs),(28,V0 (l.getD i 0)),(29,V0 (if(3:Int)<(l.getD i 0) then(3:Int) else(l.getD i 0)))] K0 ?_
    refine Jh K0 (Yl 3 [V0 (if(3:Int)<(l.getD i 0) then(3:Int) else(l.getD i 0))] rfl K0 ?_)
    intro b6 W6 n6
    have i9:=Hg hs n6
    replace hB:=bln hB n6.i
    replace hs:=Zb hs n6.i
    replace ho:=Zb ho n6.i
    have k6:=n6.blk
    refine Jh K0 (Xd (e:=3) (n:=i) (xs:=(Zj (l.take i)).map V0) (m:=1) (news:=[V0 (if(3:Int)<(l.getD i 0) then(3:Int) else(l.getD i 0))]) (V0 0) 1 8 (i+1) ((Zj (l.take (i+1))).map V0) rfl Tryz.underlying27 K0 rfl Do K0 hs K0 (k6.sl 1 1 Do Do) rfl Y4 Y2 M0 hB.size Y6 (by rw[mn3_if,Zp3 M0,A6];rfl) ?_)
    intro p7 c7 W7 o7 m2 k9
    replace ho:=Zt ho m2 hs Do
    replace hB:=hB.trans k9
    refine Gg 1 [(5,.slice p7 (i+1) c7)] K0 ?_
    refine wpList_nil ?_
    refine wp_seq ?_
    refine wp_region_lit ?_
    refine Gg 2 [(32,V0 (l.getD i 0)),(33,.bool (decide ((l.getD i 0)≥(3:Int))))] K0 ?_
    refine wpList_nil ?_
    refine wp_cond_split (t:=decide ((l.getD i 0)≥(3:Int))) K0 (fun e8=>?_) (fun e8=>?_)
    ·have e8:=U1 e8
     refine wp_region_lit ?_
     refine Gg 3 [(34,.slice po ((Zp l i).length) co),(35,V0 (i:Int)),(36,V0 (l.getD i 0))] K0 ?_
     refine Jh K0 (Ks (lb:=#[]) 216 #[V0 (l.getD i 0)] rfl K0 (fun _ _=>by kernel_rfl) K0 ((Zj8 (l.getD i 0) M0 M0 _).mono ?_))
     rintro e W9 ⟨rfl,c0⟩
     refine⟨_,rfl,?_⟩
     replace hB:=bln hB c0
     replace ho:=Zb ho c0
     replace o7:=Zb o7 c0
     refine Gg 1 [(38,.agg #[V0 (i:Int),.string ⟨(leB (l.getD i 0) 4).toArray⟩,V0 0])] K0 ?_
     refine Jh K0 (Yl 124 [V0 (i:Int),.string ⟨(leB (l.getD i 0) 4).toArray⟩,V0 0] rfl K0 ?_)
     intro i3 n2 e7
     have h9:=Hg ho e7
     replace hB:=bln hB e7.i
     replace ho:=Zb ho e7.i
     replace o7:=Zb o7 e7.i
     have m1:=e7.blk
     refine Jh K0 (Xd (e:=124) (n:=(Zp l i).length) (xs:=(Zp l i).flatMap Ki) (m:=1) (news:=[V0 (i:Int),.string ⟨(leB (l.getD i 0) 4).toArray⟩,V0 0]) (.agg #[V0 0,.string ⟨#[]⟩,V0 0]) 3 32 ((Zp l (i+1)).length) ((Zp l (i+1)).flatMap Ki) rfl Tryz.underlying99 K0 rfl Do K0 ho K0 (m1.sl 1 1 Do Do) rfl Y4 (by have:=By l i;unfold maxLen;omega) (by have:=By l i;omega) hB.size (by rw[Mf M0];simp) (by rw[Mf M0];simp[Ki]) ?_)
     intro f5 f8 n0 l1 h4 i0
     replace o7:=Zt o7 h4 ho Do
     replace hB:=hB.trans i0
     refine Gg 1 [(6,.slice f5 ((Zp l (i+1)).length) f8)] K0 ?_
     refine wpList_nil ?_
     refine wp_region_lit ?_
     refine Jh K0 (Zyq .i64 ((i:Int)+1) (↑(i+1):Int) K0 ((show IntKind.i64.wrap ((i:Int)+1)=((i:Int)+1) from by first|exact IntWalk.i64_in _ M0|(simp only[IntKind.wrap];omega)).trans M0) ?_)
     refine Gg 1 [(16,V0 (↑(i+1):Int))] K0 ?_
     refine wpList_nil ?_
     refine g_nfr ⟨#[.slice a l.length c,undef,(x2 0),(x2 1),(x2 2),.slice p7 (i+1) c7,.slice f5 ((Zp l (i+1)).length) f8,V0 (i:Int),V0 (l.getD i 0),undef,undef,.slice a l.length c,V0 (l.length:Int),.bool (decide ((l.length:Int)>(65536:Int))),.slice a l.length c,V0 (l.length:Int),V0 (↑(i+1):Int),.bool (decide ((i:Int)<(l.length:Int))),V0 (i:Int),.pointer (some (Zx a (i*1))),V0 (l.getD i 0),V0 (l.getD i 0),.bool false,.bool false,V0 (l.getD i 0),.bool (decide ((l.getD i 0)>(2147483647:Int))),.bool (decide ((l.getD i 0)>(2147483647:Int))),.slice ps i cs,V0 (l.getD i 0),V0 (if(3:Int)<(l.getD i 0) then(3:Int) else(l.getD i 0)),.slice (S3 b6) 1 1,.slice p7 (i+1) c7,V0 (l.getD i 0),.bool (decide ((l.getD i 0)≥(3:Int))),.slice po ((Zp l i).length) co,V0 (i:Int),V0 (l.getD i 0),.string ⟨(leB (l.getD i 0) 4).toArray⟩,.agg #[V0 (i:Int),.string ⟨(leB (l.getD i 0) 4).toArray⟩,V0 0],.slice (S3 i3) 1 1,.slice f5 ((Zp l (i+1)).length) f8,V0 (↑(i+1):Int),undef,undef,undef,undef,undef,undef,undef,undef,undef,undef],[]⟩ K0 ?_
     refine⟨⟨i+1,_,_,_,_,(pk [(x2 0),(x2 1),(x2 2),V0 (i:Int),V0 (l.getD i 0),.bool (decide ((i:Int)<(l.length:Int))),V0 (i:Int),.pointer (some (Zx a (i*1))),V0 (l.getD i 0),V0 (l.getD i 0),.bool false,.bool false,V0 (l.getD i 0),.bool (decide ((l.getD i 0)>(2147483647:Int))),.bool (decide ((l.getD i 0)>(2147483647:Int))),.slice ps i cs,V0 (l.getD i 0),V0 (if(3:Int)<(l.getD i 0) then(3:Int) else(l.getD i 0)),.slice (S3 b6) 1 1,.slice p7 (i+1) c7,V0 (l.getD i 0),.bool (decide ((l.getD i 0)≥(3:Int))),.slice po ((Zp l i).length) co,V0 (i:Int),V0 (l.getD i 0),.string ⟨(leB (l.getD i 0) 4).toArray⟩,.agg #[V0 (i:Int),.string ⟨(leB (l.getD i 0) 4).toArray⟩,V0 0],.slice (S3 i3) 1 1,.slice f5 ((Zp l (i+1)).length) f8,V0 (↑(i+1):Int)]),rfl,hB,o7,l1,M0,fun j hj=>(F0 j i).elim (hz j) (fun q=>by obtain rfl:j=i:=M0;exact⟨M0,M0⟩)⟩,?_⟩
     show l.length-((↑(i+1):Int)).toNat<l.length-((i:Int)).toNat
     omega
    ·have e8:=U2 e8
     refine wp_skip ?_
     refine wp_region_lit ?_
     refine Jh K0 (Zyq .i64 ((i:Int)+1) (↑(i+1):Int) K0 ((show IntKind.i64.wrap ((i:Int)+1)=((i:Int)+1) from by first|exact IntWalk.i64_in _ M0|(simp only[IntKind.wrap];omega)).trans M0) ?_)
     refine Gg 1 [(16,V0 (↑(i+1):Int))] K0 ?_
     refine wpList_nil ?_
     refine g_nfr ⟨#[.slice a l.length c,undef,(x2 0),(x2 1),(x2 2),.slice p7 (i+1) c7,.slice po ((Zp l i).length) co,V0 (i:Int),V0 (l.getD i 0),undef,undef,.slice a l.length c,V0 (l.length:Int),.bool (decide ((l.length:Int)>(65536:Int))),.slice a l.length c,V0 (l.length:Int),V0 (↑(i+1):Int),.bool (decide ((i:Int)<(l.length:Int))),V0 (i:Int),.pointer (some (Zx a (i*1))),V0 (l.getD i 0),V0 (l.getD i 0),.bool false,.bool false,V0 (l.getD i 0),.bool (decide ((l.getD i 0)>(2147483647:Int))),.bool (decide ((l.getD i 0)>(2147483647:Int))),.slice ps i cs,V0 (l.getD i 0),V0 (if(3:Int)<(l.getD i 0) then(3:Int) else(l.getD i 0)),.slice (S3 b6) 1 1,.slice p7 (i+1) c7,V0 (l.getD i 0),.bool (decide ((l.getD i 0)≥(3:Int))),(x2 22),(x2 23),(x2 24),(x2 25),(x2 26),(x2 27),(x2 28),V0 (↑(i+1):Int),undef,undef,undef,undef,undef,undef,undef,undef,undef,undef],[]⟩ K0 ?_
     refine g_nfr ⟨#[.slice a l.length c,undef,(x2 0),(x2 1),(x2 2),.slice p7 (i+1) c7,.slice po ((Zp l (i+1)).length) co,V0 (i:Int),V0 (l.getD i 0),undef,undef,.slice a l.length c,V0 (l.length:Int),.bool (decide ((l.length:Int)>(65536:Int))),.slice a l.length c,V0 (l.length:Int),V0 (↑(i+1):Int),.bool (decide ((i:Int)<(l.length:Int))),V0 (i:Int),.pointer (some (Zx a (i*1))),V0 (l.getD i 0),V0 (l.getD i 0),.bool false,.bool false,V0 (l.getD i 0),.bool (decide ((l.getD i 0)>(2147483647:Int))),.bool (decide ((l.getD i 0)>(2147483647:Int))),.slice ps i cs,V0 (l.getD i 0),V0 (if(3:Int)<(l.getD i 0) then(3:Int) else(l.getD i 0)),.slice (S3 b6) 1 1,.slice p7 (i+1) c7,V0 (l.getD i 0),.bool (decide ((l.getD i 0)≥(3:Int))),(x2 22),(x2 23),(x2 24),(x2 25),(x2 26),(x2 27),(x2 28),V0 (↑(i+1):Int),undef,undef,undef,undef,undef,undef,undef,undef,undef,undef],[]⟩ (by rw[Wc M0]) ?_
     refine⟨⟨i+1,_,_,_,_,(pk [(x2 0),(x2 1),(x2 2),V0 (i:Int),V0 (l.getD i 0),.bool (decide ((i:Int)<(l.length:Int))),V0 (i:Int),.pointer (some (Zx a (i*1))),V0 (l.getD i 0),V0 (l.getD i 0),.bool false,.bool false,V0 (l.getD i 0),.bool (decide ((l.getD i 0)>(2147483647:Int))),.bool (decide ((l.getD i 0)>(2147483647:Int))),.slice ps i cs,V0 (l.getD i 0),V0 (if(3:Int)<(l.getD i 0) then(3:Int) else(l.getD i 0)),.slice (S3 b6) 1 1,.slice p7 (i+1) c7,V0 (l.getD i 0),.bool (decide ((l.getD i 0)≥(3:Int))),(x2 22),(x2 23),(x2 24),(x2 25),(x2 26),(x2 27),(x2 28),V0 (↑(i+1):Int)]),rfl,hB,o7,(by rw[Wc M0];exact ho),M0,fun j hj=>(F0 j i).elim (hz j) (fun q=>by obtain rfl:j=i:=M0;exact⟨M0,M0⟩)⟩,?_⟩
     show l.length-((↑(i+1):Int)).toNat<l.length-((i:Int)).toNat
     omega
 ·have f2:=U2 f2
  refine wp_exit ?_
  refine Zhx ?_
  refine Zhx ?_
  refine Zkx ?_
  refine wp_seq ?_
  refine wp_region_lit ?_
  refine Jh K0 (Jw [S1] rfl K0 ?_)
  intro b3 n1 f1
  have k5:=f1.ge hB
  replace hB:=bln hB f1.i
  replace hs:=Zb hs f1.i
  replace ho:=Zb ho f1.i
  have c3:=f1.blk
  refine wpList_nil ?_
  refine wp_seq ?_
  refine wp_seq ?_
  refine wp_region_lit ?_
  refine Gg 1 [(42,.slice ps i cs)] K0 ?_
  refine Jh K0 (Ks (lb:=#[]) 217 #[.slice ps i cs,V0 960] rfl K0 (fun _ _=>by kernel_rfl) K0 ((Zim ps i cs _).mono ?_))
  rintro e c9 ⟨b1,b2,rfl,c5,m6,m7,m0,d6,e2⟩
  refine⟨_,rfl,?_⟩
  replace hB:=bln hB c5
  replace c3:=c3.i c5
  replace hs:=Zb hs c5
  replace ho:=Zb ho c5
  refine wpList_nil ?_
  refine wp_block ?_
  have k8:i=l.length:=M0
  obtain⟨g,hv⟩:=row_or hs
  have l7:=Zkt b1 b2 (fun b=>b<c9.heap.size∧b≠b3) g 0 i cs (.slice ps i cs) c9 (fun b h=>h.1) ⟨d6.lt,(by rintro rfl;exact absurd (d6.ty c3) Do)⟩ ⟨e2.lt,(by rintro rfl;exact absurd (e2.ty c3) Do)⟩ M0 hv (d6.cell (i:=0) rfl) (e2.cell (i:=0) rfl)
  refine Zzm ⟨#[.slice a l.length c,undef,(x2 0),(x2 1),(x2 2),.slice ps i cs,.slice po ((Zp l i).length) co,(x2 3),(x2 4),P0 b3,undef,.slice a l.length c,V0 (l.length:Int),.bool (decide ((l.length:Int)>(65536:Int))),.slice a l.length c,V0 (l.length:Int),V0 (i:Int),.bool (decide ((i:Int)<(l.length:Int))),(x2 6),(x2 7),(x2 8),(x2 9),(x2 10),(x2 11),(x2 12),(x2 13),(x2 14),(x2 15),(x2 16),(x2 17),(x2 18),(x2 19),(x2 20),(x2 21),(x2 22),(x2 23),(x2 24),(x2 25),(x2 26),(x2 27),(x2 28),(x2 29),.slice ps i cs,.func (.func 261) #[] #[P0 b1,P0 b2],undef,undef,undef,undef,undef,undef,undef,undef],[]⟩ K0 ?_
  refine Zfr (g:=.tmp 43) (gf:=261) (lb:=#[P0 b1,P0 b2]) rfl (enters_of Tryz.func261 K0 rfl) _ (fun b h=>h.1) l7 (fun _=>rfl)
   (fun a0 W=>(∃ pb cb gs,gs.length=a0.length∧Blk W b3 [.slice pb (Ns (Zj (l.take i)) a0).length cb] 225∧Lists W c9.heap.size (.slice pb (Ns (Zj (l.take i)) a0).length cb) gs (Ns (Zj (l.take i)) a0))∧BelowBut c9 b3 W)
   (fun _ _ _=>False) ?own (fun _ _ _ _ _ h _ _=>h) ⟨⟨none,0,[],rfl,c3,⟨A8 _ _ _ _,fun i hi=>absurd hi (Nat.not_lt_zero _)⟩⟩,(U3 _ _).j2 _⟩
   (fun x a' _=>a'={ tmps:=#[.slice a l.length c,undef,(x2 0),(x2 1),(x2 2),.slice ps i cs,.slice po ((Zp l i).length) co,(x2 3),(x2 4),P0 b3,.slice (some ⟨g,0+x.val*960,none⟩) (min 960 (i-x.val*960)) (min 960 (i-x.val*960)),.slice a l.length c,V0 (l.length:Int),.bool (decide ((l.length:Int)>(65536:Int))),.slice a l.length c,V0 (l.length:Int),V0 (i:Int),.bool (decide ((i:Int)<(l.length:Int))),(x2 6),(x2 7),(x2 8),(x2 9),(x2 10),(x2 11),(x2 12),(x2 13),(x2 14),(x2 15),(x2 16),(x2 17),(x2 18),(x2 19),(x2 20),(x2 21),(x2 22),(x2 23),(x2 24),(x2 25),(x2 26),(x2 27),(x2 28),(x2 29),.slice ps i cs,.func (.func 261) #[] #[P0 b1,P0 b2],.slice (some ⟨g,0+x.val*960,none⟩) (min 960 (i-x.val*960)) (min 960 (i-x.val*960)),undef,undef,undef,undef,undef,undef,undef],defers:=[] }) (fun _ _ _ _ _ _ h _ _=>h) ?assign ?body ?done (fun _ _ _ _ _ _ h _=>h.elim)
  case own=>exact OwnFrom.and (Own.from (fun s A B m4 hs hg hr=>by obtain⟨pb,cb,gs,h0,h1,h2⟩:=hs;exact⟨pb,cb,gs,h0,h1.a6 hg hr,h2.a6 hg hr⟩) _) (Zbt (At _))
  case assign =>
   rintro lr a0 x W K hI hK
   unfold encK
   gi_wp2
   refine hK _ _ (KeepsFrom.refl _ _) (Keeps.refl _ _) hI ?_
   simp only[k8,F5,V9 (show ¬ ((l.length:Int)>65536) by omega),Int.lt_irrefl,decide_false]
  case body =>
   rintro lr a0 x a' W m5 ⟨⟨pb,cb,gs,e1,m9,hL⟩,e4⟩ rfl m8
   have hx:=bmN_lt x.isLt
   have l0:=hv.resolve_left (fun q=>by omega)
   have a2:=e4.j hs c3 Do
   rw[l0.1] at a2
   obtain⟨m,hm⟩:∃ m,min 960 (i-x.val*960)=m:=⟨_,rfl⟩
   rw[hm]
   have e9:0<m:=M0
   have j5:x.val*960+m≤i:=M0
   have f7:(Zj (l.take i)).length=i:=by simp[Zj];omega
   have d2:(Yv (Zj (l.take i)) x.val).length=m:=by rw[Mg,f7];exact hm
   have i2:(((Zj (l.take i)).map V0).drop (x.val*960)).take m=(Yv (Zj (l.take i)) x.val).map V0:=by rw[←L9,←I8];unfold Yv;rw[show((Zj (l.take i)).drop (x.val*960)).take m=((Zj (l.take i)).drop (x.val*960)).take 960 from by rw[P6,L3,f7];omega]
   have h6:(Ns (Zj (l.take i)) a0).length=a0.length:=by simp[Ns]
   have m3:a0.length≤69:=by have:bmN i≤69:=(by unfold bmN;omega);omega
   have a1:=hL.row
   have hE:Ztb W c9.heap.size gs (Ns (Zj (l.take i)) a0):=hL.each
   have hZ:RdZ c9 b3 W W:=RdZ.refl e4
   have a7:c9.heap.size≤W.heap.size:=e4.size
   have a3:w.heap.size≤c9.heap.size:=hB.size
   have c0:=k5
   refine wpIn_block ?_
   have hB:=blB (U3 w.heap.size W) (N0 a3 a7) (Za W)
   replace m9:=m9.i (Za W)
   replace a2:=Zb a2 (Za W)
   replace a1:=Zb a1 (Za W)
   replace hE:=hE.i (Za W)
   replace hZ:=hZ.i (Za W)
   refine Zvr (fun V=>Below w.heap.size (W.drew) V∧Zd [225,27] (W.drew) V) 6 rfl #[false,false,false,false,false,false] rfl K0 (fun⟨_,_,q⟩=>q) Y5 ⟨U3 _ _,Zd.refl _ _⟩ ?_
   intro c4
   have a8:=hB
   refine Zwv [1] 5 rfl #[false,true,false,false,false,false] [(46,.slice (some ⟨g,0+x.val*960,none⟩) m m)] K0 (fun _ _ _ _ _ h=>h) K0 c4 ?_
   refine Zu0 0 2 4 rfl K0 rfl rfl K0 K0 ?_ ?_
   ·refine Qd ⟨b3,0,none⟩ (.slice pb ((Ns (Zj (l.take i)) a0).length) cb) rfl K0 K0 (m9.cell (i:=0) rfl) ?_
    have d7:Below w.heap.size (W.drew) (W.drew)∧Zd [225,27] (W.drew) (W.drew):=c4
    refine⟨d7,?_⟩
    have g9:W.heap.size≤(W.drew).heap.size:=hB.size
    refine Wa 2 3 rfl K0 rfl K0 (Ks (lb:=#[]) 135 #[.slice (some ⟨g,0+x.val*960,none⟩) m m] rfl K0 (fun _ _=>by kernel_rfl) K0 ((Fv ⟨g,0+x.val*960,none⟩ m m ((Yv (Zj (l.take i)) x.val).map V0) _ (i2▸Sl.h6 (Zf a2) (by rw[A3];exact f7) (x.val*960) m e9 j5) (by rw[A3];exact d2) (fun u hu=>by obtain⟨y,_,rfl⟩:=List.mem_map.1 hu;rfl) M0).mono ?_))
    rintro e j2 ⟨_,rfl,a6,q,c2,rfl,hq⟩
    refine⟨_,rfl,?_⟩
    replace hB:=blB hB (N0 a3 a7) a6
    replace m9:=m9.i a6
    replace a2:=Zb a2 a6
    replace a1:=Zb a1 a6
    replace hE:=hE.i a6
    replace hZ:=hZ.i a6
    replace hq:=Zg hq g9
    have c6:Below w.heap.size (W.drew) (j2)∧Zd [225,27] (W.drew) (j2):=⟨blB d7.1 (N0 (N0 a3 a7) a8.size) a6,d7.2.trans (Q0 a6)⟩
    refine⟨c6,?_⟩
    refine Wa 3 2 rfl K0 rfl K0 (Yl 27 [.slice q m c2] rfl K0 ?_)
    intro l9 j8 b5
    have g5:(W.drew).heap.size≤l9:=by have:=c6.1.size;have:=b5.at_;omega
    replace hB:=blB hB (N0 a3 a7) b5.i
    replace m9:=m9.i b5.i
    replace a2:=Zb a2 b5.i
    replace a1:=Zb a1 b5.i
    replace hE:=hE.i b5.i
    replace hZ:=hZ.i b5.i
    replace hq:=Zb hq b5.i
    have l3:=b5.blk
    have e3:Below w.heap.size (W.drew) (j8)∧Zd [225,27] (W.drew) (j8):=⟨blB c6.1 (N0 (N0 a3 a7) a8.size) b5.i,c6.2.trans (Q0 b5.i)⟩
    refine⟨e3,?_⟩
    refine Wa 4 1 rfl K0 rfl K0 (Xd (e:=27) (n:=(Ns (Zj (l.take i)) a0).length) (xs:=(range (Ns (Zj (l.take i)) a0).length).map (Zbx gs (Ns (Zj (l.take i)) a0))) (m:=1) (news:=[.slice q m c2]) (S1) 1 24 ((Ns (Zj (l.take i)) a0).length+1) ((range (Ns (Zj (l.take i)) a0).length).map (Zbx gs (Ns (Zj (l.take i)) a0))++[.slice q m c2]) rfl Tryz.underlying225 K0 rfl Do K0 a1 K0 (l3.sl 1 1 Do Do) rfl Y4 Y2 M0 (N0 a7 hZ.le) Y5 Y5 ?_)
    intro i8 i7 k1 g1 b4 e5
    replace m9:=m9.grown b4 a1 Do
    replace a2:=Zt a2 b4 a1 Do
    replace hE:=hE.q (Q4 (T:=[27]) b4 a1 Do) Do
    replace hZ:=hZ.grown b4 a1
    replace hq:=Zt hq b4 a1 Do
    replace hB:=hB.trans (e5.mono a3)
    have e0:Below w.heap.size (W.drew) (k1)∧Zd [225,27] (W.drew) (k1):=⟨e3.1.trans (e5.mono a3),e3.2.trans (Q4 b4 a1 Do)⟩
    refine⟨e0,?_⟩
    refine Wa 5 0 rfl K0 rfl K0 (Kk (v:=.slice i8 ((Ns (Zj (l.take i)) a0).length+1) i7) (b:=b3) (off:=0) rfl K0 K0 K0 rfl m9 (by first|decide|simp) ?_)
    intro i4 d1 j0
    change Blk _ _ [.slice i8 ((Ns (Zj (l.take i)) a0).length+1) i7] _ at j0
    replace hB:=d1.i hB c0
    replace a2:=d1.j a2 m9 Do
    replace hE:=hE.q (Q1 (T:=[225]) d1 m9 Do) Do
    replace hZ:=hZ.I d1 m9
    replace hq:=d1.j hq m9 Do
    replace g1:=d1.j g1 m9 Do
    have h5:Below w.heap.size (W.drew) (i4)∧Zd [225,27] (W.drew) (i4):=⟨d1.i e0.1 c0,e0.2.trans (Q1 d1 m9 Do)⟩
    refine⟨h5,?_⟩
    refine Te _ K0 ?_
    obtain⟨g2,rfl,j1⟩:=Nr hq e9
    rw[←d2] at hq
    have a4:=g1
    rw[←d2] at a4
    have hS:=Lists.a8 (n:=(Ns (Zj (l.take i)) a0).length+1) rfl a4 hE (Zg hq a7) (by rw[e1,h6])
    exact⟨hZ.ko.from _,⟨hZ.le,fun b hb=>hZ.fr b hb.1 hb.2⟩,⟨_,_,gs++[(g2,_)],by simp[e1],by rw[Mc,A1];exact j0,by rw[Mc,A1];exact hS⟩,hZ.bb⟩
   ·have g8:W.heap.size≤(W.drew).heap.size:=hB.size
    refine Ks (lb:=#[]) 135 #[.slice (some ⟨g,0+x.val*960,none⟩) m m] rfl K0 (fun _ _=>by kernel_rfl) K0 ((Fv ⟨g,0+x.val*960,none⟩ m m ((Yv (Zj (l.take i)) x.val).map V0) _ (i2▸Sl.h6 (Zf a2) (by rw[A3];exact f7) (x.val*960) m e9 j5) (by rw[A3];exact d2) (fun u hu=>by obtain⟨y,_,rfl⟩:=List.mem_map.1 hu;rfl) M0).mono ?_)
    rintro e f6 ⟨_,rfl,a5,q,c2,rfl,hq⟩
    refine⟨_,rfl,?_⟩
    replace hB:=blB hB (N0 a3 a7) a5
    replace m9:=m9.i a5
    replace a2:=Zb a2 a5
    replace a1:=Zb a1 a5
    replace hE:=hE.i a5
    replace hZ:=hZ.i a5
    replace hq:=Zg hq g8
    have b9:Below w.heap.size (W.drew) (f6)∧Zd [225,27] (W.drew) (f6):=⟨blB c4.1 (N0 (N0 a3 a7) a8.size) a5,c4.2.trans (Q0 a5)⟩
    refine⟨b9,?_⟩
    refine Zu0 0 3 3 rfl K0 rfl rfl K0 K0 ?_ ?_
    ·refine Qd ⟨b3,0,none⟩ (.slice pb ((Ns (Zj (l.take i)) a0).length) cb) rfl K0 K0 (m9.cell (i:=0) rfl) ?_
     have c1:Below w.heap.size (W.drew) (f6)∧Zd [225,27] (W.drew) (f6):=b9
     refine⟨c1,?_⟩
     refine Wa 3 2 rfl K0 rfl K0 (Yl 27 [.slice q m c2] rfl K0 ?_)
     intro l2 k4 b8
     have g6:(W.drew).heap.size≤l2:=by have:=c1.1.size;have:=b8.at_;omega
     replace hB:=blB hB (N0 a3 a7) b8.i
     replace m9:=m9.i b8.i
     replace a2:=Zb a2 b8.i
     replace a1:=Zb a1 b8.i
     replace hE:=hE.i b8.i
     replace hZ:=hZ.i b8.i
     replace hq:=Zb hq b8.i
     have l8:=b8.blk
     have d5:Below w.heap.size (W.drew) (k4)∧Zd [225,27] (W.drew) (k4):=⟨blB c1.1 (N0 (N0 a3 a7) a8.size) b8.i,c1.2.trans (Q0 b8.i)⟩
     refine⟨d5,?_⟩
     refine Wa 4 1 rfl K0 rfl K0 (Xd (e:=27) (n:=(Ns (Zj (l.take i)) a0).length) (xs:=(range (Ns (Zj (l.take i)) a0).length).map (Zbx gs (Ns (Zj (l.take i)) a0))) (m:=1) (news:=[.slice q m c2]) (S1) 1 24 ((Ns (Zj (l.take i)) a0).length+1) ((range (Ns (Zj (l.take i)) a0).length).map (Zbx gs (Ns (Zj (l.take i)) a0))++[.slice q m c2]) rfl Tryz.underlying225 K0 rfl Do K0 a1 K0 (l8.sl 1 1 Do Do) rfl Y4 Y2 M0 (N0 a7 hZ.le) Y5 Y5 ?_)
     intro j3 k7 j4 h3 a9 f0
     replace m9:=m9.grown a9 a1 Do
     replace a2:=Zt a2 a9 a1 Do
     replace hE:=hE.q (Q4 (T:=[27]) a9 a1 Do) Do
     replace hZ:=hZ.grown a9 a1
     replace hq:=Zt hq a9 a1 Do
     replace hB:=hB.trans (f0.mono a3)
     have d4:Below w.heap.size (W.drew) (j4)∧Zd [225,27] (W.drew) (j4):=⟨d5.1.trans (f0.mono a3),d5.2.trans (Q4 a9 a1 Do)⟩
     refine⟨d4,?_⟩
     refine Wa 5 0 rfl K0 rfl K0 (Kk (v:=.slice j3 ((Ns (Zj (l.take i)) a0).length+1) k7) (b:=b3) (off:=0) rfl K0 K0 K0 rfl m9 (by first|decide|simp) ?_)
     intro i6 d0 i1
     change Blk _ _ [.slice j3 ((Ns (Zj (l.take i)) a0).length+1) k7] _ at i1
     replace hB:=d0.i hB c0
     replace a2:=d0.j a2 m9 Do
     replace hE:=hE.q (Q1 (T:=[225]) d0 m9 Do) Do
     replace hZ:=hZ.I d0 m9
     replace hq:=d0.j hq m9 Do
     replace h3:=d0.j h3 m9 Do
     have h8:Below w.heap.size (W.drew) (i6)∧Zd [225,27] (W.drew) (i6):=⟨d0.i d4.1 c0,d4.2.trans (Q1 d0 m9 Do)⟩
     refine⟨h8,?_⟩
     refine Te _ K0 ?_
     obtain⟨g2,rfl,j1⟩:=Nr hq e9
     rw[←d2] at hq
     have a4:=h3
     rw[←d2] at a4
     have hS:=Lists.a8 (n:=(Ns (Zj (l.take i)) a0).length+1) rfl a4 hE (Zg hq a7) (by rw[e1,h6])
     exact⟨hZ.ko.from _,⟨hZ.le,fun b hb=>hZ.fr b hb.1 hb.2⟩,⟨_,_,gs++[(g2,_)],by simp[e1],by rw[Mc,A1];exact i1,by rw[Mc,A1];exact hS⟩,hZ.bb⟩
    ·refine Yl 27 [.slice q m c2] rfl K0 ?_
     intro l6 f9 b7
     have g7:(W.drew).heap.size≤l6:=by have:=b9.1.size;have:=b7.at_;omega
     replace hB:=blB hB (N0 a3 a7) b7.i
     replace m9:=m9.i b7.i
     replace a2:=Zb a2 b7.i
     replace a1:=Zb a1 b7.i
     replace hE:=hE.i b7.i
     replace hZ:=hZ.i b7.i
     replace hq:=Zb hq b7.i
     have l5:=b7.blk
     have f4:Below w.heap.size (W.drew) (f9)∧Zd [225,27] (W.drew) (f9):=⟨blB b9.1 (N0 (N0 a3 a7) a8.size) b7.i,b9.2.trans (Q0 b7.i)⟩
     refine⟨f4,?_⟩
     refine Wa 0 2 rfl K0 rfl K0 (Qd ⟨b3,0,none⟩ (.slice pb ((Ns (Zj (l.take i)) a0).length) cb) rfl K0 K0 (m9.cell (i:=0) rfl) ?_)
     have d3:Below w.heap.size (W.drew) (f9)∧Zd [225,27] (W.drew) (f9):=f4
     refine⟨d3,?_⟩
     refine Wa 4 1 rfl K0 rfl K0 (Xd (e:=27) (n:=(Ns (Zj (l.take i)) a0).length) (xs:=(range (Ns (Zj (l.take i)) a0).length).map (Zbx gs (Ns (Zj (l.take i)) a0))) (m:=1) (news:=[.slice q m c2]) (S1) 1 24 ((Ns (Zj (l.take i)) a0).length+1) ((range (Ns (Zj (l.take i)) a0).length).map (Zbx gs (Ns (Zj (l.take i)) a0))++[.slice q m c2]) rfl Tryz.underlying225 K0 rfl Do K0 a1 K0 (l5.sl 1 1 Do Do) rfl Y4 Y2 M0 (N0 a7 hZ.le) Y5 Y5 ?_)
     intro j7 k3 j6 g0 b0 f3
     replace m9:=m9.grown b0 a1 Do
     replace a2:=Zt a2 b0 a1 Do
     replace hE:=hE.q (Q4 (T:=[27]) b0 a1 Do) Do
     replace hZ:=hZ.grown b0 a1
     replace hq:=Zt hq b0 a1 Do
     replace hB:=hB.trans (f3.mono a3)
     have d9:Below w.heap.size (W.drew) (j6)∧Zd [225,27] (W.drew) (j6):=⟨d3.1.trans (f3.mono a3),d3.2.trans (Q4 b0 a1 Do)⟩
     refine⟨d9,?_⟩
     refine Wa 5 0 rfl K0 rfl K0 (Kk (v:=.slice j7 ((Ns (Zj (l.take i)) a0).length+1) k3) (b:=b3) (off:=0) rfl K0 K0 K0 rfl m9 (by first|decide|simp) ?_)
     intro i5 c8 k0
     change Blk _ _ [.slice j7 ((Ns (Zj (l.take i)) a0).length+1) k3] _ at k0
     replace hB:=c8.i hB c0
     replace a2:=c8.j a2 m9 Do
     replace hE:=hE.q (Q1 (T:=[225]) c8 m9 Do) Do
     replace hZ:=hZ.I c8 m9
     replace hq:=c8.j hq m9 Do
     replace g0:=c8.j g0 m9 Do
     have g3:Below w.heap.size (W.drew) (i5)∧Zd [225,27] (W.drew) (i5):=⟨c8.i d9.1 c0,d9.2.trans (Q1 c8 m9 Do)⟩
     refine⟨g3,?_⟩
     refine Te _ K0 ?_
     obtain⟨g2,rfl,j1⟩:=Nr hq e9
     rw[←d2] at hq
     have a4:=g0
     rw[←d2] at a4
     have hS:=Lists.a8 (n:=(Ns (Zj (l.take i)) a0).length+1) rfl a4 hE (Zg hq a7) (by rw[e1,h6])
     exact⟨hZ.ko.from _,⟨hZ.le,fun b hb=>hZ.fr b hb.1 hb.2⟩,⟨_,_,gs++[(g2,_)],by simp[e1],by rw[Mc,A1];exact k0,by rw[Mc,A1];exact hS⟩,hZ.bb⟩
  case done =>
   rintro D xs W hD rfl ⟨⟨pb,cb,gs,e1,m9,hL⟩,e4⟩ k2
   rw[preC_all] at m9 hL
   have hK:Dfr D W:=k2;clear k2
   subst k8
   rw[L4] at m9 hL
   rw[Wu] at m9 hL
   refine Zks ?_
   have l4:=hB
   replace hB:=e4.i hB k5 hB.size
   have j9:=e4.j ho c3 Do
   have a3:=l4.size
   replace c3:=m9
   refine wp_seq ?_
   refine wp_region_lit ?_
   refine Jh K0 (Qd ⟨b3,0,none⟩ (.slice pb (bmN l.length) cb) rfl K0 K0 (c3.cell (i:=0) rfl) ?_)
   refine Gg 4 [(51,.slice po ((Zp l l.length).length) co),(2,.slice pb (bmN l.length) cb),(3,.slice po ((Zp l l.length).length) co),(4,V0 0)] K0 ?_
   refine wpList_nil ?_
   refine wp_ret ?_
   exact Zi2 hK (.tuple #[.slice pb (bmN l.length) cb,.slice po ((Zp l l.length).length) co,V0 0]) K0 K0 (.inr ⟨Zk4 hl (fun k hk=>hz k M0),_,_,gs,_,_,rfl,(Q7 _ _ _).i hB (N0 a3 hD),(hL.mono a3).put (Q7 _ _ _) hK,(Q7 _ _ _).O j9 (hK.row j9)⟩)
end
section
attribute [local irreducible] wpList wpAnyH Code.wp Oper.wp Go
def LayPost(B ba b g nn cc:Nat)(pa:O0)(ca f N k0:Nat)(bs:Bl)(bl:Nat)(L:V6 (V6 Int))(w:V1)(e:V5)(w':V1):Prop :=
 ∃ p c,e=.returned .nilIface∧Below B w w'∧Zd [169,5,99,124] w w'∧Fr [ba,g,bl] w w'∧Al B ba b g nn cc pa ca f N (k0+L.length) (Xt L (f+k0) bs L.length) w'∧Blk w' bl [.slice p L.length c] 99∧w'.ownsRow w.heap.size 124 3 (.slice p L.length c) L.length ((Xl L (f+k0) L.length).flatMap Ki)
theorem Zvj(B ba b g nn cc:Nat)(pa:O0)(ca f N k0:Nat)(bs:Bl)(bl B2:Nat)(pl:O0)(cl:Nat)(gs:V6 (Nat×Nat))(L:V6 (V6 Int))(w:V1)(hC:AlC B ba nn cc ca f N)(hA:Al B ba b g nn cc pa ca f N k0 bs w)(hL:Lists w B2 (.slice pl L.length cl) gs L)(hS:∀ i,i<L.length→Uo (L.getD i [])∧(L.getD i []).length≤960)(hf1:1≤f)(hk:k0+L.length≤N)(kl:Blk w bl [S1] 99)(hBl:B≤bl)(hBw:B≤w.heap.size) :
 C0 154 #[P0 ba,.slice pl L.length cl,.func (.func 155) #[] #[P0 bl]] w (LayPost B ba b g nn cc pa ca f N k0 bs bl L w):=by
 have d3:=hC.hf
 have d4:=hC.hn
 refine zin 51 Tryz.func154 ?_
 have hB:=U3 B w
 refine zl 14 51 (fun zm c3 V=>∃ (i:Nat) (p:O0) (c:Nat),c3=[(0,P0 ba),(2,.func (.func 155) #[] #[P0 bl]),(15,.slice pl L.length cl),(16,V0 (L.length:Int)),(17,V0 (i:Int))]∧zm=L.length-((i:Int)).toNat∧Below B w V∧Fr [ba,g,bl] w V∧Zd [169,5,99,124] w V∧Blk V bl ([.slice p i c]) 99∧Al B ba b g nn cc pa ca f N (k0+i) (Xt L (f+k0) bs i) V∧Lists V B2 (.slice pl L.length cl) gs L∧V.ownsRow w.heap.size 124 3 (.slice p i c) i ((Xl L (f+k0) i).flatMap Ki)∧i≤L.length) ⟨0,none,0,rfl,rfl,hB,(Fr.refl _ _),(Zd.refl _ _),kl,hA,hL,A8 _ _ _ _,A5 _⟩ ?_
 rintro _ _ W1 ⟨i,p,c,rfl,rfl,a5,a8,b1,a1,hA,hL,b2,hi⟩ J1 c2 r1
 refine xid 6 ((i:Int)<(L.length:Int)) (fun d2=>?_) (fun d2=>?_)
 ·refine xx 6 _ L.length i 1 (Lists.elem hL rfl (k:=i) M0).1 ?_
  refine xl 0 ((Lists.elem hL rfl (k:=i) M0).2) ?_
  refine xc 6 (args:=#[.slice (some ⟨(gs.getD i (0,0)).1,0,none⟩) ((L.getD i []).length) ((gs.getD i (0,0)).2)]) (Znk _ _ (L.getD i []) _ (hS i M0).1 (hS i M0).2 (Zf (hL.each i M0))) ?_
  rintro _ W3 ⟨_,rfl,a4,g6,rfl,h6⟩
  have b7:=hA.i a4
  have a6:=b1.trans (Q0 a4)
  have b9:=Zg h6 a5.size
  have a9:=blB a5 hBw a4
  refine xc 21 (args:=#[P0 ba,V0 3,.slice (S3 g6) 244 244]) (Cz B ba b g nn cc pa ca f N (k0+i) (Xt L (f+k0) bs i) 3 (S3 g6) 244 (Jr (L.getD i [])) (f+k0+i) 244 _ (F2 _ _ _).symm (Vj _ _) hC b7 M0 Do Do (fun W _ a6=>Vr (Zf (Zi b9 a6 Do)) (Vj _ _)) Do (N0 hBw a9.size)) ?_
  rintro _ W4 ⟨rfl,c8,b3,c5,hA⟩
  have b0:=(hL.i a4).q b3 Do
  refine xr 20 (args:=#[.slice (some ⟨(gs.getD i (0,0)).1,0,none⟩) ((L.getD i []).length) ((gs.getD i (0,0)).2)]) (Za1 _ _ (L.getD i []) _ (hS i M0).2 (Zf (b0.each i M0))) fun W5 a3=>?_
  have c7:Yn (L.getD i [])≤960:=N0 (Mt _ _) (hS i M0).2
  have c4:Xi (L.getD i [])≤960:=N0 (Nv _) (hS i M0).2
  have a2:=blB (a9.trans c8) hBw a3
  have a0:=((a1.i a4).q b3 Do).i a3
  have a7:=Zb (Zi (Zb b2 a4) b3 Do) a3
  refine xc 13 (Zqm B w.heap.size bl p c L (f+k0) i _ hBw a2.size (N0 hBw a2.size) hBl a0 a7 M0 M0 M0 c7 c4) ?_
  rintro _ W6 ⟨_,p9,c9,rfl,d0,b5,c6,b2,d1⟩
  refine xwm 4 ((i:Int)+1) (↑(i+1):Int) ?_
  have c1:=(hA.i a3).q b5 Do
  have b8:=(b0.i a3).q b5 Do
  have c0:=a2.trans d0
  have b6:=(Fr.d2 (((a8.trans (Q2 a4)).trans (c5.mono Y5)).trans (Q2 a3)) d1 Y5)
  have b4:=((a6.trans (b3.wide)).trans (Q0 a3)).trans (b5.wide)
  exact ze 2 (c2 _ _ _ ⟨i+1,_,_,rfl,rfl,c0,b6,b4,c6,c1,b8,b2,M0⟩ M0)
 refine xe 11 .nilIface ?_
 obtain rfl:i=L.length:=M0
 exact⟨_,_,rfl,a5,b1,a8,hA,a1,b2⟩
theorem Dy(a:O0)(c:Nat)(l:V6 Int)(w:V1)(h:Sl w (.slice a l.length c) l.length (l.map V0))(hl:l.length≤65536)(hs:Jn l=0):C0 152 #[.slice a l.length c] w (fun e w'=>∃ pb cb gs po co,e=.returned (.tuple #[.slice pb (bmN l.length) cb,.slice po (Zp l l.length).length co,V0 0])∧B3 w w'∧Lists w' w.heap.size (.slice pb (bmN l.length) cb) gs (Xe (Zj l) (bmN l.length))∧w'.ownsRow w.heap.size 124 3 (.slice po (Zp l l.length).length co) (Zp l l.length).length ((Zp l l.length).flatMap Ki)) :=
 (Zls a c l w h hl).mono fun e w' q=>(q.resolve_left fun z=>z.1 hs).2
theorem Zpb(B ba b g nn cc:Nat)(pa:O0)(ca f N k0:Nat)(bs:Bl)(bl B2:Nat)(pl:O0)(cl:Nat)(gs:V6 (Nat×Nat))(L:V6 (V6 Int))(n:Nat)(hn:L.length=n)(w:V1)(hC:AlC B ba nn cc ca f N)(hA:Al B ba b g nn cc pa ca f N k0 bs w)(hL:Lists w B2 (.slice pl n cl) gs L)(hS:∀ i,i<L.length→Uo (L.getD i [])∧(L.getD i []).length≤960)(hf1:1≤f)(hk:k0+n≤N)(kl:Blk w bl [S1] 99)(hBl:B≤bl)(hBw:B≤w.heap.size) :
 C0 154 #[P0 ba,.slice pl n cl,.func (.func 155) #[] #[P0 bl]] w (fun e w'=>∃ p c,e=.returned .nilIface∧Below B w w'∧Zd [169,5,99,124] w w'∧Fr ([ba,g]++[bl]) w w'∧Al B ba b g nn cc pa ca f N (k0+n) (Xt L (f+k0) bs n) w'∧Blk w' bl [.slice p n c] 99∧w'.ownsRow w.heap.size 124 3 (.slice p n c) n ((Xl L (f+k0) n).flatMap Ki)):=by
 subst hn;exact Zvj B ba b g nn cc pa ca f N k0 bs bl B2 pl cl gs L w hC hA hL hS hf1 hk kl hBl hBw
theorem Tb{l:V6 Int}(h:∀ k,k<l.length→Ph (l.getD k 0))(n:Nat):∀ i,i<(Xe (Zj l) n).length→Uo ((Xe (Zj l) n).getD i [])∧((Xe (Zj l) n).getD i []).length≤960:=fun i hi=>by
 rw[Wu] at hi;rw[Ko hi];exact⟨Za0 (Zmu h) i,by rw[Mg];omega⟩
theorem own_keep{w W:V1}{B ba b g nn cc:Nat}{pa:O0}{ca f N k0 bl:Nat}{bs:Bl}{cs:V6 V2}{base n:Nat}{v:V2}{xs:V6 V2}(k:w.ownsRow base 124 3 v n xs)(hA:Al B ba b g nn cc pa ca f N k0 bs w)(kl:Blk w bl cs 99)(hX:Fr ([ba,g]++[bl]) w W):W.ownsRow base 124 3 v n xs:=Ot k hX fun j hj hm=>by
 obtain⟨a0,kb⟩:=Zai hA.data;simp only[Ge,F7,B6,C8,or_false] at hm;rcases hm with h|h|h
 ·exact Xp k hA.U Do _ hj h
 ·exact Xp k kb Do _ hj h
 ·exact Xp k kl Do _ hj h
def DataP(B ba b g nn cc:Nat)(pa:O0)(ca f N k0:Nat)(bs:Bl)(l:V6 Int)(w:V1)(e:V5)(w':V1):Prop :=
 e=.returned (.tuple #[V0 (Vp l (f+k0) bs).1,V0 (Vp l (f+k0) bs).2.1,.nilIface])∧Below B w w'∧Zd [169,5,99,124,39] w w'∧Fr [ba,g] w w'∧Al B ba b g nn cc pa ca f N (k0+Qk l) (Vp l (f+k0) bs).2.2 w'
theorem Tz(n:Nat)(w:V1)(hn:n≤65536) :
 C0 64 #[V0 (n:Int)] w (Ret (V0 (↑(bmN n):Int)) w):=by
 refine zin 9 Tryz.func64 ?_
 refine xid 12 ((n:Int)<(1:Int)) (fun a0=>?_) (fun a0=>?_)
 ·exact xe 7 (V0 0) ⟨by rw[show bmN n=0 from by unfold bmN;omega];rfl,(B4 w)⟩
 refine xwm 5 ((n:Int)-1) (↑(n-1):Int) ?_
 refine xq 0 (congrArg V0 (show(IntKind.i64.wrap (Int.tdiv (↑(n-1):Int) 960):Int)=(↑((n-1)/960):Int) from An (n-1) 960 M0 Do)) ?_
 refine xw 0 ((↑((n-1)/960):Int)+1) ?_
 exact xe 4 (V0 ((↑((n-1)/960):Int)+1)) ⟨by rw[show bmN n=(n-1)/960+1 from by unfold bmN;omega,Int.natCast_add];rfl,(B4 w)⟩
structure Sin(w W:V1):Prop where
 b:Below w.heap.size w W
theorem Sin.i{w W V:V1}(h:Sin w W)(hb:B3 W V):Sin w V:=⟨bln h.b hb⟩
theorem Sin.trans{w W V:V1}(h:Sin w W)(hb:Below w.heap.size W V):Sin w V:=⟨h.b.trans hb⟩
theorem Sin.I{w W V:V1}{b:Nat}(h:Sin w W)(u:Upd W b V)(hb:w.heap.size≤b):Sin w V:=⟨u.i h.b hb⟩
theorem rs_ok{L:V6 (V6 Int)}{q n:Nat}(hS:∀ i,i<L.length→Uo (L.getD i [])∧(L.getD i []).length≤960)(hn:L.length=n)(h1:1≤q)(h2:q+n≤14400)(h3:n≤14):Rv (Rs L q n):=by
 refine⟨by rw[Du];exact h3,fun i hi=>?_⟩;rw[Du] at hi;rw[Ztv hi];have hc:=(hS i M0).2;exact⟨by show 1≤q+i;omega,by show q+i≤14399;omega,N0 (Mt _ _) hc,N0 (Nv _) hc⟩
theorem Zic(j:Nat)(B ba b g nn cc:Nat)(pa:O0)(ca f N k0:Nat)(bs:Bl)(w:V1)(hC:AlC B ba nn cc ca f N)(hA:Al B ba b g nn cc pa ca f N k0 bs w)(hk:k0≤N)(hN:N≤1000000)(hj:j≤1000000)(hjn:j≤N-k0) :
 C0 158 #[P0 ba,V0 (j:Int)] w (Kd (fun w' r=>∃ q c2,r=.slice q j c2∧w'.ownsRow w.heap.size 3 1 (.slice q j c2) j ((((Zb9 f N).drop k0).take j).map V0)) w):=by
 have h:=Zla B ba b pa N ca k0 j (Zb9 f N) w ⟨hA.U,hA.a1,Zn8 _ _,hC.hB,hN,hk⟩ hj
 rwa [I4 hjn] at h
theorem Sw(n:Nat)(a:O0)(c:Nat)(l:V6 Int)(w:V1)(hn:l.length=n)(h:Sl w (.slice a n c) n (l.map V0))(hl:n≤65536)(hs:Jn l=0):C0 152 #[.slice a n c] w (fun e w'=>∃ pb cb gs po co,e=.returned (.tuple #[.slice pb (bmN n) cb,.slice po (Zp l n).length co,V0 0])∧B3 w w'∧Lists w' w.heap.size (.slice pb (bmN n) cb) gs (Xe (Zj l) (bmN n))∧w'.ownsRow w.heap.size 124 3 (.slice po (Zp l n).length co) (Zp l n).length ((Zp l n).flatMap Ki)):=by
 subst hn;exact Dy a c l w h hl hs
theorem Zqu(n:Nat)(a:O0)(c:Nat)(S:V6 (Nat×Nat×Nat))(w:V1)(hn:S.length=n)(hS:Rv S)(h:Sts rsC w (.slice a S.length c) S):C0 160 #[.slice a n c] w (Kd (fun w' r=>∃ p c,r=.tuple #[.slice p 244 c,V0 0]∧w'.ownsRow w.heap.size 5 1 (.slice p 244 c) 244 ((Fw S).map bv)) w):=by
 subst hn;exact Zw3 a c S w hS h
end
end
end Go.Proofs.YtekomodnkfhihaaGreatDoor
