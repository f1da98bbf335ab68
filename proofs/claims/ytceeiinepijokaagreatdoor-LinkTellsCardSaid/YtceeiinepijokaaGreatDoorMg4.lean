/- (*walker).note: an error noted at the blocks of the way. -/
import Derived.Laws.StructEq
import Derived.Maps.Own
import Derived.Maps.RangeRun
import Derived.RangeFuncNested
import Derived.RangeFuncBound
import Derived.RangeFuncCalls
import Derived.RangeFuncLeaves
import Derived.OwnWalkIn
import Derived.OrdersIn
import Derived.Shelf.Abstract
import Derived.Shelf.RegionOpen
import Derived.TacticsInMore
import Derived.LoopNIn
import Derived.LoopIn
import Derived.Sort.BigQuietIn
import Derived.Test.YtceeiinepijokaaGreatDoorMg3
namespace Go.Proofs.YtceeiinepijokaaGreatDoor
set_option maxHeartbeats 8000000
set_option maxRecDepth 100000
open Go.RowKit Go.Extern.Stop Go.Stop Go.Extern
set_option linter.unusedVariables false
attribute [local irreducible] wpList wpAnyH Code.wp Oper.wp Go
attribute [local go_sem] Oper.semAt_some
theorem Upd.of_put(w:World)(D:Nat)(o:Obj):Upd w D (w.putObj D o):=⟨rfl,rfl,rfl,by simp[World.putObj],fun k hk=>World.putObj_heap_other hk⟩
def Dfr (D:Nat)(w:World):Prop:=w.heap[D]? = some (.deferred (some []))
theorem Dfr.below{D:Nat}{w W:World}(h:Dfr D w)(hb:B3 w W):Dfr D W:=(hb.block D (Array.getElem?_eq_some_iff.1 h).1).trans h
theorem Dfr.ne{D b:Nat}{w:World}{cs:List Value}{t:TypeId}(h:Dfr D w)(k:Blk w b cs t):b≠D:=by
 rintro rfl
 have h':w.heap[b]? = _:=h
 rw[show w.heap[b]? = _ from k] at h'
 cases h'
theorem Dfr.upd{D b:Nat}{w W:World}{cs:List Value}{t:TypeId}(h:Dfr D w)(u:Upd w b W)(k:Blk w b cs t):Dfr D W:=(u.block D fun e=>h.ne k e.symm).trans h
theorem Dfr.row{D:Nat}{w:World}{base e size n:Nat}{v:Value}{xs:List Value}(h:Dfr D w)(k:w.ownsRow base e size v n xs):∀ g,v.ownBlock=some g→g≠D:=by
 rintro g hg rfl
 rcases k.2 with ⟨rfl,_⟩|⟨g',a1,a0,rfl,_,hh,_⟩
 ·cases hg
 ·simp only[Value.ownBlock,Option.some.injEq] at hg
  subst hg
  rw[show w.heap[g']? = _ from h] at hh
  cases hh
theorem Dfr.grown{D:Nat}{w W:World}{base e size n:Nat}{v:Value}{xs:List Value}(h:Dfr D w)(hg:w.grownBy W v.ownBlock)(k:w.ownsRow base e size v n xs):Dfr D W :=
 (hg.block D (Array.getElem?_eq_some_iff.1 h).1 fun q=>h.row k D q.symm rfl).trans h
theorem g_endM{P:Program}{fn:Func}{R:Ending→World→Prop}{a:Act}{w:World}{D:Nat}(hK:Dfr D w)(v:Value)(hd:a.defers=[{ target:=.collected D,args:=#[] }])(hr:(results fn a.tmps).run P (w.putObj D (.deferred none))=.ok v (w.putObj D (.deferred none)))(h:R (.returned v) (w.putObj D (.deferred none))):bodyPostM Fence.wide 4 P fn R .normal a w :=
 by
 show LeavesInM _ _ _ _ a.tmps R a.defers .returning w
 rw[hd]
 exact⟨by simp,.inl ⟨_,_,rfl,run_takeDeferred hK,_,hr,h⟩⟩
def noPan(Q:Exit→Act→World→Prop):Exit→Act→World→Prop
 | .normal,a,w=>Q .normal a w
 | .ret,a,w=>Q .ret a w
 | _,_,_=>False
theorem g_nopan{P:Program}{c:Code}{Q:Exit→Act→World→Prop}{a:Act}{w:World}(h:c.wp P (noPan Q) a w):c.wp P Q a w:=wp_mono h fun e a w q=>by cases e<;>first|exact q|exact q.elim
theorem Rt{w:World}{base size n b:Nat}{e t:TypeId}{v:Value}{xs cs:List Value}(k:w.ownsRow base e size v n xs)(q:Blk w b cs t)(hne:e≠t):∀ g,v.ownBlock=some g→g≠b:=by
 rintro g hg rfl
 rcases k.2 with ⟨rfl,_⟩|⟨g',a1,a0,rfl,_,hh,_⟩
 ·cases hg
 ·simp only[Value.ownBlock,Option.some.injEq] at hg
  subst hg
  rw[show w.heap[g']? = _ from q] at hh
  simp only[Option.some.injEq,Obj.cells.injEq] at hh
  exact hne hh.2.1.symm
theorem Zdd{w W:World}(h:B3 w W):KeepsOthers w W:=⟨h.size,fun b o hb _=>(h.block b (Array.getElem?_eq_some_iff.1 hb).1).trans hb⟩
theorem keepsO_upd{w W:World}{b:Nat}{cs:List Value}{t:TypeId}(u:Upd w b W)(k:Blk w b cs t):KeepsOthers w W:=⟨Nat.le_of_eq u.size.symm,fun d o hd ho=>(u.block d (by rintro rfl;rw[show w.heap[d]? = _ from k] at hd;cases hd;cases ho)).trans hd⟩
theorem BelowBut.own3{w W:World}{b base size n:Nat}{e:TypeId}{v:Value}{xs:List Value}(h:BelowBut w b W)(k:w.ownsRow base e size v n xs)(hs:∀ j,v.ownBlock=some j→j≠b):W.ownsRow base e size v n xs:=by
 obtain⟨h1,h2⟩:=k
 refine⟨h1,?_⟩
 rcases h2 with h2|⟨g,a1,a0,rfl,hg,hh,r⟩
 ·exact Or.inl h2
 ·exact Or.inr ⟨g,a1,a0,rfl,hg,by rw[h.block g (Array.getElem?_eq_some_iff.1 hh).1 (hs g rfl)];exact hh,r⟩
theorem Zgc{β:Type}{w:World}{b B:Nat}(hB:w.heap.size≤B):OwnFrom B (fun(_:β) W=>BelowBut w b W):=fun _ W W' a1 hs hg hr =>
 ⟨hg.os.trans hs.os,hg.tape.trans hs.tape,hg.output.trans hs.output,Nat.le_trans hs.size hg.size,fun k hk a0=>(hg.block k (Nat.lt_of_lt_of_le hk hs.size) (fun e=>by have:=(hr k e.symm).1;omega)).trans (hs.block k hk a0)⟩
theorem Hb.turn{A B:World}{row:Option Nat}{l:List (Option Int)}{c:Option Int}{v:Value}(h:Hb A l c v)(hg:A.grownBy B row)(hr:∀ r,row=some r→∃ o:Obj,A.heap[r]? = some o∧o.isCells=false):Hb B l c v:=h.kept fun _ _ k=>k.turn hg hr
theorem Hb.one{w:World}{l:List (Option Int)}{c:Option Int}{v:Value}(h:Hb w l c v):v.oneCell'=true:=by
 rcases h.nil_or with ⟨_,rfl⟩|⟨_,t,x,rfl⟩<;>rfl
theorem Hb.iface{w:World}{l:List (Option Int)}{c:Int}{v:Value}(h:Hb w l (some c) v):∃ t x,v=.iface t x:=by
 rcases h.nil_or with ⟨q,_⟩|⟨_,q⟩
 ·simp[Eb] at q
 ·exact q
end Go.Proofs.YtceeiinepijokaaGreatDoor
namespace Go.Proofs.YtceeiinepijokaaGreatDoor
set_option maxHeartbeats 8000000
set_option maxRecDepth 100000
open Go.RowKit Go.Extern.Stop Go.Stop Go.Extern
set_option linter.unusedVariables false
def Un(u v:Value):Prop:=∀ j,u.ownBlock=some j→v.ownBlock≠some j
theorem Un.symm{u v:Value}(h:Un u v):Un v u:=fun j h1 h2=>h j h2 h1
theorem Un.grow{w:World}{u v u':Value}{base e size n:Nat}{xs:List Value}(h:Un u v)(k:w.ownsRow base e size v n xs)(hl:u'.ownBlock=u.ownBlock∨u'.ownBlock=some w.heap.size):Un u' v:=by
 rintro j h1 h2
 rcases hl with hl|hl
 ·exact h j (hl▸h1) h2
 ·rw[hl,Option.some.injEq] at h1
  subst h1
  have:=(k.lt _ h2).2
  omega
theorem Un.row{w W:World}{u v:Value}{base e size n:Nat}{xs:List Value}(h:Un u v)(k:w.ownsRow base e size v n xs)(hg:w.grownBy W u.ownBlock):W.ownsRow base e size v n xs:=by
 obtain⟨h1,h2⟩:=k
 refine⟨h1,?_⟩
 rcases h2 with h2|⟨g,a1,a0,rfl,hb,hh,r⟩
 ·exact Or.inl h2
 ·exact Or.inr ⟨g,a1,a0,rfl,hb,(hg.block g (Array.getElem?_eq_some_iff.1 hh).1 (fun q=>h g q.symm rfl)).trans hh,r⟩
theorem Un.of_lt{w W:World}{u v:Value}{base base2 e e2 size size2 n n2:Nat}{xs ys:List Value}(k:w.ownsRow base e size u n xs)(q:W.ownsRow base2 e2 size2 v n2 ys)(h:w.heap.size≤base2):Un u v:=fun j h1 h2=>by
 have:=(k.lt j h1).2
 have:=(q.lt j h2).1
 omega
theorem Un.nil(v:Value):Un (S0) v:=fun j h=>by cases h
theorem own_cut{w:World}{base e n m c:Nat}{p:O0}{xs:List Value}(k:w.ownsRow base e 1 (.slice p n c) n xs)(hm:m≤n)(hp:p.isSome=true):w.ownsRow base e 1 (.slice p m c) m (xs.take m):=by
 obtain⟨h1,h2⟩:=k
 refine⟨by rw[List.length_take];omega,?_⟩
 rcases h2 with ⟨h2,_⟩|⟨g,a4,a1,hv,hb,hh,hc,a3,a2,a0⟩
 ·cases h2;cases hp
 ·simp only[Value.slice.injEq] at hv
  obtain⟨rfl,_,rfl⟩:=hv
  refine Or.inr ⟨g,c,a1,rfl,hb,hh,by omega,a3,a2,?_⟩
  rw[←a0,List.take_take]
  congr 1
  omega
theorem Kg{P:Program}{a:Act}{w:World}{K:Act→World→Prop}{Q:Exit→Act→World→Prop}{o:Oper}{s x:Operand}{t e te:TypeId}{base:Nat}{v:Value}{n:Nat}{xs:List Value}{b m c:Nat}{news:List Value}(z:Value)(size bytes n':Nat)(xs':List Value)
 (ho:o.op=.call { callee:=.builtin .append,args:=#[s,x],argTypes:=#[t,t] }) (ht:P.underlying t=some (.slice e)) (hi:(P.info? e).map (fun i=>(i.zero,i.size,i.bytes))=some (some z,size,bytes)) (hzs:z.cells.size=size) (hsz:0<size) (hs:a.eval s=v)
 (hown:w.ownsRow base e size v n xs) (hx:a.eval x=.slice (S1 b) m c) (hnew:Blk w b news te) (hl:news.length=m*size) (h1:∀ u∈news,u.oneCell'=true) (h63:n+m≤maxLen) (hbytes:(n+m)*bytes≤140737488355328) (hbase:base≤w.heap.size) (hn:n+m=n') (hxs:xs++news=xs')
 (h:∀ p c W,W.ownsRow base e size (.slice p n' c) n' xs'→w.grownBy W v.ownBlock→Below base w W→((Value.slice p n' c).ownBlock=v.ownBlock∨(Value.slice p n' c).ownBlock=some w.heap.size)→K (a.put o.dst (.slice p n' c)) W):o.wp P a w K Q:=by
 cases hq:P.info? e with
 | none=>simp[hq] at hi
 | some i =>
  simp only[hq,Option.map_some,Option.some.injEq,Prod.mk.injEq] at hi
  have hc:∀ j u,news[j]? = some u→w.cell? ((⟨b,0,none⟩:Addr).add j)=some u:=fun j u hj=>by
   have hc:=hnew.cell hj
   by_cases h0:j=0
   ·subst h0;simpa [Addr.add] using hc
   ·simpa [Addr.add,h0] using hc
  obtain⟨v',W,hr,h2,h3,_,h5⟩:=run_append_own_at (P:=P) w base t o.type e i z size bytes ht hq hi.1 hi.2.1 hi.2.2 hzs hsz v n xs hown ⟨b,0,none⟩ m c news hl hc h1 h63 hbytes hbase
  subst hn hxs
  obtain⟨p,c2,rfl⟩:=(Ze h2).slice
  unfold Oper.wp execOp
  simp only[ho,resolve,invoke,builtin,Sem.run_bind,Sem.run_pure,Result.andThen_ok,List.map_toArray,List.map_cons,List.map_nil,hs,hx,hr]
  exact h p c2 W h2 h3 (Vc h3 hown (Nat.le_refl _) hbase) h5
structure WS where
 es:List Ent
 bs:List Int
 deep:Int
 looked:Nat
 fs:List (List Int×Int)
 dry:Bool
def nodK(l:Bl)(no:Int):List Int:=Ha (inB l no) (Xh (inB l no))
def Vy(l:Bl)(no:Int):List Bl:=He (inB l no) (Xh (inB l no))
end Go.Proofs.YtceeiinepijokaaGreatDoor
namespace Go.Proofs.YtceeiinepijokaaGreatDoor
set_option maxHeartbeats 8000000
set_option maxRecDepth 100000
open Go.RowKit Go.Extern.Stop Go.Stop Go.Extern
set_option linter.unusedVariables false
attribute [local irreducible] wpList wpAnyH Code.wp Oper.wp Go
theorem widG_24(t:Int)(b:Bool):widG t b≤24:=by
 unfold widG Pd
 repeat' split
 all_goals omega
theorem Wd(l:Bl)(n i:Nat):((He l n).getD i []).length≤1000:=by
 by_cases h:i<n
 ·rw[Zci l h]
  unfold Fq
  rw[List.length_take]
  have:=widG_24 (Xz l) (Yi l)
  unfold Xg
  omega
 ·simp[List.getD,List.getElem?_eq_none (show(He l n).length≤i by rw[Uw];omega)]
theorem Eo(p:O0)(n c n2 c2:Nat):(Value.slice p n c).ownBlock=(Value.slice p n2 c2).ownBlock:=by
 cases p<;>rfl
theorem Un.len{p q:O0}{n c m d:Nat}(h:Un (.slice p n c) (.slice q m d))(n2 c2 m2 d2:Nat):Un (.slice p n2 c2) (.slice q m2 d2):=fun j h1 h2 =>
 h j ((Eo _ _ _ _ _).trans h1) ((Eo _ _ _ _ _).trans h2)
end Go.Proofs.YtceeiinepijokaaGreatDoor
namespace Go.Proofs.YtceeiinepijokaaGreatDoor
set_option maxHeartbeats 8000000
set_option maxRecDepth 100000
open Go.RowKit Go.Extern.Stop Go.Stop Go.Extern
set_option linter.unusedVariables false
theorem maxG_18(t:Int)(b:Bool):maxG t b≤18:=by
 unfold maxG Qs
 repeat' split
 all_goals omega
theorem Zgm{l:Bl}(h:Qd l=0):Vt l=true:=by
 unfold Qd at h
 split at h
 ·assumption
 ·cases h
theorem Ss{l:Bl}{tree:Int}(h:Qn l tree=0):Qd l=0:=by
 unfold Qn at h
 split at h
 ·assumption
 ·assumption
theorem Ow{l:Bl}{no tree:Int}(h:Xl l no tree=0):inE l 2 no=0∧Qn (inB l no) tree=0:=by
 unfold Xl at h
 split at h
 ·exact⟨by assumption,h⟩
 ·rename_i q;exact absurd h q
end Go.Proofs.YtceeiinepijokaaGreatDoor
namespace Go.Proofs.YtceeiinepijokaaGreatDoor
set_option maxHeartbeats 8000000
set_option maxRecDepth 100000
open Go.RowKit Go.Extern.Stop Go.Stop Go.Extern
set_option linter.unusedVariables false
section
variable {P:Program} {fn:Func} {R:Ending→World→Prop} {w:World} {s:Zs}
def BlksOf(w:World):List (Nat×List Value)→Prop
 | []=>True
 | p::r=>(∃ t,Blk w p.1 p.2 t)∧BlksOf w r
noncomputable def zrlm (P:Program) (n:Nat) (kv:List (Nat×Value)) (l:List ResultVar):List (List Value)→Option (List Nat×List Value):=List.rec (motive:=fun _=>List (List Value)→Option (List Nat×List Value)) (fun _=>some ([],[])) (fun r _ ih css=>match r with
 | .tmp t=>match ih css with
  | some r=>some (r.1,zget n kv t::r.2)
  | none=>none
 | .cell k t=>match css with
  | []=>none
  | p::css'=>match zget n kv k with
   | .pointer (some ⟨b,off,sp⟩)=>match sp with
    | none=>match Nat.beq off 0&&(zrow P t&&zsz P t p.length) with
     | true=>match ih css' with
      | some r=>some (b::r.1,.agg p.toArray::r.2)
      | none=>none
     | false=>none
    | some _=>none
   | _=>none) l
theorem Za9(n:Nat)(kv:List (Nat×Value))(w:World):∀ (l:List ResultVar) (css:List (Nat×List Value)) (vs:List Value),BlksOf w css→zrlm P n kv l (css.map Prod.snd)=some (css.map Prod.fst,vs)→(l.mapM (zrf (zact n kv).tmps)).run P w=.ok vs w
  | [],css,vs,_,h=>by
    have h':some (([]:List Nat),([]:List Value))=some (css.map Prod.fst,vs):=h
    simp only[Option.some.injEq,Prod.mk.injEq] at h'
    rw[←h'.2];rfl
  | r :: l, css, vs, hb, h => by
    rw[List.mapM_cons]
    cases r with
    | tmp t =>
      have h':(match zrlm P n kv l (css.map Prod.snd) with|some r=>some (r.1,zget n kv t::r.2)|none=>none)=some (css.map Prod.fst,vs):=h
      split at h'
      · rename_i r' hv
        simp only[Option.some.injEq,Prod.mk.injEq] at h'
        obtain⟨h1,rfl⟩:=h'
        have a0:zrlm P n kv l (css.map Prod.snd)=some (css.map Prod.fst,r'.2):=by rw[hv,←h1]
        simp only[zrf,Sem.run_bind,Sem.run_pure,Result.andThen_ok,Za9 n kv w l css r'.2 hb a0,Uo]
      · cases h'
    | cell k t' =>
      cases css with
      | nil=>cases h
      | cons p css =>
      have h':(match zget n kv k with
      | .pointer (some ⟨b,a1,sp⟩)=>match sp with
        | none=>match Nat.beq a1 0&&(zrow P t'&&zsz P t' p.2.length) with
          | true=>match zrlm P n kv l (css.map Prod.snd) with
            | some r=>some (b::r.1,.agg p.2.toArray::r.2)
            | none=>none
          | false=>none
        | some _=>none
      | _=>none)=some (p.1::css.map Prod.fst,vs):=h
      split at h'
      · rename_i b' a1 sp a3
        cases sp with
        | some _=>cases h'
        | none =>
          dsimp only at h'
          split at h'
          · rename_i hc
            simp only[Bool.and_eq_true] at hc
            split at h'
            · rename_i r' hv
              simp only[Option.some.injEq,Prod.mk.injEq,List.cons.injEq] at h'
              obtain⟨⟨rfl,h1⟩,rfl⟩:=h'
              obtain⟨⟨t,kb⟩,a2⟩:=hb
              have a0:zrlm P n kv l (css.map Prod.snd)=some (css.map Prod.fst,r'.2):=by rw[hv,←h1]
              obtain rfl:a1=0:=Nat.eq_of_beq_eq_true hc.1
              have hu:=hc.2.1
              unfold zrow at hu
              split at hu
              · rename_i d hd
                have hl:=run_loadVar_mid (P:=P) w p.1 0 t' p.2 d kb.whole hd hu (Zdf hc.2.2)
                have e:(zact n kv).tmps.getD k undef=.pointer (some ⟨p.1,0,none⟩):=by rw[Uo];exact a3
                simp only[zrf,e,asAddr,Sem.run_bind,Sem.run_pure,Result.andThen_ok,hl,Za9 n kv w l css r'.2 a2 a0]
              · cases hu
            · cases h'
          · cases h'
      · cases h'
noncomputable def zresm (P:Program) (s:Zs) (fn:Func) (css:List (List Value)):Option (List Nat×Value):=match zfin s with
 | true=>match zrlm P s.n s.kv fn.results.toList css with
  | some r=>some (r.1,zvs r.2)
  | none=>none
 | false=>none
theorem xecm(q:Zq)(css:List (Nat×List Value))(hb:BlksOf w css)(v:Value)(hR:R (.returned v) w)(h:zresm P (zq P q s) fn (css.map Prod.snd)=some (css.map Prod.fst,v):=by kernel_rfl):Go P fn R s w:=by
 refine Zt q s ?_
 unfold zresm at h
 split at h
 ·rename_i hf
  split at h
  ·rename_i r hv
   simp only[Option.some.injEq,Prod.mk.injEq] at h
   obtain⟨h1,rfl⟩:=h
   have hv:zrlm P (zq P q s).n (zq P q s).kv fn.results.toList (css.map Prod.snd)=some (css.map Prod.fst,r.2):=by rw[hv,←h1]
   exact Zfj hf (Lm (Za9 _ _ _ _ _ _ hb hv)) hR
  ·cases h
 ·cases h
end
end Go.Proofs.YtceeiinepijokaaGreatDoor
namespace Go.Proofs.YtceeiinepijokaaGreatDoor
set_option maxHeartbeats 8000000
set_option maxRecDepth 100000
open Go.RowKit Go.Extern.Stop Go.Stop Go.Extern
set_option linter.unusedVariables false
attribute [local irreducible] wpList wpAnyH Code.wp Oper.wp Go
theorem ref08_inB(n lo hi:Int)(w:World) :
 C0 208 #[V0 n,V0 lo,V0 hi] w (Ret (.bool (decide (lo≤n∧n≤hi))) w):=by
 refine zin 15 Tryz.func208 ?_
 refine xg 11 [9,10] (decide (n≥lo)) (fun a0=>?_) (fun a0=>?_)
 ·have a0:=of_decide_eq_true a0
  exact xe 8 (.bool (decide (n≤hi))) ⟨by rw[show decide (lo≤n∧n≤hi)=decide (n≤hi) from by simp;omega],(B4 w)⟩
 have a0:=of_decide_eq_false a0
 exact xe 8 (.bool false) ⟨by rw[show decide (lo≤n∧n≤hi)=false from decide_eq_false (by omega)],(B4 w)⟩
theorem ref08_four(s:Bl)(lo hi:Int)(w:World)(hs:s.length≤1000) :
 C0 140 #[.string ⟨s.toArray⟩,V0 lo,V0 hi] w (Ret (.tuple #[V0 (if s.length=4∧lo≤(Zg s 0 4:Int)∧(Zg s 0 4:Int)≤hi then(Zg s 0 4:Int) else 0),V0 (if s.length=4 then(if lo≤(Zg s 0 4:Int)∧(Zg s 0 4:Int)≤hi then 0 else 2) else 7)]) w):=by
 refine zin 25 Tryz.func140 ?_
 refine xin 14 (s.length:Int) (4:Int) (fun a6=>?_) (fun a6=>?_)
 ·refine xe 8 (.tuple #[V0 0,V0 7]) ?_
  rw[if_neg (by omega),if_neg (by omega)];exact⟨rfl,(B4 w)⟩
 refine xcf 5 fun _ _ _ zJ zQ zo zx zK=>Kq s zo zx Tryz.underlying9 Tryz.underlying22 Tryz.underlying5 (by omega) ?_
 intro bz cz W2 a2 a5
 refine zK _ _ ?_
 refine xr 0 (args:=#[.slice (S1 bz) s.length cz,V0 0,V0 4]) (Cd (S1 bz) s.length cz 0 4 0 4 s _ rfl rfl rfl (by decide) (by omega) (by omega) a5) fun W3 a4=>?_
 refine xr 13 (args:=#[V0 (↑(Zg s 0 4):Int),V0 lo,V0 hi]) (ref08_inB (↑(Zg s 0 4):Int) lo hi _) fun W4 a3=>?_
 refine xi 3 (!(decide (lo≤(Zg s 0 4:Int)∧(Zg s 0 4:Int)≤hi))) (fun a1=>?_) (fun a1=>?_)
 ·have a0:¬ (lo≤(Zg s 0 4:Int)∧(Zg s 0 4:Int)≤hi):=fun q=>absurd a1 (by rw[decide_eq_true q];decide)
  have hB:=bln (bln a2 a4) a3
  refine xe 8 (.tuple #[V0 0,V0 2]) ?_
  rw[if_neg fun q=>a0 q.2,if_pos (by omega),if_neg a0];exact⟨rfl,hB⟩
 have a0:lo≤(Zg s 0 4:Int)∧(Zg s 0 4:Int)≤hi:=Decidable.byContradiction fun q=>absurd a1 (by rw[decide_eq_false q];decide)
 have hB:=bln (bln a2 a4) a3
 refine xe 10 (.tuple #[V0 (↑(Zg s 0 4):Int),V0 0]) ?_
 rw[if_pos ⟨by omega,a0⟩,if_pos (by omega),if_pos a0];exact⟨rfl,hB⟩
theorem Aw(s:Bl)(w:World)(hs:s.length≤1000) :
 C0 140 #[.string ⟨s.toArray⟩,V0 1,V0 14399] w (Ret (.tuple #[V0 (Ji s:Int),V0 (Kv s)]) w):=by
 refine(ref08_four s 1 14399 w hs).mono ?_
 rintro e W ⟨rfl,hb⟩
 refine⟨?_,hb⟩
 have e1:(if s.length=4 then(if(1:Int)≤(Zg s 0 4:Int)∧(Zg s 0 4:Int)≤14399 then(0:Int) else 2) else 7)=Kv s:=by
  unfold Kv
  by_cases h:s.length=4
  ·rw[if_pos h,if_pos h]
   by_cases q:1≤Zg s 0 4∧Zg s 0 4≤14399
   ·rw[if_pos q,if_pos ⟨by omega,by omega⟩]
   ·rw[if_neg q,if_neg (by omega)]
  ·rw[if_neg h,if_neg h]
 have e2:(if s.length=4∧(1:Int)≤(Zg s 0 4:Int)∧(Zg s 0 4:Int)≤14399 then(Zg s 0 4:Int) else 0)=(Ji s:Int):=by
  unfold Ji
  rw[←e1]
  by_cases h:s.length=4
  ·rw[if_pos h]
   by_cases q:(1:Int)≤(Zg s 0 4:Int)∧(Zg s 0 4:Int)≤14399
   ·rw[if_pos ⟨h,q⟩,if_pos q,if_pos rfl]
   ·rw[if_neg fun x=>q x.2,if_neg q,if_neg (by decide)];rfl
  ·rw[if_neg fun x=>h x.1,if_neg h,if_neg (by decide)];rfl
 rw[e1,e2]
theorem Ox(s:Bl)(w:World)(hs:s.length≤1000) :
 C0 88 #[.string ⟨s.toArray⟩] w (Ret (.tuple #[V0 (Ji s:Int),V0 (Kv s)]) w):=by
 refine zin 8 Tryz.func88 ?_
 refine xr 9 (args:=#[.string ⟨s.toArray⟩,V0 1,V0 14399]) (Aw s _ hs) fun W1 a0=>?_
 exact xe 7 (.tuple #[V0 (↑(Ji s):Int),V0 (Kv s)]) ⟨rfl,a0⟩
theorem Hw(no er:Int)(w:World)(he:er≠0):C0 38 #[V0 no,V0 er] w (Qe (fun w' r=>∃ a c,r=.agg #[.slice a 1 c,V0 er]∧w'.ownsRow w.heap.size 3 1 (.slice a 1 c) 1 [V0 no]) w):=by
 refine(Ws no er w).mono ?_
 rintro e W ⟨a,c,rfl,hb,ho⟩
 rw[Cx he] at ho ⊢
 exact⟨_,rfl,hb,a,c,rfl,ho⟩
theorem ints_one(L:List Int):∀ u∈L.map V0,u.oneCell'=true:=by intro u hu;obtain⟨x,_,rfl⟩:=List.mem_map.1 hu;rfl
def Ny(l:Bl)(n:Nat):List Int:=(Fv l n).map fun x:Nat=>(x:Int)
theorem Rh(l:Bl)(n:Nat):(Ny l n).length=n:=by simp[Ny,Fv]
theorem bitI_get(l:Bl){n i:Nat}(h:i<n):(Ny l n).getD i 0=(Ay l i:Int):=by simp[Ny,Fv,List.getD,List.getElem?_range h]
theorem bitN_lt(l:Bl)(i:Nat):Ay l i<4:=Nat.mod_lt _ (by decide)
theorem Iy(l:Bl)(n:Nat):Jy (Ny l n):=by
 intro x hx
 obtain⟨y,hy,rfl⟩:=List.mem_map.1 hx
 obtain⟨i,_,rfl⟩:=List.mem_map.1 hy
 have:=bitN_lt l i
 omega
theorem bitN_at(l:Bl)(j r:Nat)(hr:r<4):Ay l (4*j+r)=(l.getD (4+j) 0).toNat/2 ^ (r*2)%4:=by
 unfold Ay
 rw[show(4*j+r)/4=j by omega,show(4*j+r)%4=r by omega]
theorem bitsT_get(L:List Int)(n:Nat){j:Nat}(hj:j<240):(Ph L n).getD (4+j) 0=g4B L n j:=by
 unfold Ph
 simp only[List.getD]
 rw[List.getElem?_append_right (by rw[Zi];omega),Zi,Nat.add_sub_cancel_left]
 simp[List.getElem?_range hj]
theorem atI_bit(l:Bl)(n i:Nat):atI (Ny l n) n i=if i<n then(Ay l i:Int) else 0:=by
 unfold atI
 by_cases h:i<n
 ·rw[if_pos h,if_pos h,bitI_get l h]
 ·rw[if_neg h,if_neg h]
theorem g4B_nat{L:List Int}(h:Jy L)(n j:Nat):((g4B L n j).toNat:Int)=g4 L n j:=by
 have b0:=Jm h n (4*j)
 have b1:=Jm h n (4*j+1)
 have b2:=Jm h n (4*j+2)
 have b3:=Jm h n (4*j+3)
 unfold g4B
 rw[UInt8.toNat_ofNat',Nat.mod_eq_of_lt (by unfold g4;omega)]
 unfold g4;omega
theorem Zdb{l:Bl}(hl:l.length=244)(hn:Zg l 0 4≤960):(Vw (Ny l (Zg l 0 4))==l)=Ww l:=by
 generalize hnn:Zg l 0 4=n at *
 have hS:=Iy l n
 have a7:=Rh l n
 have a8:(Vw (Ny l n)).length=244:=Qi _ _
 have hx:∀ j,(l.getD (4+j) 0).toNat<256:=fun j=>(l.getD (4+j) 0).toNat_lt
 have hg:∀ j,j<240→(Vw (Ny l n)).getD (4+j) 0=g4B (Ny l n) n j:=fun j hj=>by unfold Vw;rw[a7,bitsT_get _ _ hj]
 have a5:∀ j,g4 (Ny l n) n j=atI (Ny l n) n (4*j)+4*atI (Ny l n) n (4*j+1)+16*atI (Ny l n) n (4*j+2)+64*atI (Ny l n) n (4*j+3):=fun _=>rfl
 have a4:∀ j r,r<4→Ay l (4*j+r)=(l.getD (4+j) 0).toNat/2 ^ (r*2)%4:=fun j r hr=>bitN_at l j r hr
 rw[Bool.eq_iff_iff,beq_iff_eq,Ga]
 constructor
 ·intro h
  refine⟨hl,by omega,fun i hi hc=>?_⟩
  rw[hnn] at hc
  obtain⟨j,r,rfl,hr⟩:∃ j r,i=4*j+r∧r<4:=⟨i/4,i%4,by omega,by omega⟩
  have e1:(g4B (Ny l n) n j).toNat=(l.getD (4+j) 0).toNat:=by rw[←hg j (by omega),h]
  have e2:=g4B_nat hS n j
  rw[e1,a5] at e2
  rw[a4 j r hr]
  have a0:=Jm hS n (4*j)
  have a1:=Jm hS n (4*j+1)
  have a2:=Jm hS n (4*j+2)
  have a3:=Jm hS n (4*j+3)
  have c:∀ q,n≤4*j+q→atI (Ny l n) n (4*j+q)=0:=fun q hq=>by rw[atI_bit,if_neg (by omega)]
  obtain rfl|rfl|rfl|rfl:r=0∨r=1∨r=2∨r=3:=by omega
  ·have z0:=c 0 hc
   rw[Nat.add_zero] at z0
   simp only[Nat.zero_mul,Nat.reducePow,Nat.div_one];omega
  ·have z0:=c 1 hc
   simp only[Nat.one_mul,Nat.reducePow];omega
  ·have z0:=c 2 hc
   simp only[Nat.reduceMul,Nat.reducePow];omega
  ·have z0:=c 3 hc
   simp only[Nat.reduceMul,Nat.reducePow];omega
 ·rintro⟨_,_,h0⟩
  rw[hnn] at h0
  have a6:∀ i,i<960→atI (Ny l n) n i=(Ay l i:Int):=fun i hi=>by
   rw[atI_bit]
   by_cases q:i<n
   ·rw[if_pos q]
   ·rw[if_neg q,h0 i hi (by omega)];rfl
  apply Rm (by rw[a8,hl])
  intro i hi
  rw[a8] at hi
  by_cases h4:i<4
  ·have e:=Ze6 (l:=l) (k:=0) (w:=4) (by omega)
   rw[hnn,List.drop_zero] at e
   unfold Vw Ph
   rw[a7,e]
   simp only[List.getD]
   rw[List.getElem?_append_left (by simp;omega),List.getElem?_take,if_pos h4]
  ·obtain⟨j,rfl⟩:∃ j,i=4+j:=⟨i-4,by omega⟩
   rw[hg j (by omega)]
   apply UInt8.toNat_inj.1
   have e2:=g4B_nat hS n j
   rw[a5,a6 _ (by omega),a6 _ (by omega),a6 _ (by omega),a6 _ (by omega)] at e2
   have d0:=a4 j 0 (by decide)
   have d1:=a4 j 1 (by decide)
   have d2:=a4 j 2 (by decide)
   have d3:=a4 j 3 (by decide)
   simp only[Nat.zero_mul,Nat.one_mul,Nat.reduceMul,Nat.reducePow,Nat.add_zero,Nat.div_one] at d0 d1 d2 d3
   have:=hx j
   omega
theorem bitI_snoc(l:Bl)(n:Nat):Ny l (n+1)=Ny l n++[(Ay l n:Int)]:=by unfold Ny;rw[Zae,List.map_append];rfl
theorem bitN4(l:Bl)(i:Nat):(l.getD (4+i/4) 0).toNat/4 ^ (i%4)%4=Ay l i:=by
 unfold Ay
 rw[Nat.mul_comm (i%4) 2,Nat.pow_mul]
def RBitsP(l:Bl)(w:World)(e:Ending)(w':World):Prop :=
 (Ww l=false∧e=.returned (.tuple #[S0,V0 7])∧B3 w w') ∨
 (Ww l=true∧∃ p c,e=.returned (.tuple #[.slice p (Zg l 0 4) c,V0 0])∧B3 w w'∧w'.ownsRow w.heap.size 3 1 (.slice p (Zg l 0 4) c) (Zg l 0 4) ((Ny l (Zg l 0 4)).map V0))
theorem ref09_PutN(a:O0)(n c:Nat)(l:List Int)(w:World)(hn:l.length=n)(hS:Jy l)(hl:n≤960)(h:Sl w (.slice a n c) n (l.map V0)):C0 204 #[.slice a n c] w (Qe (fun w' r=>∃ p c,r=.tuple #[.slice p 244 c,V0 0]∧w'.ownsRow w.heap.size 5 1 (.slice p 244 c) 244 ((Vw l).map bv)) w):=by
 subst hn;exact ref09_Put a c l w hS hl h
theorem ref09_Read(a:O0)(c:Nat)(l:Bl)(w:World)(hl:l.length=244)(h:Bys w (.slice a 244 c) l) :
 C0 136 #[.slice a 244 c] w (RBitsP l w):=by
 have b6:=Bys.cap h hl
 refine zin 58 Tryz.func136 ?_
 refine xr 20 (args:=#[.slice a 244 c,V0 0,V0 4]) (Cd a 244 c 0 4 0 4 l _ hl rfl rfl (by decide) (by decide) (by decide) (h.below (B4 w))) fun W1 b3=>?_
 refine xid 14 ((↑(Zg l 0 4):Int)>(960:Int)) (fun c3=>?_) (fun c3=>?_)
 ·exact xe 8 (.tuple #[S0,V0 7]) (.inl ⟨by rw[←Bool.not_eq_true,Ga];intro q;have:=q.2.1;omega,rfl,b3⟩)
 refine zl 14 58 (fun zm a8 V=>∃ (i:Nat) (p:O0) (c2:Nat),a8=[(0,.slice a 244 c),(2,S0),(3,V0 0),(4,V0 (↑(Zg l 0 4):Int)),(6,.slice p i c2),(7,V0 (i:Int))]∧zm=Zg l 0 4-((i:Int)).toNat∧B3 w V∧V.ownsRow w.heap.size 3 1 (.slice p i c2) i ((Ny l i).map V0)∧i≤Zg l 0 4) ⟨0,_,_,rfl,rfl,b3,World.ownsRow_nil _ _ _ _,Nat.zero_le _⟩ ?_
 rintro _ _ W3 ⟨i,p,c2,rfl,rfl,a0,ho,hi⟩ J3 b5 r3
 refine xid 8 ((i:Int)<(↑(Zg l 0 4):Int)) (fun c1=>?_) (fun c1=>?_)
 ·refine xq 8 (congrArg V0 (show(IntKind.i64.wrap (Int.tdiv (i:Int) 4):Int)=(↑(i/4):Int) from Wv i 4 (by omega) (by decide))) ?_
  refine xwm 0 (4+(↑(i/4):Int)) (↑(4+(i/4)):Int) ?_
  refine xx 0 _ 244 (4+(i/4)) 1 (BysM.elem h hl (k:=(4+(i/4))) (by omega)).1 ?_
  refine xl 0 ((BysM.elem (h.below a0) hl (k:=(4+(i/4))) (by omega)).2) ?_
  refine xq 0 (congrArg V0 (show(IntKind.i64.wrap (↑(l.getD (4+(i/4)) 0).toNat:Int):Int)=(↑(l.getD (4+(i/4)) 0).toNat:Int) from Kw (by have:=(l.getD (4+i/4) 0).toNat_lt;omega))) ?_
  refine xv1 10 8 (show(V0 (↑(l.getD (4+(i/4)) 0).toNat:Int):Value)=V0 (↑((l.getD (4+(i/4)) 0).toNat/4 ^ 0:Nat):Int) from by rw[Nat.pow_zero,Nat.div_one]) ?_
  refine zl 0 58 (fun zm a8 V=>∃ (k:Nat),a8=[(0,.slice a 244 c),(2,S0),(3,V0 0),(4,V0 (↑(Zg l 0 4):Int)),(6,.slice p i c2),(7,V0 (i:Int)),(8,V0 (↑((l.getD (4+(i/4)) 0).toNat/4 ^ k:Nat):Int)),(9,V0 (k:Int))]∧zm=i%4-((k:Int)).toNat∧B3 w V∧V.ownsRow w.heap.size 3 1 (.slice p i c2) i ((Ny l i).map V0)∧k≤i%4) ⟨0,rfl,rfl,a0,ho,Nat.zero_le _⟩ ?_
  rintro _ _ W5 ⟨k,rfl,rfl,a1,a3,hk⟩ J5 b8 r5
  refine xq 5 (congrArg V0 (show(Int.tmod (i:Int) 4:Int)=(↑(i%4):Int) from Ug i 4)) ?_
  refine xid 3 ((k:Int)<(↑(i%4):Int)) (fun c0=>?_) (fun c0=>?_)
  ·refine xq 6 (congrArg V0 (show(IntKind.i64.wrap (Int.tdiv (↑((l.getD (4+(i/4)) 0).toNat/4 ^ k:Nat):Int) 4):Int)=(↑(((l.getD (4+(i/4)) 0).toNat/4 ^ k:Nat)/4):Int) from Wv ((l.getD (4+(i/4)) 0).toNat/4 ^ k:Nat) 4 (Nat.lt_of_le_of_lt (Nat.div_le_self _ _) (Nat.lt_trans (l.getD (4+i/4) 0).toNat_lt (by decide))) (by decide))) ?_
   refine xwm 6 ((k:Int)+1) (↑(k+1):Int) ?_
   refine xv1 2 8 (show(V0 (↑(((l.getD (4+(i/4)) 0).toNat/4 ^ k:Nat)/4):Int):Value)=V0 (↑((l.getD (4+(i/4)) 0).toNat/4 ^ (k+1):Nat):Int) from by rw[Nat.pow_succ,←Nat.div_div_eq_div_mul]) ?_
   exact ze 0 (b8 _ _ _ ⟨k+1,rfl,rfl,a1,a3,by omega⟩ (by omega))
  refine xq 8 (congrArg V0 (show(Int.tmod (↑((l.getD (4+(i/4)) 0).toNat/4 ^ k:Nat):Int) 4:Int)=(↑(((l.getD (4+(i/4)) 0).toNat/4 ^ k:Nat)%4):Int) from Ug ((l.getD (4+(i/4)) 0).toNat/4 ^ k:Nat) 4)) ?_
  refine xbs 0 1 [V0 (↑(((l.getD (4+(i/4)) 0).toNat/4 ^ k:Nat)%4):Int)] 3 fun b7 W7 n7=>?_
  have g7:=n7.ge a1
  have b2:=Zn a3 n7
  have a9:=Zb a3 n7.below
  have a5:=bln a1 n7.below
  refine xbi 0 fun _ _ _ _ zJ zQ zo zx zy zK=>Zr (m:=1) (news:=[V0 (↑(((l.getD (4+(i/4)) 0).toNat/4 ^ k:Nat)%4):Int)]) (V0 0) 1 8 (i+1) (((Ny l (i+1)).map V0)) zo Tryz.underlying34 (by kernel_rfl) rfl (by decide) zx a9 zy (n7.blk.sl 1 1 (by decide) (by decide)) rfl (by simp[Value.oneCell']) (by unfold maxLen;omega) (by omega) a5.size (by rfl) (by rw[bitI_snoc,List.map_append,show k=i%4 by omega,bitN4];rfl) fun c5 c6 W8 o8 c7 b9=>?_
  refine zK _ _ ?_
  refine xwm 6 ((i:Int)+1) (↑(i+1):Int) ?_
  have b0:=a5.trans b9
  exact ze 2 (b5 _ _ _ ⟨i+1,_,_,rfl,rfl,b0,o8,by omega⟩ (by omega))
 refine xc 8 (args:=#[.slice p i c2]) (ref09_PutN p i c2 (Ny l i) _ (Rh _ _) (Iy _ _) (by omega) (Ze ho)) ?_
 rintro _ W9 ⟨_,rfl,b4,p4,c4,rfl,h4⟩
 have a7:=Zd h4 a0.size
 refine xcv0 11 (fun _ _ _ zo zx=>Yz zo zx (Yk (Ze a7) (Qi _ _)) (Qi _ _) Tryz.underlying22 Tryz.underlying5 Tryz.underlying9) ?_
 have a2:=bln a0 b4
 refine xcv0 1 (fun _ _ _ zo zx=>Yz zo zx (h.below a2) hl Tryz.underlying22 Tryz.underlying5 Tryz.underlying9) ?_
 refine xi 3 (!((⟨(Vw (Ny l i)).toArray⟩:ByteArray).toList==(⟨l.toArray⟩:ByteArray).toList)) (fun a4=>?_) (fun a4=>?_)
 ·have b1:Ww l=false:=by rw[←Zdb hl (by omega),←show i=Zg l 0 4 by omega,←Wk];exact Kb a4
  exact xe 8 (.tuple #[S0,V0 7]) (.inl ⟨b1,rfl,a2⟩)
 have b1:Ww l=true:=by rw[←Zdb hl (by omega),←show i=Zg l 0 4 by omega,←Wk];exact Ka a4
 have a6:=Zb ho b4
 refine xe 10 (.tuple #[.slice p i c2,V0 0]) ?_
 obtain rfl:i=Zg l 0 4:=by omega
 exact .inr ⟨b1,_,_,rfl,a2,a6⟩
structure Sup where
 tx:Int
 time:Int
 unit:Int
 data:Int
 blocks:Int
 top:Int
 details:Int
 dslots:Int
 dover:Int
 mindex:Int
 mover:Int
def supC(s:Sup):List Value:=[V0 s.tx,V0 s.time,V0 s.unit,V0 s.data,V0 s.blocks,V0 s.top,V0 s.details,V0 s.dslots,V0 s.dover,V0 s.mindex,V0 s.mover]
def Oz(s:Sup):List Int:=[s.tx,s.time,s.unit,s.data,s.blocks,s.top,s.details,s.dslots,s.dover,s.mindex,s.mover]
def Zp(s:Sup):Bool:=(((((((((((true&&decide ((0:Int)≤s.tx∧s.tx≤2147483647))&&decide ((0:Int)≤s.time∧s.time≤16777215))&&decide ((1:Int)≤s.unit∧s.unit≤65536))&&decide ((0:Int)≤s.data∧s.data≤65536))&&decide ((2:Int)≤s.blocks∧s.blocks≤14400))&&decide ((1:Int)≤s.top∧s.top≤(s.blocks-1)))&&decide ((1:Int)≤s.details∧s.details≤(s.blocks-1)))&&decide ((1:Int)≤s.dslots∧s.dslots≤(s.blocks-1)))&&decide ((1:Int)≤s.dover∧s.dover≤(s.blocks-1)))&&decide ((1:Int)≤s.mindex∧s.mindex≤(s.blocks-1)))&&decide ((1:Int)≤s.mover∧s.mover≤(s.blocks-1)))
def Xe(l:Bl):Sup:=⟨(Zg l 12 4:Int),(Zg l 16 4:Int),(Zg l 20 4:Int),(Zg l 24 4:Int),(Zg l 28 4:Int),(Zg l 32 4:Int),(Zg l 36 4:Int),(Zg l 40 4:Int),(Zg l 44 4:Int),(Zg l 48 4:Int),(Zg l 52 4:Int)⟩
def Gp:Bl:=[83,67,65,78,84,76,73,78]
def Hv(N:List Int):Bl:=N.flatMap fun n=>leB n 4
theorem Ae(N:List Int):(Hv N).length=N.length*4:=by
 unfold Hv
 induction N with
 | nil=>rfl
 | cons n N ih=>rw[List.flatMap_cons,List.length_append,Zi,ih,List.length_cons];omega
def Wj(s:Sup):Bl:=Gp++Hv (1::Oz s)++List.replicate 188 0
theorem Ja(s:Sup):(Wj s).length=244:=by
 unfold Wj;rw[List.length_append,List.length_append,Ae,List.length_replicate];rfl
def Ak(l:Bl):Bool:=(l.take 8==Gp)&&decide (Zg l 8 4=1)&&Yt (l.drop 56)&&Zp (Xe l)
def Iv(n:Int):List Value:=[V0 4,V0 n]
theorem fldC_len(n:Int):(Iv n).length=2:=rfl
theorem Fs{l:Bl}{k:Nat}(h:k+4≤l.length):l.drop k=leB (Zg l k 4:Int) 4++l.drop (k+4):=by
 rw[Ze6 h,←List.drop_drop,List.take_append_drop]
theorem drop8{l:Bl}(hl:l.length=244):l.drop 8=Hv ((Zg l 8 4:Int)::Oz (Xe l))++l.drop 56:=by
 rw[Fs (k:=8) (by omega),Fs (k:=12) (by omega),Fs (k:=16) (by omega),Fs (k:=20) (by omega),Fs (k:=24) (by omega),Fs (k:=28) (by omega),Fs (k:=32) (by omega),Fs (k:=36) (by omega),Fs (k:=40) (by omega),Fs (k:=44) (by omega),Fs (k:=48) (by omega),Fs (k:=52) (by omega)]
 simp[Hv,Oz,Xe]
theorem zeroB_iff(l:Bl):Yt l=true↔l=List.replicate l.length 0:=by
 unfold Yt
 rw[List.all_eq_true]
 constructor
 ·intro h;exact List.eq_replicate_iff.2 ⟨rfl,fun x hx=>by simpa using h x hx⟩
 ·intro h x hx;rw[h] at hx;rw[(List.mem_replicate.1 hx).2];rfl
theorem supB_eq{l:Bl}(hl:l.length=244):(Wj (Xe l)==l)=((l.take 8==Gp)&&decide (Zg l 8 4=1)&&Yt (l.drop 56)):=by
 have e1:l=l.take 8++(Hv ((Zg l 8 4:Int)::Oz (Xe l))++l.drop 56):=by rw[←drop8 hl,List.take_append_drop]
 have h8:(l.take 8).length=Gp.length:=by simp[Gp];omega
 have hn:∀ x:Int,(Hv (x::Oz (Xe l))).length=48:=fun x=>by rw[Ae];rfl
 have hr:=Yn l 8 4 (by decide)
 have a0:(l.drop 56).length=188:=by simp;omega
 rw[Bool.eq_iff_iff,beq_iff_eq,Bool.and_eq_true,Bool.and_eq_true,beq_iff_eq,decide_eq_true_iff,zeroB_iff,a0]
 constructor
 ·intro h
  have e2:=h.trans e1
  rw[Wj,List.append_assoc] at e2
  obtain⟨a1,a2⟩:=List.append_inj e2 h8.symm
  obtain⟨a3,a4⟩:=List.append_inj a2 (by rw[hn,hn])
  have a5:leB (1:Int) 4=leB (Zg l 8 4:Int) 4:=by
   unfold Hv at a3
   rw[List.flatMap_cons,List.flatMap_cons] at a3
   exact(List.append_inj a3 (by rw[Zi,Zi])).1
  have a6:=leB_inj (m:=1) (n:=Zg l 8 4) (w:=4) (by decide) (by omega) a5
  exact⟨⟨a1.symm,a6.symm⟩,a4.symm⟩
 ·rintro⟨⟨a1,a2⟩,a3⟩
  conv=>rhs;rw[e1]
  rw[a1,a2,a3,Wj,List.append_assoc];rfl
theorem Xm(B bs bo off:Nat)(cs:List Value)(n lo hi:Int)(b:Bool)(w:World)(hBw:B≤w.heap.size)(hBo:B≤bo)(ks:Blk w bs cs 24)(hn:cs[off]? = some (V0 n))(ko:Blk w bo [.bool b] 4) :
 C0 78 #[.pointer (some ⟨bs,off,none⟩),V0 lo,V0 hi,P0 bo] w ((fun e w'=>∃ u,e=.returned u∧Below B w w'∧Zf [4] w w'∧Blk w' bo [.bool (b&&decide ((lo:Int)≤n∧n≤hi))] 4)):=by
 refine zin 22 Tryz.func78 ?_
 refine xb 1 0 ko ?_
 refine xg 1 [7,8] b (fun a1=>?_) (fun a1=>?_)
 ·refine xl 2 (ks.cell (i:=off) hn) ?_
  refine xg 4 [13,14,15] (decide (n≥lo)) (fun a0=>?_) (fun a0=>?_)
  ·have a0:=of_decide_eq_true a0
   refine xl 2 (ks.cell (i:=off) hn) ?_
   refine xs 3 ko [.bool (decide (n≤hi))] fun W3 u3 k3=>?_
   have hB:=u3.below (Below.refl B w) hBo
   have hO:=(show Zf [4] w _ from(Zf.of_upd u3 ko (by decide)))
   exact xe 1 (.tuple #[]) ⟨_,rfl,hB,hO,by rw[show(b&&decide ((lo:Int)≤n∧n≤hi))=decide (n≤hi) from by first|(rw[show decide ((lo:Int)≤n∧n≤hi)=false from decide_eq_false (by omega),Bool.and_false];done)|(simp_all;done)|(simp_all;omega)];exact k3⟩
  have a0:=of_decide_eq_false a0
  refine xs 6 ko [.bool false] fun W4 u4 k4=>?_
  have hB:=u4.below (Below.refl B w) hBo
  have hO:=(show Zf [4] w _ from(Zf.of_upd u4 ko (by decide)))
  exact xe 1 (.tuple #[]) ⟨_,rfl,hB,hO,by rw[show(b&&decide ((lo:Int)≤n∧n≤hi))=false from by first|(rw[show decide ((lo:Int)≤n∧n≤hi)=false from decide_eq_false (by omega),Bool.and_false];done)|(simp_all;done)|(simp_all;omega)];exact k4⟩
 refine xs 13 ko [.bool false] fun W5 u5 k5=>?_
 have hB:=u5.below (Below.refl B w) hBo
 have hO:=(show Zf [4] w _ from(Zf.of_upd u5 ko (by decide)))
 exact xe 1 (.tuple #[]) ⟨_,rfl,hB,hO,by rw[show(b&&decide ((lo:Int)≤n∧n≤hi))=false from by first|(rw[show decide ((lo:Int)≤n∧n≤hi)=false from decide_eq_false (by omega),Bool.and_false];done)|(simp_all;done)|(simp_all;omega)];exact k5⟩
theorem Ih(B bs bo:Nat)(s:Sup)(w:World)(hBw:B≤w.heap.size)(hBo:B≤bo)(hb0:0≤s.blocks)(hb1:s.blocks<9223372036854775808)(ks:Blk w bs [V0 s.tx,V0 s.time,V0 s.unit,V0 s.data,V0 s.blocks,V0 s.top,V0 s.details,V0 s.dslots,V0 s.dover,V0 s.mindex,V0 s.mover] 24)(ko:Blk w bo [.bool true] 4) :
 C0 77 #[P0 bs,.func (.func 78) #[] #[P0 bo]] w ((fun e w'=>∃ u,e=.returned u∧Below B w w'∧Zf [4] w w'∧Blk w' bo [.bool (Zp s)] 4)):=by
 refine zin 64 Tryz.func77 ?_
 refine xc 6 (args:=#[P0 bs,V0 0,V0 2147483647,P0 bo]) (Xm B bs bo 0 _ s.tx 0 2147483647 true _ (Nat.le_trans hBw (Below.refl B _).size) hBo ks rfl ko) ?_
 rintro _ W1 ⟨u1,rfl,hb1,e0,f3⟩
 have c2:=ks.only e0 (by decide)
 refine xc 8 (args:=#[.pointer (some ⟨bs,1,none⟩),V0 0,V0 16777215,P0 bo]) (Xm B bs bo 1 _ s.time 0 16777215 (true&&decide ((0:Int)≤s.tx∧s.tx≤2147483647)) _ (Nat.le_trans hBw hb1.size) hBo c2 rfl f3) ?_
 rintro _ W2 ⟨u2,rfl,e5,e2,e7⟩
 have b2:=hb1.trans e5
 have c4:=c2.only e2 (by decide)
 refine xc 8 (args:=#[.pointer (some ⟨bs,2,none⟩),V0 1,V0 65536,P0 bo]) (Xm B bs bo 2 _ s.unit 1 65536 ((true&&decide ((0:Int)≤s.tx∧s.tx≤2147483647))&&decide ((0:Int)≤s.time∧s.time≤16777215)) _ (Nat.le_trans hBw b2.size) hBo c4 rfl e7) ?_
 rintro _ W3 ⟨u3,rfl,f0,e1,f9⟩
 have c0:=b2.trans f0
 have a9:=c4.only e1 (by decide)
 refine xc 8 (args:=#[.pointer (some ⟨bs,3,none⟩),V0 0,V0 65536,P0 bo]) (Xm B bs bo 3 _ s.data 0 65536 (((true&&decide ((0:Int)≤s.tx∧s.tx≤2147483647))&&decide ((0:Int)≤s.time∧s.time≤16777215))&&decide ((1:Int)≤s.unit∧s.unit≤65536)) _ (Nat.le_trans hBw c0.size) hBo a9 rfl f9) ?_
 rintro _ W4 ⟨u4,rfl,f6,e4,e6⟩
 have b3:=c0.trans f6
 have b1:=a9.only e4 (by decide)
 refine xc 8 (args:=#[.pointer (some ⟨bs,4,none⟩),V0 2,V0 14400,P0 bo]) (Xm B bs bo 4 _ s.blocks 2 14400 ((((true&&decide ((0:Int)≤s.tx∧s.tx≤2147483647))&&decide ((0:Int)≤s.time∧s.time≤16777215))&&decide ((1:Int)≤s.unit∧s.unit≤65536))&&decide ((0:Int)≤s.data∧s.data≤65536)) _ (Nat.le_trans hBw b3.size) hBo b1 rfl e6) ?_
 rintro _ W5 ⟨u5,rfl,f7,e3,f8⟩
 refine xd 3 .z ?_
 refine xbs (.o [0,1,2,3,4,5,6,7,8,9,10,11,12,13,14,15,16,17,20] 18) 6 [.pointer (some ⟨bs,5,none⟩),.pointer (some ⟨bs,6,none⟩),.pointer (some ⟨bs,7,none⟩),.pointer (some ⟨bs,8,none⟩),.pointer (some ⟨bs,9,none⟩),.pointer (some ⟨bs,10,none⟩)] 171 fun b6 W6 n6=>?_
 have c1:=blB (b3.trans f7) hBw (Za W5)
 have g6:=n6.ge0 c1
 refine xu (.r [19] 3) 7 ?_
 refine xb 14 0 n6.blk ?_
 have a7:=((b1.only e3 (by decide)).below (Za W5)).below n6.below
 refine xb 9 4 a7 ?_
 refine xw 0 (s.blocks-1) ?_
 have b8:=blB c1 hBw n6.below
 have b7:=(f8.below (Za W5)).below n6.below
 refine xc 0 (args:=#[.pointer (some ⟨bs,5,none⟩),V0 1,V0 (s.blocks-1),P0 bo]) (Xm B bs bo 5 _ s.top 1 (s.blocks-1) (((((true&&decide ((0:Int)≤s.tx∧s.tx≤2147483647))&&decide ((0:Int)≤s.time∧s.time≤16777215))&&decide ((1:Int)≤s.unit∧s.unit≤65536))&&decide ((0:Int)≤s.data∧s.data≤65536))&&decide ((2:Int)≤s.blocks∧s.blocks≤14400)) _ (Nat.le_trans hBw b8.size) hBo a7 rfl b7) ?_
 rintro _ W7 ⟨u7,rfl,f1,d9,e9⟩
 have b4:=n6.blk.only d9 (by decide)
 refine xb 22 1 b4 ?_
 have a2:=a7.only d9 (by decide)
 refine xb 9 4 a2 ?_
 refine xw 0 (s.blocks-1) ?_
 have b9:=b8.trans f1
 refine xc 0 (args:=#[.pointer (some ⟨bs,6,none⟩),V0 1,V0 (s.blocks-1),P0 bo]) (Xm B bs bo 6 _ s.details 1 (s.blocks-1) ((((((true&&decide ((0:Int)≤s.tx∧s.tx≤2147483647))&&decide ((0:Int)≤s.time∧s.time≤16777215))&&decide ((1:Int)≤s.unit∧s.unit≤65536))&&decide ((0:Int)≤s.data∧s.data≤65536))&&decide ((2:Int)≤s.blocks∧s.blocks≤14400))&&decide ((1:Int)≤s.top∧s.top≤(s.blocks-1))) _ (Nat.le_trans hBw b9.size) hBo a2 rfl e9) ?_
 rintro _ W8 ⟨u8,rfl,f2,d8,e8⟩
 have c3:=b4.only d8 (by decide)
 refine xb 22 2 c3 ?_
 have a3:=a2.only d8 (by decide)
 refine xb 9 4 a3 ?_
 refine xw 0 (s.blocks-1) ?_
 have c7:=b9.trans f2
 refine xc 0 (args:=#[.pointer (some ⟨bs,7,none⟩),V0 1,V0 (s.blocks-1),P0 bo]) (Xm B bs bo 7 _ s.dslots 1 (s.blocks-1) (((((((true&&decide ((0:Int)≤s.tx∧s.tx≤2147483647))&&decide ((0:Int)≤s.time∧s.time≤16777215))&&decide ((1:Int)≤s.unit∧s.unit≤65536))&&decide ((0:Int)≤s.data∧s.data≤65536))&&decide ((2:Int)≤s.blocks∧s.blocks≤14400))&&decide ((1:Int)≤s.top∧s.top≤(s.blocks-1)))&&decide ((1:Int)≤s.details∧s.details≤(s.blocks-1))) _ (Nat.le_trans hBw c7.size) hBo a3 rfl e8) ?_
 rintro _ W9 ⟨u9,rfl,f5,d4,f4⟩
 have c8:=c3.only d4 (by decide)
 refine xb 22 3 c8 ?_
 have a6:=a3.only d4 (by decide)
 refine xb 9 4 a6 ?_
 refine xw 0 (s.blocks-1) ?_
 have b0:=c7.trans f5
 refine xc 0 (args:=#[.pointer (some ⟨bs,8,none⟩),V0 1,V0 (s.blocks-1),P0 bo]) (Xm B bs bo 8 _ s.dover 1 (s.blocks-1) ((((((((true&&decide ((0:Int)≤s.tx∧s.tx≤2147483647))&&decide ((0:Int)≤s.time∧s.time≤16777215))&&decide ((1:Int)≤s.unit∧s.unit≤65536))&&decide ((0:Int)≤s.data∧s.data≤65536))&&decide ((2:Int)≤s.blocks∧s.blocks≤14400))&&decide ((1:Int)≤s.top∧s.top≤(s.blocks-1)))&&decide ((1:Int)≤s.details∧s.details≤(s.blocks-1)))&&decide ((1:Int)≤s.dslots∧s.dslots≤(s.blocks-1))) _ (Nat.le_trans hBw b0.size) hBo a6 rfl f4) ?_
 rintro _ g2 ⟨g0,rfl,d7,a8,d2⟩
 have b5:=c8.only a8 (by decide)
 refine xb 22 4 b5 ?_
 have a5:=a6.only a8 (by decide)
 refine xb 9 4 a5 ?_
 refine xw 0 (s.blocks-1) ?_
 have c5:=b0.trans d7
 refine xc 0 (args:=#[.pointer (some ⟨bs,9,none⟩),V0 1,V0 (s.blocks-1),P0 bo]) (Xm B bs bo 9 _ s.mindex 1 (s.blocks-1) (((((((((true&&decide ((0:Int)≤s.tx∧s.tx≤2147483647))&&decide ((0:Int)≤s.time∧s.time≤16777215))&&decide ((1:Int)≤s.unit∧s.unit≤65536))&&decide ((0:Int)≤s.data∧s.data≤65536))&&decide ((2:Int)≤s.blocks∧s.blocks≤14400))&&decide ((1:Int)≤s.top∧s.top≤(s.blocks-1)))&&decide ((1:Int)≤s.details∧s.details≤(s.blocks-1)))&&decide ((1:Int)≤s.dslots∧s.dslots≤(s.blocks-1)))&&decide ((1:Int)≤s.dover∧s.dover≤(s.blocks-1))) _ (Nat.le_trans hBw c5.size) hBo a5 rfl d2) ?_
 rintro _ g5 ⟨g1,rfl,d6,a4,d1⟩
 have c9:=b5.only a4 (by decide)
 refine xb 22 5 c9 ?_
 have a0:=a5.only a4 (by decide)
 refine xb 9 4 a0 ?_
 refine xw 0 (s.blocks-1) ?_
 have a1:=c5.trans d6
 refine xc 0 (args:=#[.pointer (some ⟨bs,10,none⟩),V0 1,V0 (s.blocks-1),P0 bo]) (Xm B bs bo 10 _ s.mover 1 (s.blocks-1) ((((((((((true&&decide ((0:Int)≤s.tx∧s.tx≤2147483647))&&decide ((0:Int)≤s.time∧s.time≤16777215))&&decide ((1:Int)≤s.unit∧s.unit≤65536))&&decide ((0:Int)≤s.data∧s.data≤65536))&&decide ((2:Int)≤s.blocks∧s.blocks≤14400))&&decide ((1:Int)≤s.top∧s.top≤(s.blocks-1)))&&decide ((1:Int)≤s.details∧s.details≤(s.blocks-1)))&&decide ((1:Int)≤s.dslots∧s.dslots≤(s.blocks-1)))&&decide ((1:Int)≤s.dover∧s.dover≤(s.blocks-1)))&&decide ((1:Int)≤s.mindex∧s.mindex≤(s.blocks-1))) _ (Nat.le_trans hBw a1.size) hBo a0 rfl d1) ?_
 rintro _ g7 ⟨g3,rfl,d3,d5,d0⟩
 have c6:=a1.trans d3
 have hO:=((((((((((((show Zf [4] w _ from e0).trans e2).trans e1).trans e4).trans e3).trans (Zf.of_below (Za W5))).trans (Zf.of_below n6.below)).trans d9).trans d8).trans d4).trans a8).trans a4).trans d5
 exact xe 19 (.tuple #[]) ⟨_,rfl,c6,hO,d0⟩
theorem Zdu(s:Sup)(w:World)(hb0:0≤s.blocks)(hb1:s.blocks<9223372036854775808) :
 C0 34 #[.agg #[V0 s.tx,V0 s.time,V0 s.unit,V0 s.data,V0 s.blocks,V0 s.top,V0 s.details,V0 s.dslots,V0 s.dover,V0 s.mindex,V0 s.mover]] w (Ret (.bool (Zp s)) w):=by
 refine zin 7 Tryz.func34 ?_
 refine xa 2 [V0 s.tx,V0 s.time,V0 s.unit,V0 s.data,V0 s.blocks,V0 s.top,V0 s.details,V0 s.dslots,V0 s.dover,V0 s.mindex,V0 s.mover] 24 fun b1 W1 n1=>?_
 refine xa 5 [.bool false] 4 fun b2 W2 n2=>?_
 refine xs 0 n2.blk [.bool true] fun W3 u3 k3=>?_
 have g2:=n2.ge n1.below
 have hB:=u3.below (bln n1.below n2.below) g2
 have k1:=u3.blkT (n1.blk.below n2.below) n2.blk (by decide)
 refine xc 5 (args:=#[P0 b1,.func (.func 78) #[] #[P0 b2]]) (Ih w.heap.size b1 b2 s _ hB.size g2 hb0 hb1 k1 k3) ?_
 rintro _ W4 ⟨u4,rfl,a2,a3,a1⟩
 refine xb 4 0 a1 ?_
 have a0:=hB.trans a2
 exact xe 4 (.bool (Zp s)) ⟨rfl,a0⟩
theorem Kj(B Bx bs bl off n:Nat)(cs:List Value)(x:Int)(lo hi:Value)(p:O0)(c:Nat)(N:List Int)(w:World)(hBm:B≤Bx)(hBx:Bx≤w.heap.size)(hBw:B≤w.heap.size)(hBl:B≤bl)(ks:Blk w bs cs 24)(hn:cs[off]? = some (V0 x))(kl:Blk w bl [.slice p n c] 293)(hup:w.ownsRow Bx 292 2 (.slice p n c) n (N.flatMap Iv))(hnn:n≤1000) :
 C0 167 #[.pointer (some ⟨bs,off,none⟩),lo,hi,P0 bl] w ((fun e w'=>∃ u p' c',e=.returned u∧Below B w w'∧Zf [293,292] w w'∧Blk w' bl [.slice p' (n+1) c'] 293∧w'.ownsRow Bx 292 2 (.slice p' (n+1) c') (n+1) ((N++[x]).flatMap Iv))):=by
 refine zin 14 Tryz.func167 ?_
 refine xd 0 (.t B [293,292]) ?_
 have b6:=ks.below (Za w)
 refine xlt (.e [1,2] 3) (.t B [293,292]) (fun V hV=>(b6.only hV.2 (by decide)).cell (i:=off) hn) ?_
 refine xm2 (.b [4]) 0 5 ?_ ?_
 ·have a7:=kl.below (Za w)
  refine xb 0 0 a7 ?_
  refine xbs (.o [] 5) 1 [V0 4,V0 x] 292 fun b1 W1 n1=>?_
  have a5:=Zb hup (Za w)
  have b3:=Zn a5 n1
  have a1:=Zb a5 n1.below
  have hB:=blB (blB (Below.refl B w) hBw (Za w)) hBw n1.below
  refine ybi (.o [] 6) (.t B [293,292]) fun _ _ _ _ zJ zQ zo zx zy zK=>Zr (m:=1) (news:=[V0 4,V0 x]) (.agg #[V0 0,V0 0]) 2 16 (n+1) (((N++[x]).flatMap Iv)) zo Tryz.underlying293 (by kernel_rfl) rfl (by decide) zx a1 zy (n1.blk.sl 1 1 (by decide) (by decide)) rfl (by simp[Value.oneCell']) (by unfold maxLen;omega) (by omega) (Nat.le_trans hBx hB.size) (by rfl) (by rw[List.flatMap_append];rfl) fun c2 c3 W2 o2 b2 b9=>?_
  refine zK _ _ (Zx (b9.mono hBm) b2 a1 (by decide)) ?_
  have a3:=(a7.below n1.below).grown b2 a1 (by decide)
  refine ys (.o [] 7) a3 [.slice c2 (n+1) c3] (.t B [293,292]) fun W3 u3 k3=>⟨(Zl u3 a3 hBl (by decide)),?_⟩
  have a9:=u3.below (hB.trans (b9.mono hBm)) hBl
  have hO:=(((show Zf [293,292] w _ from(Zf.of_below (Za w))).trans (Zf.of_below n1.below)).trans (Zf.of_grown b2 a1 (by decide))).trans (Zf.of_upd u3 a3 (by decide))
  have b8:=u3.own2 o2 a3 (by decide)
  exact xe 1 (.tuple #[]) ⟨_,_,_,rfl,a9,hO,k3,b8⟩
 refine xbs 0 1 [V0 4,V0 x] 292 fun b4 W4 n4=>?_
 have a4:=Zb hup (Za w)
 have b0:=Zn a4 n4
 have a6:=(kl.below (Za w)).below n4.below
 refine xb (.o [] 0) 0 a6 ?_
 have a0:=Zb a4 n4.below
 have hB:=blB (blB (Below.refl B w) hBw (Za w)) hBw n4.below
 refine ybi (.o [] 6) (.t B [293,292]) fun _ _ _ _ zJ zQ zo zx zy zK=>Zr (m:=1) (news:=[V0 4,V0 x]) (.agg #[V0 0,V0 0]) 2 16 (n+1) (((N++[x]).flatMap Iv)) zo Tryz.underlying293 (by kernel_rfl) rfl (by decide) zx a0 zy (n4.blk.sl 1 1 (by decide) (by decide)) rfl (by simp[Value.oneCell']) (by unfold maxLen;omega) (by omega) (Nat.le_trans hBx hB.size) (by rfl) (by rw[List.flatMap_append];rfl) fun c4 c1 W5 o5 a8 c0=>?_
 refine zK _ _ (Zx (c0.mono hBm) a8 a0 (by decide)) ?_
 have a2:=a6.grown a8 a0 (by decide)
 refine ys (.o [] 7) a2 [.slice c4 (n+1) c1] (.t B [293,292]) fun W6 u6 k6=>⟨(Zl u6 a2 hBl (by decide)),?_⟩
 have b5:=u6.below (hB.trans (c0.mono hBm)) hBl
 have hO:=(((show Zf [293,292] w _ from(Zf.of_below (Za w))).trans (Zf.of_below n4.below)).trans (Zf.of_grown a8 a0 (by decide))).trans (Zf.of_upd u6 a2 (by decide))
 have b7:=u6.own2 o5 a2 (by decide)
 exact xe 1 (.tuple #[]) ⟨_,_,_,rfl,b5,hO,k6,b7⟩
theorem Zdc(B Bx bs bl:Nat)(s:Sup)(p0:O0)(c0:Nat)(w:World)(hBm:B≤Bx)(hBx:Bx≤w.heap.size)(hBw:B≤w.heap.size)(hBl:B≤bl)(hb0:0≤s.blocks)(hb1:s.blocks<9223372036854775808)(ks:Blk w bs [V0 s.tx,V0 s.time,V0 s.unit,V0 s.data,V0 s.blocks,V0 s.top,V0 s.details,V0 s.dslots,V0 s.dover,V0 s.mindex,V0 s.mover] 24)(kl:Blk w bl [.slice p0 1 c0] 293)(hr0:w.ownsRow Bx 292 2 (.slice p0 1 c0) 1 ([1].flatMap Iv)) :
 C0 77 #[P0 bs,.func (.func 167) #[] #[P0 bl]] w ((fun e w'=>∃ u p c,e=.returned u∧Below B w w'∧Zf [293,292] w w'∧Blk w' bl [.slice p 12 c] 293∧w'.ownsRow Bx 292 2 (.slice p 12 c) 12 ((1::Oz s).flatMap Iv))):=by
 refine zin 64 Tryz.func77 ?_
 refine xc 6 (args:=#[P0 bs,V0 0,V0 2147483647,P0 bl]) (Kj B Bx bs bl 0 1 _ s.tx _ _ p0 c0 [1] _ hBm (Nat.le_trans hBx (Below.refl B _).size) (Nat.le_trans hBw (Below.refl B _).size) hBl ks rfl kl hr0 (by decide)) ?_
 rintro _ W1 ⟨u1,p1,c1,rfl,hb1,h6,e8,i3⟩
 have h4:World.ownsRow _ _ _ _ (.slice p1 2 c1) 2 ([1,s.tx].flatMap Iv):=i3
 replace e8:Blk _ _ [.slice p1 2 c1] _:=e8
 have d4:=ks.only h6 (by decide)
 refine xc 8 (args:=#[.pointer (some ⟨bs,1,none⟩),V0 0,V0 16777215,P0 bl]) (Kj B Bx bs bl 1 2 _ s.time _ _ p1 c1 [1,s.tx] _ hBm (Nat.le_trans hBx hb1.size) (Nat.le_trans hBw hb1.size) hBl d4 rfl e8 h4 (by decide)) ?_
 rintro _ W2 ⟨u2,p2,c2,rfl,j2,h7,f9,j4⟩
 have g7:World.ownsRow _ _ _ _ (.slice p2 3 c2) 3 ([1,s.tx,s.time].flatMap Iv):=j4
 replace f9:Blk _ _ [.slice p2 3 c2] _:=f9
 have a6:=hb1.trans j2
 have e2:=d4.only h7 (by decide)
 refine xc 8 (args:=#[.pointer (some ⟨bs,2,none⟩),V0 1,V0 65536,P0 bl]) (Kj B Bx bs bl 2 3 _ s.unit _ _ p2 c2 [1,s.tx,s.time] _ hBm (Nat.le_trans hBx a6.size) (Nat.le_trans hBw a6.size) hBl e2 rfl f9 g7 (by decide)) ?_
 rintro _ W3 ⟨u3,p3,c3,rfl,j8,i0,g2,j3⟩
 have e5:World.ownsRow _ _ _ _ (.slice p3 4 c3) 4 ([1,s.tx,s.time,s.unit].flatMap Iv):=j3
 replace g2:Blk _ _ [.slice p3 4 c3] _:=g2
 have a8:=a6.trans j8
 have d2:=e2.only i0 (by decide)
 refine xc 8 (args:=#[.pointer (some ⟨bs,3,none⟩),V0 0,V0 65536,P0 bl]) (Kj B Bx bs bl 3 4 _ s.data _ _ p3 c3 [1,s.tx,s.time,s.unit] _ hBm (Nat.le_trans hBx a8.size) (Nat.le_trans hBw a8.size) hBl d2 rfl g2 e5 (by decide)) ?_
 rintro _ W4 ⟨u4,p4,c4,rfl,j0,i1,g8,j5⟩
 have h2:World.ownsRow _ _ _ _ (.slice p4 5 c4) 5 ([1,s.tx,s.time,s.unit,s.data].flatMap Iv):=j5
 replace g8:Blk _ _ [.slice p4 5 c4] _:=g8
 have a7:=a8.trans j0
 have e0:=d2.only i1 (by decide)
 refine xc 8 (args:=#[.pointer (some ⟨bs,4,none⟩),V0 2,V0 14400,P0 bl]) (Kj B Bx bs bl 4 5 _ s.blocks _ _ p4 c4 [1,s.tx,s.time,s.unit,s.data] _ hBm (Nat.le_trans hBx a7.size) (Nat.le_trans hBw a7.size) hBl e0 rfl g8 h2 (by decide)) ?_
 rintro _ W5 ⟨u5,p5,c5,rfl,i6,h8,f1,i5⟩
 have g1:World.ownsRow _ _ _ _ (.slice p5 6 c5) 6 ([1,s.tx,s.time,s.unit,s.data,s.blocks].flatMap Iv):=i5
 replace f1:Blk _ _ [.slice p5 6 c5] _:=f1
 refine xd 3 .z ?_
 refine xbs (.o [0,1,2,3,4,5,6,7,8,9,10,11,12,13,14,15,16,17,20] 18) 6 [.pointer (some ⟨bs,5,none⟩),.pointer (some ⟨bs,6,none⟩),.pointer (some ⟨bs,7,none⟩),.pointer (some ⟨bs,8,none⟩),.pointer (some ⟨bs,9,none⟩),.pointer (some ⟨bs,10,none⟩)] 171 fun b6 W6 n6=>?_
 have d8:=blB (a7.trans i6) hBw (Za W5)
 have g6:=n6.ge0 d8
 refine xu (.r [19] 3) 7 ?_
 refine xb 14 0 n6.blk ?_
 have b0:=((e0.only h8 (by decide)).below (Za W5)).below n6.below
 refine xb 9 4 b0 ?_
 refine xw 0 (s.blocks-1) ?_
 have b9:=blB d8 hBw n6.below
 have e3:=(f1.below (Za W5)).below n6.below
 have a9:=Zb (Zb g1 (Za W5)) n6.below
 refine xc 0 (args:=#[.pointer (some ⟨bs,5,none⟩),V0 1,V0 (s.blocks-1),P0 bl]) (Kj B Bx bs bl 5 6 _ s.top _ _ p5 c5 [1,s.tx,s.time,s.unit,s.data,s.blocks] _ hBm (Nat.le_trans hBx b9.size) (Nat.le_trans hBw b9.size) hBl b0 rfl e3 a9 (by decide)) ?_
 rintro _ W7 ⟨u7,p6,c6,rfl,i8,f2,g3,j1⟩
 have f5:World.ownsRow _ _ _ _ (.slice p6 7 c6) 7 ([1,s.tx,s.time,s.unit,s.data,s.blocks,s.top].flatMap Iv):=j1
 replace g3:Blk _ _ [.slice p6 7 c6] _:=g3
 have d5:=n6.blk.only f2 (by decide)
 refine xb 22 1 d5 ?_
 have b3:=b0.only f2 (by decide)
 refine xb 9 4 b3 ?_
 refine xw 0 (s.blocks-1) ?_
 have d0:=b9.trans i8
 refine xc 0 (args:=#[.pointer (some ⟨bs,6,none⟩),V0 1,V0 (s.blocks-1),P0 bl]) (Kj B Bx bs bl 6 7 _ s.details _ _ p6 c6 [1,s.tx,s.time,s.unit,s.data,s.blocks,s.top] _ hBm (Nat.le_trans hBx d0.size) (Nat.le_trans hBw d0.size) hBl b3 rfl g3 f5 (by decide)) ?_
 rintro _ W8 ⟨u8,p7,c7,rfl,j6,h1,g0,i9⟩
 have f0:World.ownsRow _ _ _ _ (.slice p7 8 c7) 8 ([1,s.tx,s.time,s.unit,s.data,s.blocks,s.top,s.details].flatMap Iv):=i9
 replace g0:Blk _ _ [.slice p7 8 c7] _:=g0
 have e1:=d5.only h1 (by decide)
 refine xb 22 2 e1 ?_
 have b4:=b3.only h1 (by decide)
 refine xb 9 4 b4 ?_
 refine xw 0 (s.blocks-1) ?_
 have b2:=d0.trans j6
 refine xc 0 (args:=#[.pointer (some ⟨bs,7,none⟩),V0 1,V0 (s.blocks-1),P0 bl]) (Kj B Bx bs bl 7 8 _ s.dslots _ _ p7 c7 [1,s.tx,s.time,s.unit,s.data,s.blocks,s.top,s.details] _ hBm (Nat.le_trans hBx b2.size) (Nat.le_trans hBw b2.size) hBl b4 rfl g0 f0 (by decide)) ?_
 rintro _ W9 ⟨u9,p8,c8,rfl,j7,f8,f7,i4⟩
 have f4:World.ownsRow _ _ _ _ (.slice p8 9 c8) 9 ([1,s.tx,s.time,s.unit,s.data,s.blocks,s.top,s.details,s.dslots].flatMap Iv):=i4
 replace f7:Blk _ _ [.slice p8 9 c8] _:=f7
 have e4:=e1.only f8 (by decide)
 refine xb 22 3 e4 ?_
 have d1:=b4.only f8 (by decide)
 refine xb 9 4 d1 ?_
 refine xw 0 (s.blocks-1) ?_
 have a2:=b2.trans j7
 refine xc 0 (args:=#[.pointer (some ⟨bs,8,none⟩),V0 1,V0 (s.blocks-1),P0 bl]) (Kj B Bx bs bl 8 9 _ s.dover _ _ p8 c8 [1,s.tx,s.time,s.unit,s.data,s.blocks,s.top,s.details,s.dslots] _ hBm (Nat.le_trans hBx a2.size) (Nat.le_trans hBw a2.size) hBl d1 rfl f7 f4 (by decide)) ?_
 rintro _ j9 ⟨k4,p9,c9,rfl,h0,b1,a5,i7⟩
 have e6:World.ownsRow _ _ _ _ (.slice p9 10 c9) 10 ([1,s.tx,s.time,s.unit,s.data,s.blocks,s.top,s.details,s.dslots,s.dover].flatMap Iv):=i7
 replace a5:Blk _ _ [.slice p9 10 c9] _:=a5
 have d6:=e4.only b1 (by decide)
 refine xb 22 4 d6 ?_
 have b5:=d1.only b1 (by decide)
 refine xb 9 4 b5 ?_
 refine xw 0 (s.blocks-1) ?_
 have b7:=a2.trans h0
 refine xc 0 (args:=#[.pointer (some ⟨bs,9,none⟩),V0 1,V0 (s.blocks-1),P0 bl]) (Kj B Bx bs bl 9 10 _ s.mindex _ _ p9 c9 [1,s.tx,s.time,s.unit,s.data,s.blocks,s.top,s.details,s.dslots,s.dover] _ hBm (Nat.le_trans hBx b7.size) (Nat.le_trans hBw b7.size) hBl b5 rfl a5 e6 (by decide)) ?_
 rintro _ k1 ⟨k2,h3,e9,rfl,g9,a4,b8,h5⟩
 have d7:World.ownsRow _ _ _ _ (.slice h3 11 e9) 11 ([1,s.tx,s.time,s.unit,s.data,s.blocks,s.top,s.details,s.dslots,s.dover,s.mindex].flatMap Iv):=h5
 replace b8:Blk _ _ [.slice h3 11 e9] _:=b8
 have f3:=d6.only a4 (by decide)
 refine xb 22 5 f3 ?_
 have a1:=b5.only a4 (by decide)
 refine xb 9 4 a1 ?_
 refine xw 0 (s.blocks-1) ?_
 have a0:=b7.trans g9
 refine xc 0 (args:=#[.pointer (some ⟨bs,10,none⟩),V0 1,V0 (s.blocks-1),P0 bl]) (Kj B Bx bs bl 10 11 _ s.mover _ _ h3 e9 [1,s.tx,s.time,s.unit,s.data,s.blocks,s.top,s.details,s.dslots,s.dover,s.mindex] _ hBm (Nat.le_trans hBx a0.size) (Nat.le_trans hBw a0.size) hBl a1 rfl b8 d7 (by decide)) ?_
 rintro _ k3 ⟨k0,h9,i2,rfl,f6,e7,a3,g5⟩
 have d3:World.ownsRow _ _ _ _ (.slice h9 12 i2) 12 ([1,s.tx,s.time,s.unit,s.data,s.blocks,s.top,s.details,s.dslots,s.dover,s.mindex,s.mover].flatMap Iv):=g5
 replace a3:Blk _ _ [.slice h9 12 i2] _:=a3
 have d9:=a0.trans f6
 have hO:=((((((((((((show Zf [293,292] w _ from h6).trans h7).trans i0).trans i1).trans h8).trans (Zf.of_below (Za W5))).trans (Zf.of_below n6.below)).trans f2).trans h1).trans f8).trans b1).trans a4).trans e7
 exact xe 19 (.tuple #[]) ⟨_,_,_,rfl,d9,hO,a3,d3⟩
theorem numsB_take{N:List Int}{i:Nat}(h:i<N.length):Hv (N.take (i+1))=Hv (N.take i)++leB (N.getD i 0) 4:=by
 unfold Hv
 rw[List.take_succ_eq_append_getElem h,List.flatMap_append]
 simp[List.getD,h]
theorem Pack_4s(p:O0)(c:Nat)(N:List Int)(w:World)(hn2:N.length≤1000)(hN:∀ i,i<N.length→0≤N.getD i 0∧N.getD i 0<4294967296)(hF:Sts Iv w (.slice p N.length c) N) :
 C0 168 #[.slice p N.length c] w (Qe (fun w' r=>∃ q d,r=.tuple #[.slice q (N.length*4) d,V0 0]∧w'.ownsRow w.heap.size 5 1 (.slice q (N.length*4) d) (N.length*4) ((Hv N).map bv)) w):=by
 refine zin 32 Tryz.func168 ?_
 have hB:=Below.refl w.heap.size w
 refine zl 20 32 (fun zm b2 V=>∃ (i m:Nat) (q:O0) (d:Nat),b2=[(4,.slice q m d),(7,.slice p N.length c),(8,V0 (N.length:Int)),(9,V0 (i:Int))]∧zm=N.length-((i:Int)).toNat∧B3 w V∧V.ownsRow w.heap.size 5 1 (.slice q m d) m ((Hv (N.take i)).map bv)∧i≤N.length∧m=i*4) ⟨0,0,_,_,rfl,rfl,hB,World.ownsRow_nil _ _ _ _,Nat.zero_le _,rfl⟩ ?_
 rintro _ _ W1 ⟨i,m,q,d,rfl,rfl,a0,ho,hi,hm⟩ J1 b1 r1
 refine xid 6 ((i:Int)<(N.length:Int)) (fun b4=>?_) (fun b4=>?_)
 ·refine xx 6 _ N.length i 2 (Sts.cell hF fldC_len 0 (k:=i) (i:=0) (by omega) rfl).1 ?_
  refine xlv 0 (Sts.rp (k:=i) (hF.below a0) fldC_len 0 (by omega) (by decide)) ?_
  refine xa 0 [V0 0,V0 0] 292 fun b3 W3 n3=>?_
  have g3:=n3.ge a0
  refine xsv 0 n3.blk [V0 4,V0 (N.getD i 0)] fun W4 u4 k4=>?_
  refine xb 6 0 k4 ?_
  refine xr 0 (args:=#[V0 4]) (Zam _) fun W5 a6=>?_
  have a2:=k4.below a6
  refine xb 10 1 a2 ?_
  refine xb 1 0 a2 ?_
  refine xr 0 (args:=#[V0 (N.getD i 0),V0 4]) (fits_4 (N.getD i 0) (hN i (by omega)).1 (hN i (by omega)).2 _) fun W6 a5=>?_
  have a3:=a2.below a5
  refine xb 9 1 a3 ?_
  refine xb 1 0 a3 ?_
  refine xc 0 (args:=#[V0 (N.getD i 0),V0 4]) (Zbu (N.getD i 0) (hN i (by omega)).1 _) ?_
  rintro _ W7 ⟨_,rfl,a9,h2⟩
  have b5:=(bln (bln (u4.below (bln a0 n3.below) g3) a6) a5).size
  have a1:=Zd h2 b5
  unfold Nk at a1
  rw[Zi] at a1
  obtain⟨p2,c2,rfl⟩:=(Ze a1).slice
  have a8:=Zb (Zb (Zb (u4.own2 (Zb ho n3.below) n3.blk (by decide)) a6) a5) a9
  have a4:=bln (bln (bln (u4.below (bln a0 n3.below) g3) a6) a5) a9
  refine xbi 0 fun _ _ _ _ zJ zQ zo zx zy zK=>Zr (m:=4) (news:=(leB (N.getD i 0) 4).map bv) (.int .u8 0) 1 1 (m+4) (((Hv (N.take (i+1))).map bv)) zo Tryz.underlying22 (by kernel_rfl) rfl (by decide) zx a8 zy (Ze a1) (by simp[Zi]) (Qk _) (by unfold maxLen;omega) (by omega) a4.size (by rfl) (by rw[numsB_take (by omega),List.map_append]) fun b6 b7 W8 o8 b8 b0=>?_
  refine zK _ _ ?_
  refine xwm 5 ((i:Int)+1) (↑(i+1):Int) ?_
  have a7:=a4.trans b0
  exact ze 2 (b1 _ _ _ ⟨i+1,_,_,_,rfl,rfl,a7,o8,by omega,by omega⟩ (by omega))
 refine xe 13 (.tuple #[.slice q m d,V0 0]) ?_
 obtain rfl:i=N.length:=by omega
 rw[List.take_length] at ho
 subst hm
 exact⟨_,rfl,a0,_,_,rfl,ho⟩
theorem sup_put3(s:Sup):((Gp++List.replicate 236 (0:UInt8)).map bv).take 8++(Hv (1::Oz s)).map bv++((Gp++List.replicate 236 (0:UInt8)).map bv).drop (8+48)=(Wj s).map bv:=by
 unfold Wj
 rw[List.map_append (l₁:=Gp++Hv (1::Oz s)),List.map_append (l₁:=Gp) (l₂:=Hv (1::Oz s))]
 congr 1
theorem supN_bd{s:Sup}(h:Zp s=true):∀ i,i<(1::Oz s).length→0≤(1::Oz s).getD i 0∧(1::Oz s).getD i 0<4294967296:=by
 unfold Zp at h
 simp only[Bool.and_eq_true,decide_eq_true_iff,Bool.true_and] at h
 intro i hi
 have a0:i<12:=hi
 obtain rfl|rfl|rfl|rfl|rfl|rfl|rfl|rfl|rfl|rfl|rfl|rfl:i=0∨i=1∨i=2∨i=3∨i=4∨i=5∨i=6∨i=7∨i=8∨i=9∨i=10∨i=11:=by omega
 all_goals simp[Oz,List.getD]
 all_goals omega
theorem Zgk(s:Sup)(w:World)(hb0:0≤s.blocks)(hb1:s.blocks<9223372036854775808)(hr:Zp s=false) :
 C0 100 #[.agg #[V0 s.tx,V0 s.time,V0 s.unit,V0 s.data,V0 s.blocks,V0 s.top,V0 s.details,V0 s.dslots,V0 s.dover,V0 s.mindex,V0 s.mover]] w (Ret (.tuple #[S0,V0 1]) w):=by
 refine zin 28 Tryz.func100 ?_
 refine xa 2 [V0 s.tx,V0 s.time,V0 s.unit,V0 s.data,V0 s.blocks,V0 s.top,V0 s.details,V0 s.dslots,V0 s.dover,V0 s.mindex,V0 s.mover] 24 fun b1 W1 n1=>?_
 refine xlv 7 n1.blk.rp ?_
 refine xr 0 (args:=#[.agg #[V0 s.tx,V0 s.time,V0 s.unit,V0 s.data,V0 s.blocks,V0 s.top,V0 s.details,V0 s.dslots,V0 s.dover,V0 s.mindex,V0 s.mover]]) (Zdu s _ hb0 hb1) fun W2 a0=>?_
 refine xk 3 (show(!(Zp s):Bool)=true from by rw[hr];rfl) ?_
 have hB:=bln n1.below a0
 exact xe 8 (.tuple #[S0,V0 1]) ⟨rfl,hB⟩
theorem sup_Put_ok(s:Sup)(w:World)(hb0:0≤s.blocks)(hb1:s.blocks<9223372036854775808)(hr:Zp s=true) :
 C0 100 #[.agg #[V0 s.tx,V0 s.time,V0 s.unit,V0 s.data,V0 s.blocks,V0 s.top,V0 s.details,V0 s.dslots,V0 s.dover,V0 s.mindex,V0 s.mover]] w (Qe (fun w' r=>∃ p c,r=.tuple #[.slice p 244 c,V0 0]∧w'.ownsRow w.heap.size 5 1 (.slice p 244 c) 244 ((Wj s).map bv)) w):=by
 have hN:=supN_bd hr
 refine zin 28 Tryz.func100 ?_
 refine xa 2 [V0 s.tx,V0 s.time,V0 s.unit,V0 s.data,V0 s.blocks,V0 s.top,V0 s.details,V0 s.dslots,V0 s.dover,V0 s.mindex,V0 s.mover] 24 fun b1 W1 n1=>?_
 refine xlv 7 n1.blk.rp ?_
 refine xr 0 (args:=#[.agg #[V0 s.tx,V0 s.time,V0 s.unit,V0 s.data,V0 s.blocks,V0 s.top,V0 s.details,V0 s.dslots,V0 s.dover,V0 s.mindex,V0 s.mover]]) (Zdu s _ hb0 hb1) fun W2 a3=>?_
 refine xk 3 (show(!(Zp s):Bool)=false from by rw[hr];rfl) ?_
 refine xbs 5 1 [V0 4,V0 1] 292 fun b3 W3 n3=>?_
 refine xa 0 [S0] 293 fun b4 W4 n4=>?_
 refine xs 0 n4.blk [.slice (S1 b3) 1 1] fun W5 u5 k5=>?_
 have g4:=n4.ge (bln (bln n1.below a3) n3.below)
 have k3:=u5.blkT (n3.blk.below n4.below) n4.blk (by decide)
 have g3:=n3.ge (bln n1.below a3)
 have b6:World.ownsRow W5 w.heap.size 292 2 (.slice (S1 b3) 1 1) 1 (([1]:List Int).flatMap Iv):=Xb (size:=2) (n:=1) k3 g3 rfl (by decide)
 have hB:=u5.below (bln (bln (bln n1.below a3) n3.below) n4.below) g4
 have a6:=u5.blkT (((n1.blk.below a3).below n3.below).below n4.below) n4.blk (by decide)
 refine xc 5 (args:=#[P0 b1,.func (.func 167) #[] #[P0 b4]]) (Zdc w.heap.size w.heap.size b1 b4 s _ 1 _ (Nat.le_refl _) hB.size hB.size g4 hb0 hb1 a6 k5 b6) ?_
 rintro _ W6 ⟨u6,c0,b8,rfl,c1,d1,c8,b0⟩
 refine xb 4 0 c8 ?_
 refine xc 0 (args:=#[.slice c0 12 b8]) (Pack_4s c0 b8 (1::Oz s) _ (show 12≤1000 by decide) hN (Ze b0)) ?_
 rintro _ W7 ⟨_,rfl,c7,q2,d2,rfl,h2⟩
 have c6:=(hB.trans c1).size
 have a7:=Zd h2 c6
 replace h2:World.ownsRow _ _ _ _ (.slice q2 48 d2) 48 ((Hv (1::Oz s)).map bv):=a7
 have a4:=bln (hB.trans c1) c7
 have b7:=a4
 refine xmk 9 fun _ _ _ _ zJ zQ zo zx zy zK=>Kf 244 (.int .u8 0) 1 1 ((List.replicate 244 (0:UInt8)).map bv) zo zx zy Tryz.underlying22 (by kernel_rfl) rfl (by omega) (by omega) (Zd9 244) fun b9 W9 n9=>?_
 refine zK _ _ ?_
 have o9:=Xb (size:=1) (n:=244) n9.blk (n9.ge (B4 W7)) (by rw[List.length_map,List.length_replicate]) (by unfold maxLen;omega)
 refine xbi 7 (t2:=9) fun _ _ _ _ zJ zQ zo zx zy zK=>Zhb (dLen:=244) (dCap:=244) (off:=0) ([83,67,65,78,84,76,73,78]) (((Gp++List.replicate 236 (0:UInt8)).map bv)) zo Tryz.underlying22 (by kernel_rfl) zx zy o9 (by decide) (by decide) n9.below.size (by rfl) fun d0 c3 c2 b5=>?_
 refine zK _ _ ?_
 have a0:=Ze h2
 have a1:=n9.below.trans b5
 refine xbi 2 (t2:=22) fun _ _ _ _ zJ zQ zo zx zy zK=>Pw (dLen:=236) (dCap:=236) (off:=8) 48 ((Hv (1::Oz s)).map bv) (((Wj s).map bv)) zo Tryz.underlying22 (by kernel_rfl) zx zy (a0.below a1) c3 (by rw[List.length_map,Ae];rfl) (by decide) (by decide) (Qk _) a1.size (sup_put3 s) fun c9 c5 c4 b2=>?_
 refine zK _ _ ?_
 have a5:=a1.trans b2
 have a8:B3 W7 c9:=a5
 have a9:w.heap.size≤W7.heap.size:=b7.size
 have hB:=bln b7 a8
 have a2:=Zd c5 a9
 exact xe 10 (.tuple #[.slice (S1 b9) 244 244,V0 0]) ⟨_,rfl,hB,_,_,rfl,a2⟩
theorem Zhc(l:Bl):0≤(Xe l).blocks∧(Xe l).blocks<9223372036854775808:=by
 have:=Yn l 28 4 (by decide)
 show 0≤(Zg l 28 4:Int)∧(Zg l 28 4:Int)<9223372036854775808
 omega
theorem sup_PutP(s:Sup)(w:World)(hb:0≤s.blocks∧s.blocks<9223372036854775808):C0 100 #[.agg #[V0 s.tx,V0 s.time,V0 s.unit,V0 s.data,V0 s.blocks,V0 s.top,V0 s.details,V0 s.dslots,V0 s.dover,V0 s.mindex,V0 s.mover]] w (fun e w' =>
 (Zp s=false∧e=.returned (.tuple #[S0,V0 1])∧B3 w w') ∨
 (Zp s=true∧∃ p c,e=.returned (.tuple #[.slice p 244 c,V0 0])∧B3 w w'∧w'.ownsRow w.heap.size 5 1 (.slice p 244 c) 244 ((Wj s).map bv))):=by
 cases hr:Zp s with
 | false =>
  refine(Zgk s w hb.1 hb.2 hr).mono ?_
  rintro e W ⟨rfl,h⟩
  exact .inl ⟨rfl,rfl,h⟩
 | true =>
  refine(sup_Put_ok s w hb.1 hb.2 hr).mono ?_
  rintro e W ⟨_,rfl,h,p,c,rfl,ho⟩
  exact .inr ⟨rfl,p,c,rfl,h,ho⟩
def SupP(l:Bl)(w:World)(e:Ending)(w':World):Prop :=
 (Ak l=false∧e=.returned (.tuple #[.agg #[V0 0,V0 0,V0 0,V0 0,V0 0,V0 0,V0 0,V0 0,V0 0,V0 0,V0 0],V0 7])∧B3 w w')∨(Ak l=true∧e=.returned (.tuple #[.agg #[V0 ((Xe l).tx),V0 ((Xe l).time),V0 ((Xe l).unit),V0 ((Xe l).data),V0 ((Xe l).blocks),V0 ((Xe l).top),V0 ((Xe l).details),V0 ((Xe l).dslots),V0 ((Xe l).dover),V0 ((Xe l).mindex),V0 ((Xe l).mover)],V0 0])∧B3 w w')
theorem supOk_eq{l:Bl}(hl:l.length=244):Ak l=((Wj (Xe l)==l)&&Zp (Xe l)):=by rw[supB_eq hl];rfl
def supTE(l:Bl)(n:Nat):Int:=if Ak l then(if(n:Int)<(Xe l).blocks then 2 else 0) else 7
def Vh(l:Bl):Int:=if inE l 1 0=0 then supTE (inB l 0) (l.length/256) else inE l 1 0
theorem Yc(n lo hi:Int)(w:World) :
 C0 82 #[V0 n,V0 lo,V0 hi] w (Ret (.bool (decide (lo≤n∧n≤hi))) w):=by
 refine zin 15 Tryz.func82 ?_
 refine xg 11 [9,10] (decide (n≥lo)) (fun a0=>?_) (fun a0=>?_)
 ·have a0:=of_decide_eq_true a0
  exact xe 8 (.bool (decide (n≤hi))) ⟨by rw[show decide (lo≤n∧n≤hi)=decide (n≤hi) from by simp;omega],(B4 w)⟩
 have a0:=of_decide_eq_false a0
 exact xe 8 (.bool false) ⟨by rw[show decide (lo≤n∧n≤hi)=false from decide_eq_false (by omega)],(B4 w)⟩
theorem Zex(s:Sup)(w:World)(hb0:0≤s.blocks)(hb1:s.blocks<9223372036854775808) :
 C0 37 #[.agg #[V0 s.tx,V0 s.time,V0 s.unit,V0 s.data,V0 s.blocks,V0 s.top,V0 s.details,V0 s.dslots,V0 s.dover,V0 s.mindex,V0 s.mover]] w (Ret (.bool (Zp s)) w):=by
 refine zin 69 Tryz.func37 ?_
 refine xa 2 [V0 s.tx,V0 s.time,V0 s.unit,V0 s.data,V0 s.blocks,V0 s.top,V0 s.details,V0 s.dslots,V0 s.dover,V0 s.mindex,V0 s.mover] 24 fun b1 W1 n1=>?_
 refine xb 7 0 n1.blk ?_
 refine xr 0 (args:=#[V0 s.tx,V0 0,V0 2147483647]) (Yc s.tx 0 2147483647 _) fun W2 b4=>?_
 refine xg 2 [7,8] (!(decide ((0:Int)≤s.tx∧s.tx≤2147483647))) (fun e7=>?_) (fun e7=>?_)
 ·have f1:(decide ((0:Int)≤s.tx∧s.tx≤2147483647))=false:=Kb e7
  have hB:=bln n1.below b4
  refine xe 33 (.bool false) ?_
  have hR:Zp s=false:=by
   unfold Zp
   first|(rw[f1];done)|(rw[f1];rfl)
  rw[hR];exact⟨rfl,hB⟩
 have a5:(decide ((0:Int)≤s.tx∧s.tx≤2147483647))=true:=Ka e7
 have d6:=n1.blk.below b4
 refine xb 1 1 d6 ?_
 refine xr 0 (args:=#[V0 s.time,V0 0,V0 16777215]) (Yc s.time 0 16777215 _) fun W6 b5=>?_
 refine xg 3 [12,13,14] (!(decide ((0:Int)≤s.time∧s.time≤16777215))) (fun e8=>?_) (fun e8=>?_)
 ·have f0:(decide ((0:Int)≤s.time∧s.time≤16777215))=false:=Kb e8
  have hB:=bln (bln n1.below b4) b5
  refine xe 27 (.bool false) ?_
  have hR:Zp s=false:=by
   unfold Zp
   first|(rw[a5,f0];done)|(rw[a5,f0];rfl)
  rw[hR];exact⟨rfl,hB⟩
 have a7:(decide ((0:Int)≤s.time∧s.time≤16777215))=true:=Ka e8
 have e3:=d6.below b5
 refine xb 1 2 e3 ?_
 refine xr 0 (args:=#[V0 s.unit,V0 1,V0 65536]) (Yc s.unit 1 65536 _) fun f6 a4=>?_
 refine xg 3 [18,19,20] (!(decide ((1:Int)≤s.unit∧s.unit≤65536))) (fun c0=>?_) (fun c0=>?_)
 ·have d0:(decide ((1:Int)≤s.unit∧s.unit≤65536))=false:=Kb c0
  have hB:=bln (bln (bln n1.below b4) b5) a4
  refine xe 21 (.bool false) ?_
  have hR:Zp s=false:=by
   unfold Zp
   first|(rw[a5,a7,d0];done)|(rw[a5,a7,d0];rfl)
  rw[hR];exact⟨rfl,hB⟩
 have a0:(decide ((1:Int)≤s.unit∧s.unit≤65536))=true:=Ka c0
 have d7:=e3.below a4
 refine xb 1 3 d7 ?_
 refine xr 0 (args:=#[V0 s.data,V0 0,V0 65536]) (Yc s.data 0 65536 _) fun f8 a6=>?_
 refine xg 3 [24,25,26] (!(decide ((0:Int)≤s.data∧s.data≤65536))) (fun c1=>?_) (fun c1=>?_)
 ·have c9:(decide ((0:Int)≤s.data∧s.data≤65536))=false:=Kb c1
  have hB:=bln (bln (bln (bln n1.below b4) b5) a4) a6
  refine xe 15 (.bool false) ?_
  have hR:Zp s=false:=by
   unfold Zp
   first|(rw[a5,a7,a0,c9];done)|(rw[a5,a7,a0,c9];rfl)
  rw[hR];exact⟨rfl,hB⟩
 have a1:(decide ((0:Int)≤s.data∧s.data≤65536))=true:=Ka c1
 have d2:=d7.below a6
 refine xb 1 4 d2 ?_
 refine xr 0 (args:=#[V0 s.blocks,V0 2,V0 14400]) (Yc s.blocks 2 14400 _) fun f9 a8=>?_
 refine xi 4 (!(decide ((2:Int)≤s.blocks∧s.blocks≤14400))) (fun b9=>?_) (fun b9=>?_)
 ·have e4:(decide ((2:Int)≤s.blocks∧s.blocks≤14400))=false:=Kb b9
  have hB:=bln (bln (bln (bln (bln n1.below b4) b5) a4) a6) a8
  refine xe 7 (.bool false) ?_
  have hR:Zp s=false:=by
   unfold Zp
   first|(rw[a5,a7,a0,a1,e4];done)|(rw[a5,a7,a0,a1,e4];rfl)
  rw[hR];exact⟨rfl,hB⟩
 have a2:(decide ((2:Int)≤s.blocks∧s.blocks≤14400))=true:=Ka b9
 have c2:=d2.below a8
 refine xb 5 4 c2 ?_
 refine xw 0 (s.blocks-1) ?_
 refine xb 6 5 c2 ?_
 refine xr 1 (args:=#[V0 s.top,V0 1,V0 (s.blocks-1)]) (Yc s.top 1 (s.blocks-1) _) fun f3 b0=>?_
 refine xg 1 [38,39] (decide ((1:Int)≤s.top∧s.top≤s.blocks-1)) (fun c3=>?_) (fun c3=>?_)
 ·have a3:(decide ((1:Int)≤s.top∧s.top≤s.blocks-1))=true:=c3
  have d4:=c2.below b0
  refine xb 1 6 d4 ?_
  refine xr 1 (args:=#[V0 s.details,V0 1,V0 (s.blocks-1)]) (Yc s.details 1 (s.blocks-1) _) fun f2 b3=>?_
  refine xg 2 [43,44,45] (decide ((1:Int)≤s.details∧s.details≤s.blocks-1)) (fun c7=>?_) (fun c7=>?_)
  ·have a9:(decide ((1:Int)≤s.details∧s.details≤s.blocks-1))=true:=c7
   have e6:=d4.below b3
   refine xb 1 7 e6 ?_
   refine xr 1 (args:=#[V0 s.dslots,V0 1,V0 (s.blocks-1)]) (Yc s.dslots 1 (s.blocks-1) _) fun g0 b6=>?_
   refine xg 2 [49,50,51] (decide ((1:Int)≤s.dslots∧s.dslots≤s.blocks-1)) (fun c6=>?_) (fun c6=>?_)
   ·have b2:(decide ((1:Int)≤s.dslots∧s.dslots≤s.blocks-1))=true:=c6
    have d8:=e6.below b6
    refine xb 1 8 d8 ?_
    refine xr 1 (args:=#[V0 s.dover,V0 1,V0 (s.blocks-1)]) (Yc s.dover 1 (s.blocks-1) _) fun f4 b7=>?_
    refine xg 2 [55,56,57] (decide ((1:Int)≤s.dover∧s.dover≤s.blocks-1)) (fun c5=>?_) (fun c5=>?_)
    ·have b8:(decide ((1:Int)≤s.dover∧s.dover≤s.blocks-1))=true:=c5
     have e1:=d8.below b7
     refine xb 1 9 e1 ?_
     refine xr 1 (args:=#[V0 s.mindex,V0 1,V0 (s.blocks-1)]) (Yc s.mindex 1 (s.blocks-1) _) fun f7 c4=>?_
     refine xg 2 [61,62,63] (decide ((1:Int)≤s.mindex∧s.mindex≤s.blocks-1)) (fun c8=>?_) (fun c8=>?_)
     ·have e0:(decide ((1:Int)≤s.mindex∧s.mindex≤s.blocks-1))=true:=c8
      have d3:=e1.below c4
      refine xb 1 10 d3 ?_
      refine xr 1 (args:=#[V0 s.mover,V0 1,V0 (s.blocks-1)]) (Yc s.mover 1 (s.blocks-1) _) fun f5 e9=>?_
      have hB:=bln (bln (bln (bln (bln (bln (bln (bln (bln (bln (bln n1.below b4) b5) a4) a6) a8) b0) b3) b6) b7) c4) e9
      refine xe 5 (.bool (decide ((1:Int)≤s.mover∧s.mover≤s.blocks-1))) ?_
      have hR:Zp s=(decide ((1:Int)≤s.mover∧s.mover≤s.blocks-1)):=by
       unfold Zp
       first|(rw[a5,a7,a0,a1,a2,a3,a9,b2,b8,e0];done)|(rw[a5,a7,a0,a1,a2,a3,a9,b2,b8,e0];rfl)
      rw[hR];exact⟨rfl,hB⟩
     have d9:(decide ((1:Int)≤s.mindex∧s.mindex≤s.blocks-1))=false:=c8
     have hB:=bln (bln (bln (bln (bln (bln (bln (bln (bln (bln n1.below b4) b5) a4) a6) a8) b0) b3) b6) b7) c4
     refine xe 9 (.bool false) ?_
     have hR:Zp s=false:=by
      unfold Zp
      first|(rw[a5,a7,a0,a1,a2,a3,a9,b2,b8,d9];done)|(rw[a5,a7,a0,a1,a2,a3,a9,b2,b8,d9];rfl)
     rw[hR];exact⟨rfl,hB⟩
    have d5:(decide ((1:Int)≤s.dover∧s.dover≤s.blocks-1))=false:=c5
    have hB:=bln (bln (bln (bln (bln (bln (bln (bln (bln n1.below b4) b5) a4) a6) a8) b0) b3) b6) b7
    refine xe 15 (.bool false) ?_
    have hR:Zp s=false:=by
     unfold Zp
     first|(rw[a5,a7,a0,a1,a2,a3,a9,b2,d5];done)|(rw[a5,a7,a0,a1,a2,a3,a9,b2,d5];rfl)
    rw[hR];exact⟨rfl,hB⟩
   have e2:(decide ((1:Int)≤s.dslots∧s.dslots≤s.blocks-1))=false:=c6
   have hB:=bln (bln (bln (bln (bln (bln (bln (bln n1.below b4) b5) a4) a6) a8) b0) b3) b6
   refine xe 21 (.bool false) ?_
   have hR:Zp s=false:=by
    unfold Zp
    first|(rw[a5,a7,a0,a1,a2,a3,a9,e2];done)|(rw[a5,a7,a0,a1,a2,a3,a9,e2];rfl)
   rw[hR];exact⟨rfl,hB⟩
  have d1:(decide ((1:Int)≤s.details∧s.details≤s.blocks-1))=false:=c7
  have hB:=bln (bln (bln (bln (bln (bln (bln n1.below b4) b5) a4) a6) a8) b0) b3
  refine xe 27 (.bool false) ?_
  have hR:Zp s=false:=by
   unfold Zp
   first|(rw[a5,a7,a0,a1,a2,a3,d1];done)|(rw[a5,a7,a0,a1,a2,a3,d1];rfl)
  rw[hR];exact⟨rfl,hB⟩
 have e5:(decide ((1:Int)≤s.top∧s.top≤s.blocks-1))=false:=c3
 have hB:=bln (bln (bln (bln (bln (bln n1.below b4) b5) a4) a6) a8) b0
 refine xe 33 (.bool false) ?_
 have hR:Zp s=false:=by
  unfold Zp
  first|(rw[a5,a7,a0,a1,a2,e5];done)|(rw[a5,a7,a0,a1,a2,e5];rfl)
 rw[hR];exact⟨rfl,hB⟩
theorem Zc5(l:Bl)(d:Nat):∀ (w k:Nat),Zg (l.drop d) k w=Zg l (d+k) w
 | 0,k=>rfl
 | w+1,k=>by
  rw[Zg,Zg,Zc5 l d w (k+1)]
  simp[List.getD,Nat.add_assoc]
theorem unpL_lt(l:Bl)(k:Nat)(ws:List Nat)(h:∀ x∈ws,x≤4)(i:Nat)(hi:i<ws.length):(Je l k ws).getD i 0<9223372036854775808:=by
 rw[Nv l ws k i hi]
 have:=Yn l (k+(ws.take i).sum) (ws.getD i 0) (h _ (by simp[List.getD,hi]))
 omega
def Ko(l:Bl):List Nat:=[Zg l 8 4,Zg l 12 4,Zg l 16 4,Zg l 20 4,Zg l 24 4,Zg l 28 4,Zg l 32 4,Zg l 36 4,Zg l 40 4,Zg l 44 4,Zg l 48 4,Zg l 52 4]
theorem sup12_eq(l:Bl):Je (l.drop 8) 0 [4,4,4,4,4,4,4,4,4,4,4,4]=Ko l:=by
 simp[Je,Zc5,Ko]
theorem bysD{w:World}{a:O0}{c:Nat}{l:Bl}(h:Bys w (.slice a 244 c) l)(hl:l.length=244):Bys w (.slice (Qu a 8 c 1) (244-8) (c-8)) (l.drop 8):=by
 have:=Bys.cut h hl 8 244 (by decide) (by decide)
 rwa [List.take_of_length_le (by simp;omega)] at this
theorem bysE{w:World}{a:O0}{c:Nat}{l:Bl}(h:Bys w (.slice a 244 c) l)(hl:l.length=244):Bys w (.slice (Qu a 56 c 1) (244-56) (c-56)) (l.drop 56):=by
 have:=Bys.cut h hl 56 244 (by decide) (by decide)
 rwa [List.take_of_length_le (by simp;omega)] at this
theorem ref06_Read(a:O0)(c:Nat)(l:Bl)(w:World)(hl:l.length=244)(h:Bys w (.slice a 244 c) l) :
 C0 75 #[.slice a 244 c] w (SupP l w):=by
 have d4:=Bys.cap h hl
 refine zin 75 Tryz.func75 ?_
 refine xa 2 [V0 0,V0 0,V0 0,V0 0,V0 0,V0 0,V0 0,V0 0,V0 0,V0 0,V0 0] 24 fun b1 W1 n1=>?_
 refine xsH 11 (fun _ _ _ _ zo zx zy V=>Vm (k:=8) (b:=a) (n:=244) (c:=c) (i:=8) (ki:=.i64) zo zx zy rfl (by omega) Tryz.underlying22 (by kernel_rfl) V) ?_
 refine xcv0 0 (fun _ _ _ zo zx=>Yz zo zx ((Bys.take h hl 8 (by decide)).below n1.below) (by simp;omega) Tryz.underlying22 Tryz.underlying5 Tryz.underlying9) ?_
 refine xi 4 (!((⟨(l.take 8).toArray⟩:ByteArray).toList==(⟨#[83,67,65,78,84,76,73,78]⟩:ByteArray).toList)) (fun c4=>?_) (fun c4=>?_)
 ·have c7:(l.take 8==Gp)=false:=by rw[←Wk];exact Kb c4
  refine xsv 3 n1.blk [V0 0,V0 0,V0 0,V0 0,V0 0,V0 0,V0 0,V0 0,V0 0,V0 0,V0 0] fun W3 u3 k3=>?_
  have g1:=n1.ge (B4 w)
  have b7:=u3.below n1.below g1
  exact xec 5 k3 (.tuple #[.agg #[V0 0,V0 0,V0 0,V0 0,V0 0,V0 0,V0 0,V0 0,V0 0,V0 0,V0 0],V0 7]) (.inl ⟨by unfold Ak;simp_all,rfl,b7⟩)
 have c7:(l.take 8==Gp)=true:=by rw[←Wk];exact Ka c4
 refine xsL 5 (fun _ _ _ _ zo zx zy V=>Xv (k:=8) (b:=a) (n:=244) (c:=c) (i:=8) (ki:=.i64) 1 zo zx zy rfl (by omega) Tryz.underlying22 (by kernel_rfl) V) ?_
 refine xbs 0 12 [V0 4,V0 4,V0 4,V0 4,V0 4,V0 4,V0 4,V0 4,V0 4,V0 4,V0 4,V0 4] 3 fun b4 W4 n4=>?_
 have g4:=n4.ge n1.below
 have a8:=bln n1.below n4.below
 refine xc 0 (args:=#[.slice (Qu a 8 c 1) (244-8) (c-8),.slice (S1 b4) 12 12]) (Tb (Qu a 8 c 1) (244-8) (c-8) (l.drop 8) (S1 b4) 12 12 [4,4,4,4,4,4,4,4,4,4,4,4] (Ko l) _ (by simp;omega) rfl (sup12_eq l) (by decide) (by decide) (by decide) (by decide) ((bysD h hl).below a8) (n4.blk.sl 12 12 (by decide) (by decide)) (unpL_lt _ _ _ (by decide))) ?_
 rintro _ W5 ⟨_,rfl,d1,p5,c5,rfl,h5⟩
 have d5:=(bln n1.below n4.below).size
 refine xd 8 (.t w.heap.size [24]) ?_
 have a0:=Zb (Zd h5 d5) (Za W5)
 refine xx (.e [0] 1) _ 12 1 1 (Zh (l:=Ko l) (Ze a0) rfl (k:=1) (by decide)).1 ?_
 refine xlt (.e [] 2) (.t w.heap.size [24]) (fun V hV=>(Zh (l:=Ko l) (Ze (Zj a0 hV.2 (by decide))) rfl (k:=1) (by decide)).2) ?_
 refine xx (.e [3] 4) _ 12 2 1 (Zh (l:=Ko l) (Ze a0) rfl (k:=2) (by decide)).1 ?_
 refine xlt (.e [] 5) (.t w.heap.size [24]) (fun V hV=>(Zh (l:=Ko l) (Ze (Zj a0 hV.2 (by decide))) rfl (k:=2) (by decide)).2) ?_
 refine xx (.e [6] 7) _ 12 3 1 (Zh (l:=Ko l) (Ze a0) rfl (k:=3) (by decide)).1 ?_
 refine xlt (.e [] 8) (.t w.heap.size [24]) (fun V hV=>(Zh (l:=Ko l) (Ze (Zj a0 hV.2 (by decide))) rfl (k:=3) (by decide)).2) ?_
 refine xx (.e [9] 10) _ 12 4 1 (Zh (l:=Ko l) (Ze a0) rfl (k:=4) (by decide)).1 ?_
 refine xlt (.e [] 11) (.t w.heap.size [24]) (fun V hV=>(Zh (l:=Ko l) (Ze (Zj a0 hV.2 (by decide))) rfl (k:=4) (by decide)).2) ?_
 refine xx (.e [12] 13) _ 12 5 1 (Zh (l:=Ko l) (Ze a0) rfl (k:=5) (by decide)).1 ?_
 refine xlt (.e [] 14) (.t w.heap.size [24]) (fun V hV=>(Zh (l:=Ko l) (Ze (Zj a0 hV.2 (by decide))) rfl (k:=5) (by decide)).2) ?_
 refine xx (.e [15] 16) _ 12 6 1 (Zh (l:=Ko l) (Ze a0) rfl (k:=6) (by decide)).1 ?_
 refine xlt (.e [] 17) (.t w.heap.size [24]) (fun V hV=>(Zh (l:=Ko l) (Ze (Zj a0 hV.2 (by decide))) rfl (k:=6) (by decide)).2) ?_
 refine xx (.e [18] 19) _ 12 7 1 (Zh (l:=Ko l) (Ze a0) rfl (k:=7) (by decide)).1 ?_
 refine xlt (.e [] 20) (.t w.heap.size [24]) (fun V hV=>(Zh (l:=Ko l) (Ze (Zj a0 hV.2 (by decide))) rfl (k:=7) (by decide)).2) ?_
 refine xx (.e [21] 22) _ 12 8 1 (Zh (l:=Ko l) (Ze a0) rfl (k:=8) (by decide)).1 ?_
 refine xlt (.e [] 23) (.t w.heap.size [24]) (fun V hV=>(Zh (l:=Ko l) (Ze (Zj a0 hV.2 (by decide))) rfl (k:=8) (by decide)).2) ?_
 refine xx (.e [24] 25) _ 12 9 1 (Zh (l:=Ko l) (Ze a0) rfl (k:=9) (by decide)).1 ?_
 refine xlt (.e [] 26) (.t w.heap.size [24]) (fun V hV=>(Zh (l:=Ko l) (Ze (Zj a0 hV.2 (by decide))) rfl (k:=9) (by decide)).2) ?_
 refine xx (.e [27] 28) _ 12 10 1 (Zh (l:=Ko l) (Ze a0) rfl (k:=10) (by decide)).1 ?_
 refine xlt (.e [] 29) (.t w.heap.size [24]) (fun V hV=>(Zh (l:=Ko l) (Ze (Zj a0 hV.2 (by decide))) rfl (k:=10) (by decide)).2) ?_
 refine xx (.e [30] 31) _ 12 11 1 (Zh (l:=Ko l) (Ze a0) rfl (k:=11) (by decide)).1 ?_
 refine xlt (.e [] 32) (.t w.heap.size [24]) (fun V hV=>(Zh (l:=Ko l) (Ze (Zj a0 hV.2 (by decide))) rfl (k:=11) (by decide)).2) ?_
 refine xa (.o [33] 34) [V0 0,V0 0,V0 0,V0 0,V0 0,V0 0,V0 0,V0 0,V0 0,V0 0,V0 0] 24 fun b6 W6 n6=>?_
 have k1:=((n1.blk.below n4.below).below d1).below (Za W5)
 have a2:=n6.ne k1
 have a6:=bln (bln a8 d1) (Za W5)
 have g6:=n6.ge a6
 refine ysv (.o [] 35) n6.blk [V0 (↑(Zg l 12 4):Int),V0 (↑(Zg l 16 4):Int),V0 (↑(Zg l 20 4):Int),V0 (↑(Zg l 24 4):Int),V0 (↑(Zg l 28 4):Int),V0 (↑(Zg l 32 4):Int),V0 (↑(Zg l 36 4):Int),V0 (↑(Zg l 40 4):Int),V0 (↑(Zg l 44 4):Int),V0 (↑(Zg l 48 4):Int),V0 (↑(Zg l 52 4):Int)] (.t w.heap.size [24]) fun W7 u7 k7=>⟨(Zl u7 n6.blk g6 (by decide)),?_⟩
 have b0:=u7.own2 (Zb a0 n6.below) n6.blk (by decide)
 refine xx 6 _ 12 0 1 (Zh (l:=Ko l) (Ze b0) rfl (k:=0) (by decide)).1 ?_
 refine xl 0 ((Zh (l:=Ko l) (Ze b0) rfl (k:=0) (by decide)).2) ?_
 refine xg 2 [61,62] ((↑(Zg l 8 4):Int) != (1:Int)) (fun a9=>?_) (fun a9=>?_)
 ·have a9:=Jf a9
  have c9:decide (Zg l 8 4=1)=false:=decide_eq_false (by omega)
  have b8:=u7.blk (k1.below n6.below) (Ne.symm (Ne.symm a2))
  refine xsv 16 b8 [V0 0,V0 0,V0 0,V0 0,V0 0,V0 0,V0 0,V0 0,V0 0,V0 0,V0 0] fun W9 u9 k9=>?_
  have g1:=n1.ge (B4 w)
  have c1:=u9.below (u7.below (bln a6 n6.below) g6) g1
  exact xec 5 k9 (.tuple #[.agg #[V0 0,V0 0,V0 0,V0 0,V0 0,V0 0,V0 0,V0 0,V0 0,V0 0,V0 0],V0 7]) (.inl ⟨by unfold Ak;simp_all,rfl,c1⟩)
 have a9:=Yb a9
 have c9:decide (Zg l 8 4=1)=true:=decide_eq_true (by omega)
 refine xsL 1 (fun _ _ _ _ zo zx zy V=>Xv (k:=56) (b:=a) (n:=244) (c:=c) (i:=56) (ki:=.i64) 1 zo zx zy rfl (by omega) Tryz.underlying22 (by kernel_rfl) V) ?_
 have a4:=u7.below (bln a6 n6.below) g6
 refine xr 0 (args:=#[.slice (Qu a 56 c 1) (244-56) (c-56)]) (Ue (Qu a 56 c 1) (244-56) (c-56) (l.drop 56) _ (by simp;omega) (by decide) ((bysE h hl).below a4)) fun e1 a1=>?_
 refine xg 3 [66,67,68] (!(Yt (l.drop 56))) (fun a5=>?_) (fun a5=>?_)
 ·have c8:Yt (l.drop 56)=false:=Kb a5
  have c3:=(u7.blk (k1.below n6.below) (Ne.symm (Ne.symm a2))).below a1
  refine xsv 10 c3 [V0 0,V0 0,V0 0,V0 0,V0 0,V0 0,V0 0,V0 0,V0 0,V0 0,V0 0] fun e0 d7 d3=>?_
  have g1:=n1.ge (B4 w)
  have c0:=d7.below (bln a4 a1) g1
  exact xec 5 d3 (.tuple #[.agg #[V0 0,V0 0,V0 0,V0 0,V0 0,V0 0,V0 0,V0 0,V0 0,V0 0,V0 0],V0 7]) (.inl ⟨by unfold Ak;simp_all,rfl,c0⟩)
 have c8:Yt (l.drop 56)=true:=Ka a5
 have b2:=k7.below a1
 refine xlv 0 b2.rp ?_
 refine xr 0 (args:=#[.agg #[V0 (↑(Zg l 12 4):Int),V0 (↑(Zg l 16 4):Int),V0 (↑(Zg l 20 4):Int),V0 (↑(Zg l 24 4):Int),V0 (↑(Zg l 28 4):Int),V0 (↑(Zg l 32 4):Int),V0 (↑(Zg l 36 4):Int),V0 (↑(Zg l 40 4):Int),V0 (↑(Zg l 44 4):Int),V0 (↑(Zg l 48 4):Int),V0 (↑(Zg l 52 4):Int)]]) (Zex (Xe l) _ (Zhc l).1 (Zhc l).2) fun e4 a3=>?_
 refine xi 4 (!(Zp (Xe l))) (fun a7=>?_) (fun a7=>?_)
 ·have d0:Zp (Xe l)=false:=Kb a7
  have b9:=((u7.blk (k1.below n6.below) (Ne.symm (Ne.symm a2))).below a1).below a3
  refine xsv 3 b9 [V0 0,V0 0,V0 0,V0 0,V0 0,V0 0,V0 0,V0 0,V0 0,V0 0,V0 0] fun e3 d2 d9=>?_
  have g1:=n1.ge (B4 w)
  have c6:=d2.below (bln (bln a4 a1) a3) g1
  exact xec 5 d9 (.tuple #[.agg #[V0 0,V0 0,V0 0,V0 0,V0 0,V0 0,V0 0,V0 0,V0 0,V0 0,V0 0],V0 7]) (.inl ⟨by unfold Ak;simp_all,rfl,c6⟩)
 have d0:Zp (Xe l)=true:=Ka a7
 have c2:=b2.below a3
 refine xlv 4 c2.rp ?_
 have b5:=((u7.blk (k1.below n6.below) (Ne.symm (Ne.symm a2))).below a1).below a3
 refine xsv 0 b5 [V0 (↑(Zg l 12 4):Int),V0 (↑(Zg l 16 4):Int),V0 (↑(Zg l 20 4):Int),V0 (↑(Zg l 24 4):Int),V0 (↑(Zg l 28 4):Int),V0 (↑(Zg l 32 4):Int),V0 (↑(Zg l 36 4):Int),V0 (↑(Zg l 40 4):Int),V0 (↑(Zg l 44 4):Int),V0 (↑(Zg l 48 4):Int),V0 (↑(Zg l 52 4):Int)] fun e2 d8 d6=>?_
 have g1:=n1.ge (B4 w)
 have b3:=d8.below (bln (bln a4 a1) a3) g1
 exact xec 4 d6 (.tuple #[.agg #[V0 (↑(Zg l 12 4):Int),V0 (↑(Zg l 16 4):Int),V0 (↑(Zg l 20 4):Int),V0 (↑(Zg l 24 4):Int),V0 (↑(Zg l 28 4):Int),V0 (↑(Zg l 32 4):Int),V0 (↑(Zg l 36 4):Int),V0 (↑(Zg l 40 4):Int),V0 (↑(Zg l 44 4):Int),V0 (↑(Zg l 48 4):Int),V0 (↑(Zg l 52 4):Int)],V0 0]) (.inr ⟨by unfold Ak;rw[c7,c9,c8,d0];rfl,rfl,b3⟩)
def RBlkSupP(l:Bl)(w:World)(e:Ending)(w':World):Prop :=
 (Vh l≠0∧∃ a c,e=.returned (.tuple #[.agg #[V0 0,V0 0,V0 0,V0 0,V0 0,V0 0,V0 0,V0 0,V0 0,V0 0,V0 0],.agg #[.slice a 1 c,V0 (Vh l)]])∧B3 w w'∧w'.ownsRow w.heap.size 3 1 (.slice a 1 c) 1 [V0 0]) ∨
 (Vh l=0∧e=.returned (.tuple #[.agg #[V0 ((Xe (inB l 0)).tx),V0 ((Xe (inB l 0)).time),V0 ((Xe (inB l 0)).unit),V0 ((Xe (inB l 0)).data),V0 ((Xe (inB l 0)).blocks),V0 ((Xe (inB l 0)).top),V0 ((Xe (inB l 0)).details),V0 ((Xe (inB l 0)).dslots),V0 ((Xe (inB l 0)).dover),V0 ((Xe (inB l 0)).mindex),V0 ((Xe (inB l 0)).mover)],.agg #[S0,V0 0]])∧B3 w w')
theorem Zf9(B bm:Nat)(p:O0)(k c:Nat)(l:Bl)(w:World)(hI:RefI B bm p k c l w) :
 C0 29 #[P0 bm] w (RBlkSupP l w):=by
 have f4:=hI.blk
 have e9:l.length/256=k:=by rw[hI.hl];omega
 refine zin 40 Tryz.func29 ?_
 refine xa 2 [V0 0,V0 0,V0 0,V0 0,V0 0,V0 0,V0 0,V0 0,V0 0,V0 0,V0 0] 24 fun b1 W1 n1=>?_
 refine xa 0 [S0,V0 0] 36 fun b2 W2 n2=>?_
 have hB:=bln n1.below n2.below
 refine xc 5 (args:=#[P0 bm,V0 0,V0 1]) (Re B bm p k c l _ (hI.below hB) 0 1) ?_
 rintro e W3 f5
 rcases f5 with ⟨a9,rfl,a1⟩|⟨a9,e8,p3,c3,rfl,a1,h3⟩
 ·refine xk 14 (show(((inE l 1 0) != (0:Int)):Bool)=true from bne_iff_ne.2 a9) ?_
  refine xc 4 (args:=#[V0 0,V0 (inE l 1 0)]) (Hw 0 (inE l 1 0) _ a9) ?_
  rintro _ W4 ⟨_,rfl,e5,a5,c5,rfl,c1⟩
  have g3:=(bln hB a1).size
  have k1:=((n1.blk.below n2.below).below a1).below e5
  refine xsv 0 k1 [V0 0,V0 0,V0 0,V0 0,V0 0,V0 0,V0 0,V0 0,V0 0,V0 0,V0 0] fun W5 u5 k5=>?_
  have g1:=n1.ge (B4 w)
  have k2:=u5.blkT ((n2.blk.below a1).below e5) k1 (by decide)
  refine xsv 0 k2 [.slice a5 1 c5,V0 (inE l 1 0)] fun W6 u6 k6=>?_
  have g2:=n2.ge n1.below
  have d4:=u6.below (u5.below (bln (bln hB a1) e5) g1) g2
  have c0:=u6.own2 (u5.own2 (Zd c1 g3) k1 (by decide)) k2 (by decide)
  have d1:=u6.blkT k5 k2 (by decide)
  refine xecm 4 [(b1,[V0 0,V0 0,V0 0,V0 0,V0 0,V0 0,V0 0,V0 0,V0 0,V0 0,V0 0]),(b2,[.slice a5 1 c5,V0 (inE l 1 0)])] ⟨⟨_,d1⟩,⟨_,k6⟩,trivial⟩ (.tuple #[.agg #[V0 0,V0 0,V0 0,V0 0,V0 0,V0 0,V0 0,V0 0,V0 0,V0 0,V0 0],.agg #[.slice a5 1 c5,V0 (inE l 1 0)]]) ?_
  have he:Vh l=(inE l 1 0):=by unfold Vh;rw[if_neg a9]
  exact .inl ⟨by rw[he];exact a9,_,_,by rw[he],d4,c0⟩
 have f3:=(bln n1.below n2.below).size
 have e0:=Zd h3 f3
 refine xc 20 (args:=#[.slice p3 244 c3]) (ref06_Read p3 c3 (inB l 0) _ e8 (Yk (Ze e0) e8)) ?_
 rintro e W7 f7
 rcases f7 with ⟨d0,rfl,a3⟩|⟨d0,rfl,a3⟩
 ·refine xa 3 [V0 0,V0 0,V0 0,V0 0,V0 0,V0 0,V0 0,V0 0,V0 0,V0 0,V0 0] 24 fun b8 W8 n8=>?_
  have k1:=((n1.blk.below n2.below).below a1).below a3
  have c2:=n8.ne k1
  have b4:=bln (bln hB a1) a3
  have g8:=n8.ge b4
  refine xsv 0 n8.blk [V0 0,V0 0,V0 0,V0 0,V0 0,V0 0,V0 0,V0 0,V0 0,V0 0,V0 0] fun W9 u9 k9=>?_
  refine xc 15 (args:=#[V0 0,V0 7]) (Hw 0 7 _ (by decide)) ?_
  rintro _ g7 ⟨_,rfl,b6,a5,c5,rfl,c1⟩
  have d3:=(u9.below (bln b4 n8.below) g8).size
  have b3:=(u9.blk (k1.below n8.below) (Ne.symm (Ne.symm c2))).below b6
  refine xsv 0 b3 [V0 0,V0 0,V0 0,V0 0,V0 0,V0 0,V0 0,V0 0,V0 0,V0 0,V0 0] fun h5 d6 f6=>?_
  have g1:=n1.ge (B4 w)
  have k2:=d6.blkT ((u9.blkT (((n2.blk.below a1).below a3).below n8.below) n8.blk (by decide)).below b6) b3 (by decide)
  refine xsv 0 k2 [.slice a5 1 c5,V0 7] fun g5 e4 f2=>?_
  have g2:=n2.ge n1.below
  have d9:=e4.below (d6.below (bln (u9.below (bln b4 n8.below) g8) b6) g1) g2
  have c4:=e4.own2 (d6.own2 (Zd c1 d3) b3 (by decide)) k2 (by decide)
  have c7:=e4.blkT f6 k2 (by decide)
  refine xecm 4 [(b1,[V0 0,V0 0,V0 0,V0 0,V0 0,V0 0,V0 0,V0 0,V0 0,V0 0,V0 0]),(b2,[.slice a5 1 c5,V0 7])] ⟨⟨_,c7⟩,⟨_,f2⟩,trivial⟩ (.tuple #[.agg #[V0 0,V0 0,V0 0,V0 0,V0 0,V0 0,V0 0,V0 0,V0 0,V0 0,V0 0],.agg #[.slice a5 1 c5,V0 7]]) ?_
  have he:Vh l=7:=by unfold Vh supTE;rw[if_pos a9,d0,if_neg (by decide)]
  exact .inl ⟨by rw[he];decide,_,_,by rw[he],d9,c4⟩
 refine xa 3 [V0 0,V0 0,V0 0,V0 0,V0 0,V0 0,V0 0,V0 0,V0 0,V0 0,V0 0] 24 fun g9 h6 a0=>?_
 have k1:=((n1.blk.below n2.below).below a1).below a3
 have a2:=a0.ne k1
 have a6:=bln (bln hB a1) a3
 have d7:=a0.ge a6
 refine xsv 0 a0.blk [V0 ((Xe (inB l 0)).tx),V0 ((Xe (inB l 0)).time),V0 ((Xe (inB l 0)).unit),V0 ((Xe (inB l 0)).data),V0 ((Xe (inB l 0)).blocks),V0 ((Xe (inB l 0)).top),V0 ((Xe (inB l 0)).details),V0 ((Xe (inB l 0)).dslots),V0 ((Xe (inB l 0)).dover),V0 ((Xe (inB l 0)).mindex),V0 ((Xe (inB l 0)).mover)] fun a4 a7 f0=>?_
 refine xd 15 .z ?_
 have a8:=f0.below (Za a4)
 refine xb (.e [0] 1) 4 a8 ?_
 have b7:=(a7.blkT (((((f4.below n1.below).below n2.below).below a1).below a3).below a0.below) a0.blk (by decide)).below (Za a4)
 refine xb (.e [2,3,4] 5) 0 b7 ?_
 refine xid (.r [6,7] 2) ((Xe (inB l 0)).blocks>(k:Int)) (fun d8=>?_) (fun d8=>?_)
 ·refine xc 3 (args:=#[V0 0,V0 2]) (Hw 0 2 _ (by decide)) ?_
  rintro _ h0 ⟨_,rfl,b0,a5,c5,rfl,c1⟩
  have d5:=(bln (a7.below (bln a6 a0.below) d7) (Za a4)).size
  have b5:=((a7.blk (k1.below a0.below) (Ne.symm (Ne.symm a2))).below (Za a4)).below b0
  refine xsv 0 b5 [V0 0,V0 0,V0 0,V0 0,V0 0,V0 0,V0 0,V0 0,V0 0,V0 0,V0 0] fun g6 d2 f9=>?_
  have g1:=n1.ge (B4 w)
  have k2:=d2.blkT (((a7.blkT (((n2.blk.below a1).below a3).below a0.below) a0.blk (by decide)).below (Za a4)).below b0) b5 (by decide)
  refine xsv 0 k2 [.slice a5 1 c5,V0 2] fun h1 e3 f1=>?_
  have g2:=n2.ge n1.below
  have e1:=e3.below (d2.below (bln (bln (a7.below (bln a6 a0.below) d7) (Za a4)) b0) g1) g2
  have c8:=e3.own2 (d2.own2 (Zd c1 d5) b5 (by decide)) k2 (by decide)
  have b9:=e3.blkT f9 k2 (by decide)
  refine xecm 4 [(b1,[V0 0,V0 0,V0 0,V0 0,V0 0,V0 0,V0 0,V0 0,V0 0,V0 0,V0 0]),(b2,[.slice a5 1 c5,V0 2])] ⟨⟨_,b9⟩,⟨_,f1⟩,trivial⟩ (.tuple #[.agg #[V0 0,V0 0,V0 0,V0 0,V0 0,V0 0,V0 0,V0 0,V0 0,V0 0,V0 0],.agg #[.slice a5 1 c5,V0 2]]) ?_
  have he:Vh l=2:=by unfold Vh supTE;rw[if_pos a9,if_pos d0,e9,if_pos (by omega)]
  exact .inl ⟨by rw[he];decide,_,_,by rw[he],e1,c8⟩
 refine xlv 4 a8.rp ?_
 have c6:=(a7.blk (k1.below a0.below) (Ne.symm (Ne.symm a2))).below (Za a4)
 refine xsv 1 c6 [V0 ((Xe (inB l 0)).tx),V0 ((Xe (inB l 0)).time),V0 ((Xe (inB l 0)).unit),V0 ((Xe (inB l 0)).data),V0 ((Xe (inB l 0)).blocks),V0 ((Xe (inB l 0)).top),V0 ((Xe (inB l 0)).details),V0 ((Xe (inB l 0)).dslots),V0 ((Xe (inB l 0)).dover),V0 ((Xe (inB l 0)).mindex),V0 ((Xe (inB l 0)).mover)] fun h4 e7 f8=>?_
 have g1:=n1.ge (B4 w)
 have k2:=e7.blkT ((a7.blkT (((n2.blk.below a1).below a3).below a0.below) a0.blk (by decide)).below (Za a4)) c6 (by decide)
 refine xsv 0 k2 [S0,V0 0] fun h2 e6 g0=>?_
 have g2:=n2.ge n1.below
 have e2:=e6.below (e7.below (bln (a7.below (bln a6 a0.below) d7) (Za a4)) g1) g2
 have c9:=e6.blkT f8 k2 (by decide)
 exact xecm 3 [(b1,[V0 ((Xe (inB l 0)).tx),V0 ((Xe (inB l 0)).time),V0 ((Xe (inB l 0)).unit),V0 ((Xe (inB l 0)).data),V0 ((Xe (inB l 0)).blocks),V0 ((Xe (inB l 0)).top),V0 ((Xe (inB l 0)).details),V0 ((Xe (inB l 0)).dslots),V0 ((Xe (inB l 0)).dover),V0 ((Xe (inB l 0)).mindex),V0 ((Xe (inB l 0)).mover)]),(b2,[S0,V0 0])] ⟨⟨_,c9⟩,⟨_,g0⟩,trivial⟩ (.tuple #[.agg #[V0 ((Xe (inB l 0)).tx),V0 ((Xe (inB l 0)).time),V0 ((Xe (inB l 0)).unit),V0 ((Xe (inB l 0)).data),V0 ((Xe (inB l 0)).blocks),V0 ((Xe (inB l 0)).top),V0 ((Xe (inB l 0)).details),V0 ((Xe (inB l 0)).dslots),V0 ((Xe (inB l 0)).dover),V0 ((Xe (inB l 0)).mindex),V0 ((Xe (inB l 0)).mover)],.agg #[S0,V0 0]]) (.inr ⟨by unfold Vh supTE;rw[if_pos a9,if_pos d0,e9,if_neg (by omega)],rfl,e2⟩)
theorem Zc4(s:Bl):Fu Xk s=[Zg s 0 8,Zg s 8 4,Zg s 12 4]:=rfl
theorem Ll(s:Bl):Pa Xk s=Db (Zg s 0 8:Int) (Zg s 8 4:Int) (Zg s 12 4:Int):=by
 unfold Pa Pe Db
 rw[Zc4]
 simp[Xk,List.range,List.range.loop,inP,List.getD,Ym,Bool.and_assoc]
theorem Ro:(Wc Xk Xk.length).sum=16:=rfl
def UnpRP(s:Bl)(w:World)(e:Ending)(w':World):Prop :=
 (¬ Zg s 0 8<9223372036854775808∧e=.returned (.tuple #[S0,V0 2])∧B3 w w') ∨
 (Zg s 0 8<9223372036854775808∧∃ p c,e=.returned (.tuple #[.slice p 3 c,V0 0])∧B3 w w'∧w'.ownsRow w.heap.size 3 1 (.slice p 3 c) 3 (([Zg s 0 8,Zg s 8 4,Zg s 12 4]:List Nat).map nv))
theorem ref_Unp844(a:O0)(n c:Nat)(s:Bl)(g:Nat)(w:World)(hn:s.length=n)(h16:n=16)(h:Bys w (.slice a n c) s)(kg:Blk w g [V0 8,V0 4,V0 4] 3) :
 C0 128 #[.slice a n c,.slice (S1 g) 3 3] w (UnpRP s w):=by
 subst hn
 have hk:∀ i,i<([8,4,4]:List Nat).length→([8,4,4]:List Nat).getD i 0=1∨([8,4,4]:List Nat).getD i 0=2∨([8,4,4]:List Nat).getD i 0=4∨([8,4,4]:List Nat).getD i 0=8:=by decide
 have a0:Sl w (.slice (S1 g) 3 3) 3 (([8,4,4]:List Nat).map nv):=kg.sl 3 3 (by decide) (by decide)
 have h1:=Yn s 8 4 (by decide)
 have h2:=Yn s 12 4 (by decide)
 by_cases hq:Zg s 0 8<9223372036854775808
 ·refine(Bp a c s (S1 g) 3 [8,4,4] w hk (by rw[h16];decide) (by omega) (by decide) h a0 ?_).mono ?_
  ·intro i hi
   have a1:i<3:=hi
   obtain rfl|rfl|rfl:i=0∨i=1∨i=2:=by omega
   ·exact hq
   ·show Zg s 8 4<_;omega
   ·show Zg s 12 4<_;omega
  ·rintro e W ⟨_,rfl,hb,p,c2,rfl,ho⟩
   exact .inr ⟨hq,p,c2,rfl,hb,ho⟩
 ·refine(Ar a c s (S1 g) 3 [8,4,4] w hk (by rw[h16];decide) (by omega) (by decide) h a0 ?_).mono ?_
  ·intro q;exact hq (q 0 (by decide))
  ·rintro e W ⟨rfl,hb⟩
   exact .inl ⟨hq,rfl,hb⟩
theorem Mr(s:Bl)(w:World)(hs:s.length≤1000) :
 C0 87 #[.string ⟨s.toArray⟩] w (Ret (.tuple #[.agg #[V0 (↑((Yo Xk s).getD 0 0):Int),V0 (↑((Yo Xk s).getD 1 0):Int),V0 (↑((Yo Xk s).getD 2 0):Int)],V0 (Ye Xk s)]) w):=by
 refine zin 36 Tryz.func87 ?_
 refine xa 2 [V0 0,V0 0,V0 0] 134 fun b1 W1 n1=>?_
 refine xin 11 (s.length:Int) (16:Int) (fun c1=>?_) (fun c1=>?_)
 ·refine xsv 3 n1.blk [V0 0,V0 0,V0 0] fun W3 u3 k3=>?_
  have g1:=n1.ge (B4 w)
  have hB:=u3.below n1.below g1
  refine xec 5 k3 (.tuple #[.agg #[V0 0,V0 0,V0 0],V0 7]) ?_
  have he:Ye Xk s=7:=if_neg (by rw[Ro];omega)
  rw[Yo,he,if_neg (by decide)];exact⟨rfl,hB⟩
 refine xcf 5 fun _ _ _ zJ zQ zo zx zK=>Kq s zo zx Tryz.underlying9 Tryz.underlying22 Tryz.underlying5 (by omega) ?_
 intro bz cz W4 a3 c0
 refine zK _ _ ?_
 refine xbs 0 3 [V0 8,V0 4,V0 4] 3 fun b5 W5 n5=>?_
 have a5:=c0.below n5.below
 refine xc 0 (args:=#[.slice (S1 bz) s.length cz,.slice (S1 b5) 3 3]) (ref_Unp844 (S1 bz) s.length cz s b5 _ rfl (by omega) a5 n5.blk) ?_
 rintro e W6 b6
 rcases b6 with ⟨hq,rfl,a4⟩|⟨hq,p5,c5,rfl,a4,h5⟩
 ·have k1:=((n1.blk.below a3).below n5.below).below a4
  refine xsv 18 k1 [V0 0,V0 0,V0 0] fun W7 u7 k7=>?_
  have g1:=n1.ge (B4 w)
  have hB:=u7.below (bln (bln (bln n1.below a3) n5.below) a4) g1
  refine xec 5 k7 (.tuple #[.agg #[V0 0,V0 0,V0 0],V0 2]) ?_
  have he:Ye Xk s=2:=by unfold Ye;rw[Ro,if_pos (by omega),Ll,show Db (Zg s 0 8:Int) (Zg s 8 4:Int) (Zg s 12 4:Int)=false from by unfold Db;rw[decide_eq_false (by omega)];rfl,if_neg (by decide)]
  rw[Yo,he,if_neg (by decide)];exact⟨rfl,hB⟩
 have b9:=(bln (bln n1.below a3) n5.below).size
 refine xd 18 (.t w.heap.size [134]) ?_
 have a0:=Zb (Zd h5 b9) (Za W6)
 refine xx (.e [0] 1) _ 3 0 1 (Zh (l:=[Zg s 0 8,Zg s 8 4,Zg s 12 4]) (Ze a0) rfl (k:=0) (by decide)).1 ?_
 refine xlt (.e [] 2) (.t w.heap.size [134]) (fun V hV=>(Zh (l:=[Zg s 0 8,Zg s 8 4,Zg s 12 4]) (Ze (Zj a0 hV.2 (by decide))) rfl (k:=0) (by decide)).2) ?_
 refine xx (.e [3] 4) _ 3 1 1 (Zh (l:=[Zg s 0 8,Zg s 8 4,Zg s 12 4]) (Ze a0) rfl (k:=1) (by decide)).1 ?_
 refine xlt (.e [] 5) (.t w.heap.size [134]) (fun V hV=>(Zh (l:=[Zg s 0 8,Zg s 8 4,Zg s 12 4]) (Ze (Zj a0 hV.2 (by decide))) rfl (k:=1) (by decide)).2) ?_
 refine xx (.e [6] 7) _ 3 2 1 (Zh (l:=[Zg s 0 8,Zg s 8 4,Zg s 12 4]) (Ze a0) rfl (k:=2) (by decide)).1 ?_
 refine xlt (.e [] 8) (.t w.heap.size [134]) (fun V hV=>(Zh (l:=[Zg s 0 8,Zg s 8 4,Zg s 12 4]) (Ze (Zj a0 hV.2 (by decide))) rfl (k:=2) (by decide)).2) ?_
 refine xa (.o [9] 10) [V0 0,V0 0,V0 0] 134 fun b8 W8 n8=>?_
 have k1:=(((n1.blk.below a3).below n5.below).below a4).below (Za W6)
 have a2:=n8.ne k1
 have g8:=n8.ge (bln (bln (bln (bln n1.below a3) n5.below) a4) (Za W6))
 refine ysv (.o [] 11) n8.blk [V0 (↑(Zg s 0 8):Int),V0 (↑(Zg s 8 4):Int),V0 (↑(Zg s 12 4):Int)] (.t w.heap.size [134]) fun W9 u9 k9=>⟨(Zl u9 n8.blk g8 (by decide)),?_⟩
 refine xlv 5 k9.rp ?_
 refine xc 0 (args:=#[.agg #[V0 (↑(Zg s 0 8):Int),V0 (↑(Zg s 8 4):Int),V0 (↑(Zg s 12 4):Int)]]) (ref08_Slot (↑(Zg s 0 8):Int) (↑(Zg s 8 4):Int) (↑(Zg s 12 4):Int) _) ?_
 rintro e c2 a7
 rcases a7 with ⟨b0,rfl,a1⟩|⟨b0,rfl,a1⟩
 ·have a8:=(u9.blk (k1.below n8.below) (Ne.symm (Ne.symm a2))).below a1
  refine xsv 7 a8 [V0 0,V0 0,V0 0] fun c3 b4 b3=>?_
  have g1:=n1.ge (B4 w)
  have hB:=b4.below (bln (u9.below (bln (bln (bln (bln (bln n1.below a3) n5.below) a4) (Za W6)) n8.below) g8) a1) g1
  refine xec 5 b3 (.tuple #[.agg #[V0 0,V0 0,V0 0],V0 2]) ?_
  have he:Ye Xk s=2:=by unfold Ye;rw[Ro,if_pos (by omega),Ll,b0,if_neg (by decide)]
  rw[Yo,he,if_neg (by decide)];exact⟨rfl,hB⟩
 refine xk 3 (show(((⟨(txtL [(↑(Zg s 0 8):Int),(↑(Zg s 8 4):Int),(↑(Zg s 12 4):Int)] [8,4,4] 3).toArray⟩:ByteArray).toList==(⟨#[]⟩:ByteArray).toList):Bool)=false from txt3_ne _ _ _) ?_
 have a6:=k9.below a1
 refine xlv 4 a6.rp ?_
 have a9:=(u9.blk (k1.below n8.below) (Ne.symm (Ne.symm a2))).below a1
 refine xsv 0 a9 [V0 (↑(Zg s 0 8):Int),V0 (↑(Zg s 8 4):Int),V0 (↑(Zg s 12 4):Int)] fun c4 b7 b2=>?_
 have g1:=n1.ge (B4 w)
 have hB:=b7.below (bln (u9.below (bln (bln (bln (bln (bln n1.below a3) n5.below) a4) (Za W6)) n8.below) g8) a1) g1
 refine xec 4 b2 (.tuple #[.agg #[V0 (↑(Zg s 0 8):Int),V0 (↑(Zg s 8 4):Int),V0 (↑(Zg s 12 4):Int)],V0 0]) ?_
 have he:Ye Xk s=0:=by unfold Ye;rw[Ro,if_pos (by omega),Ll,b0,if_pos rfl]
 rw[Yo,he,if_pos rfl,Zc4];exact⟨rfl,hB⟩
theorem ref01_Same(a b:O0)(ca cb:Nat)(l:List Int)(w:World)(ha:Ints w (.slice a l.length ca) l)(hb:Ints w (.slice b l.length cb) l) :
 C0 31 #[.slice a l.length ca,.slice b l.length cb] w (Ret (.bool true) w):=by
 have a5:=Sl.len ha
 refine zin 26 Tryz.func31 ?_
 refine xk 15 (show(((l.length:Int) != (l.length:Int)):Bool)=false from by simp) ?_
 have hB:=Below.refl w.heap.size w
 refine zl 9 26 (fun zm a3 V=>∃ (i:Nat),a3=[(0,.slice a l.length ca),(1,.slice b l.length cb),(5,V0 (i:Int))]∧zm=l.length-((i:Int)).toNat∧B3 w V∧i≤l.length) ⟨0,rfl,rfl,hB,Nat.zero_le _⟩ ?_
 rintro _ _ W1 ⟨i,rfl,rfl,a1,hi⟩ J1 a4 r1
 refine xid 9 ((i:Int)<(l.length:Int)) (fun a2=>?_) (fun a2=>?_)
 ·refine xd 5 .z ?_
  refine xx (.e [0,1] 2) _ l.length i 1 (Ints.elem ha (k:=i) (by omega)).1 ?_
  have a0:=bln a1 (Za W1)
  refine xl (.e [] 3) ((Ints.elem (ha.below a0) (k:=i) (by omega)).2) ?_
  refine xx (.e [4,5] 6) _ l.length i 1 (Ints.elem hb (k:=i) (by omega)).1 ?_
  refine xl (.e [] 7) ((Ints.elem (hb.below a0) (k:=i) (by omega)).2) ?_
  refine xk (.r [8] 2) (show(((l.getD i 0) != (l.getD i 0)):Bool)=false from by simp) ?_
  refine xwm 5 ((i:Int)+1) (↑(i+1):Int) ?_
  exact ze 2 (a4 _ _ _ ⟨i+1,rfl,rfl,a0,by omega⟩ (by omega))
 exact xe 11 (.bool true) ⟨rfl,a1⟩
theorem ImgR.mono{B B' b:Nat}{p:O0}{n c:Nat}{l:Bl}{w:World}(h:ImgR B b p n c l w)(hB:B'≤B):ImgR B' b p n c l w:=⟨h.blk,Zd h.row hB,h.hn⟩
theorem image_OfR(a:O0)(c n m:Nat)(l:Bl)(w:World)(hn:l.length=n)(hm:min (n/256) 14400*256=m)(h:Bys w (.slice a n c) l)(hl:n≤100000000)(hc:n≤c) :
 C0 7 #[.slice a n c] w (Qe (fun w' r=>∃ b p c2,r=P0 b∧w.heap.size≤b∧ImgR w.heap.size b p m c2 (l.take m) w') w):=by
 subst hn hm
 refine(image_Of a c l w h hl hc).mono ?_
 rintro e W ⟨_,rfl,hb,b,p,c2,rfl,h1,h2,h3⟩
 exact⟨_,rfl,hb,b,p,c2,rfl,h1,h2,h3,by omega⟩
def WroteR(B b:Nat)(p:O0)(n c:Nat)(l:Bl)(w:World)(e:Ending)(w':World):Prop :=
 e=.returned .nilIface∧Below B w w'∧Zf [5] w w'∧ImgR B b p n c l w'
theorem Pk(B b:Nat)(p:O0)(n c k:Nat)(ki:Int)(l:Bl)(kind:Int)(a:O0)(ca m:Nat)(li:Bl)(w:World)(hki:ki=(k:Int))(hm:li.length=m)(hI:ImgR B b p n c l w)(hk:k<n/256)(h1:1≤kind)(h2:kind≤4)(hin:Bys w (.slice a m ca) li)(hl:m≤244)(hBw:B≤w.heap.size) :
 C0 101 #[P0 b,V0 ki,V0 kind,.slice a m ca] w (WroteR B b p n c (Vq l (k*256) (Xs kind k li)) w):=by
 subst hki hm
 obtain⟨g,rfl,hc⟩:=hI.base (by omega)
 refine(Tc B b g n c k l kind a ca li w hI.blk hI.row hI.hn hc hk h1 h2 hin hl hBw).mono ?_
 rintro e W ⟨rfl,hb,hO,_,ho⟩
 exact⟨rfl,hb,hO,hI.blk.only hO (by decide),ho,hI.hn⟩
def erT (er:Int):Option Int:=if er=0 then none else some er
theorem Tn(l:Bl)(i:Nat)(w:World)(hs:(Qy l i).length≤1000):C0 87 #[.string ⟨(Qy l i).toArray⟩] w (fun e w' =>
 (Ye Xk (Qy l i)=0∧e=.returned (.tuple #[.agg #[V0 (Qj l i 0:Int),V0 (Qj l i 1:Int),V0 (Qj l i 2:Int)],V0 0])∧B3 w w') ∨
 (Ye Xk (Qy l i)≠0∧e=.returned (.tuple #[.agg #[V0 (Qj l i 0:Int),V0 (Qj l i 1:Int),V0 (Qj l i 2:Int)],V0 (Ye Xk (Qy l i))])∧B3 w w')):=by
 refine(Mr (Qy l i) w hs).mono ?_
 rintro e W ⟨rfl,hb⟩
 by_cases h:Ye Xk (Qy l i)=0
 ·exact .inl ⟨h,by rw[h];rfl,hb⟩
 ·exact .inr ⟨h,rfl,hb⟩
theorem bysZ{w:World}{a:O0}{c r:Nat}{l:Bl}(h:Bys w (.slice a 244 c) l)(hl:l.length=244)(hk:4+16*r≤244):Bys w (.slice (Qu a (4+16*r) c 1) (244-(4+16*r)) (c-(4+16*r))) (l.drop (4+r*16)):=by
 rw[Nat.mul_comm r 16];exact bysK h hl hk
theorem slot_cut{w:World}{a:O0}{c i:Nat}{l:Bl}(h:Bys w (.slice a 244 c) l)(hl:l.length=244)(hi:i<15):Bys w (.slice (Qu a (4+16*i) c 1) (20+16*i-(4+16*i)) (c-(4+16*i))) (Qy l i):=by
 have:=Bys.cut h hl (4+16*i) (20+16*i) (by omega) (by omega)
 unfold Qy
 have e:20+16*i-(4+16*i)=16:=by omega
 rw[Nat.mul_comm i 16]
 rw[e] at this ⊢
 exact this
theorem Zf2{i:Nat}{l:Bl}(hl:l.length=244)(hi:i<15):(Qy l i).length=20+16*i-(4+16*i):=by rw[Br hl hi];omega
theorem ref10_Read(a:O0)(c:Nat)(l:Bl)(w:World)(hl:l.length=244)(h:Bys w (.slice a 244 c) l) :
 C0 137 #[.slice a 244 c] w (SlotsP l w):=by
 have d1:=Bys.cap h hl
 refine zin 54 Tryz.func137 ?_
 refine xr 20 (args:=#[.slice a 244 c,V0 0,V0 4]) (Cd a 244 c 0 4 0 4 l _ hl rfl rfl (by decide) (by decide) (by decide) (h.below (B4 w))) fun W1 b3=>?_
 refine xg 13 [19,20] (decide ((↑(Zg l 0 4):Int)>(15:Int))) (fun b0=>?_) (fun b0=>?_)
 ·have b0:=of_decide_eq_true b0
  refine xe 19 (.tuple #[S0,V0 7]) ?_
  have he:Mz l=7:=by unfold Mz Ls;rw[decide_eq_false (by omega),Bool.false_and,if_neg (by decide)]
  exact .inl ⟨by rw[he];decide,by rw[he],b3⟩
 have b0:=of_decide_eq_false b0
 refine xwm 2 (16*(↑(Zg l 0 4):Int)) (↑(16*(Zg l 0 4)):Int) ?_
 refine xwm 0 (4+(↑(16*(Zg l 0 4)):Int)) (↑(4+(16*(Zg l 0 4))):Int) ?_
 refine xsL 0 (fun _ _ _ _ zo zx zy V=>Xv (k:=(4+(16*(Zg l 0 4)))) (b:=a) (n:=244) (c:=c) (i:=(↑(4+(16*(Zg l 0 4))):Int)) (ki:=.i64) 1 zo zx zy rfl (by omega) Tryz.underlying22 (by kernel_rfl) V) ?_
 refine xr 0 (args:=#[.slice (Qu a (4+(16*(Zg l 0 4))) c 1) (244-(4+(16*(Zg l 0 4)))) (c-(4+(16*(Zg l 0 4))))]) (Ue (Qu a (4+(16*(Zg l 0 4))) c 1) (244-(4+(16*(Zg l 0 4)))) (c-(4+(16*(Zg l 0 4)))) (l.drop (4+Zg l 0 4*16)) _ (by simp;omega) (by omega) ((bysZ h hl (by omega)).below b3)) fun W3 c8=>?_
 refine xi 4 (!(Yt (l.drop (4+Zg l 0 4*16)))) (fun c4=>?_) (fun c4=>?_)
 ·have b2:Yt (l.drop (4+Zg l 0 4*16))=false:=Kb c4
  have b7:=bln b3 c8
  refine xe 8 (.tuple #[S0,V0 7]) ?_
  have he:Mz l=7:=by unfold Mz Ls;rw[b2,Bool.and_false,if_neg (by decide)]
  exact .inl ⟨by rw[he];decide,by rw[he],b7⟩
 have b2:Yt (l.drop (4+Zg l 0 4*16))=true:=Ka c4
 have c2:=bln b3 c8
 refine zl 14 54 (fun zm d0 V=>∃ (i:Nat) (q:O0) (d:Nat),d0=[(0,.slice a 244 c),(4,V0 (↑(Zg l 0 4):Int)),(6,.slice q i d),(7,V0 (i:Int))]∧zm=(Zg l 0 4)-((i:Int)).toNat∧B3 w V∧V.ownsRow w.heap.size 134 3 (.slice q i d) i ((Mk l i).flatMap Zfq)∧i≤(Zg l 0 4)∧Pm l i=0) ⟨0,_,_,rfl,rfl,c2,World.ownsRow_nil _ _ _ _,Nat.zero_le _,rfl⟩ ?_
 rintro _ _ W5 ⟨i,q,d,rfl,rfl,a0,ho,hi,hz⟩ J5 d6 r5
 refine xid 8 ((i:Int)<(↑(Zg l 0 4):Int)) (fun d8=>?_) (fun d8=>?_)
 ·refine xwm 8 (16*(i:Int)) (↑(16*i):Int) ?_
  refine xwm 0 (4+(↑(16*i):Int)) (↑(4+(16*i)):Int) ?_
  refine xwm 1 (16*(i:Int)) (↑(16*i):Int) ?_
  refine xwm 0 (20+(↑(16*i):Int)) (↑(20+(16*i)):Int) ?_
  refine xsB 0 (fun _ _ _ _ _ zo zx zy zz V=>Yv (k:=(4+(16*i))) (h:=(20+(16*i))) (b:=a) (n:=244) (c:=c) (i:=(↑(4+(16*i)):Int)) (ki:=.i64) (j:=(↑(20+(16*i)):Int)) (kj:=.i64) 1 zo zx zy rfl zz rfl (by omega) (by omega) Tryz.underlying22 (by kernel_rfl) V) ?_
  refine xcv0 0 (fun _ _ _ zo zx=>Yz zo zx ((slot_cut (i:=i) h hl (by omega)).below a0) (Zf2 (i:=i) hl (by omega)) Tryz.underlying22 Tryz.underlying5 Tryz.underlying9) ?_
  refine xc 0 (args:=#[.string ⟨(Qy l i).toArray⟩]) (Tn l i _ (by rw[Br hl (by omega)];decide)) ?_
  rintro e W7 d3
  rcases d3 with ⟨a3,rfl,a7⟩|⟨a3,rfl,a7⟩
  ·refine xa 3 [V0 0,V0 0,V0 0] 134 fun b8 W8 n8=>?_
   have a4:=bln a0 a7
   have g8:=n8.ge a4
   have a5:=Zb ho a7
   have a9:=Zn a5 n8
   refine xsv 0 n8.blk [V0 (↑(Qj l i 0):Int),V0 (↑(Qj l i 1):Int),V0 (↑(Qj l i 2):Int)] fun W9 u9 k9=>?_
   refine xlv 15 k9.rp ?_
   refine xbs 0 1 [V0 (↑(Qj l i 0):Int),V0 (↑(Qj l i 1):Int),V0 (↑(Qj l i 2):Int)] 134 fun e3 e5 a1=>?_
   have b6:=a1.ne k9
   have a8:=u9.below (bln a4 n8.below) g8
   have e2:=a1.ge a8
   have a2:=u9.own3 (Zb a5 n8.below) a9
   have b9:=Zn a2 a1
   have c0:=Zb a2 a1.below
   have a6:=bln a8 a1.below
   refine xbi 0 fun _ _ _ _ zJ zQ zo zx zy zK=>Zr (m:=1) (news:=[V0 (↑(Qj l i 0):Int),V0 (↑(Qj l i 1):Int),V0 (↑(Qj l i 2):Int)]) (.agg #[V0 0,V0 0,V0 0]) 3 24 (i+1) (((Mk l (i+1)).flatMap Zfq)) zo Tryz.underlying140 (by kernel_rfl) rfl (by decide) zx c0 zy (a1.blk.sl 1 1 (by decide) (by decide)) rfl (by simp[Value.oneCell']) (by unfold maxLen;omega) (by omega) a6.size (by rfl) (by rw[Ij,List.flatMap_append];rfl) fun d4 d2 e6 d7 c9 c5=>?_
   refine zK _ _ ?_
   refine xwm 6 ((i:Int)+1) (↑(i+1):Int) ?_
   have c1:=a6.trans c5
   exact ze 2 (d6 _ _ _ ⟨i+1,_,_,rfl,rfl,c1,d7,by omega,Cy hz a3⟩ (by omega))
  refine xa 3 [V0 0,V0 0,V0 0] 134 fun e4 e1 b4=>?_
  have b1:=bln a0 a7
  have d9:=b4.ge b1
  have c3:=Zb ho a7
  have c6:=Zn c3 b4
  refine xsv 0 b4.blk [V0 (↑(Qj l i 0):Int),V0 (↑(Qj l i 1):Int),V0 (↑(Qj l i 2):Int)] fun e7 d5 e0=>?_
  refine xk 10 (show(((Ye Xk (Qy l i)) != (0:Int)):Bool)=true from bne_iff_ne.2 a3) ?_
  have b5:=d5.below (bln b1 b4.below) d9
  refine xe 13 (.tuple #[S0,V0 2]) ?_
  have c7:Ls l=true:=by unfold Ls;rw[b2,decide_eq_true (by omega)];rfl
  have h2:Ye Xk (Qy l i)=2:=(slot_two hl (by omega)).resolve_left a3
  have he:Mz l=2:=by unfold Mz;rw[if_pos c7,Zhg hz a3 (by omega),h2]
  exact .inl ⟨by rw[he];decide,by rw[he],b5⟩
 refine xe 13 (.tuple #[.slice q i d,V0 0]) ?_
 have c7:Ls l=true:=by unfold Ls;rw[b2,decide_eq_true (by omega)];rfl
 obtain rfl:i=Zg l 0 4:=by omega
 exact .inr ⟨by unfold Mz;rw[if_pos c7,hz],_,_,rfl,a0,ho⟩
def Zb3(l:Bl)(no:Int):List Int:=if Xn l no=0 then Ny (inB l no) (Zg (inB l no) 0 4) else []
def Vz(l:Bl)(no:Int):List (Nat×Nat×Nat):=if Xy l no=0 then Mk (inB l no) (Zg (inB l no) 0 4) else []
theorem Zbw{l:Bl}{no:Int}(h:Xn l no=0):Zb3 l no=Ny (inB l no) (Zg (inB l no) 0 4)∧(Zb3 l no).length=Zg (inB l no) 0 4:=by unfold Zb3;rw[if_pos h];exact⟨rfl,Rh _ _⟩
theorem Zbt{l:Bl}{no:Int}(h:Xn l no≠0):Zb3 l no=[]:=if_neg h
theorem Ee{l:Bl}{no:Int}(h:Xy l no=0):Vz l no=Mk (inB l no) (Zg (inB l no) 0 4)∧(Vz l no).length=Zg (inB l no) 0 4:=by unfold Vz;rw[if_pos h];exact⟨rfl,Zc0 _ _⟩
theorem Rj{l:Bl}{no:Int}(h:Xy l no≠0):Vz l no=[]:=if_neg h
theorem bitI_map(l:Bl)(n:Nat):(Ny l n).map V0=(Fv l n).map nv:=by simp[Ny,nv]
def RBitsU(l:Bl)(no:Int)(w:World)(e:Ending)(w':World):Prop :=
 ∃ p c a5 c5,e=.returned (.tuple #[.slice p (Zb3 l no).length c,.agg #[.slice a5 (Gr no (Xn l no)).length c5,V0 (Xn l no)]])∧B3 w w'∧w'.ownsRow w.heap.size 3 1 (.slice p (Zb3 l no).length c) (Zb3 l no).length ((Zb3 l no).map V0)∧w'.ownsRow w.heap.size 3 1 (.slice a5 (Gr no (Xn l no)).length c5) (Gr no (Xn l no)).length ((Gr no (Xn l no)).map V0)
def RIdxU(l:Bl)(no:Int)(w:World)(e:Ending)(w':World):Prop :=
 ∃ p c a5 c5,e=.returned (.tuple #[.slice p (Vz l no).length c,.agg #[.slice a5 (Gr no (Xy l no)).length c5,V0 (Xy l no)]])∧B3 w w'∧w'.ownsRow w.heap.size 134 3 (.slice p (Vz l no).length c) (Vz l no).length ((Vz l no).flatMap Zfq)∧w'.ownsRow w.heap.size 3 1 (.slice a5 (Gr no (Xy l no)).length c5) (Gr no (Xy l no)).length ((Gr no (Xy l no)).map V0)
theorem rbitsU_ok{l:Bl}{no:Int}{w W:World}{p a5:O0}{c c5:Nat}(he:Xn l no=0)(hb:B3 w W)(ho:W.ownsRow w.heap.size 3 1 (.slice p (Zg (inB l no) 0 4) c) (Zg (inB l no) 0 4) ((Ny (inB l no) (Zg (inB l no) 0 4)).map V0))(h5:W.ownsRow w.heap.size 3 1 (.slice a5 (Gr no 0).length c5) (Gr no 0).length ((Gr no 0).map V0)) :
 RBitsU l no w (.returned (.tuple #[.slice p (Zg (inB l no) 0 4) c,.agg #[.slice a5 (Gr no 0).length c5,V0 0]])) W:=by
 obtain⟨h1,h2⟩:=Zbw he
 refine⟨p,c,a5,c5,by rw[h2,he],hb,?_,by rw[he];exact h5⟩
 rw[h2,h1];exact ho
theorem Ii{l:Bl}{no er:Int}{w W:World}{a5:O0}{c5:Nat}(he:Xn l no=er)(hz:er≠0)(hb:B3 w W)(h5:W.ownsRow w.heap.size 3 1 (.slice a5 (Gr no er).length c5) (Gr no er).length ((Gr no er).map V0)) :
 RBitsU l no w (.returned (.tuple #[S0,.agg #[.slice a5 (Gr no er).length c5,V0 er]])) W:=by
 subst he
 refine⟨none,0,a5,c5,by rw[Zbt hz];rfl,hb,?_,h5⟩
 rw[Zbt hz];exact World.ownsRow_nil _ _ _ _
theorem ridxU_ok{l:Bl}{no:Int}{w W:World}{p a5:O0}{c c5:Nat}(he:Xy l no=0)(hb:B3 w W)(ho:W.ownsRow w.heap.size 134 3 (.slice p (Zg (inB l no) 0 4) c) (Zg (inB l no) 0 4) ((Mk (inB l no) (Zg (inB l no) 0 4)).flatMap Zfq))(h5:W.ownsRow w.heap.size 3 1 (.slice a5 (Gr no 0).length c5) (Gr no 0).length ((Gr no 0).map V0)) :
 RIdxU l no w (.returned (.tuple #[.slice p (Zg (inB l no) 0 4) c,.agg #[.slice a5 (Gr no 0).length c5,V0 0]])) W:=by
 obtain⟨h1,h2⟩:=Ee he
 refine⟨p,c,a5,c5,by rw[h2,he],hb,?_,by rw[he];exact h5⟩
 rw[h2,h1];exact ho
theorem Zc9{l:Bl}{no er:Int}{w W:World}{a5:O0}{c5:Nat}(he:Xy l no=er)(hz:er≠0)(hb:B3 w W)(h5:W.ownsRow w.heap.size 3 1 (.slice a5 (Gr no er).length c5) (Gr no er).length ((Gr no er).map V0)) :
 RIdxU l no w (.returned (.tuple #[S0,.agg #[.slice a5 (Gr no er).length c5,V0 er]])) W:=by
 subst he
 refine⟨none,0,a5,c5,by rw[Rj hz];rfl,hb,?_,h5⟩
 rw[Rj hz];exact World.ownsRow_nil _ _ _ _
theorem ref11_Bits(B bm:Nat)(p:O0)(k c:Nat)(l:Bl)(no:Int)(w:World)(hI:RefI B bm p k c l w) :
 C0 84 #[P0 bm,V0 no] w (RBitsU l no w):=by
 refine zin 30 Tryz.func84 ?_
 refine xa 3 [S0,V0 0] 36 fun b1 W1 n1=>?_
 have b2:=hI.below n1.below
 refine xc 6 (args:=#[P0 bm,V0 no,V0 3]) (Re B bm p k c l _ b2 no 3) ?_
 rintro e W2 c1
 rcases c1 with ⟨a2,rfl,a0⟩|⟨a2,b4,p3,c3,rfl,a0,h3⟩
 ·refine xk 14 (show(((inE l 3 no) != (0:Int)):Bool)=true from bne_iff_ne.2 a2) ?_
  refine xc 4 (args:=#[V0 no,V0 (inE l 3 no)]) (Ws no (inE l 3 no) _) ?_
  rintro _ W3 ⟨a5,c5,rfl,b3,a4⟩
  have b6:=(bln n1.below a0).size
  have k1:=(n1.blk.below a0).below b3
  refine xsv 1 k1 [.slice a5 ((Gr no (inE l 3 no)).length) c5,V0 (inE l 3 no)] fun W4 u4 k4=>?_
  have g1:=n1.ge (B4 w)
  have hB:=u4.below (bln (bln n1.below a0) b3) g1
  have a6:=u4.own2 (Zd a4 b6) k1 (by decide)
  exact xec 4 k4 (.tuple #[S0,.agg #[.slice a5 ((Gr no (inE l 3 no)).length) c5,V0 (inE l 3 no)]]) (Ii (by unfold Xn;rw[if_neg a2]) a2 hB a6)
 have a9:=Zd h3 n1.below.size
 refine xc 20 (args:=#[.slice p3 244 c3]) (ref09_Read p3 c3 (inB l no) _ b4 (Yk (Ze a9) b4)) ?_
 rintro e W5 b7
 rcases b7 with ⟨hz,rfl,a1⟩|⟨hz,p4,c4,rfl,a1,h4⟩
 ·refine xc 12 (args:=#[V0 no,V0 7]) (Ws no 7 _) ?_
  rintro _ W6 ⟨a5,c5,rfl,b5,a4⟩
  have c0:=(bln (bln n1.below a0) a1).size
  have k1:=((n1.blk.below a0).below a1).below b5
  refine xsv 1 k1 [.slice a5 ((Gr no 7).length) c5,V0 7] fun W7 u7 k7=>?_
  have g1:=n1.ge (B4 w)
  have hB:=u7.below (bln (bln (bln n1.below a0) a1) b5) g1
  have a7:=u7.own2 (Zd a4 c0) k1 (by decide)
  exact xec 3 k7 (.tuple #[S0,.agg #[.slice a5 ((Gr no 7).length) c5,V0 7]]) (Ii (by unfold Xn;rw[if_pos a2,hz,if_neg (by decide)]) (by decide) hB a7)
 have b9:=(bln n1.below a0).size
 refine xc 12 (args:=#[V0 no,V0 0]) (Ws no 0 _) ?_
 rintro _ W8 ⟨a5,c5,rfl,b0,a4⟩
 have b8:=(bln (bln n1.below a0) a1).size
 have k1:=((n1.blk.below a0).below a1).below b0
 refine xsv 1 k1 [.slice a5 ((Gr no 0).length) c5,V0 0] fun W9 u9 k9=>?_
 have g1:=n1.ge (B4 w)
 have hB:=u9.below (bln (bln (bln n1.below a0) a1) b0) g1
 have a8:=u9.own2 (Zb (Zd h4 b9) b0) k1 (by decide)
 have a3:=u9.own2 (Zd a4 b8) k1 (by decide)
 exact xec 3 k9 (.tuple #[.slice p4 (Zg (inB l no) 0 4) c4,.agg #[.slice a5 ((Gr no 0).length) c5,V0 0]]) (rbitsU_ok (by unfold Xn;rw[if_pos a2,if_pos hz]) hB a8 a3)
theorem Zfw(B bm:Nat)(p:O0)(k c:Nat)(l:Bl)(no:Int)(w:World)(hI:RefI B bm p k c l w) :
 C0 85 #[P0 bm,V0 no] w (RIdxU l no w):=by
 refine zin 30 Tryz.func85 ?_
 refine xa 3 [S0,V0 0] 36 fun b1 W1 n1=>?_
 have b2:=hI.below n1.below
 refine xc 6 (args:=#[P0 bm,V0 no,V0 4]) (Re B bm p k c l _ b2 no 4) ?_
 rintro e W2 c1
 rcases c1 with ⟨a2,rfl,a0⟩|⟨a2,b4,p3,c3,rfl,a0,h3⟩
 ·refine xk 14 (show(((inE l 4 no) != (0:Int)):Bool)=true from bne_iff_ne.2 a2) ?_
  refine xc 4 (args:=#[V0 no,V0 (inE l 4 no)]) (Ws no (inE l 4 no) _) ?_
  rintro _ W3 ⟨a5,c5,rfl,b3,a4⟩
  have b6:=(bln n1.below a0).size
  have k1:=(n1.blk.below a0).below b3
  refine xsv 1 k1 [.slice a5 ((Gr no (inE l 4 no)).length) c5,V0 (inE l 4 no)] fun W4 u4 k4=>?_
  have g1:=n1.ge (B4 w)
  have hB:=u4.below (bln (bln n1.below a0) b3) g1
  have a6:=u4.own2 (Zd a4 b6) k1 (by decide)
  exact xec 4 k4 (.tuple #[S0,.agg #[.slice a5 ((Gr no (inE l 4 no)).length) c5,V0 (inE l 4 no)]]) (Zc9 (by unfold Xy;rw[if_neg a2]) a2 hB a6)
 have a9:=Zd h3 n1.below.size
 refine xc 20 (args:=#[.slice p3 244 c3]) (ref10_Read p3 c3 (inB l no) _ b4 (Yk (Ze a9) b4)) ?_
 rintro e W5 b7
 rcases b7 with ⟨hz,rfl,a1⟩|⟨hz,p4,c4,rfl,a1,h4⟩
 ·refine xc 12 (args:=#[V0 no,V0 (Mz (inB l no))]) (Ws no (Mz (inB l no)) _) ?_
  rintro _ W6 ⟨a5,c5,rfl,b5,a4⟩
  have c0:=(bln (bln n1.below a0) a1).size
  have k1:=((n1.blk.below a0).below a1).below b5
  refine xsv 1 k1 [.slice a5 ((Gr no (Mz (inB l no))).length) c5,V0 (Mz (inB l no))] fun W7 u7 k7=>?_
  have g1:=n1.ge (B4 w)
  have hB:=u7.below (bln (bln (bln n1.below a0) a1) b5) g1
  have a7:=u7.own2 (Zd a4 c0) k1 (by decide)
  exact xec 3 k7 (.tuple #[S0,.agg #[.slice a5 ((Gr no (Mz (inB l no))).length) c5,V0 (Mz (inB l no))]]) (Zc9 (by unfold Xy;rw[if_pos a2]) hz hB a7)
 have b9:=(bln n1.below a0).size
 refine xc 12 (args:=#[V0 no,V0 0]) (Ws no 0 _) ?_
 rintro _ W8 ⟨a5,c5,rfl,b0,a4⟩
 have b8:=(bln (bln n1.below a0) a1).size
 have k1:=((n1.blk.below a0).below a1).below b0
 refine xsv 1 k1 [.slice a5 ((Gr no 0).length) c5,V0 0] fun W9 u9 k9=>?_
 have g1:=n1.ge (B4 w)
 have hB:=u9.below (bln (bln (bln n1.below a0) a1) b0) g1
 have a8:=u9.own2 (Zb (Zd h4 b9) b0) k1 (by decide)
 have a3:=u9.own2 (Zd a4 b8) k1 (by decide)
 exact xec 3 k9 (.tuple #[.slice p4 (Zg (inB l no) 0 4) c4,.agg #[.slice a5 ((Gr no 0).length) c5,V0 0]]) (ridxU_ok (by unfold Xy;rw[if_pos a2,hz]) hB a8 a3)
def Zhh(cs:List Nat)(k:Int):List Nat:=cs.set k.toNat (cs.getD k.toNat 0+1)
def zer (cs:List Nat):Nat:=cs.count 0
def phi (cs:List Nat):Nat:=cs.sum+2001*zer cs
theorem Zax(cs:List Nat)(k:Int):(Zhh cs k).length=cs.length:=by simp[Zhh]
theorem sum_set{cs:List Nat}{k:Nat}(h:k<cs.length)(v:Nat):(cs.set k v).sum+cs.getD k 0=cs.sum+v:=by
 induction cs generalizing k with
 | nil=>exact absurd h (by simp)
 | cons a cs ih =>
  cases k with
  | zero=>simp[List.getD];omega
  | succ k =>
   have:=ih (k:=k) (by simpa using h)
   simp only[List.set_cons_succ,List.sum_cons,List.getD_cons_succ]
   omega
theorem bump_sum{cs:List Nat}{k:Int}(h0:0≤k)(h:k<cs.length):(Zhh cs k).sum=cs.sum+1:=by
 have:=sum_set (cs:=cs) (k:=k.toNat) (by omega) (cs.getD k.toNat 0+1)
 unfold Zhh;omega
end Go.Proofs.YtceeiinepijokaaGreatDoor
namespace Go.Proofs.YtceeiinepijokaaGreatDoor
set_option maxHeartbeats 8000000
set_option maxRecDepth 100000
set_option linter.unusedVariables false
abbrev Rx:=Int×Int×Int
def valX(no t:Int)(leaf:Bool)(v:Bl):Rx :=
 if leaf=true∧t=4 then(if Ye Xk v≠0 then(no,7,Ye Xk v) else(((Yo Xk v).getD 0 0:Nat),7,0))
 else if Kv v≠0 then(no,(if leaf then 2 else t),Kv v) else((Ji v:Int),(if leaf then 2 else t),0)
def Nc(t:Int)(leaf:Bool):Prop:=leaf=true∧t≠1∧t≠4
instance (t:Int) (leaf:Bool):Decidable (Nc t leaf):=inferInstanceAs (Decidable (_∧_∧_))
def Wx(l:Bl)(no ak:Int):Int:=if ak=6 then Xy l no else if ak=7 then Xn l no else Xl l no ak
def nodX(l:Bl)(no:Int):List Rx:=if Nc (Xz (inB l no)) (Yi (inB l no)) then [] else(Vy l no).map (valX no (Xz (inB l no)) (Yi (inB l no)))
def sltRx(s:Nat×Nat×Nat):Rx:=((s.1:Int),7,0)
def hasL(l:Bl)(no ak:Int):List Rx:=if ak=6 then(Vz l no).map sltRx else if ak=7 then [] else nodX l no
theorem maxC(l:Bl)(no ak:Int)(h:Xl l no ak=0):Xh (inB l no)≤18:=Nat.le_trans (Wu (Zgm (Ss (Ow h).2))) (maxG_18 _ _)
theorem Zby(l:Bl)(no:Int):(Vz l no).length≤255:=by
 by_cases h:Xy l no=0
 ·rw[(Ee h).2]
  unfold Xy at h
  by_cases h1:inE l 4 no=0
  ·rw[if_pos h1] at h
   unfold Mz at h
   by_cases h2:Ls (inB l no)=true
   ·have h3:(decide (Zg (inB l no) 0 4≤15)&&_)=true:=h2
    rw[Bool.and_eq_true] at h3
    have:=of_decide_eq_true h3.1
    omega
   ·rw[if_neg h2] at h;omega
  ·rw[if_neg h1] at h;exact absurd h h1
 ·rw[Rj h];exact Nat.zero_le _
theorem hasL_few{l:Bl}{no ak:Int}(h:Wx l no ak=0):(hasL l no ak).length≤1000:=by
 unfold Wx at h;unfold hasL
 split
 ·rw[List.length_map];have:=Zby l no;omega
 ·rename_i h6
  rw[if_neg h6] at h
  split
  ·exact Nat.zero_le _
  ·rename_i h7
   rw[if_neg h7] at h
   unfold nodX
   split
   ·exact Nat.zero_le _
   ·rw[List.length_map]
    have:=maxC l no ak h
    unfold Vy;rw[Uw];omega
end Go.Proofs.YtceeiinepijokaaGreatDoor
namespace Go.Proofs.YtceeiinepijokaaGreatDoor
set_option maxHeartbeats 8000000
set_option maxRecDepth 100000
set_option linter.unusedVariables false
abbrev Lk:=Int×Int×Int×Int
abbrev Kx:=List Lk×List Int×Int
def Vg(out:List Lk)(no:Int):Bool:=out.any fun x=>decide (x.2.1=no)
def Uz(no t:Int)(leaf:Bool)(v:Bl):Lk :=
 if leaf=true∧t=4 then(no,((Yo Xk v).getD 0 0:Nat),7,Ye Xk v) else(no,(Ji v:Int),(if leaf then 2 else t),Kv v)
def Fh(no:Int)(s:Nat×Nat×Nat):Lk:=(no,(s.1:Int),7,0)
def Zea(l:Bl)(no:Int):List Lk:=if Nc (Xz (inB l no)) (Yi (inB l no)) then [] else(Vy l no).map (Uz no (Xz (inB l no)) (Yi (inB l no)))
def Mc(l:Bl)(no ak:Int):List Lk:=if ak=6 then(Vz l no).map (Fh no) else if ak=7 then [] else Zea l no
def Qr(f:List Lk→Lk→Kx):List Lk→List Lk→Kx
 | out,[]=>(out,[],0)
 | out,x::r=>if(f out x).2.2≠0 then f out x else Qr f (f out x).1 r
def Xu(l:Bl)(n:Nat):Nat→List Lk→Lk→Kx
 | 0,out,x=>(out,[],0)
 | d+1,out,x =>
  if x.2.2.2≠0 then(out,[x.1],x.2.2.2)
  else if ¬ (0≤x.2.1∧x.2.1<n) then(out,[x.2.1],3)
  else if Vg out x.2.1=true then(out++[x],[],0)
  else if Wx l x.2.1 x.2.2.1≠0 then(out++[x],[x.2.1],Wx l x.2.1 x.2.2.1)
  else Qr (Xu l n d) (out++[x]) (Mc l x.2.1 x.2.2.1)
theorem Ut(f:List Lk→Lk→Kx)(out:List Lk):Qr f out []=(out,[],0):=rfl
theorem Yd(f:List Lk→Lk→Kx)(out:List Lk)(x:Lk)(r:List Lk):Qr f out (x::r)=if(f out x).2.2≠0 then f out x else Qr f (f out x).1 r:=rfl
theorem Gf(f:List Lk→Lk→Kx):∀ (A B:List Lk) (out:List Lk),Qr f out (A++B)=if(Qr f out A).2.2≠0 then Qr f out A else Qr f (Qr f out A).1 B
 | [],B,out=>by simp[Qr]
 | x::A,B,out=>by
  rw[List.cons_append,Yd,Yd]
  by_cases h:(f out x).2.2≠0
  ·rw[if_pos h,if_pos h,if_pos h]
  ·rw[if_neg h,if_neg h]
   exact Gf f A B _
theorem Dl(out:List Lk)(x:Lk)(no:Int):Vg (out++[x]) no=(Vg out no||decide (x.2.1=no)):=by
 unfold Vg;simp
def unt (out:List Lk):Nat→Nat
 | 0=>0
 | n+1=>unt out n+if Vg out (n:Int)=true then 0 else 1
theorem Zb8(out:List Lk):∀ n,unt out n≤n
 | 0=>Nat.le_refl _
 | n+1=>by
  have:=Zb8 out n
  unfold unt
  split<;>omega
theorem Zbh(out:List Lk)(x:Lk):∀ n:Nat,unt (out++[x]) n+(if(0≤x.2.1∧x.2.1<n)∧Vg out x.2.1=false then 1 else 0)=unt out n
 | 0=>by
  rw[if_neg (fun q=>by have:=q.1;omega)];rfl
 | n+1=>by
  have ih:=Zbh out x n
  unfold unt
  rw[Dl]
  by_cases h:x.2.1=(n:Int)
  ·rw[if_neg (fun q=>by have:=q.1;omega)] at ih
   rw[h]
   simp only[decide_true,Bool.or_true,if_true]
   cases ht:Vg out (n:Int) with
   | true=>rw[if_neg (fun q=>by cases q.2),if_pos rfl];omega
   | false=>rw[if_pos ⟨by omega,rfl⟩,if_neg (by decide)];omega
  ·rw[decide_eq_false h,Bool.or_false]
   have e:((0≤x.2.1∧x.2.1<((n+1:Nat):Int))∧Vg out x.2.1=false)↔((0≤x.2.1∧x.2.1<(n:Int))∧Vg out x.2.1=false):=by
    constructor<;>rintro⟨q,r⟩<;>exact⟨by omega,r⟩
   have e2:(if(0≤x.2.1∧x.2.1<((n+1:Nat):Int))∧Vg out x.2.1=false then 1 else 0)=if(0≤x.2.1∧x.2.1<(n:Int))∧Vg out x.2.1=false then 1 else 0:=by
    by_cases q:(0≤x.2.1∧x.2.1<(n:Int))∧Vg out x.2.1=false
    ·rw[if_pos q,if_pos (e.2 q)]
    ·rw[if_neg q,if_neg (fun r=>q (e.1 r))]
   rw[e2]
   omega
theorem Vb{out:List Lk}{x:Lk}{n:Nat}(h:0≤x.2.1∧x.2.1<n)(ht:Vg out x.2.1=false):unt (out++[x]) n+1=unt out n:=by
 have:=Zbh out x n
 rwa [if_pos ⟨h,ht⟩] at this
theorem Za2(out:List Lk)(x:Lk)(n:Nat):unt (out++[x]) n≤unt out n:=by have:=Zbh out x n;omega
def Ql(n:Nat)(out:List Lk):Nat:=out.length+1001*unt out n
structure WellK(n:Nat)(out:List Lk)(m:Nat)(o:Kx):Prop where
 unt:unt o.1 n≤unt out n
 phi:Ql n o.1≤Ql n out+m
theorem WellK.refl(n:Nat)(out:List Lk)(m:Nat)(b:List Int)(e:Int):WellK n out m (out,b,e):=⟨Nat.le_refl _,Nat.le_add_right _ _⟩
theorem WellK.mono{n m k:Nat}{out:List Lk}{o:Kx}(h:WellK n out m o)(hm:m≤k):WellK n out k o:=⟨h.unt,by have:=h.phi;omega⟩
theorem WellK.trans{n m k:Nat}{out:List Lk}{o o2:Kx}(h:WellK n out m o)(q:WellK n o.1 k o2):WellK n out (m+k) o2:=⟨Nat.le_trans q.unt h.unt,by have:=h.phi;have:=q.phi;omega⟩
theorem Nr{n:Nat}{f:List Lk→Lk→Kx}(hf:∀ out x,WellK n out 1 (f out x)):∀ (L:List Lk) (out:List Lk),WellK n out L.length (Qr f out L)
 | [],out=>WellK.refl n out _ _ _
 | x::r,out=>by
  rw[Yd]
  split
  ·exact(hf out x).mono (by simp)
  ·have:=(hf out x).trans (Nr hf r (f out x).1)
   exact this.mono (by simp;omega)
theorem Zg9{l:Bl}{no ak:Int}(h:Wx l no ak=0):(Mc l no ak).length≤1000:=by
 have h2:=hasL_few h
 unfold Mc
 unfold hasL at h2
 split
 ·rename_i h6;rw[if_pos h6] at h2;rwa [List.length_map] at h2 ⊢
 ·rename_i h6
  rw[if_neg h6] at h2
  split
  ·exact Nat.zero_le _
  ·rename_i h7
   rw[if_neg h7] at h2
   unfold Zea
   unfold nodX at h2
   split
   ·exact Nat.zero_le _
   ·rename_i h8;rw[if_neg h8] at h2;rwa [List.length_map] at h2 ⊢
theorem Ur(l:Bl)(n:Nat):∀ (d:Nat) (out:List Lk) (x:Lk),WellK n out 1 (Xu l n d out x)
 | 0,out,x=>WellK.refl n out _ _ _
 | d+1,out,x=>by
  unfold Xu
  split
  ·exact WellK.refl n out _ _ _
  ·split
   ·exact WellK.refl n out _ _ _
   ·rename_i h1 h2
    have h2:0≤x.2.1∧x.2.1<n:=Classical.not_not.1 h2
    have hm:=Za2 out x n
    have hb:WellK n out 1 (out++[x],([]:List Int),0):=⟨hm,by show Ql n (out++[x])≤_;unfold Ql;rw[List.length_append];simp only[List.length_cons,List.length_nil];omega⟩
    split
    ·exact hb
    ·rename_i h3
     have hz:=Vb h2 (Bool.eq_false_iff.2 h3)
     split
     ·exact⟨hb.unt,hb.phi⟩
     ·rename_i h4
      have hw:=Nr (Ur l n d) (Mc l x.2.1 x.2.2.1) (out++[x])
      have hf:=Zg9 (Classical.not_not.1 h4)
      refine⟨Nat.le_trans hw.unt hm,?_⟩
      have:=hw.phi
      unfold Ql at this ⊢
      rw[List.length_append] at this
      simp only[List.length_cons,List.length_nil] at this
      omega
theorem Lq{n m:Nat}{f g:List Lk→Lk→Kx}(hf:∀ out x,WellK n out 1 (f out x))(h:∀ out x,unt out n≤m→f out x=g out x):∀ (L:List Lk) (out:List Lk),unt out n≤m→Qr f out L=Qr g out L
 | [],out,_=>rfl
 | x::r,out,hn=>by
  rw[Yd,Yd,h out x hn]
  split
  ·rfl
  ·have:=(hf out x).unt
   rw[h out x hn] at this
   exact Lq hf h r _ (Nat.le_trans this hn)
theorem Zag(l:Bl)(n:Nat):∀ (d d':Nat) (out:List Lk) (x:Lk),unt out n<d→unt out n<d'→Xu l n d out x=Xu l n d' out x
 | 0,_,_,_,h,_=>absurd h (by omega)
 | _+1,0,_,_,_,h=>absurd h (by omega)
 | d+1,d'+1,out,x,h,h'=>by
  unfold Xu
  by_cases h1:x.2.2.2≠0
  ·rw[if_pos h1,if_pos h1]
  ·rw[if_neg h1,if_neg h1]
   by_cases h2:¬ (0≤x.2.1∧x.2.1<n)
   ·rw[if_pos h2,if_pos h2]
   ·rw[if_neg h2,if_neg h2]
    by_cases h3:Vg out x.2.1=true
    ·rw[if_pos h3,if_pos h3]
    ·rw[if_neg h3,if_neg h3]
     by_cases h4:Wx l x.2.1 x.2.2.1≠0
     ·rw[if_pos h4,if_pos h4]
     ·rw[if_neg h4,if_neg h4]
      have hz:=Vb (Classical.not_not.1 h2) (Bool.eq_false_iff.2 h3)
      exact Lq (n:=n) (m:=unt (out++[x]) n) (Ur l n d) (fun o' x' hn=>Zag l n d d' o' x' (by omega) (by omega)) _ _ (Nat.le_refl _)
def Wg(l:Bl)(n:Nat)(out:List Lk)(L:List Lk):Kx:=Qr (Xu l n (n+1)) out L
variable {l:List UInt8} {n:Nat} {out:List Lk} {x:Lk} {r:List Lk}
theorem Zdk(h:x.2.2.2≠0):Wg l n out (x::r)=(out,[x.1],x.2.2.2):=by
 have e:Xu l n (n+1) out x=(out,[x.1],x.2.2.2):=if_pos h
 unfold Wg;rw[Yd,e,if_pos h]
theorem Zej(h:x.2.2.2=0)(h2:¬ (0≤x.2.1∧x.2.1<n)):Wg l n out (x::r)=(out,[x.2.1],3):=by
 have e:Xu l n (n+1) out x=(out,[x.2.1],3):=by unfold Xu;rw[if_neg (fun q=>q h),if_pos h2]
 unfold Wg;rw[Yd,e,if_pos (show(3:Int)≠0 by decide)]
theorem linkO_more(h:x.2.2.2=0)(h2:0≤x.2.1∧x.2.1<n)(h3:Vg out x.2.1=true):Wg l n out (x::r)=Wg l n (out++[x]) r:=by
 have e:Xu l n (n+1) out x=(out++[x],[],0):=by unfold Xu;rw[if_neg (fun q=>q h),if_neg (fun q=>q h2),if_pos h3]
 unfold Wg;rw[Yd,e,if_neg (by simp)]
theorem linkO_bad(h:x.2.2.2=0)(h2:0≤x.2.1∧x.2.1<n)(h3:Vg out x.2.1=false)(h4:Wx l x.2.1 x.2.2.1≠0):Wg l n out (x::r)=(out++[x],[x.2.1],Wx l x.2.1 x.2.2.1):=by
 have e:Xu l n (n+1) out x=(out++[x],[x.2.1],Wx l x.2.1 x.2.2.1):=by unfold Xu;rw[if_neg (fun q=>q h),if_neg (fun q=>q h2),if_neg (by rw[h3];decide),if_pos h4]
 unfold Wg;rw[Yd,e,if_pos h4]
theorem Rr(h:x.2.2.2=0)(h2:0≤x.2.1∧x.2.1<n)(h3:Vg out x.2.1=false)(h4:Wx l x.2.1 x.2.2.1=0):Wg l n out (x::r)=Wg l n (out++[x]) (Mc l x.2.1 x.2.2.1++r):=by
 have hz:=Vb h2 h3
 have a0:=Zb8 out n
 have e:Xu l n (n+1) out x=Qr (Xu l n (n+1)) (out++[x]) (Mc l x.2.1 x.2.2.1):=by
  conv=>lhs;unfold Xu
  rw[if_neg (fun q=>q h),if_neg (fun q=>q h2),if_neg (by rw[h3];decide),if_neg (fun q=>q h4)]
  exact Lq (n:=n) (m:=unt (out++[x]) n) (Ur l n _) (fun o' x' hn=>Zag l n _ _ o' x' (by omega) (by omega)) _ _ (Nat.le_refl _)
 unfold Wg
 rw[Yd,e,Gf]
def Jn(f:List Lk→Lk→Kx)(o:List Lk)(L:List Lk)(c:List Lk):Prop:=(Qr f o L).2.2=0∧(Qr f o L).1=c
theorem Jn.nil(f:List Lk→Lk→Kx)(o:List Lk):Jn f o [] o:=⟨rfl,rfl⟩
theorem Jn.next{f:List Lk→Lk→Kx}{o c L:List Lk}(h:Jn f o L c){x:Lk}(h2:(f c x).2.2=0):Jn f o (L++[x]) (f c x).1:=by
 have e:Qr f o (L++[x])=Qr f (Qr f o L).1 [x]:=by rw[Gf,if_neg (fun q=>q h.1)]
 rw[h.2,Yd,if_neg (fun q=>q h2)] at e
 unfold Jn
 rw[e];exact⟨rfl,rfl⟩
theorem Jn.bad{f:List Lk→Lk→Kx}{o c L:List Lk}(h:Jn f o L c){x:Lk}(h2:(f c x).2.2≠0)(r:List Lk):Qr f o (L++x::r)=f c x:=by
 rw[Gf,if_neg (fun q=>q h.1),h.2,Yd,if_pos h2]
theorem Jn.well{d:Nat}{o c L:List Lk}(h:Jn (Xu l n d) o L c):unt c n≤unt o n∧Ql n c≤Ql n o+L.length:=by
 have hw:=Nr (Ur l n d) L o
 rw[←h.2]
 exact⟨hw.unt,hw.phi⟩
def Vo(l:Bl)(no:Int)(i:Nat):List Lk:=if Nc (Xz (inB l no)) (Yi (inB l no)) then [] else((Vy l no).take i).map (Uz no (Xz (inB l no)) (Yi (inB l no)))
theorem Dk(l:Bl)(no:Int):Vo l no 0=[]:=by unfold Vo;split<;>simp
theorem Zee(l:Bl)(no:Int):Vo l no (Vy l no).length=Zea l no:=by unfold Vo Zea;rw[List.take_length]
theorem Zd1(l:Bl)(no:Int)(i:Nat):(Vo l no i).length≤i:=by
 unfold Vo
 split
 ·exact Nat.zero_le _
 ·rw[List.length_map,List.length_take];exact Nat.min_le_left _ _
theorem Ky{no:Int}{i:Nat}(hi:i<(Vy l no).length)(hd:¬ Nc (Xz (inB l no)) (Yi (inB l no))):Vo l no (i+1)=Vo l no i++[Uz no (Xz (inB l no)) (Yi (inB l no)) ((Vy l no).getD i [])]:=by
 unfold Vo
 rw[if_neg hd,if_neg hd,List.take_succ_eq_append_getElem hi,List.map_append,show(Vy l no).getD i []=(Vy l no)[i] from by simp[List.getD,hi]];rfl
theorem Tt{no:Int}{i:Nat}(hi:i<(Vy l no).length)(hd:¬ Nc (Xz (inB l no)) (Yi (inB l no))):Zea l no=Vo l no i++Uz no (Xz (inB l no)) (Yi (inB l no)) ((Vy l no).getD i [])::((Vy l no).drop (i+1)).map (Uz no (Xz (inB l no)) (Yi (inB l no))):=by
 unfold Vo Zea
 rw[if_neg hd,if_neg hd,show(Vy l no).getD i []=(Vy l no)[i] from by simp[List.getD,hi],←List.map_cons,←List.map_append,←List.drop_eq_getElem_cons hi,List.take_append_drop]
theorem Zdq{no:Int}{L:List (Nat×Nat×Nat)}{i:Nat}(hi:i<L.length):(L.take (i+1)).map (Fh no)=(L.take i).map (Fh no)++[Fh no (L.getD i (0,0,0))]:=by
 rw[List.take_succ_eq_append_getElem hi,List.map_append,show L.getD i (0,0,0)=L[i] from by simp[List.getD,hi]];rfl
theorem sltK_split{no:Int}{L:List (Nat×Nat×Nat)}{i:Nat}(hi:i<L.length):L.map (Fh no)=(L.take i).map (Fh no)++Fh no (L.getD i (0,0,0))::(L.drop (i+1)).map (Fh no):=by
 rw[show L.getD i (0,0,0)=L[i] from by simp[List.getD,hi]]
 rw[←List.map_cons,←List.map_append,←List.drop_eq_getElem_cons hi,List.take_append_drop]
def Az(s:Sup):List Lk:=[(0,s.top,1,0),(0,s.details,3,0),(0,s.dslots,4,0),(0,s.dover,5,0),(0,s.mindex,6,0),(0,s.mover,5,0)]
def Xr(l:Bl)(s:Sup):Kx:=if Zp s=false then([],[],1) else Wg l s.blocks.toNat [] (Az s)
end Go.Proofs.YtceeiinepijokaaGreatDoor
namespace Go.Proofs.YtceeiinepijokaaGreatDoor
set_option maxHeartbeats 8000000
set_option maxRecDepth 100000
open Go.RowKit Go.Extern.Stop Go.Stop Go.Extern
open Go.ChangeMaps (setBlock heap_setBlock_same heap_setBlock_other)
set_option linter.unusedVariables false
attribute [local irreducible] wpList wpAnyH Code.wp Oper.wp Go
theorem run_keyN{P:Program}{kt:TypeId}(hk:P.underlying kt=some (.int .i64))(k:Int)(b:Bool)(n:Nat)(w:World):(Instr.checkKey b (n+1) kt (V0 k)).run P w=.ok () w:=by
 simp only[Instr.checkKey,Sem.run_bind,run_underlying hk,Result.andThen_ok]
 rfl
theorem run_keyOk{P:Program}{kt:TypeId}(hk:P.underlying kt=some (.int .i64))(k:Int)(b:Bool)(w:World):(Instr.checkKey b 10000 kt (V0 k)).run P w=.ok () w:=run_keyN hk k b 9999 w
variable {P:Program} {w:World}
theorem Zdg{r:Nat}{es:Array MapEntry}{c:Nat}(hb:w.heap[r]? = some (.map es c))(o:Obj):Upd w r (setBlock w r o):=⟨rfl,rfl,rfl,by simp[setBlock],fun k hk=>heap_setBlock_other hb _ hk⟩
/-! ### in a walk -/
inductive Zm
 | mm (t:TypeId)
 | lk (t:TypeId) (m k:Value)
 | mu (t:TypeId) (m k v:Value)
 | b1 (b:Builtin) (t:TypeId) (u:Value)
 | b2 (b:Builtin) (t t2:TypeId) (u v:Value)
noncomputable def zmf (n:Nat) (kv:List (Nat×Value)) (o:Oper):Option Zm:=match o.op with
 | .makeMap t none=>some (.mm t)
 | .lookup t x y false=>some (.lk t (zev n kv x) (zev n kv y))
 | .mapUpdate t x y z=>some (.mu t (zev n kv x) (zev n kv y) (zev n kv z))
 | .call c=>match c.callee with
  | .builtin b=>match c.args.toList,c.argTypes.toList with
   | [x],[t]=>some (.b1 b t (zev n kv x))
   | [x,y],[t,t2]=>some (.b2 b t t2 (zev n kv x) (zev n kv y))
   | _,_=>none
  | _=>none
 | _=>none
noncomputable def zm (s:Zs):Option Zm:=match zop s with
 | some o=>zmf s.n s.kv o
 | none=>none
section
variable {P:Program} {fn:Func} {R:Ending→World→Prop} {w:World} {s:Zs}
theorem op_skip{a:Act}{o:Oper}{K:Act→World→Prop}{Q:Exit→Act→World→Prop}{w':World}(hv:(execOp a.eval o).run P w=.ok .skip w')(k:K (a.put o.dst undef) w'):o.wp P a w K Q:=by
 simp only[Oper.wp,hv,Oper.upon];exact k
end
end Go.Proofs.YtceeiinepijokaaGreatDoor
namespace Go.Proofs.YtceeiinepijokaaGreatDoor
set_option maxHeartbeats 8000000
set_option maxRecDepth 100000
open Go.RowKit Go.Extern.Stop Go.Stop Go.Extern
open Go.ChangeMaps (setBlock heap_setBlock_same heap_setBlock_other)
set_option linter.unusedVariables false
attribute [local irreducible] wpList wpAnyH Code.wp Oper.wp Go
structure KeyK{α:Type}[DecidableEq α](P:Program)(kt:TypeId)(mk:α→Value)(un:Value→α):Prop where
 inv:∀ a,un (mk a)=a
 d:∃ D,P.underlying kt=some D∧∀ a b,Instr.sameNow D (mk a) (mk b)=some (decide (a=b))
 ok:∀ (b:Bool) (a:α) (w:World),(Instr.checkKey b 10000 kt (mk a)).run P w=.ok () w
def unI:Value→Int
 | .int _ a=>a
 | _=>0
theorem keyI{P:Program}{kt:TypeId}(hk:P.underlying kt=some (.int .i64)):KeyK P kt V0 unI where
 inv:=fun _=>rfl
 d:=⟨_,hk,fun a b=>by
  show(if IntKind.i64=IntKind.i64 then some (a==b) else none)=_
  rw[if_pos rfl];congr 1⟩
 ok:=fun b a w=>run_keyOk hk a b w
section
variable {α:Type} {mk:α→Value} {un:Value→α}
def Zgw(mk:α→Value)(kv:List (α×Value)):List (Value×Value):=kv.map fun p=>(mk p.1,p.2)
def Wa(mk:α→Value)(W:World)(r:Nat)(kv:List (α×Value)):Prop :=
 ∃ es clock,W.heap[r]? = some (.map es clock)∧es.toList.map (fun e=>(e.key,e.val))=Zgw mk kv∧(∀ x∈es.toList,x.born<clock)∧(es.toList.map (·.born)).Nodup
theorem Wa.lt{W:World}{r:Nat}{kv:List (α×Value)}(h:Wa mk W r kv):r<W.heap.size:=by
 obtain⟨es,a0,h1,_⟩:=h
 exact(Array.getElem?_eq_some_iff.1 h1).1
theorem Wa.kept{w W:World}{r:Nat}{kv:List (α×Value)}(h:Wa mk w r kv)(hb:W.heap[r]? = w.heap[r]?):Wa mk W r kv:=by
 obtain⟨es,a0,h1,h2⟩:=h
 exact⟨es,a0,hb.trans h1,h2⟩
theorem Wa.below{w W:World}{r:Nat}{kv:List (α×Value)}(h:Wa mk w r kv)(hb:B3 w W):Wa mk W r kv:=h.kept (hb.block r h.lt)
theorem Wa.ne_blk{w:World}{r b:Nat}{kv:List (α×Value)}{cs:List Value}{t:TypeId}(h:Wa mk w r kv)(k:Blk w b cs t):r≠b:=fun e=>by
 subst e
 obtain⟨es,a0,h1,_⟩:=h
 have:w.heap[r]? = some (.cells cs.toArray t (0,0)):=k
 rw[h1] at this;cases this
theorem Wa.ne_own{w:World}{r base size n:Nat}{kv:List (α×Value)}{e:TypeId}{v:Value}{xs:List Value}(h:Wa mk w r kv)(k:w.ownsRow base e size v n xs):some r≠v.ownBlock:=fun q=>by
 rcases k.2 with ⟨h2,_⟩|⟨g,a2,a1,hv,hg,hh,_⟩
 ·subst h2;simp[Value.ownBlock] at q
 ·subst hv
  simp only[Value.ownBlock,Option.some.injEq] at q
  subst q
  obtain⟨es,a0,h1,_⟩:=h
  rw[h1] at hh;cases hh
theorem Wa.grown{w W:World}{r base size n:Nat}{kv:List (α×Value)}{e:TypeId}{v:Value}{xs:List Value}(h:Wa mk w r kv)(hg:w.grownBy W v.ownBlock)(k:w.ownsRow base e size v n xs):Wa mk W r kv:=h.kept (hg.block r h.lt (h.ne_own k))
theorem Wa.updBlk{w W:World}{r b:Nat}{kv:List (α×Value)}{cs:List Value}{t:TypeId}(h:Wa mk w r kv)(u:Upd w b W)(k:Blk w b cs t):Wa mk W r kv:=h.kept (u.block r (h.ne_blk k))
theorem Wa.upd{w W:World}{r b:Nat}{kv:List (α×Value)}(h:Wa mk w r kv)(u:Upd w b W)(hn:r≠b):Wa mk W r kv:=h.kept (u.block r hn)
theorem Qz{w W:World}{r base size n:Nat}{e:TypeId}{v:Value}{xs:List Value}(k:w.ownsRow base e size v n xs)(h:∀ cs t f,w.heap[r]? ≠ some (.cells cs t f))(u:Upd w r W):W.ownsRow base e size v n xs:=u.own3 k fun j hj q=>by
 subst q
 rcases k.2 with ⟨h2,_⟩|⟨g,a1,a0,hv,hg,hh,_⟩
 ·subst h2;simp[Value.ownBlock] at hj
 ·subst hv
  simp only[Value.ownBlock,Option.some.injEq] at hj
  subst hj
  exact h _ _ _ hh
theorem Xf{w W:World}{r b:Nat}{cs:List Value}{t:TypeId}(k:Blk w b cs t)(h:∀ cs t f,w.heap[r]? ≠ some (.cells cs t f))(u:Upd w r W):Blk W b cs t:=u.blk k (fun q=>by
 subst q
 exact h cs.toArray t (0,0) k)
theorem Zo{T:List TypeId}{w W:World}{r:Nat}(h:∀ cs t f,w.heap[r]? ≠ some (.cells cs t f))(u:Upd w r W):Zf T w W:=fun i cs t fr hi _=>by
 rw[u.block i (fun q=>by
  subst q
  exact h _ _ _ hi)]
 exact hi
theorem Wa.obj{w:World}{r:Nat}{kv:List (α×Value)}(h:Wa mk w r kv):∀ cs t f,w.heap[r]? ≠ some (.cells cs t f):=fun cs t f q=>by
 obtain⟨es,a0,h1,_⟩:=h
 rw[h1] at q;cases q
structure NewMV(mk:α→Value)(w:World)(r:Nat)(W:World):Prop where
 at_:r=w.heap.size
 below:Below w.heap.size w W
 map:Wa mk W r []
theorem NewMV.ge{w W A:World}{r:Nat}(h:NewMV mk w r W)(k:Below A.heap.size A w):A.heap.size≤r:=by have:=k.size;have:=h.at_;omega
theorem NewMV.mk'(mk:α→Value)(w:World):NewMV mk w w.heap.size (w.alloc (.map #[] 0)):=⟨rfl,blx _ _,#[],0,World.alloc_heap_new w _,rfl,(fun _ h=>by cases h),List.Pairwise.nil⟩
def Pf[DecidableEq α]:List (α×Value)→α→Option Value
 | [],_=>none
 | p::r,k=>if k=p.1 then some p.2 else Pf r k
theorem Zb9[DecidableEq α]{D:TypeDesc}(hd:∀ a b:α,Instr.sameNow D (mk a) (mk b)=some (decide (a=b)))(k:α):∀ (es:List MapEntry) (kv:List (α×Value)) (i:Nat),es.map (fun e=>(e.key,e.val))=Zgw mk kv→∃ j,Instr.findNow D (mk k) es i=some ((Pf kv k).map fun v=>(j,v))
 | [],kv,i,h=>by
  have:kv=[]:=by simpa [Zgw] using h.symm
  subst this;exact⟨0,rfl⟩
 | e::es,[],i,h=>by simp[Zgw] at h
 | e::es,p::kv,i,h=>by
  simp only[Zgw,List.map_cons,List.cons.injEq,Prod.mk.injEq] at h
  obtain⟨⟨h1,h2⟩,h3⟩:=h
  by_cases q:k=p.1
  ·refine⟨i,?_⟩
   simp[Instr.findNow,h1,h2,hd,Pf,q]
  ·obtain⟨j,ih⟩:=Zb9 hd k es kv (i+1) h3
   refine⟨j,?_⟩
   simp[Instr.findNow,h1,hd,Pf,q,ih]
theorem Nf[DecidableEq α]{P:Program}{kt:TypeId}(K:KeyK P kt mk un)(k:α){es:List MapEntry}{kv:List (α×Value)}(h:es.map (fun e=>(e.key,e.val))=Zgw mk kv)(w:World) :
 ∃ j,(Instr.findKey kt (mk k) es).run P w=.ok ((Pf kv k).map fun v=>(j,v)) w:=by
 obtain⟨D,hD,hd⟩:=K.d
 obtain⟨j,hj⟩:=Zb9 hd k es kv 0 h
 refine⟨j,?_⟩
 simp only[Instr.findKey,Sem.run_bind,run_underlying hD,Result.andThen_ok,hj]
 rfl
variable {P:Program} {w:World}
theorem run_lookS[DecidableEq α]{t kt et:TypeId}{r:Nat}{kv:List (α×Value)}(K:KeyK P kt mk un)(ht:P.underlying t=some (.map kt et))(h:Wa mk w r kv){k:α}{v:Value}(hv:Pf kv k=some v)(ok:Bool) :
 (Instr.lookup t (.map (some r)) (mk k) ok).run P w=.ok (if ok then .tuple #[v,.bool true] else v) w:=by
 obtain⟨es,a0,h1,h2,_⟩:=h
 obtain⟨j,hf⟩:=Nf K k h2 w
 rw[hv] at hf
 cases ok<;>simp[Instr.lookup,run_underlying ht,MapKept.run_getObj_map h1,K.ok,hf,Result.andThen]
theorem run_lookN[DecidableEq α]{t kt et:TypeId}{r:Nat}{kv:List (α×Value)}(K:KeyK P kt mk un)(ht:P.underlying t=some (.map kt et))(h:Wa mk w r kv){k:α}{z:Value}(hz:(zeroValue et).run P w=.ok z w)(hv:Pf kv k=none)(ok:Bool) :
 (Instr.lookup t (.map (some r)) (mk k) ok).run P w=.ok (if ok then .tuple #[z,.bool false] else z) w:=by
 obtain⟨es,a0,h1,h2,_⟩:=h
 obtain⟨j,hf⟩:=Nf K k h2 w
 rw[hv] at hf
 cases ok<;>simp[Instr.lookup,run_underlying ht,MapKept.run_getObj_map h1,K.ok,hf,hz,Result.andThen]
theorem Zfd[DecidableEq α]{t kt et:TypeId}{r:Nat}{kv:List (α×Value)}(K:KeyK P kt mk un)(ht:P.underlying t=some (.map kt et))(h:Wa mk w r kv){k:α}(v:Value)(hn:Pf kv k=none) :
 ∃ W,(Instr.mapUpdate t (.map (some r)) (mk k) v).run P w=.ok () W∧Upd w r W∧Wa mk W r (kv++[(k,v)]):=by
 obtain⟨es,a0,h1,h2,h3,h4⟩:=h
 obtain⟨j,hf⟩:=Nf K k h2 w
 rw[hn] at hf
 refine⟨setBlock w r (.map (es.push ⟨mk k,v,a0⟩) (a0+1)),?_,Zdg h1 _,_,_,heap_setBlock_same h1 _,?_,?_,?_⟩
 ·simp[Instr.mapUpdate,run_underlying ht,MapKept.run_getObj_map h1,K.ok,hf,MapKept.run_setObj_map _ h1,Result.andThen,setBlock]
 ·rw[Array.toList_push,List.map_append,h2];simp[Zgw]
 ·intro x hx
  rw[Array.toList_push,List.mem_append] at hx
  rcases hx with hx|hx
  ·exact Nat.lt_succ_of_lt (h3 x hx)
  ·obtain rfl:=List.mem_singleton.1 hx
   exact Nat.lt_succ_self a0
 ·rw[Array.toList_push,List.map_append,List.nodup_append]
  refine⟨h4,by simp,fun a ha b hb q=>?_⟩
  obtain⟨x,hx,rfl⟩:=List.mem_map.1 ha
  simp at hb
  have:=h3 x hx
  omega
end
/-! ### in a walk -/
inductive Zmv
 | mm (t:TypeId)
 | lk (t:TypeId) (m k:Value) (ok:Bool)
 | mu (t:TypeId) (m k v:Value)
 | rg (t:TypeId) (m:Value)
 | nx (i:Value)
 | en (i:Value)
noncomputable def zmvf (n:Nat) (kv:List (Nat×Value)) (o:Oper):Option Zmv:=match o.op with
 | .makeMap t none=>some (.mm t)
 | .lookup t x y ok=>some (.lk t (zev n kv x) (zev n kv y) ok)
 | .mapUpdate t x y z=>some (.mu t (zev n kv x) (zev n kv y) (zev n kv z))
 | .range t x=>some (.rg t (zev n kv x))
 | .next x false=>some (.nx (zev n kv x))
 | .entry x=>some (.en (zev n kv x))
 | _=>none
noncomputable def zmv (s:Zs):Option Zmv:=match zop s with
 | some o=>zmvf s.n s.kv o
 | none=>none
def ZmvOk(a:Act)(o:Oper):Zmv→Prop
 | .mm t=>o.op=.makeMap t none
 | .lk t m k ok=>∃ x y,o.op=.lookup t x y ok∧a.eval x=m∧a.eval y=k
 | .mu t m k v=>∃ x y z,o.op=.mapUpdate t x y z∧a.eval x=m∧a.eval y=k∧a.eval z=v
 | .rg t m=>∃ x,o.op=.range t x∧a.eval x=m
 | .nx i=>∃ x,o.op=.next x false∧a.eval x=i
 | .en i=>∃ x,o.op=.entry x∧a.eval x=i
theorem Zbb{n:Nat}{kv:List (Nat×Value)}{o:Oper}{k:Zmv}(h:zmvf n kv o=some k):ZmvOk (zact n kv) o k:=by
 unfold zmvf at h
 split at h
 ·rename_i a0;cases h;exact a0
 ·rename_i a0;cases h;exact⟨_,_,a0,by rw[Zz],by rw[Zz]⟩
 ·rename_i a0;cases h;exact⟨_,_,_,a0,by rw[Zz],by rw[Zz],by rw[Zz]⟩
 ·rename_i a0;cases h;exact⟨_,a0,by rw[Zz]⟩
 ·rename_i a0;cases h;exact⟨_,a0,by rw[Zz]⟩
 ·rename_i a0;cases h;exact⟨_,a0,by rw[Zz]⟩
 ·cases h
section
variable {P:Program} {fn:Func} {R:Ending→World→Prop} {w:World} {s:Zs} {α:Type} {mk:α→Value} {un:Value→α}
theorem xmmV(mk:α→Value)(q:Zq)(t:TypeId)(k:∀ r W,NewMV mk w r W→Go P fn R (znx (zq P q s) (.map (some r))) W)(h:zmv (zq P q s)=some (.mm t):=by kernel_rfl)(hz:Ub (zq P q s)=true:=by kernel_rfl):Go P fn R s w:=by
 obtain⟨o,ho,h⟩:=Qv h
 have a0:o.op=.makeMap t none:=Zbb h
 exact Zt q s (zgo ho (Kr hz) fun K hK=>Gk (v:=.map (some w.heap.size)) (w':=w.alloc (.map #[] 0)) (by simp[execOp,a0,Instr.makeMap,newObj,Sem.run,Result.andThen]) (hK _ _ (Kn hz) (k _ _ (NewMV.mk' mk w))))
theorem xlkS[DecidableEq α](q:Zq){t kt et:TypeId}{r:Nat}{kv:List (α×Value)}(k:α)(ok:Bool){v:Value}(ht:P.underlying t=some (.map kt et))(K:KeyK P kt mk un)(hM:Wa mk w r kv)(hv:Pf kv k=some v)(g:Go P fn R (znx (zq P q s) (if ok then .tuple #[v,.bool true] else v)) w)
 (h:zmv (zq P q s)=some (.lk t (.map (some r)) (mk k) ok):=by kernel_rfl) (hz:Bh (zq P q s)=true:=by kernel_rfl):Go P fn R s w:=by
 obtain⟨o,ho,h⟩:=Qv h
 obtain⟨x,y,h1,h2,h3⟩:=Zbb h
 exact Zt q s (Zdi ho (fun V hV=>by
  have hr:=run_lookS (P:=P) K ht (hM.below (Gy hz hV)) hv ok
  simp only[execOp,h1,h2,h3,Sem.run_bind,hr,Result.andThen];rfl) g)
theorem xlkN[DecidableEq α](q:Zq){t kt et:TypeId}{r:Nat}{kv:List (α×Value)}(k:α)(ok:Bool){z:Value}(ht:P.underlying t=some (.map kt et))(K:KeyK P kt mk un)(hz0:∀ V,(zeroValue et).run P V=.ok z V)(hM:Wa mk w r kv)(hv:Pf kv k=none)(g:Go P fn R (znx (zq P q s) (if ok then .tuple #[z,.bool false] else z)) w)
 (h:zmv (zq P q s)=some (.lk t (.map (some r)) (mk k) ok):=by kernel_rfl) (hz:Bh (zq P q s)=true:=by kernel_rfl):Go P fn R s w:=by
 obtain⟨o,ho,h⟩:=Qv h
 obtain⟨x,y,h1,h2,h3⟩:=Zbb h
 exact Zt q s (Zdi ho (fun V hV=>by
  have hr:=run_lookN (P:=P) K ht (hM.below (Gy hz hV)) (hz0 V) hv ok
  simp only[execOp,h1,h2,h3,Sem.run_bind,hr,Result.andThen];rfl) g)
theorem Dw{B:Nat}{T:List TypeId}{w W:World}{r:Nat}(h:∀ cs t f,w.heap[r]? ≠ some (.cells cs t f))(u:Upd w r W)(hb:B≤r):(SF.t B T).rel w W :=
 ⟨u.below (Below.refl _ _) (Nat.le_trans (Nat.min_le_left _ _) hb),Zo h u⟩
theorem ymuV[DecidableEq α](q:Zq){t kt et:TypeId}{r:Nat}{kv:List (α×Value)}(k:α)(v:Value)(sf:SF)(ht:P.underlying t=some (.map kt et))(K:KeyK P kt mk un)(hM:Wa mk w r kv)(hn:Pf kv k=none)(g:∀ W,Upd w r W→Wa mk W r (kv++[(k,v)])→sf.rel w W∧Go P fn R (znx (zq P q s) undef) W)
 (h:zmv (zq P q s)=some (.mu t (.map (some r)) (mk k) v):=by kernel_rfl) (hz:zsf (zq P q s)=some sf:=by kernel_rfl):Go P fn R s w:=by
 obtain⟨o,ho,h⟩:=Qv h
 obtain⟨x,y,z,h1,h2,h3,h4⟩:=Zbb h
 obtain⟨W,hr,hu,hm⟩:=Zfd (P:=P) K ht hM v hn
 exact Zt q s (zgo ho (Ty hz) fun K hK=>op_skip (w':=W) (by simp[execOp,h1,h2,h3,h4,hr,Result.andThen]) (hK _ _ (St hz (g W hu hm).1) (g W hu hm).2))
end
end Go.Proofs.YtceeiinepijokaaGreatDoor
namespace Go.Proofs.YtceeiinepijokaaGreatDoor
set_option maxHeartbeats 8000000
set_option maxRecDepth 100000
open Go.RowKit Go.Extern.Stop Go.Stop Go.Extern
set_option linter.unusedVariables false
attribute [local irreducible] wpList wpAnyH Code.wp Oper.wp Go
def RBlkNodeP(l:Bl)(no tree:Int)(w:World)(e:Ending)(w':World):Prop :=
 (Xl l no tree≠0∧∃ a c,e=.returned (.tuple #[.agg #[V0 0,.bool false,S0,S0],.agg #[.slice a 1 c,V0 (Xl l no tree)]])∧B3 w w'∧w'.ownsRow w.heap.size 3 1 (.slice a 1 c) 1 [V0 no]) ∨
 (Xl l no tree=0∧∃ kp kc vp vc,e=.returned (.tuple #[.agg #[V0 (Xz (inB l no)),.bool (Yi (inB l no)),.slice kp (Xh (inB l no)) kc,.slice vp (Xh (inB l no)) vc],.agg #[S0,V0 0]])∧B3 w w'∧w'.ownsRow w.heap.size 3 1 (.slice kp (Xh (inB l no)) kc) (Xh (inB l no)) ((Ha (inB l no) (Xh (inB l no))).map V0)∧w'.ownsRow w.heap.size 9 1 (.slice vp (Xh (inB l no)) vc) (Xh (inB l no)) ((He (inB l no) (Xh (inB l no))).map sv))
theorem ref11_Node(B bm:Nat)(p:O0)(k c:Nat)(l:Bl)(no tree:Int)(w:World)(hI:RefI B bm p k c l w) :
 C0 86 #[P0 bm,V0 no,V0 tree] w (RBlkNodeP l no tree w):=by
 refine zin 48 Tryz.func86 ?_
 refine xa 2 [V0 0,.bool false,S0,S0] 181 fun b1 W1 n1=>?_
 refine xa 0 [S0,V0 0] 36 fun b2 W2 n2=>?_
 have e8:=(hI.below n1.below).below n2.below
 refine xc 6 (args:=#[P0 bm,V0 no,V0 2]) (Re B bm p k c l _ e8 no 2) ?_
 rintro e W3 f7
 rcases f7 with ⟨a9,rfl,a1⟩|⟨a9,f0,p3,c3,rfl,a1,h3⟩
 ·refine xk 14 (show(((inE l 2 no) != (0:Int)):Bool)=true from bne_iff_ne.2 a9) ?_
  refine xc 5 (args:=#[V0 no,V0 (inE l 2 no)]) (Hw no (inE l 2 no) _ a9) ?_
  rintro _ W4 ⟨_,rfl,e9,a5,c5,rfl,b7⟩
  have g5:=(bln (bln n1.below n2.below) a1).size
  have k1:=((n1.blk.below n2.below).below a1).below e9
  refine xsv 0 k1 [V0 0,.bool false,S0,S0] fun W5 u5 k5=>?_
  have g1:=n1.ge (B4 w)
  have k2:=u5.blkT ((n2.blk.below a1).below e9) k1 (by decide)
  refine xsv 0 k2 [.slice a5 1 c5,V0 (inE l 2 no)] fun W6 u6 k6=>?_
  have g2:=n2.ge n1.below
  have hB:=u6.below (u5.below (bln (bln (bln n1.below n2.below) a1) e9) g1) g2
  have b6:=u6.own2 (u5.own2 (Zd b7 g5) k1 (by decide)) k2 (by decide)
  have d6:=u6.blkT k5 k2 (by decide)
  refine xecm 4 [(b1,[V0 0,.bool false,S0,S0]),(b2,[.slice a5 1 c5,V0 (inE l 2 no)])] ⟨⟨_,d6⟩,⟨_,k6⟩,trivial⟩ (.tuple #[.agg #[V0 0,.bool false,S0,S0],.agg #[.slice a5 1 c5,V0 (inE l 2 no)]]) ?_
  have he:Xl l no tree=(inE l 2 no):=by unfold Xl;rw[if_neg a9]
  exact .inl ⟨by rw[he];exact a9,_,_,by rw[he],hB,b6⟩
 have f4:=(bln n1.below n2.below).size
 have e3:=Zd h3 f4
 refine xc 20 (args:=#[.slice p3 244 c3]) (ref07_Read p3 c3 (inB l no) _ f0 (Yk (Ze e3) f0)) ?_
 rintro e W7 f8
 rcases f8 with ⟨hz,rfl,a3⟩|⟨hz,kp,kc,vp,vc,rfl,a3,hk,f1⟩
 ·refine xa 3 [V0 0,.bool false,S0,S0] 181 fun b8 W8 n8=>?_
  have k1:=((n1.blk.below n2.below).below a1).below a3
  have c1:=n8.ne k1
  refine xsv 0 n8.blk [V0 0,.bool false,S0,S0] fun W9 u9 k9=>?_
  have g8:=n8.ge (bln (bln (bln n1.below n2.below) a1) a3)
  refine xk 10 (show(((Qd (inB l no)) != (0:Int)):Bool)=true from bne_iff_ne.2 hz) ?_
  refine xc 5 (args:=#[V0 no,V0 (Qd (inB l no))]) (Hw no (Qd (inB l no)) _ hz) ?_
  rintro _ h2 ⟨_,rfl,b5,a5,c5,rfl,b7⟩
  have d9:=(u9.below (bln (bln (bln (bln n1.below n2.below) a1) a3) n8.below) g8).size
  have b3:=(u9.blk (k1.below n8.below) (Ne.symm (Ne.symm c1))).below b5
  refine xsv 0 b3 [V0 0,.bool false,S0,S0] fun i1 e0 f5=>?_
  have g1:=n1.ge (B4 w)
  have k2:=e0.blkT ((u9.blkT (((n2.blk.below a1).below a3).below n8.below) n8.blk (by decide)).below b5) b3 (by decide)
  refine xsv 0 k2 [.slice a5 1 c5,V0 (Qd (inB l no))] fun g7 e7 f3=>?_
  have g2:=n2.ge n1.below
  have hB:=e7.below (e0.below (bln (u9.below (bln (bln (bln (bln n1.below n2.below) a1) a3) n8.below) g8) b5) g1) g2
  have c2:=e7.own2 (e0.own2 (Zd b7 d9) b3 (by decide)) k2 (by decide)
  have c6:=e7.blkT f5 k2 (by decide)
  refine xecm 4 [(b1,[V0 0,.bool false,S0,S0]),(b2,[.slice a5 1 c5,V0 (Qd (inB l no))])] ⟨⟨_,c6⟩,⟨_,f3⟩,trivial⟩ (.tuple #[.agg #[V0 0,.bool false,S0,S0],.agg #[.slice a5 1 c5,V0 (Qd (inB l no))]]) ?_
  have he:Xl l no tree=(Qd (inB l no)):=by unfold Xl Qn;rw[if_pos a9,if_neg hz]
  exact .inl ⟨by rw[he];exact hz,_,_,by rw[he],hB,c2⟩
 have d2:=(bln (bln n1.below n2.below) a1).size
 refine xa 3 [V0 0,.bool false,S0,S0] 181 fun h4 h9 a0=>?_
 have k1:=((n1.blk.below n2.below).below a1).below a3
 have a2:=a0.ne k1
 refine xsv 0 a0.blk [V0 (Xz (inB l no)),.bool (Yi (inB l no)),.slice kp (Xh (inB l no)) kc,.slice vp (Xh (inB l no)) vc] fun h5 a4 d7=>?_
 have d1:=a0.ge (bln (bln (bln n1.below n2.below) a1) a3)
 refine xg 19 [36,37] (tree != (0:Int)) (fun a6=>?_) (fun a6=>?_)
 ·have a6:=Jf a6
  refine xb 1 0 d7 ?_
  refine xin 5 (Xz (inB l no)) tree (fun e5=>?_) (fun e5=>?_)
  ·refine xc 4 (args:=#[V0 no,V0 6]) (Hw no 6 _ (by decide)) ?_
   rintro _ h1 ⟨_,rfl,b0,a5,c5,rfl,b7⟩
   have d8:=(a4.below (bln (bln (bln (bln n1.below n2.below) a1) a3) a0.below) d1).size
   have b4:=(a4.blk (k1.below a0.below) (Ne.symm (Ne.symm a2))).below b0
   refine xsv 0 b4 [V0 0,.bool false,S0,S0] fun h7 e4 f2=>?_
   have g1:=n1.ge (B4 w)
   have k2:=e4.blkT ((a4.blkT (((n2.blk.below a1).below a3).below a0.below) a0.blk (by decide)).below b0) b4 (by decide)
   refine xsv 0 k2 [.slice a5 1 c5,V0 6] fun i0 e2 f9=>?_
   have g2:=n2.ge n1.below
   have hB:=e2.below (e4.below (bln (a4.below (bln (bln (bln (bln n1.below n2.below) a1) a3) a0.below) d1) b0) g1) g2
   have c7:=e2.own2 (e4.own2 (Zd b7 d8) b4 (by decide)) k2 (by decide)
   have c8:=e2.blkT f2 k2 (by decide)
   refine xecm 4 [(b1,[V0 0,.bool false,S0,S0]),(b2,[.slice a5 1 c5,V0 6])] ⟨⟨_,c8⟩,⟨_,f9⟩,trivial⟩ (.tuple #[.agg #[V0 0,.bool false,S0,S0],.agg #[.slice a5 1 c5,V0 6]]) ?_
   have he:Xl l no tree=6:=by unfold Xl Qn;rw[if_pos a9,if_pos hz,if_neg (by omega)]
   exact .inl ⟨by rw[he];decide,_,_,by rw[he],hB,c7⟩
  refine xlv 4 d7.rp ?_
  have a8:=a4.blk (k1.below a0.below) (Ne.symm (Ne.symm a2))
  refine xsv 1 a8 [V0 (Xz (inB l no)),.bool (Yi (inB l no)),.slice kp (Xh (inB l no)) kc,.slice vp (Xh (inB l no)) vc] fun h8 d0 g0=>?_
  have g1:=n1.ge (B4 w)
  have k2:=d0.blkT (a4.blkT (((n2.blk.below a1).below a3).below a0.below) a0.blk (by decide)) a8 (by decide)
  refine xsv 0 k2 [S0,V0 0] fun h6 d4 g6=>?_
  have g2:=n2.ge n1.below
  have hB:=d4.below (d0.below (a4.below (bln (bln (bln (bln n1.below n2.below) a1) a3) a0.below) d1) g1) g2
  have e1:=d4.own2 (d0.own2 (a4.own2 (Zb (Zd hk d2) a0.below) a0.blk (by decide)) a8 (by decide)) k2 (by decide)
  have c0:=d4.own2 (d0.own2 (a4.own2 (Zb (Zd f1 d2) a0.below) a0.blk (by decide)) a8 (by decide)) k2 (by decide)
  have c9:=d4.blkT g0 k2 (by decide)
  exact xecm 3 [(b1,[V0 (Xz (inB l no)),.bool (Yi (inB l no)),.slice kp (Xh (inB l no)) kc,.slice vp (Xh (inB l no)) vc]),(b2,[S0,V0 0])] ⟨⟨_,c9⟩,⟨_,g6⟩,trivial⟩ (.tuple #[.agg #[V0 (Xz (inB l no)),.bool (Yi (inB l no)),.slice kp (Xh (inB l no)) kc,.slice vp (Xh (inB l no)) vc],.agg #[S0,V0 0]]) (.inr ⟨by unfold Xl Qn;rw[if_pos a9,if_pos hz,if_pos (by omega)],_,_,_,_,rfl,hB,e1,c0⟩)
 have a6:=Yb a6
 refine xlv 12 d7.rp ?_
 have a7:=a4.blk (k1.below a0.below) (Ne.symm (Ne.symm a2))
 refine xsv 1 a7 [V0 (Xz (inB l no)),.bool (Yi (inB l no)),.slice kp (Xh (inB l no)) kc,.slice vp (Xh (inB l no)) vc] fun g9 d5 g3=>?_
 have g1:=n1.ge (B4 w)
 have k2:=d5.blkT (a4.blkT (((n2.blk.below a1).below a3).below a0.below) a0.blk (by decide)) a7 (by decide)
 refine xsv 0 k2 [S0,V0 0] fun h0 d3 f6=>?_
 have g2:=n2.ge n1.below
 have hB:=d3.below (d5.below (a4.below (bln (bln (bln (bln n1.below n2.below) a1) a3) a0.below) d1) g1) g2
 have e6:=d3.own2 (d5.own2 (a4.own2 (Zb (Zd hk d2) a0.below) a0.blk (by decide)) a7 (by decide)) k2 (by decide)
 have c4:=d3.own2 (d5.own2 (a4.own2 (Zb (Zd f1 d2) a0.below) a0.blk (by decide)) a7 (by decide)) k2 (by decide)
 have b9:=d3.blkT g3 k2 (by decide)
 exact xecm 3 [(b1,[V0 (Xz (inB l no)),.bool (Yi (inB l no)),.slice kp (Xh (inB l no)) kc,.slice vp (Xh (inB l no)) vc]),(b2,[S0,V0 0])] ⟨⟨_,b9⟩,⟨_,f6⟩,trivial⟩ (.tuple #[.agg #[V0 (Xz (inB l no)),.bool (Yi (inB l no)),.slice kp (Xh (inB l no)) kc,.slice vp (Xh (inB l no)) vc],.agg #[S0,V0 0]]) (.inr ⟨by unfold Xl Qn;rw[if_pos a9,if_pos hz,if_pos (by omega)],_,_,_,_,rfl,hB,e6,c4⟩)
end Go.Proofs.YtceeiinepijokaaGreatDoor
namespace Go.Proofs.YtceeiinepijokaaGreatDoor
set_option maxHeartbeats 8000000
set_option maxRecDepth 100000
open Go.RowKit Go.Extern.Stop Go.Stop Go.Extern
set_option linter.unusedVariables false
def Gi(B:Nat)(w:World)(a:O0)(c:Nat)(l:List Int):Prop:=w.ownsRow B 3 1 (.slice a l.length c) l.length (l.map V0)
theorem Gi.below{B:Nat}{w W:World}{a:O0}{c:Nat}{l:List Int}(h:Gi B w a c l)(hb:B3 w W):Gi B W a c l:=Zb h hb
theorem Gi.only{B:Nat}{w W:World}{a:O0}{c:Nat}{l:List Int}{T:List TypeId}(h:Gi B w a c l)(hO:Zf T w W)(hT:T.contains 3=false):Gi B W a c l:=Zj h hO hT
theorem Gi.mono{B B':Nat}{w:World}{a:O0}{c:Nat}{l:List Int}(h:Gi B w a c l)(hB:B'≤B):Gi B' w a c l:=Zd h hB
theorem Gi.ints{B:Nat}{w:World}{a:O0}{c:Nat}{l:List Int}(h:Gi B w a c l):Ints w (.slice a l.length c) l:=Ze h
theorem Zcx(no er:Int)(w:World)(he:er≠0):C0 38 #[V0 no,V0 er] w (fun e w'=>∃ a c,e=.returned (.agg #[.slice a 1 c,V0 er])∧B3 w w'∧Gi w.heap.size w' a c [no]):=by
 refine(Hw no er w he).mono ?_
 rintro e W ⟨_,rfl,hb,a,c,rfl,ho⟩
 exact⟨a,c,rfl,hb,ho⟩
theorem Gi.apart{B base e size n c:Nat}{w W:World}{u:Value}{xs:List Value}{a:O0}{l:List Int}(q:Gi B W a c l)(k:w.ownsRow base e size u n xs)(h:w.heap.size≤B):Un (.slice a l.length c) u:=(Un.of_lt k q h).symm
end Go.Proofs.YtceeiinepijokaaGreatDoor
namespace Go.Proofs.YtceeiinepijokaaGreatDoor
set_option maxHeartbeats 8000000
set_option maxRecDepth 100000
open Go.RowKit Go.Extern.Stop Go.Stop Go.Extern
set_option linter.unusedVariables false
attribute [local irreducible] wpList wpAnyH Code.wp Oper.wp Go
theorem Zal(l:List Int):Vk (l.map some)=l:=by unfold Vk;simp[List.filterMap_map]
theorem Zfi(l:List Int)(c:Int):Fk (l.map some) (some c)=c:=by simp[Fk,Eb]
def eL (S:WS):List (Option Int):=if S.fs=[] then [] else(S.fs.getD 0 ([],0)).1.map some
def eT (S:WS):Option Int:=if S.fs=[] then none else some (S.fs.getD 0 ([],0)).2
theorem Zfb(a:O0)(c n k:Nat)(l:Bl)(w:World)(hn:l.length=n)(hk:min (n/256) 14400=k)(h:Bys w (.slice a n c) l)(hl:n≤100000000) :
 C0 9 #[.slice a n c] w (Qe (fun w' r=>∃ bm p c2,r=P0 bm∧w.heap.size≤bm∧RefI w.heap.size bm p k c2 (l.take (k*256)) w') w):=by
 subst hn hk;exact ref_Of a c l w h hl
end Go.Proofs.YtceeiinepijokaaGreatDoor
namespace Go.Proofs.YtceeiinepijokaaGreatDoor
set_option maxHeartbeats 8000000
set_option maxRecDepth 100000
open Go.RowKit Go.Extern.Stop Go.Stop Go.Extern
set_option linter.unusedVariables false
attribute [local irreducible] wpList wpAnyH Code.wp Oper.wp Go
section
variable {P:Program} {a:Act}
theorem shl_bd{n:Int}(h:0≤n∧n≤3){s:Nat}(hs:s≤6):0≤n*2 ^ s∧n*2 ^ s≤192:=by
 obtain rfl|rfl|rfl|rfl:n=0∨n=1∨n=2∨n=3:=by omega
 all_goals obtain rfl|rfl|rfl|rfl|rfl|rfl|rfl:s=0∨s=1∨s=2∨s=3∨s=4∨s=5∨s=6:=by omega
 all_goals decide
theorem run_shlS{o:Oper}{t t2:TypeId}{x y:Operand}{n:Int}{s:Nat}{j:Int}{kj:IntKind}(ho:o.op=.binOp .shl t x y t2)(hx:a.eval x=V0 n)(hy:a.eval y=.int kj j)(hj:j=(s:Int))(hn:0≤n∧n≤3)(hs:s≤6)(w:World):(execOp a.eval o).run P w=.ok (.value (V0 (n*2 ^ s))) w:=by
 subst hj
 have e:=shift_shl .i64 kj n (s:Int) (Int.natCast_nonneg s) (by show(s:Int)≤64;omega)
 rw[show((s:Int)).toNat=s from by omega] at e
 have hb:=shl_bd hn hs
 rw[IntWalk.i64_in _ (by omega)] at e
 simp only[execOp,ho,hx,hy,eqGuard_shl,binOp_shl,e]
 simp
end
section
variable {P:Program} {fn:Func} {R:Ending→World→Prop} {w:World} {s:Zs}
theorem xbot(q:Zq){b:BinOp}{t t2:TypeId}{u1 u2 v:Value}(hv:∀ (a:Act) (o:Oper) (x y:Operand),o.op=.binOp b t x y t2→a.eval x=u1→a.eval y=u2→∀ V,True→(execOp a.eval o).run P V=.ok (.value v) V)(g:Go P fn R (znx (zq P q s) v) w)(h:zk (zq P q s)=some (.bn b t t2 u1 u2):=by kernel_rfl):Go P fn R s w:=by
 refine Zt q s ?_
 obtain⟨o,ho,h⟩:=Qv h
 exact Zdi ho (fun V _=>by
  obtain⟨x,y,h1,h2,h3⟩:=Pt h
  exact hv _ o x y h1 h2 h3 V trivial) g
end
theorem u8_shl{n:Int}(h:0≤n∧n≤3){s:Nat}(hs:s≤6):IntKind.u8.wrap (n*2 ^ s)=n*2 ^ s:=by
 have hb:=shl_bd h hs
 generalize n*2 ^ s=m at *
 simp[IntKind.wrap,IntKind.bits,IntKind.signed];omega
theorem Zhj(l:List Int)(i:Nat){k:Nat}(hk:k<240):(Ph l i).getD (4+k) 0=g4B l i k:=by
 unfold Ph
 rw[List.getD,List.getElem?_append_right (by rw[Zi];omega),Zi,Nat.add_sub_cancel_left]
 simp[hk]
theorem bits_or{l:List Int}(h:Jy l){i:Nat}(hi:i<960):IntKind.u8.wrap (↑(BitVec.ofInt 8 (↑((Ph l i).getD (4+(i/4)) 0).toNat:Int) ||| BitVec.ofInt 8 (l.getD i 0*2 ^ ((i%4)*2))).toNat:Int)=((g4B l (i+1) (i/4)).toNat:Int):=by
 rw[Zhj l i (by omega)]
 obtain⟨h1,h2⟩:=g4B_at h (i:=i)
 rw[h1]
 obtain⟨n,hn⟩:∃ n:Nat,l.getD i 0=n:=⟨(l.getD i 0).toNat,by have:=(Kz h i).1;omega⟩
 have hb:=Kz h i
 rw[hn] at hb ⊢
 generalize (g4B l i (i/4)).toNat=o at *
 have hr:i%4<4:=by omega
 generalize i%4=r at *
 have ho:o<64:=Nat.lt_of_lt_of_le h2 (by
  obtain rfl|rfl|rfl|rfl:r=0∨r=1∨r=2∨r=3:=by omega
  all_goals decide)
 have hs:=or_step ⟨r,hr⟩ ⟨n,by omega⟩ ⟨o,ho⟩ h2
 simp only at hs
 have e4:(4:Nat) ^ r=2 ^ (r*2):=by rw[Nat.mul_comm,Nat.pow_mul]
 have e:((n:Int)*2 ^ (r*2))=((n*4 ^ r:Nat):Int):=by rw[e4];simp
 have e':((n:Int)*4 ^ r)=((n*4 ^ r:Nat):Int):=by simp
 have hm:n*4 ^ r≤192:=by
   have h3:4 ^ r≤64:=by
    obtain rfl|rfl|rfl|rfl:r=0∨r=1∨r=2∨r=3:=by omega
    all_goals decide
   calc n*4 ^ r≤3*64:=Nat.mul_le_mul (by omega) h3
     _=192:=rfl
 rw[e,e',BitVec.ofInt_natCast,BitVec.ofInt_natCast,BitVec.toNat_or,BitVec.toNat_ofNat,BitVec.toNat_ofNat,Nat.mod_eq_of_lt (by omega),Nat.mod_eq_of_lt (by omega),hs]
 generalize n*4 ^ r=m at *
 simp[IntKind.wrap,IntKind.bits,IntKind.signed];omega
theorem bits_set{l:List Int}{i:Nat}(hi:i<960):((Ph l i).map bv).set (4+(i/4)) (.int .u8 ((g4B l (i+1) (i/4)).toNat:Int))=(Ph l (i+1)).map bv:=by
 rw[show Value.int .u8 ((g4B l (i+1) (i/4)).toNat:Int)=bv (g4B l (i+1) (i/4)) from rfl,←List.map_set]
 congr 1
 unfold Ph
 rw[List.set_append_right _ _ (by rw[Zi];omega),Zi,Nat.add_sub_cancel_left]
 congr 1
 apply List.ext_getElem
 ·simp
 ·intro k h1 h2
  rw[List.getElem_set]
  split
  ·rename_i e;subst e;simp
  ·rename_i e;simp only[List.getElem_map,List.getElem_range];unfold g4B;rw[g4_ne (by omega)]
theorem bits0(l:List Int):((List.replicate 244 (0:UInt8)).map bv).take 0++(leB (l.length:Int) 4).map bv++((List.replicate 244 (0:UInt8)).map bv).drop (0+4)=(Ph l 0).map bv:=by
 unfold Ph
 rw[List.map_append,List.take_zero,List.nil_append]
 congr 1
theorem BysN.elem{w:World}{b:O0}{n c:Nat}{l:Bl}(h:Sl w (.slice b n c) n (l.map bv))(hl:l.length=n){k:Nat}(hk:k<n):b.isSome=true∧w.cell? (Xd b (k*1))=some (.int .u8 ((l.getD k 0).toNat:Int)):=by
 subst hl;exact Bys.elem (Yk h rfl) hk
theorem bits_put1(n:Int)(w:World)(h0:0≤n)(h3:n≤3) :
 C0 258 #[V0 n] w (Ret (.bool false) w):=by
 refine zin 9 Tryz.func258 ?_
 refine xgk 10 [4,5] (show(decide (n<(0:Int)):Bool)=false from decide_eq_false (by omega)) ?_
 refine xe 7 (.bool (decide (n>(3:Int)))) ?_
 rw[show decide (n>(3:Int))=false from decide_eq_false (by omega)];exact⟨rfl,(B4 w)⟩
theorem indexSmall(a:O0)(c:Nat)(l:List Int)(w:World)(hS:Jy l)(hl:l.length≤960)(h:Sl w (.slice a l.length c) l.length (l.map V0)) :
 C0 150 #[.slice a l.length c,.func (.func 258) #[] #[]] w (Ret (V0 (-1)) w):=by
 refine zin 19 Tryz.func150 ?_
 have hB:=Below.refl w.heap.size w
 refine zl 14 19 (fun zm a3 V=>∃ (i:Nat),a3=[(0,.slice a l.length c),(1,.func (.func 258) #[] #[]),(7,V0 (l.length:Int)),(8,V0 (i:Int))]∧zm=l.length-((i:Int)).toNat∧B3 w V∧i≤l.length) ⟨0,rfl,rfl,hB,Nat.zero_le _⟩ ?_
 rintro _ _ W1 ⟨i,rfl,rfl,a0,hi⟩ J1 a4 r1
 refine xid 6 ((i:Int)<(l.length:Int)) (fun a2=>?_) (fun a2=>?_)
 ·refine xx 15 _ l.length i 1 (Ints.elem h (k:=i) (by omega)).1 ?_
  refine xl 0 ((Ints.elem (h.below a0) (k:=i) (by omega)).2) ?_
  refine xr 0 (args:=#[V0 (l.getD i 0)]) (bits_put1 (l.getD i 0) _ (Kz hS i).1 (Kz hS i).2) fun W3 a5=>?_
  refine xwm 7 ((i:Int)+1) (↑(i+1):Int) ?_
  have a1:=bln a0 a5
  exact ze 2 (a4 _ _ _ ⟨i+1,rfl,rfl,a1,by omega⟩ (by omega))
 exact xe 11 (V0 (-1)) ⟨rfl,a0⟩
theorem Zbx(a:O0)(c:Nat)(l:List Int)(w:World)(hS:Jy l)(hl:l.length≤960)(h:Sl w (.slice a l.length c) l.length (l.map V0)) :
 C0 93 #[.slice a l.length c,.func (.func 258) #[] #[]] w (Ret (.bool false) w):=by
 refine zin 9 Tryz.func93 ?_
 refine xr 9 (args:=#[.slice a l.length c,.func (.func 258) #[] #[]]) (indexSmall a c l _ hS hl (h.below (B4 w))) fun W1 a0=>?_
 exact xe 5 (.bool false) ⟨rfl,a0⟩
theorem Zdl(a:O0)(c:Nat)(l:List Int)(w:World)(hl:l.length≤960)(h:Sl w (.slice a l.length c) l.length (l.map V0)) :
 C0 182 #[.slice a l.length c] w (Ret (.tuple #[V0 (↑(Yy l):Int),V0 (↑(Xq l):Int)]) w):=by
 refine zin 27 Tryz.func182 ?_
 have hB:=Below.refl w.heap.size w
 refine zl 23 27 (fun zm a6 V=>∃ (i f g:Nat),a6=[(2,V0 0),(3,V0 0),(4,V0 (f:Int)),(5,V0 (g:Int)),(10,.slice a l.length c),(11,V0 (l.length:Int)),(12,V0 (i:Int))]∧zm=l.length-((i:Int)).toNat∧B3 w V∧i≤l.length∧f=freeK l i∧((f=0∧g=l.length∧∀ j,j<i→l.getD j 0≠0)∨(0<f∧g=Xq l))) ⟨0,0,l.length,rfl,rfl,hB,Nat.zero_le _,rfl,?_⟩ ?_
 ·exact .inl ⟨rfl,rfl,fun j hj=>absurd hj (by omega)⟩
 rintro _ _ W1 ⟨i,f,g,rfl,rfl,a0,hi,hf,hg⟩ J1 a3 r1
 have a2:=fun(q:i<l.length)=>freeK_succ q
 have a8:=Rn l i
 refine xid 6 ((i:Int)<(l.length:Int)) (fun a5=>?_) (fun a5=>?_)
 ·refine xx 7 _ l.length i 1 (Ints.elem h (k:=i) (by omega)).1 ?_
  refine xl 0 ((Ints.elem (h.below a0) (k:=i) (by omega)).2) ?_
  refine xin 11 (l.getD i 0) (0:Int) (fun a4=>?_) (fun a4=>?_)
  ·refine xwm 5 ((i:Int)+1) (↑(i+1):Int) ?_
   exact ze 2 (a3 _ _ _ ⟨i+1,f,g,rfl,rfl,a0,by omega,by rw[a2 (by omega),if_neg (by assumption)];exact hf,hg.elim (fun⟨h1,h2,h3⟩=>.inl ⟨h1,h2,fun j hj=>(Nat.lt_or_ge j i).elim (fun q=>h3 j q) (fun q=>by obtain rfl:j=i:=(by omega);assumption)⟩) .inr⟩ (by omega))
  refine xie 9 (f:Int) (0:Int) (fun a7=>?_) (fun a7=>?_)
  ·refine xwm 7 ((f:Int)+1) (↑(f+1):Int) ?_
   refine xwm 5 ((i:Int)+1) (↑(i+1):Int) ?_
   exact ze 2 (a3 _ _ _ ⟨i+1,f+1,i,rfl,rfl,a0,by omega,by rw[a2 (by omega),if_pos (by assumption),hf],.inr ⟨by omega,hg.elim (fun⟨_,_,h3⟩=>(firstN_at (by omega) (by assumption) h3).symm) (fun q=>absurd q.1 (by omega))⟩⟩ (by omega))
  refine xwm 4 ((f:Int)+1) (↑(f+1):Int) ?_
  refine xwm 5 ((i:Int)+1) (↑(i+1):Int) ?_
  exact ze 2 (a3 _ _ _ ⟨i+1,f+1,g,rfl,rfl,a0,by omega,by rw[a2 (by omega),if_pos (by assumption),hf],.inr ⟨by omega,hg.elim (fun⟨h1,_,_⟩=>absurd h1 (by omega)) (fun q=>q.2)⟩⟩ (by omega))
 refine xe 14 (.tuple #[V0 (f:Int),V0 (g:Int)]) ?_
 obtain rfl:i=l.length:=by omega
 have a1:f=Yy l:=hf
 rcases hg with ⟨h1,h2,h3⟩|⟨h1,h2⟩
 ·exact⟨by rw[a1,h2,Zgl h3],a0⟩
 ·exact⟨by rw[a1,h2],a0⟩
theorem bits_Put(a:O0)(c:Nat)(l:List Int)(w:World)(hS:Jy l)(hl:l.length≤960)(h:Sl w (.slice a l.length c) l.length (l.map V0)) :
 C0 219 #[.slice a l.length c] w (Qe (fun w' r=>∃ g,r=.tuple #[.slice (S1 g) 244 244,V0 0]∧w'.ownsRow w.heap.size 5 1 (.slice (S1 g) 244 244) 244 ((Vw l).map bv)) w):=by
 refine zin 51 Tryz.func219 ?_
 refine xgk 13 [11,12] (show(decide ((l.length:Int)>(960:Int)):Bool)=false from decide_eq_false (by omega)) ?_
 refine xr 1 (args:=#[.slice a l.length c,.func (.func 258) #[] #[]]) (Zbx a c l _ hS hl (h.below (B4 w))) fun W2 a6=>?_
 refine xbs 11 1 [V0 4,V0 (l.length:Int)] 292 fun b3 W3 n3=>?_
 refine xc 0 (args:=#[.slice (S1 b3) 1 1]) (Ep b3 (l.length:Int) (by omega) (by omega) _ n3.blk) ?_
 rintro _ W4 ⟨_,rfl,b1,p2,c2,rfl,h2⟩
 have b7:=(bln a6 n3.below).size
 refine xmk 9 fun _ _ _ _ zJ zQ zo zx zy zK=>Kf 244 (.int .u8 0) 1 1 ((List.replicate 244 (0:UInt8)).map bv) zo zx zy Tryz.underlying22 (by kernel_rfl) rfl (by omega) (by omega) (Zd9 244) fun b5 W5 n5=>?_
 have a5:=Zd h2 b7
 have b2:=Zn a5 n5
 refine zK _ _ ?_
 have o5:=Xb (size:=1) (n:=244) n5.blk (n5.ge (bln (bln a6 n3.below) b1)) (by rw[List.length_map,List.length_replicate]) (by unfold maxLen;omega)
 have a7:=Zb a5 n5.below
 have hB:=bln (bln (bln a6 n3.below) b1) n5.below
 refine xbi 7 (t2:=22) fun _ _ _ _ zJ zQ zo zx zy zK=>Pw (dLen:=244) (dCap:=244) (off:=0) 4 ((leB (l.length:Int) 4).map bv) ((Ph l 0).map bv) zo Tryz.underlying22 (by kernel_rfl) zx zy (Ze a7) o5 (by simp[Zi]) (by omega) (by omega) (Qk _) hB.size (bits0 l) fun W6 o6 c0 b9=>?_
 refine zK _ _ ?_
 have a8:=hB.trans b9
 have a9:=((n3.blk.below b1).below n5.below).grown c0 o5 (by decide)
 refine zl 11 51 (fun zm b4 V=>∃ (i:Nat),b4=[(2,S0),(3,V0 0),(6,.slice (S1 b5) 244 244),(28,.slice a l.length c),(29,V0 (l.length:Int)),(30,V0 (i:Int))]∧zm=l.length-((i:Int)).toNat∧B3 w V∧Blk V b3 ([V0 4,V0 (l.length:Int)]) 292∧V.ownsRow w.heap.size 5 1 (.slice (S1 b5) 244 244) 244 ((Ph l i).map bv)∧i≤l.length) ⟨0,rfl,rfl,a8,a9,o6,Nat.zero_le _⟩ ?_
 rintro _ _ W7 ⟨i,rfl,rfl,a3,a4,ho,hi⟩ J7 b8 r7
 refine xid 6 ((i:Int)<(l.length:Int)) (fun b6=>?_) (fun b6=>?_)
 ·refine xx 7 _ l.length i 1 (Ints.elem h (k:=i) (by omega)).1 ?_
  refine xl 0 ((Ints.elem (h.below a3) (k:=i) (by omega)).2) ?_
  refine xd 4 (.t w.heap.size [5]) ?_
  refine xq (.e [0,1] 2) (congrArg V0 (show(IntKind.i64.wrap (Int.tdiv (i:Int) 4):Int)=(↑(i/4):Int) from Wv i 4 (by omega) (by decide))) ?_
  refine xwm (.e [] 3) (4+(↑(i/4):Int)) (↑(4+(i/4)):Int) ?_
  refine xx (.e [] 4) _ 244 (4+(i/4)) 1 (show(some (⟨b5,0,none⟩:Addr)).isSome=true from rfl) ?_
  refine xq (.e [6,7] 8) (congrArg V0 (show(Int.tmod (i:Int) 4:Int)=(↑(i%4):Int) from Ug i 4)) ?_
  refine xwm (.e [] 9) ((↑(i%4):Int)*2) (↑((i%4)*2):Int) ?_
  refine xbot (.e [] 10) (t:=3) (t2:=3) (fun _ _ _ _ zo zx zy V hV=>run_shlS (n:=(l.getD i 0)) (s:=((i%4)*2)) (kj:=.i64) (j:=(↑((i%4)*2):Int)) zo zx zy rfl (Kz hS i) (by omega) V) ?_
  refine xq (.e [] 11) (congrArg (Value.int .u8) (show(IntKind.u8.wrap (l.getD i 0*2 ^ ((i%4)*2)):Int)=l.getD i 0*2 ^ ((i%4)*2) from u8_shl (Kz hS i) (by omega))) ?_
  have a1:=Zb ho (Za W7)
  refine xl (.o [] 5) ((BysN.elem (Ze a1) (Qi l i) (k:=(4+(i/4))) (by omega)).2) ?_
  refine xq (.e [] 12) (congrArg (Value.int .u8) (show(IntKind.u8.wrap (↑(BitVec.ofInt 8 (↑((Ph l i).getD (4+(i/4)) 0).toNat:Int) ||| BitVec.ofInt 8 (l.getD i 0*2 ^ ((i%4)*2))).toNat:Int):Int)=(↑(g4B l (i+1) (i/4)).toNat:Int) from bits_or hS (by omega))) ?_
  refine xx (.e [] 13) _ 244 (4+(i/4)) 1 (show(some (⟨b5,0,none⟩:Addr)).isSome=true from rfl) ?_
  refine yst (.o [] 14) (.t w.heap.size [5]) fun _ _ _ _ zJ zQ zo zx zy zK=>Hp (t:=5) (k:=(4+(i/4))) (v:=.int .u8 (↑(g4B l (i+1) (i/4)).toNat:Int)) zo zx zy (by kernel_rfl) rfl a1 (by omega) fun W9 u9 o9=>?_
  rw[bits_set (l:=l) (i:=i) (by omega)] at o9
  have a0:=a4.below (Za W7)
  refine zK _ _ (Gn (T:=[5]) (u9.below (Below.refl _ _) (Cb a1)) (Zf.of_updRow u9 a1 (by decide))) ?_
  refine xwm 4 ((i:Int)+1) (↑(i+1):Int) ?_
  have b0:=u9.below (bln a3 (Za W7)) (Cb a1)
  have a2:=u9.blk a0 (Ef a0 a1 (by decide))
  exact ze 2 (b8 _ _ _ ⟨i+1,rfl,rfl,b0,a2,o9,by omega⟩ (by omega))
 refine xe 13 (.tuple #[.slice (S1 b5) 244 244,V0 0]) ?_
 obtain rfl:i=l.length:=by omega
 exact⟨_,rfl,a3,_,rfl,ho⟩
theorem Cn(p:Addr)(N c:Nat)(xs:List Value)(w:World)(h:Sl w (.slice (some p) N c) N xs)(hl:xs.length=N)(h1:∀ u∈xs,u.oneCell'=true)(hn:N≤1000000) :
 C0 118 #[.slice (some p) N c] w (Qe (fun w' r=>∃ q c2,r=.slice q N c2∧w'.ownsRow w.heap.size 3 1 (.slice q N c2) N xs) w):=by
 refine zin 8 Tryz.func118 ?_
 refine xb0 17 3 fun b1 W1 n1=>?_
 have o1:=Xb (size:=1) (n:=0) n1.blk (n1.ge (B4 w)) rfl (by decide)
 refine xbi 1 fun _ _ _ _ zJ zQ zo zx zy zK=>Zr (m:=N) (news:=xs) (V0 0) 1 8 (N) (xs) zo Tryz.underlying34 (by kernel_rfl) rfl (by decide) zx o1 zy (h.below n1.below) (by rw[hl,Nat.mul_one]) h1 (by unfold maxLen;omega) (by omega) n1.below.size (by omega) (by rfl) fun a3 a2 W2 o2 a4 a1=>?_
 refine zK _ _ ?_
 have a0:=n1.below.trans a1
 exact xe 4 (.slice a3 N a2) ⟨_,rfl,a0,_,_,rfl,o2⟩
end Go.Proofs.YtceeiinepijokaaGreatDoor
namespace Go.Proofs.YtceeiinepijokaaGreatDoor
set_option maxHeartbeats 8000000
set_option maxRecDepth 100000
open Go.RowKit Go.Extern.Stop Go.Stop Go.Extern
set_option linter.unusedVariables false
attribute [local irreducible] wpList wpAnyH Code.wp Oper.wp Go
theorem Zgo(cs:List Nat):(cs.map fun c:Nat=>(c:Int)).map V0=cs.map nv:=by simp[nv]
theorem nv_get{cs:List Nat}{k:Nat}(h:k<cs.length):(cs.map nv)[k]? = some (V0 ((cs.getD k 0:Nat):Int)):=by simp[List.getD,h,nv]
theorem nv_bump(cs:List Nat)(k:Nat):(cs.map nv).set k (V0 ((cs.getD k 0+1:Nat):Int))=(Zhh cs (k:Int)).map nv:=by
 unfold Zhh;rw[Int.toNat_natCast,List.map_set];rfl
theorem bump_get{cs:List Nat}{k:Nat}(h:k<cs.length):(Zhh cs (k:Int)).getD k 0=cs.getD k 0+1:=by
 unfold Zhh;rw[Int.toNat_natCast];simp[List.getD,h]
theorem Nl{w:World}{pc:O0}{n m:Nat}{cs:List Nat}(h:Sl w (.slice pc n m) n (cs.map nv)){k:Nat}(hk:k<cs.length):pc.isSome=true∧w.cell? (Xd pc (k*1))=some (V0 ((cs.getD k 0:Nat):Int)):=by
 rcases h with ⟨a,c,h1,h2,h3⟩|⟨b,a0,a1,h1,h2,h3,h4⟩
 ·simp only[Value.slice.injEq] at h1
  have:(cs.map nv).length=0:=by rw[h3];rfl
  rw[List.length_map] at this;omega
 ·simp only[Value.slice.injEq] at h1
  obtain⟨rfl,_,_⟩:=h1
  refine⟨rfl,?_⟩
  have:=h4 k _ (nv_get hk)
  simpa [Xd,Addr.add_mid] using this
theorem zerosV(n:Nat):Hy (Value.int .i64 0).cells.toList n=(List.replicate n (0:Nat)).map nv:=by
 rw[show(Value.int .i64 0).cells.toList=[Value.int .i64 0] from rfl,Hy,List.map_replicate]
 induction n with
 | zero=>rfl
 | succ n ih=>rw[List.replicate_succ,List.flatten_cons,ih,List.replicate_succ];rfl
theorem nv_one(cs:List Nat):∀ u∈cs.map nv,u.oneCell'=true:=fun u hu=>by obtain⟨y,_,rfl⟩:=List.mem_map.1 hu;rfl
theorem refs_NewI(n:Nat)(w:World)(h:n≤65536) :
 C0 65 #[V0 (n:Int)] w (Qe (fun w' r=>∃ br g,r=.tuple #[P0 br,V0 0]∧w.heap.size≤br∧Blk w' br [.slice (S1 g) n n] 232∧w'.ownsRow w.heap.size 3 1 (.slice (S1 g) n n) n ((List.replicate n (0:Nat)).map nv)) w):=by
 refine zin 14 Tryz.func65 ?_
 refine xgk 12 [5,6] (show(decide ((n:Int)<(0:Int)):Bool)=false from decide_eq_false (by omega)) ?_
 refine xk 5 (show(decide ((n:Int)>(65536:Int)):Bool)=false from decide_eq_false (by omega)) ?_
 refine xmk 5 fun _ _ _ _ zJ zQ zo zx zy zK=>Kf n (V0 0) 1 8 ((List.replicate n (0:Nat)).map nv) zo zx zy Tryz.underlying34 (by kernel_rfl) rfl (by omega) (by omega) ((zerosV n)) fun b2 W2 n2=>?_
 refine zK _ _ ?_
 refine xa 1 [.slice (S1 b2) n n] 232 fun b3 W3 n3=>?_
 have o2:=Zb (Xb (size:=1) (n:=n) n2.blk (n2.ge (B4 w)) (by rw[List.length_map,List.length_replicate,Nat.mul_one]) (by unfold maxLen;omega)) n3.below
 have hB:=bln n2.below n3.below
 have g3:=n3.ge n2.below
 exact xe 5 (.tuple #[P0 b3,V0 0]) ⟨_,rfl,hB,_,_,rfl,g3,n3.blk,o2⟩
theorem refs_own(br n:Nat)(p:O0)(w:World)(kr:Blk w br [.slice p n n] 232) :
 C0 119 #[P0 br] w (Ret (.slice p n n) w):=by
 refine zin 9 Tryz.func119 ?_
 refine xb 20 0 kr ?_
 exact xe 4 (.slice p n n) ⟨rfl,(B4 w)⟩
theorem refs_List(br g n B0:Nat)(cs:List Nat)(w:World)(kr:Blk w br [.slice (S1 g) n n] 232)(hc:w.ownsRow B0 3 1 (.slice (S1 g) n n) n (cs.map nv))(hn:cs.length=n)(hn2:n≤100000) :
 C0 68 #[P0 br] w (Qe (fun w' r=>∃ q c2,r=.slice q n c2∧w'.ownsRow w.heap.size 3 1 (.slice q n c2) n (cs.map nv)) w):=by
 refine zin 6 Tryz.func68 ?_
 refine xr 8 (args:=#[P0 br]) (refs_own br n _ _ kr) fun W1 a0=>?_
 have a1:=Zb hc a0
 refine xc 0 (args:=#[.slice (S1 g) n n]) (Cn ⟨g,0,none⟩ n n (cs.map nv) _ (Ze a1) (by rw[List.length_map];exact hn) (nv_one _) (by omega)) ?_
 rintro _ W2 ⟨_,rfl,a3,q,c2,rfl,hq⟩
 have a2:=Zd hq a0.size
 have hB:=bln a0 a3
 exact xe 4 (.slice q n c2) ⟨_,rfl,hB,_,_,rfl,a2⟩
theorem refs_AddX(B br g n k:Nat)(cs:List Nat)(w:World)(kr:Blk w br [.slice (S1 g) n n] 232)(hBw:B≤w.heap.size)(hc:w.ownsRow B 3 1 (.slice (S1 g) n n) n (cs.map nv))(hn:cs.length=n)(hk:k<n)(hb:cs.getD k 0≤4000000000000000000) :
 C0 66 #[P0 br,V0 (k:Int)] w ((fun e w'=>e=.returned (.tuple #[V0 ((cs.getD k 0+1:Nat):Int),V0 0])∧Below B w w'∧Zf [3] w w'∧Fr [g] w w'∧w'.ownsRow B 3 1 (.slice (S1 g) n n) n ((Zhh cs (k:Int)).map nv))):=by
 have a3:=Zax cs (k:Int)
 refine zin 37 Tryz.func66 ?_
 refine xg 21 [11,12] (decide ((k:Int)<(0:Int))) (fun a0=>?_) (fun a0=>?_)
 ·have a0:=of_decide_eq_true a0
  exact xe 21 (.tuple #[V0 0,V0 3]) (by exfalso;omega)
 have a0:=of_decide_eq_false a0
 refine xb 4 0 kr ?_
 refine xid 6 ((k:Int)≥(n:Int)) (fun a2=>?_) (fun a2=>?_)
 ·exact xe 9 (.tuple #[V0 0,V0 3]) (by exfalso;omega)
 refine xb 8 0 kr ?_
 refine xx 1 _ n k 1 (Nl (Ze hc) (k:=k) (by omega)).1 ?_
 refine xl 0 ((Nl (Ze hc) (k:=k) (by omega)).2) ?_
 refine xwm 0 ((↑(cs.getD k 0):Int)+1) (↑((cs.getD k 0)+1):Int) ?_
 refine xx 0 _ n k 1 (Nl (Ze hc) (k:=k) (by omega)).1 ?_
 refine xst 0 fun _ _ _ _ zJ zQ zo zx zy zK=>Hp (t:=3) (k:=k) (v:=V0 (↑((cs.getD k 0)+1):Int)) zo zx zy (by kernel_rfl) rfl hc (by omega) fun W3 u3 o3=>?_
 rw[nv_bump cs k] at o3
 refine zK _ _ ?_
 have a1:=u3.blk kr (Ef kr hc (by decide))
 refine xb 7 0 a1 ?_
 refine xx 1 _ n k 1 (Nl (Ze o3) (k:=k) (by omega)).1 ?_
 refine xl 0 ((Nl (Ze o3) (k:=k) (by omega)).2) ?_
 have hB:=u3.below (Below.refl B w) (Cb hc)
 have hO:=(show Zf [3] w _ from(Zf.of_updRow u3 hc (by decide)))
 have hX:=(show Fr [g] w _ from(Fr.of_upd u3 (by simp)))
 exact xe 5 (.tuple #[V0 (↑((Zhh cs (k:Int)).getD k 0):Int),V0 0]) ⟨by rw[bump_get (by omega)],hB,hO,hX,o3⟩
theorem Zgt(w:World) :
 C0 236 #[] w (Qe (fun w' r=>∃ b,r=.slice (S1 b) 1 1∧w.heap.size≤b∧Blk w' b [V0 4,V0 3,V0 2147483647] 312) w):=by
 refine zin 3 Tryz.func236 ?_
 refine xbs 8 1 [V0 4,V0 3,V0 2147483647] 312 fun b1 W1 n1=>?_
 have g1:=n1.ge (B4 w)
 exact xe 4 (.slice (S1 b1) 1 1) ⟨_,rfl,n1.below,_,rfl,g1,n1.blk⟩
theorem Sn(gl gn:Nat)(n:Int)(h1:3≤n)(h2:n≤2147483647)(w:World)(hl:Blk w gl [V0 4,V0 3,V0 2147483647] 312)(hn:Blk w gn [V0 n] 3) :
 C0 181 #[.slice (S1 gl) 1 1,.slice (S1 gn) 1 1] w (Ret (.string ⟨(leB n 4).toArray⟩) w):=by
 refine zin 51 Tryz.func181 ?_
 refine xu 19 2 ?_
 refine xlv 15 hl.rp ?_
 refine xa 0 [V0 0,V0 0,V0 0] 312 fun b1 W1 n1=>?_
 have a7:=n1.ne hl
 refine xsv 1 n1.blk [V0 4,V0 3,V0 2147483647] fun W2 u2 k2=>?_
 have g1:=n1.ge (B4 w)
 refine xd 4 .z ?_
 have a2:=(u2.blkT (hn.below n1.below) n1.blk (by decide)).below (Za W2)
 refine xb (.e [0,1,2] 3) 0 a2 ?_
 have a1:=k2.below (Za W2)
 refine xb (.e [4] 5) 1 a1 ?_
 refine xgk (.b [6,7]) [23,24] (show(decide (n<(3:Int)):Bool)=false from decide_eq_false (by omega)) ?_
 refine xb (.e [8,9,10] 11) 0 a2 ?_
 refine xb (.e [12] 13) 2 a1 ?_
 refine xk (.r [14,15] 2) (show(decide (n>(2147483647:Int)):Bool)=false from decide_eq_false (by omega)) ?_
 refine xd 3 .z ?_
 have a3:=a1.below (Za W2.drew)
 refine xb (.e [0] 1) 0 a3 ?_
 have a4:=a2.below (Za W2.drew)
 refine xb (.e [2,3,4] 5) 0 a4 ?_
 refine xbs (.o [6] 7) 1 [V0 4,V0 n] 292 fun b4 W4 n4=>?_
 refine yc (.o [] 8) (args:=#[.slice (S1 b4) 1 1]) .z (Ep b4 n (by omega) (by omega) _ n4.blk) ?_
 rintro _ W5 ⟨_,rfl,a8,b0,b2,rfl,a5⟩
 have b3:=(bln (bln (bln (u2.below n1.below g1) (Za W2)) (Za W2.drew)) n4.below).size
 refine⟨a8,?_⟩
 have o6:=World.ownsRow_nil W5 w.heap.size 5 1
 have a0:=Zd a5 b3
 have hB:=bln (bln (bln (bln (u2.below n1.below g1) (Za W2)) (Za W2.drew)) n4.below) a8
 refine xbi (.r [9,10,11,12,13] 5) fun _ _ _ _ zJ zQ zo zx zy zK=>Zr (m:=4) (news:=(leB n 4).map bv) (.int .u8 0) 1 1 (4) ((leB n 4).map bv) zo Tryz.underlying22 (by kernel_rfl) rfl (by decide) zx o6 zy (Ze a0) (by simp[Zi]) (Qk _) (by unfold maxLen;omega) (by omega) hB.size (by rfl) (by simp) fun b6 b5 W7 o7 b7 a9=>?_
 refine zK _ _ ?_
 refine xcv0 24 (fun _ _ _ zo zx=>Yz zo zx (Yk (Ze o7) (by simp[Zi])) (by simp[Zi]) Tryz.underlying22 Tryz.underlying5 Tryz.underlying9) ?_
 have a6:=hB.trans a9
 exact xe 4 (.string ⟨(leB n 4).toArray⟩) ⟨rfl,a6⟩
theorem Zfs(n:Int)(h1:3≤n)(h2:n≤2147483647)(w:World) :
 C0 216 #[V0 n] w (Ret (.string ⟨(leB n 4).toArray⟩) w):=by
 refine zin 7 Tryz.func216 ?_
 refine xc 7 (args:=#[]) (Zgt _) ?_
 rintro _ W1 ⟨_,rfl,a1,gl,rfl,gg,kl⟩
 refine xbs 1 1 [V0 n] 3 fun b2 W2 n2=>?_
 have a0:=kl.below n2.below
 refine xr 0 (args:=#[.slice (S1 gl) 1 1,.slice (S1 b2) 1 1]) (Sn gl b2 n h1 h2 _ a0 n2.blk) fun W3 a2=>?_
 have hB:=bln (bln a1 n2.below) a2
 exact xe 4 (.string ⟨(leB n 4).toArray⟩) ⟨rfl,hB⟩
theorem Im(w:World) :
 C0 112 #[] w (Qe (fun w' r=>∃ b,r=.slice (S1 b) 3 3∧w.heap.size≤b∧Blk w' b [V0 8,V0 1,V0 14399,V0 4,V0 0,V0 960,V0 4,V0 0,V0 960] 312) w):=by
 refine zin 5 Tryz.func112 ?_
 refine xbs 10 3 [V0 8,V0 1,V0 14399,V0 4,V0 0,V0 960,V0 4,V0 0,V0 960] 312 fun b1 W1 n1=>?_
 have g1:=n1.ge (B4 w)
 exact xe 4 (.slice (S1 b1) 3 3) ⟨_,rfl,n1.below,_,rfl,g1,n1.blk⟩
theorem Mn(gl gn:Nat)(n f g:Int)(h1:1≤n)(h2:n≤14399)(h3:0≤f)(h4:f≤960)(h5:0≤g)(h6:g≤960)(w:World)(hl:Blk w gl [V0 8,V0 1,V0 14399,V0 4,V0 0,V0 960,V0 4,V0 0,V0 960] 312)(hn:Blk w gn [V0 n,V0 f,V0 g] 3) :
 C0 181 #[.slice (S1 gl) 3 3,.slice (S1 gn) 3 3] w (Ret (.string ⟨(leB n 8++leB f 4++leB g 4).toArray⟩) w):=by
 refine zin 51 Tryz.func181 ?_
 refine xu 19 4 ?_
 refine xlv 15 (hl.rpp 0 3) ?_
 refine xa 0 [V0 0,V0 0,V0 0] 312 fun b1 W1 n1=>?_
 have d1:=n1.ne hl
 refine xsv 1 n1.blk [V0 8,V0 1,V0 14399] fun W2 u2 k2=>?_
 have g1:=n1.ge (B4 w)
 refine xd 4 .z ?_
 have b0:=(u2.blkT (hn.below n1.below) n1.blk (by decide)).below (Za W2)
 refine xb (.e [0,1,2] 3) 0 b0 ?_
 have b6:=k2.below (Za W2)
 refine xb (.e [4] 5) 1 b6 ?_
 refine xgk (.b [6,7]) [23,24] (show(decide (n<(1:Int)):Bool)=false from decide_eq_false (by omega)) ?_
 refine xb (.e [8,9,10] 11) 0 b0 ?_
 refine xb (.e [12] 13) 2 b6 ?_
 refine xk (.r [14,15] 2) (show(decide (n>(14399:Int)):Bool)=false from decide_eq_false (by omega)) ?_
 refine xd 3 .z ?_
 have d9:=b6.below (Za W2.drew)
 refine xb (.e [0] 1) 0 d9 ?_
 have d6:=b0.below (Za W2.drew)
 refine xb (.e [2,3,4] 5) 0 d6 ?_
 refine xbs (.o [6] 7) 1 [V0 8,V0 n] 292 fun b4 W4 n4=>?_
 refine yc (.o [] 8) (args:=#[.slice (S1 b4) 1 1]) .z (Pack_8 b4 n (by omega) _ n4.blk) ?_
 rintro _ W5 ⟨_,rfl,c3,g9,i2,rfl,g0⟩
 have g5:=(bln (bln (bln (u2.below n1.below g1) (Za W2)) (Za W2.drew)) n4.below).size
 refine⟨c3,?_⟩
 have o6:=World.ownsRow_nil W5 w.heap.size 5 1
 have b3:=Zd g0 g5
 have hB:=bln (bln (bln (bln (u2.below n1.below g1) (Za W2)) (Za W2.drew)) n4.below) c3
 refine xbi (.r [9,10,11,12,13] 5) fun _ _ _ _ zJ zQ zo zx zy zK=>Zr (m:=8) (news:=(leB n 8).map bv) (.int .u8 0) 1 1 (8) ((leB n 8).map bv) zo Tryz.underlying22 (by kernel_rfl) rfl (by decide) zx o6 zy (Ze b3) (by simp[Zi]) (Qk _) (by unfold maxLen;omega) (by omega) hB.size (by rfl) (by simp) fun j9 j7 W7 o7 e3 i3=>?_
 refine zK _ _ ?_
 have c1:=(((((u2.blk (hl.below n1.below) (Ne.symm (Ne.symm d1))).below (Za W2)).below (Za W2.drew)).below n4.below).below c3).grown e3 o6 (by decide)
 refine xlv 24 (c1.rpp 3 3) ?_
 refine xa 0 [V0 0,V0 0,V0 0] 312 fun b8 W8 n8=>?_
 have d7:=n8.ne c1
 have c7:=((d9.below n4.below).below c3).grown e3 o6 (by decide)
 have d5:=n8.ne c7
 have c5:=hB.trans i3
 have g8:=n8.ge c5
 refine xsv 1 n8.blk [V0 4,V0 0,V0 960] fun W9 u9 k9=>?_
 refine xd 4 .z ?_
 have b5:=(u9.blkT ((((d6.below n4.below).below c3).grown e3 o6 (by decide)).below n8.below) n8.blk (by decide)).below (Za W9)
 refine xb (.e [0,1,2] 3) 1 b5 ?_
 have a7:=k9.below (Za W9)
 refine xb (.e [4] 5) 1 a7 ?_
 refine xgk (.b [6,7]) [23,24] (show(decide (f<(0:Int)):Bool)=false from decide_eq_false (by omega)) ?_
 refine xb (.e [8,9,10] 11) 1 b5 ?_
 refine xb (.e [12] 13) 2 a7 ?_
 refine xk (.r [14,15] 2) (show(decide (f>(960:Int)):Bool)=false from decide_eq_false (by omega)) ?_
 refine xd 3 .z ?_
 have c9:=a7.below (Za W9.drew)
 refine xb (.e [0] 1) 0 c9 ?_
 have e1:=b5.below (Za W9.drew)
 refine xb (.e [2,3,4] 5) 1 e1 ?_
 refine xbs (.o [6] 7) 1 [V0 4,V0 f] 292 fun g3 j0 a4=>?_
 have d2:=((u9.blkT (((n4.blk.below c3).grown e3 o6 (by decide)).below n8.below) n8.blk (by decide)).below (Za W9)).below (Za W9.drew)
 have f3:=a4.ne d2
 have b2:=bln (bln (u9.below (bln c5 n8.below) g8) (Za W9)) (Za W9.drew)
 have j3:=a4.ge b2
 refine yc (.o [] 8) (args:=#[.slice (S1 g3) 1 1]) .z (Ep g3 f (by omega) (by omega) _ a4.blk) ?_
 rintro _ j6 ⟨_,rfl,a0,i6,h8,rfl,e4⟩
 have f0:=(bln b2 a4.below).size
 refine⟨a0,?_⟩
 have a1:=Zb (Zb (Zb (Zb (u9.own2 (Zb o7 n8.below) n8.blk (by decide)) (Za W9)) (Za W9.drew)) a4.below) a0
 have c2:=Zd e4 f0
 have c6:=bln (bln b2 a4.below) a0
 refine xbi (.r [9,10,11,12,13] 5) fun _ _ _ _ zJ zQ zo zx zy zK=>Zr (m:=4) (news:=(leB f 4).map bv) (.int .u8 0) 1 1 (12) ((leB n 8++leB f 4).map bv) zo Tryz.underlying22 (by kernel_rfl) rfl (by decide) zx a1 zy (Ze c2) (by simp[Zi]) (Qk _) (by unfold maxLen;omega) (by omega) c6.size (by rfl) (by simp) fun g7 h0 j1 i0 a3 e6=>?_
 refine zK _ _ ?_
 have d4:=(((((u9.blk (c1.below n8.below) (Ne.symm (Ne.symm d7))).below (Za W9)).below (Za W9.drew)).below a4.below).below a0).grown a3 a1 (by decide)
 refine xlv 24 (d4.rpp 6 3) ?_
 refine xa 0 [V0 0,V0 0,V0 0] 312 fun j5 i9 a2=>?_
 have f7:=a2.ne d4
 have e9:=(((((u9.blk (c7.below n8.below) (Ne.symm (Ne.symm d5))).below (Za W9)).below (Za W9.drew)).below a4.below).below a0).grown a3 a1 (by decide)
 have f4:=a2.ne e9
 have f6:=((c9.below a4.below).below a0).grown a3 a1 (by decide)
 have e7:=a2.ne f6
 have d0:=c6.trans e6
 have h9:=a2.ge d0
 refine xsv 1 a2.blk [V0 4,V0 0,V0 960] fun a5 d3 i1=>?_
 refine xd 4 .z ?_
 have a8:=(d3.blkT ((((e1.below a4.below).below a0).grown a3 a1 (by decide)).below a2.below) a2.blk (by decide)).below (Za a5)
 refine xb (.e [0,1,2] 3) 2 a8 ?_
 have a6:=i1.below (Za a5)
 refine xb (.e [4] 5) 1 a6 ?_
 refine xgk (.b [6,7]) [23,24] (show(decide (g<(0:Int)):Bool)=false from decide_eq_false (by omega)) ?_
 refine xb (.e [8,9,10] 11) 2 a8 ?_
 refine xb (.e [12] 13) 2 a6 ?_
 refine xk (.r [14,15] 2) (show(decide (g>(960:Int)):Bool)=false from decide_eq_false (by omega)) ?_
 refine xd 3 .z ?_
 have c8:=a6.below (Za a5.drew)
 refine xb (.e [0] 1) 0 c8 ?_
 have f5:=a8.below (Za a5.drew)
 refine xb (.e [2,3,4] 5) 2 f5 ?_
 refine xbs (.o [6] 7) 1 [V0 4,V0 g] 292 fun g2 j4 b7=>?_
 have f1:=((d3.blkT ((((d2.below a4.below).below a0).grown a3 a1 (by decide)).below a2.below) a2.blk (by decide)).below (Za a5)).below (Za a5.drew)
 have f9:=b7.ne f1
 have d8:=((d3.blkT (((a4.blk.below a0).grown a3 a1 (by decide)).below a2.below) a2.blk (by decide)).below (Za a5)).below (Za a5.drew)
 have e2:=b7.ne d8
 have c0:=bln (bln (d3.below (bln d0 a2.below) h9) (Za a5)) (Za a5.drew)
 have j2:=b7.ge c0
 refine yc (.o [] 8) (args:=#[.slice (S1 g2) 1 1]) .z (Ep g2 g (by omega) (by omega) _ b7.blk) ?_
 rintro _ j8 ⟨_,rfl,a9,i4,i5,rfl,f2⟩
 have e5:=(bln c0 b7.below).size
 refine⟨a9,?_⟩
 have c4:=Zb (Zb (Zb (Zb (d3.own2 (Zb i0 a2.below) a2.blk (by decide)) (Za a5)) (Za a5.drew)) b7.below) a9
 have b9:=Zd f2 e5
 have e0:=bln (bln c0 b7.below) a9
 refine xbi (.r [9,10,11,12,13] 5) fun _ _ _ _ zJ zQ zo zx zy zK=>Zr (m:=4) (news:=(leB g 4).map bv) (.int .u8 0) 1 1 (16) ((leB n 8++leB f 4++leB g 4).map bv) zo Tryz.underlying22 (by kernel_rfl) rfl (by decide) zx c4 zy (Ze b9) (by simp[Zi]) (Qk _) (by unfold maxLen;omega) (by omega) e0.size (by rfl) (by simp) fun g6 i7 k0 i8 h7 f8=>?_
 refine zK _ _ ?_
 refine xcv0 24 (fun _ _ _ zo zx=>Yz zo zx (Yk (Ze i8) (by simp[Zi])) (by simp[Zi]) Tryz.underlying22 Tryz.underlying5 Tryz.underlying9) ?_
 have e8:=e0.trans f8
 exact xe 4 (.string ⟨(leB n 8++leB f 4++leB g 4).toArray⟩) ⟨rfl,e8⟩
theorem Hh(n f g:Int)(h1:1≤n)(h2:n≤14399)(h3:0≤f)(h4:f≤960)(h5:0≤g)(h6:g≤960)(w:World) :
 C0 160 #[.agg #[V0 n,V0 f,V0 g]] w (Ret (.string ⟨(leB n 8++leB f 4++leB g 4).toArray⟩) w):=by
 refine zin 12 Tryz.func160 ?_
 refine xa 2 [V0 n,V0 f,V0 g] 134 fun b1 W1 n1=>?_
 refine xd 4 .z ?_
 have k1:=n1.blk.below (Za W1)
 refine xb (.e [1] 2) 0 k1 ?_
 refine xb (.e [3] 4) 1 k1 ?_
 refine xb (.e [5] 6) 2 k1 ?_
 refine xm2 0 0 7 ?_ ?_
 ·refine yc 0 (args:=#[]) .z (Im _) ?_
  rintro _ W2 ⟨_,rfl,a2,gl,rfl,gg,kl⟩
  refine⟨a2,?_⟩
  refine xbs (.o [] 7) 3 [V0 n,V0 f,V0 g] 3 fun b3 W3 n3=>?_
  have a1:=kl.below n3.below
  refine xr (.o [] 8) (args:=#[.slice (S1 gl) 3 3,.slice (S1 b3) 3 3]) (Mn gl b3 n f g h1 h2 h3 h4 h5 h6 _ a1 n3.blk) fun W4 a4=>?_
  have hB:=bln (bln (bln (bln n1.below (Za W1)) a2) n3.below) a4
  exact xe (.r [9] 3) (.string ⟨(leB n 8++leB f 4++leB g 4).toArray⟩) ⟨rfl,hB⟩
 refine xbs 0 3 [V0 n,V0 f,V0 g] 3 fun b5 W5 n5=>?_
 refine yc (.o [] 0) (args:=#[]) .z (Im _) ?_
 rintro _ W6 ⟨_,rfl,a0,gl,rfl,gg,kl⟩
 refine⟨a0,?_⟩
 have k5:=n5.blk.below a0
 refine xr (.o [] 8) (args:=#[.slice (S1 gl) 3 3,.slice (S1 b5) 3 3]) (Mn gl b5 n f g h1 h2 h3 h4 h5 h6 _ kl k5) fun W7 a3=>?_
 have hB:=bln (bln (bln (bln n1.below (Za W1)) n5.below) a0) a3
 exact xe (.r [9] 3) (.string ⟨(leB n 8++leB f 4++leB g 4).toArray⟩) ⟨rfl,hB⟩
end Go.Proofs.YtceeiinepijokaaGreatDoor
namespace Go.Proofs.YtceeiinepijokaaGreatDoor
set_option maxHeartbeats 8000000
set_option maxRecDepth 100000
open Go.RowKit
set_option linter.unusedVariables false
theorem rows_in{n:Nat}{P:Program}{row:String}{args:Array Value}{w:World}{R:Value→World→Prop}(h:Rows P row args w R):RowsIn Fence.wide n P row args w R :=
 fun c cs _=>let ⟨v,w',r,q⟩:=h c cs;⟨v,w',r,stepsIn_wide.2 q⟩
theorem oper_in{P:Program}{l n:Nat}{o:Oper}{a:Act}{w:World}{K:Act→World→Prop}{Q:Exit→Act→World→Prop}(hd:∀ c,o.op≠.defer c)(h:o.wp P a w K Q):o.wpIn (Fence.wide.inRound l) n P a w K Q:=by
 unfold Oper.wpIn
 refine⟨fun f _=>trivial,?_⟩
 rw[Oper.semAt_plain _ _ _ hd]
 unfold Oper.wp at h
 generalize (execOp a.eval o).run P w=r at *
 cases r with
 | ok nx w' =>
  cases nx with
  | value v=>exact h
  | skip=>exact h
  | defer d=>exact h
  | enter f args=>exact⟨(fun q=>by cases q),callsIn_wide.2 h⟩
  | row r args=>exact⟨(fun q=>by cases q),rows_in h⟩
  | _=>exact h.elim
 | halt hh w' =>
  cases hh with
  | panic v=>exact h
  | _=>exact h.elim
theorem op_in{P:Program}{l n i:Nat}{ops:Array Oper}{a:Act}{w:World}{K K':Act→World→Prop}{Q:Exit→Act→World→Prop}(hQ:¬ LetsOut Q)(hd:∀ o∈ops.toList,∀ c,o.op≠.defer c)(hK:∀ a w,K a w→K' a w)(h:wpOp P ops Q i K a w):wpOpIn (Fence.wide.inRound l) n P ops Q i K' a w:=by
 unfold wpOp at h
 unfold wpOpIn
 cases ho:ops[i]? with
 | none=>rw[ho] at h;exact hK _ _ h
 | some o =>
  rw[ho] at h
  dsimp only at h ⊢
  split at h
  ·rename_i hw
   rw[if_pos hw]
   have a0:o∈ops.toList:=by
    obtain⟨hi,e⟩:=Array.getElem?_eq_some_iff.1 ho
    rw[←e];exact Array.mem_toList_iff.2 (Array.getElem_mem hi)
   exact Oper.wpIn_mono hK (oper_in (hd o a0) (h.resolve_right fun q=>hQ q.2))
  ·rename_i hw
   rw[if_neg hw]
   exact⟨fun f _=>trivial,hK _ _ h⟩
theorem any_in{P:Program}{l n:Nat}{md:Region.Mode}{ops:Array Oper}{Q:Exit→Act→World→Prop}(hQ:¬ LetsOut Q)(hd:∀ o∈ops.toList,∀ c,o.op≠.defer c):∀ (fuel:Nat) (L:Array Bool) (a:Act) (w:World),wpAny P md ops Q fuel L a w→wpAnyIn (Fence.wide.inRound l) n P md ops Q fuel L a w
 | 0,_,_,_,h=>h
 | fuel+1,L,a,w,h=>⟨h.1,fun i hi=>op_in hQ hd (fun a w=>any_in hQ hd fuel _ a w) (h.2 i hi)⟩
theorem h_regIn{P:Program}{l0 n0 id:Nat}{l:List Oper}{Q:Exit→Act→World→Prop}{a:Act}{w:World}(S:World→Prop)(n:Nat)(hn:l.toArray.size=n)(L:Array Bool)(hL:Array.replicate n false=L)(hm:P.follows .mixedOrders=true)(hQ:¬ LetsOut Q)(hd:∀ o∈l,∀ c,o.op≠.defer c)(hS:S w.drew)(h:S w.drew→wpAnyH P .any l.toArray Q S n L a w.drew):(Code.region id l.toArray true).wpIn (Fence.wide.inRound l0) n0 P Q a w :=
 wpIn_region_any hm (any_in hQ (by simpa using hd) _ _ _ _ (wpAny_of_held _ _ _ _ (by rw[hn,hL];exact h hS)))
end Go.Proofs.YtceeiinepijokaaGreatDoor
namespace Go.Proofs.YtceeiinepijokaaGreatDoor
set_option maxHeartbeats 8000000
set_option maxRecDepth 100000
open Go.RowKit
set_option linter.unusedVariables false
attribute [local go_sem] Oper.semAt_some
def encK(b off n:Nat)(j:Fin (bmN n)):Array Value:=#[.slice (some ⟨b,off+j.val*960,none⟩) (min 960 (n-j.val*960)) (min 960 (n-j.val*960))]
theorem chunk1_in(l B1 B2:Nat)(p:Nat→Prop)(b off n cap:Nat)(hlen:n≤1000000)(hcap:n≤cap)(hB1:p B1)(hB2:p B2)(J Jx:List (Fin (bmN n))→World→Prop)
  (hY:∀ pre x W,J pre W→pre.length<bmN n→YieldAt Fence.wide 2 Tryz.prog l (encK b off n x) W fun e W' =>
   (e=.returned (.bool true)∧J (pre++[x]) W'∧Keeps p W W')∨(e=.returned (.bool false)∧Jx (pre++[x]) W'))
  (W:World) (hck:W.cell? ⟨B1,0,none⟩=some (.slice (some ⟨b,off,none⟩) n cap)) (hcn:W.cell? ⟨B2,0,none⟩=some (V0 960)) (hJa:AbidesFrom W.heap.size J) (h0:J [] W) :
  CallsIn Fence.wide 3 Tryz.prog 257 #[.func (.yield l) #[] #[],P0 B1,P0 B2] W fun e W'=>(∃ v,e=.returned v) ∧
   ((∃ ys,ys=List.finRange (bmN n)∧J ys W')∨(∃ pre,(∃ k,k≤bmN n∧pre=(List.finRange (bmN n)).take k)∧Jx pre W')):=by
 refine callsIn_of_wp Tryz.func257 rfl trivial ?_ rfl
 simp only[Tryz.ntmps257,List.size_toArray,List.length_cons,List.length_nil,Nat.reduceAdd,Nat.reduceSub,Array.replicate_succ,Array.replicate_zero,List.push_toArray,List.append_toArray,List.nil_append,List.cons_append]
 gi_wp2
 gi_loopw [4] (fun i wr=>∃ k:Nat,k≤bmN n∧i=V0 ((k*960:Nat):Int)∧J ((List.finRange (bmN n)).take k) wr∧Keeps p W wr)
  (fun i _=>(n-(intOf i)).toNat)
 case atStart=>exact⟨0,Nat.zero_le _,by simp,h0,Keeps.refl _ _⟩
 case round =>
  obtain⟨k,hk,rfl,a0,a2⟩:=hrel
  have a6:=(a2.cell (a:=⟨B1,0,none⟩) hB1).trans hck
  have a4:=(a2.cell (a:=⟨B2,0,none⟩) hB2).trans hcn
  by_cases hlt:k<bmN n
  ·have b5:=bmN_lt hlt
   gi_wp2
   gi_big_quiet_th (fail)
   obtain⟨fn,b0,a1,a8,hy,hR⟩:=hY _ ⟨k,hlt⟩ (wr.drewN nq) (hJa _ wr _ none a0 ⟨rfl,rfl,rfl,Nat.le_refl _,fun _ _ _=>rfl⟩ (fun _ e=>by cases e)) (by rw[Sj hk];exact hlt)
   have hE:encK b off n ⟨k,hlt⟩=#[.slice (some ⟨b,off+k*960,none⟩) (min 960 (n-k*960)) (min 960 (n-k*960))]:=rfl
   rw[hE] at hy
   have HE:=Lib.hid hE;clear hE
   first|rw[show(if((n-k*960:Nat):Int)<960 then((n-k*960:Nat):Int) else 960)=((min 960 (n-k*960):Nat):Int) from by split<;>omega]|rw[show(min 960 ((n-k*960:Nat):Int):Int)=((min 960 (n-k*960):Nat):Int) from by omega]
   obtain⟨m,hm⟩:∃ m,min 960 (n-k*960)=m:=⟨_,rfl⟩
   rw[hm] at hy ⊢
   have b1:k*960+m≤n:=by omega
   have b3:k*960+m≤cap:=by omega
   have b2:k*960+m-k*960=m:=by omega
   gi_wp2
   refine hR.mono ?_
   rintro e W3 (⟨rfl,a7,a5⟩|⟨rfl,a3⟩)
   ·have a9:W3.cell? ⟨B2,0,none⟩=some (V0 960):=(a5.cell (a:=⟨B2,0,none⟩) hB2).trans a4
    gi_wp2
    go_roundw
    case rel =>
     refine⟨k+1,by omega,?_,by rw[Bw hlt];exact a7,(a2.trans (show Keeps p wr (wr.drewN nq) from⟨Nat.le_refl _,fun _ _=>rfl⟩)).trans a5⟩
     exact congrArg V0 (by omega)
    case measure=>simp only[intOf];omega
   ·gi_wp2
    refine bodyPost_ret (results_none rfl _ _ _) rfl ?_
    exact⟨⟨_,rfl⟩,.inr ⟨_,⟨k+1,by omega,by rw[Bw hlt]⟩,a3⟩⟩
  ·obtain rfl:k=bmN n:=by omega
   have b6:=bmN_done (n:=n) rfl
   have b4:¬ (((bmN n*960:Nat):Int)<(n:Int)):=by omega
   rw[Zd6] at a0
   have HJ:=Lib.hid a0;clear a0
   gi_wp2
   go_end0
   exact⟨⟨_,rfl⟩,.inl HJ.out⟩
theorem Za6{α:Type}(l B1 B2:Nat)(J:List α→World→Prop)(W:World){a0:O0}{c0:Nat}(hck:W.cell? ⟨B1,0,none⟩=some (.slice a0 0 c0))(h0:J [] W) :
 CallsIn Fence.wide 3 Tryz.prog 257 #[.func (.yield l) #[] #[],P0 B1,P0 B2] W fun e W'=>(∃ v,e=.returned v)∧J [] W':=by
 refine callsIn_of_wp Tryz.func257 rfl trivial ?_ rfl
 simp only[Tryz.ntmps257,List.size_toArray,List.length_cons,List.length_nil,Nat.reduceAdd,Nat.reduceSub,Array.replicate_succ,Array.replicate_zero,List.push_toArray,List.append_toArray,List.nil_append,List.cons_append]
 gi_wp2
 gi_loopw [4] (fun i wr=>i=V0 0∧J [] wr∧wr.cell? ⟨B1,0,none⟩=some (.slice a0 0 c0)) (fun _ _=>0)
 case atStart=>exact⟨rfl,h0,hck⟩
 case round =>
  obtain⟨rfl,a1,a2⟩:=hrel
  have HJ:=Lib.hid a1;clear a1
  gi_wp2
  go_end0
  exact⟨⟨_,rfl⟩,HJ.out⟩
theorem Ze9(B1 B2:Nat)(p:Nat→Prop)(b off n cap:Nat)(v:Value)(w:World)(hp:∀ b,p b→b<w.heap.size)(h1:p B1)(h2:p B2)(hlen:n≤1000000)(hv:(n=0∧∃ a c,v=.slice a 0 c)∨v=.slice (some ⟨b,off,none⟩) n cap∧n≤cap)(hck:w.cell? ⟨B1,0,none⟩=some v)(hcn:w.cell? ⟨B2,0,none⟩=some (V0 960)) :
  SeqStopsK Fence.wide 3 Tryz.prog 257 #[P0 B1,P0 B2] (encK b off n) (Keeps p)
   (fun ys=>ys=List.finRange (bmN n)) (fun pre=>∃ k,k≤bmN n∧pre=(List.finRange (bmN n)).take k) (bmN n) w:=fun l J Jx W hW a3 _ hY h0=>by
 have a0:=getC hW hck
 have a2:=getC hW hcn
 rcases hv with ⟨rfl,a,c,rfl⟩|⟨rfl,a1⟩
 ·exact(Za6 l B1 B2 J W a0 h0).mono fun e W' ⟨he,hj⟩=>⟨he,.inl ⟨_,rfl,hj⟩⟩
 ·exact chunk1_in l B1 B2 p b off n cap hlen a1 h1 h2 J Jx hY W a0 a2 a3 h0
end Go.Proofs.YtceeiinepijokaaGreatDoor
namespace Go.Proofs.YtceeiinepijokaaGreatDoor
set_option maxHeartbeats 8000000
set_option maxRecDepth 100000
open Go.RowKit Go.Extern.Stop Go.Stop Go.Extern
set_option linter.unusedVariables false
attribute [local irreducible] wpList wpAnyH Code.wp Oper.wp Go
theorem Zd2(p:O0)(n c:Nat)(w:World) :
 C0 217 #[.slice p n c,V0 960] w (fun e w'=>∃ b1 b2,e=.returned (.func (.func 257) #[] #[P0 b1,P0 b2])∧B3 w w'∧w.heap.size≤b1∧w.heap.size≤b2∧b1≠b2∧Blk w' b1 [.slice p n c] 34∧Blk w' b2 [V0 960] 3):=by
 refine zin 9 Tryz.func217 ?_
 refine xa 2 [.slice p n c] 34 fun b1 W1 n1=>?_
 refine xa 0 [V0 960] 3 fun b2 W2 n2=>?_
 refine xb 6 0 n2.blk ?_
 have k1:=n1.blk.below n2.below
 have hB:=bln n1.below n2.below
 have g1:=n1.ge (B4 w)
 have g2:=n2.ge n1.below
 exact xe 13 (.func (.func 257) #[] #[P0 b1,P0 b2]) ⟨_,_,rfl,hB,g1,g2,(Blk.tne k1 n2.blk (by decide)),k1,n2.blk⟩
end Go.Proofs.YtceeiinepijokaaGreatDoor
namespace Go.Proofs.YtceeiinepijokaaGreatDoor
set_option maxHeartbeats 8000000
set_option maxRecDepth 100000
open Go.RowKit
set_option linter.unusedVariables false
theorem Zha{A B:World}{row:Option Nat}{base size n:Nat}{e:TypeId}{v:Value}{xs:List Value}(k:A.ownsRow base e size v n xs)(hg:A.grownBy B row)(hr:∀ r,row=some r→∃ o:Obj,A.heap[r]? = some o∧o.isCells=false):B.ownsRow base e size v n xs:=by
 obtain⟨h1,h2⟩:=k
 refine⟨h1,?_⟩
 rcases h2 with h2|⟨g,a1,a0,hv,hb,hh,r⟩
 ·exact Or.inl h2
 ·refine Or.inr ⟨g,a1,a0,hv,hb,?_,r⟩
  rw[hg.block g (Array.getElem?_eq_some_iff.1 hh).1 (fun q=>by
   obtain⟨o,ho,hc⟩:=hr g q.symm
   rw[hh] at ho
   cases ho
   cases hc)]
  exact hh
theorem Lists.turn{A B:World}{row:Option Nat}{base:Nat}{v:Value}{gs:List (Nat×Nat)}{L:List (List Int)}(h:Lists A base v gs L)(hg:A.grownBy B row)(hr:∀ r,row=some r→∃ o:Obj,A.heap[r]? = some o∧o.isCells=false):Lists B base v gs L:=⟨Zha h.row hg hr,fun i hi=>Zha (h.each i hi) hg hr⟩
structure RdZ(w0:World)(b:Nat)(W V:World):Prop where
 bb:BelowBut w0 b V
 ko:KeepsOthers W V
 fr:∀ k,k<w0.heap.size→k≠b→V.heap[k]? = W.heap[k]?
 le:W.heap.size≤V.heap.size
theorem RdZ.refl{w0 W:World}{b:Nat}(h:BelowBut w0 b W):RdZ w0 b W W:=⟨h,⟨Nat.le_refl _,fun _ _ h _=>h⟩,fun _ _ _=>rfl,Nat.le_refl _⟩
theorem RdZ.below{w0 W V U:World}{b:Nat}(h:RdZ w0 b W V)(hb:Below V.heap.size V U):RdZ w0 b W U :=
 ⟨h.bb.next hb,h.ko.trans (Zdd hb),fun k hk hn=>(hb.block k (Nat.lt_of_lt_of_le hk h.bb.size)).trans (h.fr k hk hn),Nat.le_trans h.le hb.size⟩
theorem RdZ.upd{w0 W V U:World}{b:Nat}{cs:List Value}{t:TypeId}(h:RdZ w0 b W V)(u:Upd V b U)(k:Blk V b cs t):RdZ w0 b W U :=
 ⟨h.bb.upd u,h.ko.trans (keepsO_upd u k),fun k hk hn=>(u.block k hn).trans (h.fr k hk hn),Nat.le_trans h.le (Nat.le_of_eq u.size.symm)⟩
theorem RdZ.grown{w0 W V U:World}{b size n:Nat}{e:TypeId}{v:Value}{xs:List Value}(h:RdZ w0 b W V)(hg:V.grownBy U v.ownBlock)(k:V.ownsRow w0.heap.size e size v n xs):RdZ w0 b W U :=
 ⟨⟨hg.os.trans h.bb.os,hg.tape.trans h.bb.tape,hg.output.trans h.bb.output,Nat.le_trans h.bb.size hg.size,fun i hi hn=>(hg.block i (Nat.lt_of_lt_of_le hi h.bb.size) (fun e=>by have:=(k.lt i e.symm).1;omega)).trans (h.bb.block i hi hn)⟩,
  ⟨Nat.le_trans h.ko.size hg.size,fun i o hi ho=>by
   have h1:=h.ko.same i o hi ho
   rw[hg.block i (Array.getElem?_eq_some_iff.1 h1).1 (fun q=>by
    rcases k.2 with ⟨rfl,_⟩|⟨g,a1,a0,rfl,_,hh,_⟩
    ·cases q
    ·simp only[Value.ownBlock,Option.some.injEq] at q
     subst q
     rw[hh] at h1
     cases h1
     cases ho)]
   exact h1⟩,
  fun i hi hn=>(hg.block i (Nat.lt_of_lt_of_le hi h.bb.size) (fun e=>by have:=(k.lt i e.symm).1;omega)).trans (h.fr i hi hn),Nat.le_trans h.le hg.size⟩
theorem row_or{w:World}{base e n c:Nat}{p:O0}{xs:List Value}(k:w.ownsRow base e 1 (.slice p n c) n xs):∃ g,(n=0∧∃ a c',Value.slice p n c=.slice a 0 c')∨Value.slice p n c=.slice (S1 g) n c∧n≤c:=by
 rcases k.2 with ⟨h,_⟩|⟨g,a1,a0,hv,_,_,hc,_⟩
 ·simp only[Value.slice.injEq] at h
  exact⟨0,.inl ⟨h.2.1,none,0,by rw[h.1,h.2.1,h.2.2]⟩⟩
 ·simp only[Value.slice.injEq] at hv
  obtain⟨rfl,_,rfl⟩:=hv
  exact⟨g,.inr ⟨rfl,hc⟩⟩
def Each(w:World)(base:Nat)(gs:List (Nat×Nat))(L:List (List Int)):Prop:=∀ i,i<L.length→w.ownsRow base 3 1 (Zb7 gs L i) (L.getD i []).length ((L.getD i []).map V0)
theorem Each.below{w W:World}{base:Nat}{gs:List (Nat×Nat)}{L:List (List Int)}(h:Each w base gs L)(hb:B3 w W):Each W base gs L:=fun i hi=>Zb (h i hi) hb
theorem Each.only{T:List TypeId}{w W:World}{base:Nat}{gs:List (Nat×Nat)}{L:List (List Int)}(h:Each w base gs L)(hO:Zf T w W)(hT:T.contains 3=false):Each W base gs L:=fun i hi=>Zj (h i hi) hO hT
theorem Zhk{gs:List (Nat×Nat)}{L:List (List Int)}{g c i:Nat}{ch:List Int}(hg:gs.length=L.length)(hi:i<L.length):Zb7 (gs++[(g,c)]) (L++[ch]) i=Zb7 gs L i:=by
 unfold Zb7
 simp[List.getD,List.getElem?_append_left,hi,hg]
theorem lstV_new{gs:List (Nat×Nat)}{L:List (List Int)}{g c:Nat}{ch:List Int}(hg:gs.length=L.length):Zb7 (gs++[(g,c)]) (L++[ch]) L.length=.slice (S1 g) ch.length c:=by
 unfold Zb7
 rw[show(gs++[(g,c)]).getD L.length (0,0)=(g,c) from by rw[←hg];simp[List.getD],show(L++[ch]).getD L.length []=ch from by simp[List.getD]]
theorem Lists.snoc{w:World}{base g c n:Nat}{v:Value}{gs:List (Nat×Nat)}{L:List (List Int)}{ch:List Int}(hn:n=L.length+1)(hrow:w.ownsRow base 34 1 v n ((List.range L.length).map (Zb7 gs L)++[.slice (S1 g) ch.length c]))(he:Each w base gs L)(hnew:w.ownsRow base 3 1 (.slice (S1 g) ch.length c) ch.length (ch.map V0))(hg:gs.length=L.length):Lists w base v (gs++[(g,c)]) (L++[ch]):=by
 subst hn
 refine⟨?_,fun i hi=>?_⟩
 ·rw[show(L++[ch]).length=L.length+1 from by simp,List.range_succ,List.map_append]
  rw[show(List.range L.length).map (Zb7 (gs++[(g,c)]) (L++[ch]))=(List.range L.length).map (Zb7 gs L) from List.map_congr_left fun i hi=>Zhk hg (List.mem_range.1 hi),List.map_singleton,lstV_new hg]
  exact hrow
 ·by_cases h:i<L.length
  ·rw[Zhk hg h,show(L++[ch]).getD i []=L.getD i [] from by simp[List.getD,List.getElem?_append_left,h]]
   exact he i h
  ·obtain rfl:i=L.length:=by simp at hi;omega
   rw[lstV_new hg,show(L++[ch]).getD L.length []=ch from by simp[List.getD]]
   exact hnew
theorem Sl.midI{w:World}{g n c:Nat}{xs:List Value}(h:Sl w (.slice (S1 g) n c) n xs)(hl:xs.length=n)(k m:Nat)(hm:0<m)(hk:k+m≤n):Sl w (.slice (some ⟨g,0+k,none⟩) m m) m ((xs.drop k).take m):=by
 rcases h with ⟨a',c',h1,h2,h3⟩|⟨g',a1,a2,h1,h2,h3,h4⟩
 ·omega
 ·simp only[Value.slice.injEq,Option.some.injEq,Addr.mk.injEq] at h1
  obtain⟨⟨rfl,rfl,_⟩,_,rfl⟩:=h1
  refine .inr ⟨g,0+k,m,rfl,Nat.le_refl _,by omega,fun j x hj=>?_⟩
  have a0:j<m:=by
   rcases Nat.lt_or_ge j m with q|q
   ·exact q
   ·rw[List.getElem?_eq_none (by simp;omega)] at hj;cases hj
  rw[List.getElem?_take_of_lt a0,List.getElem?_drop] at hj
  have:=h4 (k+j) x hj
  rw[show 0+k+j=0+(k+j) from by omega]
  exact this
end Go.Proofs.YtceeiinepijokaaGreatDoor
namespace Go.Proofs.YtceeiinepijokaaGreatDoor
set_option maxHeartbeats 8000000
set_option maxRecDepth 100000
open Go.RowKit Go.Extern.Stop Go.Stop Go.Extern
set_option linter.unusedVariables false
attribute [local irreducible] wpList wpAnyH Code.wp Oper.wp Go
theorem Sh(no er:Int)(bl:List Int)(v:Value)(w:World)(hv:Hb w (bl.map some) (some er) v) :
 C0 61 #[V0 no,v] w (fun e w'=>∃ ty x,e=.returned (.iface ty x)∧B3 w w'∧Hb w' ((no::bl).map some) (some er) (.iface ty x)):=by
 refine(Zhf no (some er) (bl.map some) v w hv).mono ?_
 rintro e W ⟨r,rfl,hb,hr⟩
 rw[show atL no (bl.map some) (some er)=(no::bl).map some from by unfold atL Eb;simp] at hr
 have a0:Hb W (some no::bl.map some) (some er) r:=hr
 obtain⟨a1,v',rfl,h1,h2⟩:=a0
 exact⟨_,_,rfl,hb,a1,v',rfl,h1,h2⟩
theorem Ku(B b:Nat)(p:O0)(n c:Nat)(l:Bl)(no:Int)(w:World)(hI:ImgR B b p n c l w) :
 C0 80 #[P0 b,V0 no] w (fun e w' =>
 (Xn l no≠0∧∃ ty x,e=.returned (.tuple #[S0,.iface ty x])∧B3 w w'∧Hb w' (([no]:List Int).map some) (some (Xn l no)) (.iface ty x)) ∨
 (Xn l no=0∧∃ p c,e=.returned (.tuple #[.slice p (Zb3 l no).length c,.nilIface])∧B3 w w'∧w'.ownsRow w.heap.size 3 1 (.slice p (Zb3 l no).length c) (Zb3 l no).length ((Zb3 l no).map V0))):=by
 refine(block_Bits B b p n c l no w hI).mono ?_
 rintro e W q
 rcases q with ⟨h,b,rfl,hb,hv⟩|⟨h,p,c,rfl,hb,ho⟩
 ·exact .inl ⟨h,_,_,rfl,hb,hv⟩
 ·refine .inr ⟨h,p,c,by rw[(Zbw h).2],hb,?_⟩
  rw[(Zbw h).2,(Zbw h).1,bitI_map];exact ho
end Go.Proofs.YtceeiinepijokaaGreatDoor
