/- (*walker).note: an error noted at the blocks of the way. -/
import Derived.Laws.StructEq
import Derived.Maps.Own
import Derived.RangeFuncNested
import Derived.RangeFuncBound
import Derived.RangeFuncCalls
import Derived.RangeFuncLeaves
import Derived.OwnWalkIn
import Derived.OrdersIn
import Derived.Shelf.Abstract
import Derived.Shelf.RegionOpen
import Derived.TacticsInMore
import Derived.LoopNIn
import Derived.LoopIn
import Derived.Sort.BigQuietIn
import Derived.Test.YtlmaglneeaecdaaGreatDoorMg3
namespace Go.Proofs.YtlmaglneeaecdaaGreatDoor
set_option maxHeartbeats 8000000
set_option maxRecDepth 100000
open Go.RowKit Go.Extern.Stop Go.Stop Go.Extern
set_option linter.unusedVariables false
attribute [local irreducible] wpList wpAnyH Code.wp Oper.wp Go
attribute [local go_sem] Oper.semAt_some
theorem Upd.of_put(w:World)(D:Nat)(o:Obj):Upd w D (w.putObj D o):=⟨rfl,rfl,rfl,by simp[World.putObj],fun k hk=>World.putObj_heap_other hk⟩
def Dfr (D:Nat)(w:World):Prop:=w.heap[D]? = some (.deferred (some []))
theorem Dfr.below{D:Nat}{w W:World}(h:Dfr D w)(hb:Below w.heap.size w W):Dfr D W:=(hb.block D (Array.getElem?_eq_some_iff.1 h).1).trans h
theorem Dfr.ne{D b:Nat}{w:World}{cs:List Value}{t:TypeId}(h:Dfr D w)(k:Blk w b cs t):b≠D:=by
 rintro rfl
 have h':w.heap[b]? = _:=h
 rw[show w.heap[b]? = _ from k] at h'
 cases h'
theorem Dfr.upd{D b:Nat}{w W:World}{cs:List Value}{t:TypeId}(h:Dfr D w)(u:Upd w b W)(k:Blk w b cs t):Dfr D W:=(u.block D fun e=>h.ne k e.symm).trans h
theorem Dfr.row{D:Nat}{w:World}{base e size n:Nat}{v:Value}{xs:List Value}(h:Dfr D w)(k:w.ownsRow base e size v n xs):∀ g,v.ownBlock=some g→g≠D:=by
 rintro g hg rfl
 rcases k.2 with ⟨rfl,_⟩|⟨g',cap,cur,rfl,_,hh,_⟩
 ·cases hg
 ·simp only[Value.ownBlock,Option.some.injEq] at hg
  subst hg
  rw[show w.heap[g']? = _ from h] at hh
  cases hh
theorem Dfr.grown{D:Nat}{w W:World}{base e size n:Nat}{v:Value}{xs:List Value}(h:Dfr D w)(hg:w.grownBy W v.ownBlock)(k:w.ownsRow base e size v n xs):Dfr D W :=
 (hg.block D (Array.getElem?_eq_some_iff.1 h).1 fun q=>h.row k D q.symm rfl).trans h
theorem g_endM{P:Program}{fn:Func}{R:Ending→World→Prop}{a:Act}{w:World}{D:Nat}(hK:Dfr D w)(v:Value)(hd:a.defers=[{ target:=.collected D,args:=#[] }])(hr:(results fn a.tmps).run P (w.putObj D (.deferred none))=.ok v (w.putObj D (.deferred none)))(h:R (.returned v) (w.putObj D (.deferred none))):bodyPostM Fence.wide 4 P fn R .normal a w :=
 by
 show LeavesInM _ _ _ _ a.tmps R a.defers .returning w
 rw[hd]
 exact⟨by simp,.inl ⟨_,_,rfl,run_takeDeferred hK,_,hr,h⟩⟩
def noPan(Q:Exit→Act→World→Prop):Exit→Act→World→Prop
 | .normal,a,w=>Q .normal a w
 | .ret,a,w=>Q .ret a w
 | _,_,_=>False
theorem g_nopan{P:Program}{c:Code}{Q:Exit→Act→World→Prop}{a:Act}{w:World}(h:c.wp P (noPan Q) a w):c.wp P Q a w:=wp_mono h fun e a w q=>by cases e<;>first|exact q|exact q.elim
theorem Dd{w:World}{base size n b:Nat}{e t:TypeId}{v:Value}{xs cs:List Value}(k:w.ownsRow base e size v n xs)(q:Blk w b cs t)(hne:e≠t):∀ g,v.ownBlock=some g→g≠b:=by
 rintro g hg rfl
 rcases k.2 with ⟨rfl,_⟩|⟨g',cap,cur,rfl,_,hh,_⟩
 ·cases hg
 ·simp only[Value.ownBlock,Option.some.injEq] at hg
  subst hg
  rw[show w.heap[g']? = _ from q] at hh
  simp only[Option.some.injEq,Obj.cells.injEq] at hh
  exact hne hh.2.1.symm
theorem Iw{w W:World}(h:Below w.heap.size w W):KeepsOthers w W:=⟨h.size,fun b o hb _=>(h.block b (Array.getElem?_eq_some_iff.1 hb).1).trans hb⟩
theorem Ze5{w W:World}{b:Nat}{cs:List Value}{t:TypeId}(u:Upd w b W)(k:Blk w b cs t):KeepsOthers w W:=⟨Nat.le_of_eq u.size.symm,fun d o hd ho=>(u.block d (by rintro rfl;rw[show w.heap[d]? = _ from k] at hd;cases hd;cases ho)).trans hd⟩
theorem BelowBut.own3{w W:World}{b base size n:Nat}{e:TypeId}{v:Value}{xs:List Value}(h:BelowBut w b W)(k:w.ownsRow base e size v n xs)(hs:∀ j,v.ownBlock=some j→j≠b):W.ownsRow base e size v n xs:=by
 obtain⟨h1,h2⟩:=k
 refine⟨h1,?_⟩
 rcases h2 with h2|⟨g,cap,cur,rfl,hg,hh,r⟩
 ·exact Or.inl h2
 ·exact Or.inr ⟨g,cap,cur,rfl,hg,by rw[h.block g (Array.getElem?_eq_some_iff.1 hh).1 (hs g rfl)];exact hh,r⟩
theorem Zaw{β:Type}{w:World}{b B:Nat}(hB:w.heap.size≤B):OwnFrom B (fun(_:β) W=>BelowBut w b W):=fun _ W W' row hs hg hr =>
 ⟨hg.os.trans hs.os,hg.tape.trans hs.tape,hg.output.trans hs.output,Nat.le_trans hs.size hg.size,fun k hk hne=>(hg.block k (Nat.lt_of_lt_of_le hk hs.size) (fun e=>by have:=(hr k e.symm).1;omega)).trans (hs.block k hk hne)⟩
theorem Kk.turn{A B:World}{row:Option Nat}{l:List (Option Int)}{c:Option Int}{v:Value}(h:Kk A l c v)(hg:A.grownBy B row)(hr:∀ r,row=some r→∃ o:Obj,A.heap[r]? = some o∧o.isCells=false):Kk B l c v:=h.kept fun _ _ k=>k.turn hg hr
theorem Kk.one{w:World}{l:List (Option Int)}{c:Option Int}{v:Value}(h:Kk w l c v):v.oneCell'=true:=by
 rcases h.nil_or with ⟨_,rfl⟩|⟨_,t,x,rfl⟩<;>rfl
theorem Kk.iface{w:World}{l:List (Option Int)}{c:Int}{v:Value}(h:Kk w l (some c) v):∃ t x,v=.iface t x:=by
 rcases h.nil_or with ⟨q,_⟩|⟨_,q⟩
 ·simp[Ml] at q
 ·exact q
end Go.Proofs.YtlmaglneeaecdaaGreatDoor
namespace Go.Proofs.YtlmaglneeaecdaaGreatDoor
set_option maxHeartbeats 8000000
set_option maxRecDepth 100000
open Go.RowKit Go.Extern.Stop Go.Stop Go.Extern
set_option linter.unusedVariables false
def Ws(u v:Value):Prop:=∀ j,u.ownBlock=some j→v.ownBlock≠some j
theorem Ws.symm{u v:Value}(h:Ws u v):Ws v u:=fun j h1 h2=>h j h2 h1
theorem Ws.row{w W:World}{u v:Value}{base e size n:Nat}{xs:List Value}(h:Ws u v)(k:w.ownsRow base e size v n xs)(hg:w.grownBy W u.ownBlock):W.ownsRow base e size v n xs:=by
 obtain⟨h1,h2⟩:=k
 refine⟨h1,?_⟩
 rcases h2 with h2|⟨g,cap,cur,rfl,hb,hh,r⟩
 ·exact Or.inl h2
 ·exact Or.inr ⟨g,cap,cur,rfl,hb,(hg.block g (Array.getElem?_eq_some_iff.1 hh).1 (fun q=>h g q.symm rfl)).trans hh,r⟩
theorem Ws.of_lt{w W:World}{u v:Value}{base base2 e e2 size size2 n n2:Nat}{xs ys:List Value}(k:w.ownsRow base e size u n xs)(q:W.ownsRow base2 e2 size2 v n2 ys)(h:w.heap.size≤base2):Ws u v:=fun j h1 h2=>by
 have:=(k.lt j h1).2
 have:=(q.lt j h2).1
 omega
theorem Ws.nil(v:Value):Ws (.slice none 0 0) v:=fun j h=>by cases h
theorem Hl{P:Program}{a:Act}{w:World}{K:Act→World→Prop}{Q:Exit→Act→World→Prop}{o:Oper}{s x:Operand}{t e te:TypeId}{base:Nat}{v:Value}{n:Nat}{xs:List Value}{b m c:Nat}{news:List Value}(z:Value)(size bytes n':Nat)(xs':List Value)
 (ho:o.op=.call { callee:=.builtin .append,args:=#[s,x],argTypes:=#[t,t] }) (ht:P.underlying t=some (.slice e)) (hi:(P.info? e).map (fun i=>(i.zero,i.size,i.bytes))=some (some z,size,bytes)) (hzs:z.cells.size=size) (hsz:0<size) (hs:a.eval s=v)
 (hown:w.ownsRow base e size v n xs) (hx:a.eval x=.slice (some ⟨b,0,none⟩) m c) (hnew:Blk w b news te) (hl:news.length=m*size) (h1:∀ u∈news,u.oneCell'=true) (h63:n+m≤maxLen) (hbytes:(n+m)*bytes≤140737488355328) (hbase:base≤w.heap.size) (hn:n+m=n') (hxs:xs++news=xs')
 (h:∀ p c W,W.ownsRow base e size (.slice p n' c) n' xs'→w.grownBy W v.ownBlock→Below base w W→((Value.slice p n' c).ownBlock=v.ownBlock∨(Value.slice p n' c).ownBlock=some w.heap.size)→K (a.put o.dst (.slice p n' c)) W):o.wp P a w K Q:=by
 cases hq:P.info? e with
 | none=>simp[hq] at hi
 | some i =>
  simp only[hq,Option.map_some,Option.some.injEq,Prod.mk.injEq] at hi
  have hc:∀ j u,news[j]? = some u→w.cell? ((⟨b,0,none⟩:Addr).add j)=some u:=fun j u hj=>by
   have hc:=hnew.cell hj
   by_cases h0:j=0
   ·subst h0;simpa [Addr.add] using hc
   ·simpa [Addr.add,h0] using hc
  obtain⟨v',W,hr,h2,h3,_,h5⟩:=run_append_own_at (P:=P) w base t o.type e i z size bytes ht hq hi.1 hi.2.1 hi.2.2 hzs hsz v n xs hown ⟨b,0,none⟩ m c news hl hc h1 h63 hbytes hbase
  subst hn hxs
  obtain⟨p,c2,rfl⟩:=(Ze h2).slice
  unfold Oper.wp execOp
  simp only[ho,resolve,invoke,builtin,Sem.run_bind,Sem.run_pure,Result.andThen_ok,List.map_toArray,List.map_cons,List.map_nil,hs,hx,hr]
  exact h p c2 W h2 h3 (Qx h3 hown (Nat.le_refl _) hbase) h5
structure WS where
 es:List Ent
 bs:List Int
 deep:Int
 looked:Nat
 fs:List (List Int×Int)
 dry:Bool
def Yx(l:List UInt8)(no:Int):List (List UInt8):=Kg (inB l no) (Xf (inB l no))
end Go.Proofs.YtlmaglneeaecdaaGreatDoor
namespace Go.Proofs.YtlmaglneeaecdaaGreatDoor
set_option maxHeartbeats 8000000
set_option maxRecDepth 100000
open Go.RowKit Go.Extern.Stop Go.Stop Go.Extern
set_option linter.unusedVariables false
attribute [local irreducible] wpList wpAnyH Code.wp Oper.wp Go
theorem widG_24(t:Int)(b:Bool):Ar t b≤24:=by
 unfold Ar Br
 repeat' split
 all_goals omega
theorem Hw(l:List UInt8)(n i:Nat):((Kg l n).getD i []).length≤1000:=by
 by_cases h:i<n
 ·rw[Ir l h]
  unfold Bd
  rw[List.length_take]
  have:=widG_24 (Xm l) (Xr l)
  unfold Xd
  omega
 ·simp[List.getD,List.getElem?_eq_none (show(Kg l n).length≤i by rw[Hj];omega)]
theorem Lx(p:Option Addr)(n c n2 c2:Nat):(Value.slice p n c).ownBlock=(Value.slice p n2 c2).ownBlock:=by
 cases p<;>rfl
theorem Ws.len{p q:Option Addr}{n c m d:Nat}(h:Ws (.slice p n c) (.slice q m d))(n2 c2 m2 d2:Nat):Ws (.slice p n2 c2) (.slice q m2 d2):=fun j h1 h2 =>
 h j ((Lx _ _ _ _ _).trans h1) ((Lx _ _ _ _ _).trans h2)
end Go.Proofs.YtlmaglneeaecdaaGreatDoor
namespace Go.Proofs.YtlmaglneeaecdaaGreatDoor
set_option maxHeartbeats 8000000
set_option maxRecDepth 100000
open Go.RowKit Go.Extern.Stop Go.Stop Go.Extern
set_option linter.unusedVariables false
theorem maxG_18(t:Int)(b:Bool):Zep t b≤18:=by
 unfold Zep Qu
 repeat' split
 all_goals omega
theorem Zai{l:List UInt8}(h:Yn l=0):Qt l=true:=by
 unfold Yn at h
 split at h
 ·assumption
 ·cases h
theorem Cw{l:List UInt8}{tree:Int}(h:Yv l tree=0):Yn l=0:=by
 unfold Yv at h
 split at h
 ·assumption
 ·assumption
theorem Fy{l:List UInt8}{no tree:Int}(h:Xg l no tree=0):inE l 2 no=0∧Yv (inB l no) tree=0:=by
 unfold Xg at h
 split at h
 ·exact⟨by assumption,h⟩
 ·rename_i q;exact absurd h q
end Go.Proofs.YtlmaglneeaecdaaGreatDoor
namespace Go.Proofs.YtlmaglneeaecdaaGreatDoor
set_option maxHeartbeats 8000000
set_option maxRecDepth 100000
open Go.RowKit Go.Extern.Stop Go.Stop Go.Extern
set_option linter.unusedVariables false
section
variable {P:Program} {fn:Func} {R:Ending→World→Prop} {w:World} {s:Zs}
def Zgz(w:World):List (Nat×List Value)→Prop
 | []=>True
 | p::r=>(∃ t,Blk w p.1 p.2 t)∧Zgz w r
noncomputable def zrlm (P:Program) (n:Nat) (kv:List (Nat×Value)) (l:List ResultVar):List (List Value)→Option (List Nat×List Value):=List.rec (motive:=fun _=>List (List Value)→Option (List Nat×List Value)) (fun _=>some ([],[])) (fun r _ ih css=>match r with
 | .tmp t=>match ih css with
  | some r=>some (r.1,zget n kv t::r.2)
  | none=>none
 | .cell k t=>match css with
  | []=>none
  | p::css'=>match zget n kv k with
   | .pointer (some ⟨b,off,sp⟩)=>match sp with
    | none=>match Nat.beq off 0&&(zrow P t&&zsz P t p.length) with
     | true=>match ih css' with
      | some r=>some (b::r.1,.agg p.toArray::r.2)
      | none=>none
     | false=>none
    | some _=>none
   | _=>none) l
theorem Rw(n:Nat)(kv:List (Nat×Value))(w:World):∀ (l:List ResultVar) (css:List (Nat×List Value)) (vs:List Value),Zgz w css→zrlm P n kv l (css.map Prod.snd)=some (css.map Prod.fst,vs)→(l.mapM (zrf (zact n kv).tmps)).run P w=.ok vs w
  | [],css,vs,_,h=>by
    have h':some (([]:List Nat),([]:List Value))=some (css.map Prod.fst,vs):=h
    simp only[Option.some.injEq,Prod.mk.injEq] at h'
    rw[←h'.2];rfl
  | r :: l, css, vs, hb, h => by
    rw[List.mapM_cons]
    cases r with
    | tmp t =>
      have h':(match zrlm P n kv l (css.map Prod.snd) with|some r=>some (r.1,zget n kv t::r.2)|none=>none)=some (css.map Prod.fst,vs):=h
      split at h'
      · rename_i r' hv
        simp only[Option.some.injEq,Prod.mk.injEq] at h'
        obtain⟨h1,rfl⟩:=h'
        have hv':zrlm P n kv l (css.map Prod.snd)=some (css.map Prod.fst,r'.2):=by rw[hv,←h1]
        simp only[zrf,Sem.run_bind,Sem.run_pure,Result.andThen_ok,Rw n kv w l css r'.2 hb hv',Jw]
      · cases h'
    | cell k t' =>
      cases css with
      | nil=>cases h
      | cons p css =>
      have h':(match zget n kv k with
      | .pointer (some ⟨b,off,sp⟩)=>match sp with
        | none=>match Nat.beq off 0&&(zrow P t'&&zsz P t' p.2.length) with
          | true=>match zrlm P n kv l (css.map Prod.snd) with
            | some r=>some (b::r.1,.agg p.2.toArray::r.2)
            | none=>none
          | false=>none
        | some _=>none
      | _=>none)=some (p.1::css.map Prod.fst,vs):=h
      split at h'
      · rename_i b' off sp hb'
        cases sp with
        | some _=>cases h'
        | none =>
          dsimp only at h'
          split at h'
          · rename_i hc
            simp only[Bool.and_eq_true] at hc
            split at h'
            · rename_i r' hv
              simp only[Option.some.injEq,Prod.mk.injEq,List.cons.injEq] at h'
              obtain⟨⟨rfl,h1⟩,rfl⟩:=h'
              obtain⟨⟨t,kb⟩,hb2⟩:=hb
              have hv':zrlm P n kv l (css.map Prod.snd)=some (css.map Prod.fst,r'.2):=by rw[hv,←h1]
              obtain rfl:off=0:=Nat.eq_of_beq_eq_true hc.1
              have hu:=hc.2.1
              unfold zrow at hu
              split at hu
              · rename_i d hd
                have hl:=run_loadVar_mid (P:=P) w p.1 0 t' p.2 d kb.whole hd hu (Io hc.2.2)
                have e:(zact n kv).tmps.getD k undef=.pointer (some ⟨p.1,0,none⟩):=by rw[Jw];exact hb'
                simp only[zrf,e,asAddr,Sem.run_bind,Sem.run_pure,Result.andThen_ok,hl,Rw n kv w l css r'.2 hb2 hv']
              · cases hu
            · cases h'
          · cases h'
      · cases h'
noncomputable def zresm (P:Program) (s:Zs) (fn:Func) (css:List (List Value)):Option (List Nat×Value):=match zfin s with
 | true=>match zrlm P s.n s.kv fn.results.toList css with
  | some r=>some (r.1,zvs r.2)
  | none=>none
 | false=>none
theorem xecm(q:Zq)(css:List (Nat×List Value))(hb:Zgz w css)(v:Value)(hR:R (.returned v) w)(h:zresm P (zq P q s) fn (css.map Prod.snd)=some (css.map Prod.fst,v):=by kernel_rfl):Go P fn R s w:=by
 refine Zn q s ?_
 unfold zresm at h
 split at h
 ·rename_i hf
  split at h
  ·rename_i r hv
   simp only[Option.some.injEq,Prod.mk.injEq] at h
   obtain⟨h1,rfl⟩:=h
   have hv:zrlm P (zq P q s).n (zq P q s).kv fn.results.toList (css.map Prod.snd)=some (css.map Prod.fst,r.2):=by rw[hv,←h1]
   exact Zbg hf (Wu (Rw _ _ _ _ _ _ hb hv)) hR
  ·cases h
 ·cases h
end
end Go.Proofs.YtlmaglneeaecdaaGreatDoor
namespace Go.Proofs.YtlmaglneeaecdaaGreatDoor
set_option maxHeartbeats 8000000
set_option maxRecDepth 100000
open Go.RowKit Go.Extern.Stop Go.Stop Go.Extern
set_option linter.unusedVariables false
attribute [local irreducible] wpList wpAnyH Code.wp Oper.wp Go
theorem ref08_inB(n lo hi:Int)(w:World) :
 Calls Tryz.prog 119 #[.int .i64 n,.int .i64 lo,.int .i64 hi] w (Ret (.bool (decide (lo≤n∧n≤hi))) w):=by
 refine zin 15 Tryz.func119 ?_
 refine xg 11 [9,10] (decide (n≥lo)) (fun hc1=>?_) (fun hc1=>?_)
 ·have hc1:=of_decide_eq_true hc1
  exact xe 8 (.bool (decide (n≤hi))) ⟨by rw[show decide (lo≤n∧n≤hi)=decide (n≤hi) from by simp;omega],(Below.refl w.heap.size _)⟩
 have hc1:=of_decide_eq_false hc1
 exact xe 8 (.bool false) ⟨by rw[show decide (lo≤n∧n≤hi)=false from decide_eq_false (by omega)],(Below.refl w.heap.size _)⟩
theorem Zf3(s:List UInt8)(lo hi:Int)(w:World)(hs:s.length≤1000) :
 Calls Tryz.prog 79 #[.string ⟨s.toArray⟩,.int .i64 lo,.int .i64 hi] w (Ret (.tuple #[.int .i64 (if s.length=4∧lo≤(Zf s 0 4:Int)∧(Zf s 0 4:Int)≤hi then(Zf s 0 4:Int) else 0),.int .i64 (if s.length=4 then(if lo≤(Zf s 0 4:Int)∧(Zf s 0 4:Int)≤hi then 0 else 2) else 7)]) w):=by
 refine zin 25 Tryz.func79 ?_
 refine xin 14 (↑s.length:Int) (4:Int) (fun hc1=>?_) (fun hc1=>?_)
 ·refine xe 8 (.tuple #[.int .i64 0,.int .i64 7]) ?_
  rw[if_neg (by omega),if_neg (by omega)];exact⟨rfl,(Below.refl w.heap.size _)⟩
 refine xcf 5 fun _ _ _ zJ zQ zo zx zK=>Vl s zo zx Tryz.underlying9 Tryz.underlying22 Tryz.underlying5 (by omega) ?_
 intro bz cz W2 hb2 hbz
 refine zK _ _ ?_
 refine xr 0 (args:=#[.slice (some ⟨bz,0,none⟩) s.length cz,.int .i64 0,.int .i64 4]) (Nc (some ⟨bz,0,none⟩) s.length cz 0 4 0 4 s _ rfl rfl rfl (by decide) (by omega) (by omega) hbz) fun W3 hb3=>?_
 refine xr 13 (args:=#[.int .i64 (↑(Zf s 0 4):Int),.int .i64 lo,.int .i64 hi]) (ref08_inB (↑(Zf s 0 4):Int) lo hi _) fun W4 hb4=>?_
 refine xi 3 (!(decide (lo≤(Zf s 0 4:Int)∧(Zf s 0 4:Int)≤hi))) (fun hc5=>?_) (fun hc5=>?_)
 ·have hin:¬ (lo≤(Zf s 0 4:Int)∧(Zf s 0 4:Int)≤hi):=fun q=>absurd hc5 (by rw[decide_eq_true q];decide)
  have hB:=bln (bln hb2 hb3) hb4
  refine xe 8 (.tuple #[.int .i64 0,.int .i64 2]) ?_
  rw[if_neg fun q=>hin q.2,if_pos (by omega),if_neg hin];exact⟨rfl,hB⟩
 have hin:lo≤(Zf s 0 4:Int)∧(Zf s 0 4:Int)≤hi:=Decidable.byContradiction fun q=>absurd hc5 (by rw[decide_eq_false q];decide)
 have hB:=bln (bln hb2 hb3) hb4
 refine xe 10 (.tuple #[.int .i64 (↑(Zf s 0 4):Int),.int .i64 0]) ?_
 rw[if_pos ⟨by omega,hin⟩,if_pos (by omega),if_pos hin];exact⟨rfl,hB⟩
theorem Es(s:List UInt8)(w:World)(hs:s.length≤1000) :
 Calls Tryz.prog 79 #[.string ⟨s.toArray⟩,.int .i64 1,.int .i64 14399] w (Ret (.tuple #[.int .i64 (Vg s:Int),.int .i64 (Xx s)]) w):=by
 refine(Zf3 s 1 14399 w hs).mono ?_
 rintro e W ⟨rfl,hb⟩
 refine⟨?_,hb⟩
 have e1:(if s.length=4 then(if(1:Int)≤(Zf s 0 4:Int)∧(Zf s 0 4:Int)≤14399 then(0:Int) else 2) else 7)=Xx s:=by
  unfold Xx
  by_cases h:s.length=4
  ·rw[if_pos h,if_pos h]
   by_cases q:1≤Zf s 0 4∧Zf s 0 4≤14399
   ·rw[if_pos q,if_pos ⟨by omega,by omega⟩]
   ·rw[if_neg q,if_neg (by omega)]
  ·rw[if_neg h,if_neg h]
 have e2:(if s.length=4∧(1:Int)≤(Zf s 0 4:Int)∧(Zf s 0 4:Int)≤14399 then(Zf s 0 4:Int) else 0)=(Vg s:Int):=by
  unfold Vg
  rw[←e1]
  by_cases h:s.length=4
  ·rw[if_pos h]
   by_cases q:(1:Int)≤(Zf s 0 4:Int)∧(Zf s 0 4:Int)≤14399
   ·rw[if_pos ⟨h,q⟩,if_pos q,if_pos rfl]
   ·rw[if_neg fun x=>q x.2,if_neg q,if_neg (by decide)];rfl
  ·rw[if_neg fun x=>h x.1,if_neg h,if_neg (by decide)];rfl
 rw[e1,e2]
theorem Rj(s:List UInt8)(w:World)(hs:s.length≤1000) :
 Calls Tryz.prog 39 #[.string ⟨s.toArray⟩] w (Ret (.tuple #[.int .i64 (Vg s:Int),.int .i64 (Xx s)]) w):=by
 refine zin 8 Tryz.func39 ?_
 refine xr 9 (args:=#[.string ⟨s.toArray⟩,.int .i64 1,.int .i64 14399]) (Es s _ hs) fun W1 hb1=>?_
 exact xe 7 (.tuple #[.int .i64 (↑(Vg s):Int),.int .i64 (Xx s)]) ⟨rfl,hb1⟩
theorem Pg(no er:Int)(w:World)(he:er≠0):Calls Tryz.prog 36 #[.int .i64 no,.int .i64 er] w (Yz (fun w' r=>∃ a c,r=.agg #[.slice a 1 c,.int .i64 er]∧w'.ownsRow w.heap.size 3 1 (.slice a 1 c) 1 [.int .i64 no]) w):=by
 refine(Hx no er w).mono ?_
 rintro e W ⟨a,c,rfl,hb,ho⟩
 rw[Mq he] at ho ⊢
 exact⟨_,rfl,hb,a,c,rfl,ho⟩
theorem Zcz(L:List Int):∀ u∈L.map (Value.int .i64),u.oneCell'=true:=by intro u hu;obtain⟨x,_,rfl⟩:=List.mem_map.1 hu;rfl
def Uq(l:List UInt8)(n:Nat):List Int:=(Lz l n).map fun x:Nat=>(x:Int)
theorem Bj(l:List UInt8)(n:Nat):(Uq l n).length=n:=by simp[Uq,Lz]
theorem bitI_get(l:List UInt8){n i:Nat}(h:i<n):(Uq l n).getD i 0=(Ei l i:Int):=by simp[Uq,Lz,List.getD,List.getElem?_range h]
theorem bitN_lt(l:List UInt8)(i:Nat):Ei l i<4:=Nat.mod_lt _ (by decide)
theorem Ey(l:List UInt8)(n:Nat):Vw (Uq l n):=by
 intro x hx
 obtain⟨y,hy,rfl⟩:=List.mem_map.1 hx
 obtain⟨i,_,rfl⟩:=List.mem_map.1 hy
 have:=bitN_lt l i
 omega
theorem bitN_at(l:List UInt8)(j r:Nat)(hr:r<4):Ei l (4*j+r)=(l.getD (4+j) 0).toNat/2 ^ (r*2)%4:=by
 unfold Ei
 rw[show(4*j+r)/4=j by omega,show(4*j+r)%4=r by omega]
theorem bitsT_get(L:List Int)(n:Nat){j:Nat}(hj:j<240):(Gp L n).getD (4+j) 0=g4B L n j:=by
 unfold Gp
 simp only[List.getD]
 rw[List.getElem?_append_right (by rw[Zg];omega),Zg,Nat.add_sub_cancel_left]
 simp[List.getElem?_range hj]
theorem atI_bit(l:List UInt8)(n i:Nat):atI (Uq l n) n i=if i<n then(Ei l i:Int) else 0:=by
 unfold atI
 by_cases h:i<n
 ·rw[if_pos h,if_pos h,bitI_get l h]
 ·rw[if_neg h,if_neg h]
theorem g4B_nat{L:List Int}(h:Vw L)(n j:Nat):((g4B L n j).toNat:Int)=g4 L n j:=by
 have b0:=Vr h n (4*j)
 have b1:=Vr h n (4*j+1)
 have b2:=Vr h n (4*j+2)
 have b3:=Vr h n (4*j+3)
 unfold g4B
 rw[UInt8.toNat_ofNat',Nat.mod_eq_of_lt (by unfold g4;omega)]
 unfold g4;omega
theorem Aq{l:List UInt8}(hl:l.length=244)(hn:Zf l 0 4≤960):(Jd (Uq l (Zf l 0 4))==l)=Gg l:=by
 generalize hnn:Zf l 0 4=n at *
 have hS:=Ey l n
 have hLl:=Bj l n
 have hbl:(Jd (Uq l n)).length=244:=Qf _ _
 have hx:∀ j,(l.getD (4+j) 0).toNat<256:=fun j=>(l.getD (4+j) 0).toNat_lt
 have hg:∀ j,j<240→(Jd (Uq l n)).getD (4+j) 0=g4B (Uq l n) n j:=fun j hj=>by unfold Jd;rw[hLl,bitsT_get _ _ hj]
 have hsum:∀ j,g4 (Uq l n) n j=atI (Uq l n) n (4*j)+4*atI (Uq l n) n (4*j+1)+16*atI (Uq l n) n (4*j+2)+64*atI (Uq l n) n (4*j+3):=fun _=>rfl
 have hdig:∀ j r,r<4→Ei l (4*j+r)=(l.getD (4+j) 0).toNat/2 ^ (r*2)%4:=fun j r hr=>bitN_at l j r hr
 rw[Bool.eq_iff_iff,beq_iff_eq,Kv]
 constructor
 ·intro h
  refine⟨hl,by omega,fun i hi hc=>?_⟩
  rw[hnn] at hc
  obtain⟨j,r,rfl,hr⟩:∃ j r,i=4*j+r∧r<4:=⟨i/4,i%4,by omega,by omega⟩
  have e1:(g4B (Uq l n) n j).toNat=(l.getD (4+j) 0).toNat:=by rw[←hg j (by omega),h]
  have e2:=g4B_nat hS n j
  rw[e1,hsum] at e2
  rw[hdig j r hr]
  have a0:=Vr hS n (4*j)
  have a1:=Vr hS n (4*j+1)
  have a2:=Vr hS n (4*j+2)
  have a3:=Vr hS n (4*j+3)
  have c:∀ q,n≤4*j+q→atI (Uq l n) n (4*j+q)=0:=fun q hq=>by rw[atI_bit,if_neg (by omega)]
  obtain rfl|rfl|rfl|rfl:r=0∨r=1∨r=2∨r=3:=by omega
  ·have z0:=c 0 hc
   rw[Nat.add_zero] at z0
   simp only[Nat.zero_mul,Nat.reducePow,Nat.div_one];omega
  ·have z0:=c 1 hc
   simp only[Nat.one_mul,Nat.reducePow];omega
  ·have z0:=c 2 hc
   simp only[Nat.reduceMul,Nat.reducePow];omega
  ·have z0:=c 3 hc
   simp only[Nat.reduceMul,Nat.reducePow];omega
 ·rintro⟨_,_,h0⟩
  rw[hnn] at h0
  have hat:∀ i,i<960→atI (Uq l n) n i=(Ei l i:Int):=fun i hi=>by
   rw[atI_bit]
   by_cases q:i<n
   ·rw[if_pos q]
   ·rw[if_neg q,h0 i hi (by omega)];rfl
  apply Bv (by rw[hbl,hl])
  intro i hi
  rw[hbl] at hi
  by_cases h4:i<4
  ·have e:=leB_raw (l:=l) (k:=0) (w:=4) (by omega)
   rw[hnn,List.drop_zero] at e
   unfold Jd Gp
   rw[hLl,e]
   simp only[List.getD]
   rw[List.getElem?_append_left (by simp;omega),List.getElem?_take,if_pos h4]
  ·obtain⟨j,rfl⟩:∃ j,i=4+j:=⟨i-4,by omega⟩
   rw[hg j (by omega)]
   apply UInt8.toNat_inj.1
   have e2:=g4B_nat hS n j
   rw[hsum,hat _ (by omega),hat _ (by omega),hat _ (by omega),hat _ (by omega)] at e2
   have d0:=hdig j 0 (by decide)
   have d1:=hdig j 1 (by decide)
   have d2:=hdig j 2 (by decide)
   have d3:=hdig j 3 (by decide)
   simp only[Nat.zero_mul,Nat.one_mul,Nat.reduceMul,Nat.reducePow,Nat.add_zero,Nat.div_one] at d0 d1 d2 d3
   have:=hx j
   omega
theorem bitI_snoc(l:List UInt8)(n:Nat):Uq l (n+1)=Uq l n++[(Ei l n:Int)]:=by unfold Uq;rw[Ra,List.map_append];rfl
theorem bitN4(l:List UInt8)(i:Nat):(l.getD (4+i/4) 0).toNat/4 ^ (i%4)%4=Ei l i:=by
 unfold Ei
 rw[Nat.mul_comm (i%4) 2,Nat.pow_mul]
def RBitsP(l:List UInt8)(w:World)(e:Ending)(w':World):Prop :=
 (Gg l=false∧e=.returned (.tuple #[.slice none 0 0,.int .i64 7])∧Below w.heap.size w w') ∨
 (Gg l=true∧∃ p c,e=.returned (.tuple #[.slice p (Zf l 0 4) c,.int .i64 0])∧Below w.heap.size w w'∧w'.ownsRow w.heap.size 3 1 (.slice p (Zf l 0 4) c) (Zf l 0 4) ((Uq l (Zf l 0 4)).map (Value.int .i64)))
theorem Zeb(a:Option Addr)(n c:Nat)(l:List Int)(w:World)(hn:l.length=n)(hS:Vw l)(hl:n≤960)(h:Sl w (.slice a n c) n (l.map (Value.int .i64))):Calls Tryz.prog 221 #[.slice a n c] w (Yz (fun w' r=>∃ p c,r=.tuple #[.slice p 244 c,.int .i64 0]∧w'.ownsRow w.heap.size 5 1 (.slice p 244 c) 244 ((Jd l).map bv)) w):=by
 subst hn;exact ref09_Put a c l w hS hl h
theorem Zdt(a:Option Addr)(c:Nat)(l:List UInt8)(w:World)(hl:l.length=244)(h:Bys w (.slice a 244 c) l) :
 Calls Tryz.prog 190 #[.slice a 244 c] w (RBitsP l w):=by
 have hcap:=Bys.cap h hl
 refine zin 58 Tryz.func190 ?_
 refine xr 20 (args:=#[.slice a 244 c,.int .i64 0,.int .i64 4]) (Nc a 244 c 0 4 0 4 l _ hl rfl rfl (by decide) (by decide) (by decide) (h.below (Below.refl w.heap.size _))) fun W1 hb1=>?_
 refine xid 14 ((↑(Zf l 0 4):Int)>(960:Int)) (fun hc2=>?_) (fun hc2=>?_)
 ·exact xe 8 (.tuple #[.slice none 0 0,.int .i64 7]) (.inl ⟨by rw[←Bool.not_eq_true,Kv];intro q;have:=q.2.1;omega,rfl,hb1⟩)
 refine zl 14 58 (fun zm zkv V=>∃ (i:Nat) (p:Option Addr) (c2:Nat),zkv=[(0,.slice a 244 c),(2,.slice none 0 0),(3,.int .i64 0),(4,.int .i64 (↑(Zf l 0 4):Int)),(6,.slice p i c2),(7,.int .i64 (↑i:Int))]∧zm=Zf l 0 4-((↑i:Int)).toNat∧Below w.heap.size w V∧V.ownsRow w.heap.size 3 1 (.slice p i c2) i ((Uq l i).map (Value.int .i64))∧i≤Zf l 0 4) ⟨0,_,_,rfl,rfl,hb1,World.ownsRow_nil _ _ _ _,Nat.zero_le _⟩ ?_
 rintro _ _ W3 ⟨i,p,c2,rfl,rfl,hB_3,ho,hi⟩ J3 hJ3 r3
 refine xid 8 ((↑i:Int)<(↑(Zf l 0 4):Int)) (fun hc4=>?_) (fun hc4=>?_)
 ·refine xq 8 (congrArg (Value.int .i64) (show(IntKind.i64.wrap (Int.tdiv (↑i:Int) 4):Int)=(↑(i/4):Int) from Gc i 4 (by omega) (by decide))) ?_
  refine xwm 0 (4+(↑(i/4):Int)) (↑(4+(i/4)):Int) ?_
  refine xx 0 _ 244 (4+(i/4)) 1 (BysM.elem h hl (k:=(4+(i/4))) (by omega)).1 ?_
  refine xl 0 ((BysM.elem (h.below hB_3) hl (k:=(4+(i/4))) (by omega)).2) ?_
  refine xq 0 (congrArg (Value.int .i64) (show(IntKind.i64.wrap (↑(l.getD (4+(i/4)) 0).toNat:Int):Int)=(↑(l.getD (4+(i/4)) 0).toNat:Int) from Vk (by have:=(l.getD (4+i/4) 0).toNat_lt;omega))) ?_
  refine xv1 10 8 (show(.int .i64 (↑(l.getD (4+(i/4)) 0).toNat:Int):Value)=.int .i64 (↑((l.getD (4+(i/4)) 0).toNat/4 ^ 0:Nat):Int) from by rw[Nat.pow_zero,Nat.div_one]) ?_
  refine zl 0 58 (fun zm zkv V=>∃ (k:Nat),zkv=[(0,.slice a 244 c),(2,.slice none 0 0),(3,.int .i64 0),(4,.int .i64 (↑(Zf l 0 4):Int)),(6,.slice p i c2),(7,.int .i64 (↑i:Int)),(8,.int .i64 (↑((l.getD (4+(i/4)) 0).toNat/4 ^ k:Nat):Int)),(9,.int .i64 (↑k:Int))]∧zm=i%4-((↑k:Int)).toNat∧Below w.heap.size w V∧V.ownsRow w.heap.size 3 1 (.slice p i c2) i ((Uq l i).map (Value.int .i64))∧k≤i%4) ⟨0,rfl,rfl,hB_3,ho,Nat.zero_le _⟩ ?_
  rintro _ _ W5 ⟨k,rfl,rfl,hB_5,ho_5,hk⟩ J5 hJ5 r5
  refine xq 5 (congrArg (Value.int .i64) (show(Int.tmod (↑i:Int) 4:Int)=(↑(i%4):Int) from He i 4)) ?_
  refine xid 3 ((↑k:Int)<(↑(i%4):Int)) (fun hc6=>?_) (fun hc6=>?_)
  ·refine xq 6 (congrArg (Value.int .i64) (show(IntKind.i64.wrap (Int.tdiv (↑((l.getD (4+(i/4)) 0).toNat/4 ^ k:Nat):Int) 4):Int)=(↑(((l.getD (4+(i/4)) 0).toNat/4 ^ k:Nat)/4):Int) from Gc ((l.getD (4+(i/4)) 0).toNat/4 ^ k:Nat) 4 (Nat.lt_of_le_of_lt (Nat.div_le_self _ _) (Nat.lt_trans (l.getD (4+i/4) 0).toNat_lt (by decide))) (by decide))) ?_
   refine xwm 6 ((↑k:Int)+1) (↑(k+1):Int) ?_
   refine xv1 2 8 (show(.int .i64 (↑(((l.getD (4+(i/4)) 0).toNat/4 ^ k:Nat)/4):Int):Value)=.int .i64 (↑((l.getD (4+(i/4)) 0).toNat/4 ^ (k+1):Nat):Int) from by rw[Nat.pow_succ,←Nat.div_div_eq_div_mul]) ?_
   exact ze 0 (hJ5 _ _ _ ⟨k+1,rfl,rfl,hB_5,ho_5,by omega⟩ (by omega))
  refine xq 8 (congrArg (Value.int .i64) (show(Int.tmod (↑((l.getD (4+(i/4)) 0).toNat/4 ^ k:Nat):Int) 4:Int)=(↑(((l.getD (4+(i/4)) 0).toNat/4 ^ k:Nat)%4):Int) from He ((l.getD (4+(i/4)) 0).toNat/4 ^ k:Nat) 4)) ?_
  refine xbs 0 1 [.int .i64 (↑(((l.getD (4+(i/4)) 0).toNat/4 ^ k:Nat)%4):Int)] 3 fun b7 W7 n7=>?_
  have g7:=n7.ge hB_5
  have r7_ho:=Zr ho_5 n7
  have ho'1:=Zb ho_5 n7.below
  have hB'1:=bln hB_5 n7.below
  refine xbi 0 fun _ _ _ _ zJ zQ zo zx zy zK=>Zo (m:=1) (news:=[.int .i64 (↑(((l.getD (4+(i/4)) 0).toNat/4 ^ k:Nat)%4):Int)]) (.int .i64 0) 1 8 (i+1) (((Uq l (i+1)).map (Value.int .i64))) zo Tryz.underlying31 (by kernel_rfl) rfl (by decide) zx ho'1 zy (n7.blk.sl 1 1 (by decide) (by decide)) rfl (by simp[Value.oneCell']) (by unfold maxLen;omega) (by omega) hB'1.size (by rfl) (by rw[bitI_snoc,List.map_append,show k=i%4 by omega,bitN4];rfl) fun px8 cx8 W8 o8 hg8 hb8=>?_
  refine zK _ _ ?_
  refine xwm 6 ((↑i:Int)+1) (↑(i+1):Int) ?_
  have hB'2:=hB'1.trans hb8
  exact ze 2 (hJ3 _ _ _ ⟨i+1,_,_,rfl,rfl,hB'2,o8,by omega⟩ (by omega))
 refine xc 8 (args:=#[.slice p i c2]) (Zeb p i c2 (Uq l i) _ (Bj _ _) (Ey _ _) (by omega) (Ze ho)) ?_
 rintro _ W9 ⟨_,rfl,hb9,p4,c4,rfl,h4⟩
 have h4'1:=Zd h4 hB_3.size
 refine xcv0 11 (fun _ _ _ zo zx=>Yp zo zx (Yk (Ze h4'1) (Qf _ _)) (Qf _ _) Tryz.underlying22 Tryz.underlying5 Tryz.underlying9) ?_
 have hB'3:=bln hB_3 hb9
 refine xcv0 1 (fun _ _ _ zo zx=>Yp zo zx (h.below hB'3) hl Tryz.underlying22 Tryz.underlying5 Tryz.underlying9) ?_
 refine xi 3 (!((⟨(Jd (Uq l i)).toArray⟩:ByteArray).toList==(⟨l.toArray⟩:ByteArray).toList)) (fun hc10=>?_) (fun hc10=>?_)
 ·have hok:Gg l=false:=by rw[←Aq hl (by omega),←show i=Zf l 0 4 by omega,←Ww];exact Zad hc10
  exact xe 8 (.tuple #[.slice none 0 0,.int .i64 7]) (.inl ⟨hok,rfl,hB'3⟩)
 have hok:Gg l=true:=by rw[←Aq hl (by omega),←show i=Zf l 0 4 by omega,←Ww];exact Zaj hc10
 have ho'2:=Zb ho hb9
 refine xe 10 (.tuple #[.slice p i c2,.int .i64 0]) ?_
 obtain rfl:i=Zf l 0 4:=by omega
 exact .inr ⟨hok,_,_,rfl,hB'3,ho'2⟩
structure Sup where
 tx:Int
 time:Int
 unit:Int
 data:Int
 blocks:Int
 top:Int
 details:Int
 dslots:Int
 dover:Int
 mindex:Int
 mover:Int
def Gn(s:Sup):Bool:=(((((((((((true&&decide ((0:Int)≤s.tx∧s.tx≤2147483647))&&decide ((0:Int)≤s.time∧s.time≤16777215))&&decide ((1:Int)≤s.unit∧s.unit≤65536))&&decide ((0:Int)≤s.data∧s.data≤65536))&&decide ((2:Int)≤s.blocks∧s.blocks≤14400))&&decide ((1:Int)≤s.top∧s.top≤(s.blocks-1)))&&decide ((1:Int)≤s.details∧s.details≤(s.blocks-1)))&&decide ((1:Int)≤s.dslots∧s.dslots≤(s.blocks-1)))&&decide ((1:Int)≤s.dover∧s.dover≤(s.blocks-1)))&&decide ((1:Int)≤s.mindex∧s.mindex≤(s.blocks-1)))&&decide ((1:Int)≤s.mover∧s.mover≤(s.blocks-1)))
theorem Yr(B bs bo off:Nat)(cs:List Value)(n lo hi:Int)(b:Bool)(w:World)(hBw:B≤w.heap.size)(hBo:B≤bo)(ks:Blk w bs cs 43)(hn:cs[off]? = some (.int .i64 n))(ko:Blk w bo [.bool b] 4) :
 Calls Tryz.prog 94 #[.pointer (some ⟨bs,off,none⟩),.int .i64 lo,.int .i64 hi,.pointer (some ⟨bo,0,none⟩)] w ((fun e w'=>∃ u,e=.returned u∧Below B w w'∧Zh [4] w w'∧Blk w' bo [.bool (b&&decide ((lo:Int)≤n∧n≤hi))] 4)):=by
 refine zin 22 Tryz.func94 ?_
 refine xb 1 0 ko ?_
 refine xg 1 [7,8] b (fun hc1=>?_) (fun hc1=>?_)
 ·refine xl 2 (ks.cell (i:=off) hn) ?_
  refine xg 4 [13,14,15] (decide (n≥lo)) (fun hc2=>?_) (fun hc2=>?_)
  ·have hc2:=of_decide_eq_true hc2
   refine xl 2 (ks.cell (i:=off) hn) ?_
   refine xs 3 ko [.bool (decide (n≤hi))] fun W3 u3 k3=>?_
   have hB:=u3.below (Below.refl B w) hBo
   have hO:=(show Zh [4] w _ from(Zh.of_upd u3 ko (by decide)))
   exact xe 1 (.tuple #[]) ⟨_,rfl,hB,hO,by rw[show(b&&decide ((lo:Int)≤n∧n≤hi))=decide (n≤hi) from by first|(rw[show decide ((lo:Int)≤n∧n≤hi)=false from decide_eq_false (by omega),Bool.and_false];done)|(simp_all;done)|(simp_all;omega)];exact k3⟩
  have hc2:=of_decide_eq_false hc2
  refine xs 6 ko [.bool false] fun W4 u4 k4=>?_
  have hB:=u4.below (Below.refl B w) hBo
  have hO:=(show Zh [4] w _ from(Zh.of_upd u4 ko (by decide)))
  exact xe 1 (.tuple #[]) ⟨_,rfl,hB,hO,by rw[show(b&&decide ((lo:Int)≤n∧n≤hi))=false from by first|(rw[show decide ((lo:Int)≤n∧n≤hi)=false from decide_eq_false (by omega),Bool.and_false];done)|(simp_all;done)|(simp_all;omega)];exact k4⟩
 refine xs 13 ko [.bool false] fun W5 u5 k5=>?_
 have hB:=u5.below (Below.refl B w) hBo
 have hO:=(show Zh [4] w _ from(Zh.of_upd u5 ko (by decide)))
 exact xe 1 (.tuple #[]) ⟨_,rfl,hB,hO,by rw[show(b&&decide ((lo:Int)≤n∧n≤hi))=false from by first|(rw[show decide ((lo:Int)≤n∧n≤hi)=false from decide_eq_false (by omega),Bool.and_false];done)|(simp_all;done)|(simp_all;omega)];exact k5⟩
theorem Iu(s:List UInt8):Bc Zy s=[Zf s 0 8,Zf s 8 4,Zf s 12 4]:=rfl
theorem Wy(s:List UInt8):Gm Zy s=Mn (Zf s 0 8:Int) (Zf s 8 4:Int) (Zf s 12 4:Int):=by
 unfold Gm Pv Mn
 rw[Iu]
 simp[Zy,List.range,List.range.loop,inP,List.getD,Xy,Bool.and_assoc]
theorem Bn:(Hq Zy Zy.length).sum=16:=rfl
def UnpRP(s:List UInt8)(w:World)(e:Ending)(w':World):Prop :=
 (¬ Zf s 0 8<9223372036854775808∧e=.returned (.tuple #[.slice none 0 0,.int .i64 2])∧Below w.heap.size w w') ∨
 (Zf s 0 8<9223372036854775808∧∃ p c,e=.returned (.tuple #[.slice p 3 c,.int .i64 0])∧Below w.heap.size w w'∧w'.ownsRow w.heap.size 3 1 (.slice p 3 c) 3 (([Zf s 0 8,Zf s 8 4,Zf s 12 4]:List Nat).map nv))
theorem Zej(a:Option Addr)(n c:Nat)(s:List UInt8)(g:Nat)(w:World)(hn:s.length=n)(h16:n=16)(h:Bys w (.slice a n c) s)(kg:Blk w g [.int .i64 8,.int .i64 4,.int .i64 4] 3) :
 Calls Tryz.prog 77 #[.slice a n c,.slice (some ⟨g,0,none⟩) 3 3] w (UnpRP s w):=by
 subst hn
 have hk:∀ i,i<([8,4,4]:List Nat).length→([8,4,4]:List Nat).getD i 0=1∨([8,4,4]:List Nat).getD i 0=2∨([8,4,4]:List Nat).getD i 0=4∨([8,4,4]:List Nat).getD i 0=8:=by decide
 have hws:Sl w (.slice (some ⟨g,0,none⟩) 3 3) 3 (([8,4,4]:List Nat).map nv):=kg.sl 3 3 (by decide) (by decide)
 have h1:=Yo s 8 4 (by decide)
 have h2:=Yo s 12 4 (by decide)
 by_cases hq:Zf s 0 8<9223372036854775808
 ·refine(Px a c s (some ⟨g,0,none⟩) 3 [8,4,4] w hk (by rw[h16];decide) (by omega) (by decide) h hws ?_).mono ?_
  ·intro i hi
   have hi':i<3:=hi
   obtain rfl|rfl|rfl:i=0∨i=1∨i=2:=by omega
   ·exact hq
   ·show Zf s 8 4<_;omega
   ·show Zf s 12 4<_;omega
  ·rintro e W ⟨_,rfl,hb,p,c2,rfl,ho⟩
   exact .inr ⟨hq,p,c2,rfl,hb,ho⟩
 ·refine(Ew a c s (some ⟨g,0,none⟩) 3 [8,4,4] w hk (by rw[h16];decide) (by omega) (by decide) h hws ?_).mono ?_
  ·intro q;exact hq (q 0 (by decide))
  ·rintro e W ⟨rfl,hb⟩
   exact .inl ⟨hq,rfl,hb⟩
theorem Wf(s:List UInt8)(w:World)(hs:s.length≤1000) :
 Calls Tryz.prog 142 #[.string ⟨s.toArray⟩] w (Ret (.tuple #[.agg #[.int .i64 (↑((Yb Zy s).getD 0 0):Int),.int .i64 (↑((Yb Zy s).getD 1 0):Int),.int .i64 (↑((Yb Zy s).getD 2 0):Int)],.int .i64 (Xk Zy s)]) w):=by
 refine zin 36 Tryz.func142 ?_
 refine xa 2 [.int .i64 0,.int .i64 0,.int .i64 0] 191 fun b1 W1 n1=>?_
 refine xin 11 (↑s.length:Int) (16:Int) (fun hc2=>?_) (fun hc2=>?_)
 ·refine xsv 3 n1.blk [.int .i64 0,.int .i64 0,.int .i64 0] fun W3 u3 k3=>?_
  have g1:=n1.ge (Below.refl w.heap.size _)
  have hB:=u3.below n1.below g1
  refine xec 5 k3 (.tuple #[.agg #[.int .i64 0,.int .i64 0,.int .i64 0],.int .i64 7]) ?_
  have he:Xk Zy s=7:=if_neg (by rw[Bn];omega)
  rw[Yb,he,if_neg (by decide)];exact⟨rfl,hB⟩
 refine xcf 5 fun _ _ _ zJ zQ zo zx zK=>Vl s zo zx Tryz.underlying9 Tryz.underlying22 Tryz.underlying5 (by omega) ?_
 intro bz cz W4 hb4 hbz
 refine zK _ _ ?_
 refine xbs 0 3 [.int .i64 8,.int .i64 4,.int .i64 4] 3 fun b5 W5 n5=>?_
 have hbz'1:=hbz.below n5.below
 refine xc 0 (args:=#[.slice (some ⟨bz,0,none⟩) s.length cz,.slice (some ⟨b5,0,none⟩) 3 3]) (Zej (some ⟨bz,0,none⟩) s.length cz s b5 _ rfl (by omega) hbz'1 n5.blk) ?_
 rintro e W6 hq6
 rcases hq6 with ⟨hq,rfl,hb6⟩|⟨hq,p5,c5,rfl,hb6,h5⟩
 ·have k1:=((n1.blk.below hb4).below n5.below).below hb6
  refine xsv 18 k1 [.int .i64 0,.int .i64 0,.int .i64 0] fun W7 u7 k7=>?_
  have g1:=n1.ge (Below.refl w.heap.size _)
  have hB:=u7.below (bln (bln (bln n1.below hb4) n5.below) hb6) g1
  refine xec 5 k7 (.tuple #[.agg #[.int .i64 0,.int .i64 0,.int .i64 0],.int .i64 2]) ?_
  have he:Xk Zy s=2:=by unfold Xk;rw[Bn,if_pos (by omega),Wy,show Mn (Zf s 0 8:Int) (Zf s 8 4:Int) (Zf s 12 4:Int)=false from by unfold Mn;rw[decide_eq_false (by omega)];rfl,if_neg (by decide)]
  rw[Yb,he,if_neg (by decide)];exact⟨rfl,hB⟩
 have hs6:=(bln (bln n1.below hb4) n5.below).size
 refine xd 18 (.t w.heap.size [191]) ?_
 have h5'1:=Zb (Zd h5 hs6) (Za W6)
 refine xx (.e [0] 1) _ 3 0 1 (Zi (l:=[Zf s 0 8,Zf s 8 4,Zf s 12 4]) (Ze h5'1) rfl (k:=0) (by decide)).1 ?_
 refine xlt (.e [] 2) (.t w.heap.size [191]) (fun V hV=>(Zi (l:=[Zf s 0 8,Zf s 8 4,Zf s 12 4]) (Ze (Zj h5'1 hV.2 (by decide))) rfl (k:=0) (by decide)).2) ?_
 refine xx (.e [3] 4) _ 3 1 1 (Zi (l:=[Zf s 0 8,Zf s 8 4,Zf s 12 4]) (Ze h5'1) rfl (k:=1) (by decide)).1 ?_
 refine xlt (.e [] 5) (.t w.heap.size [191]) (fun V hV=>(Zi (l:=[Zf s 0 8,Zf s 8 4,Zf s 12 4]) (Ze (Zj h5'1 hV.2 (by decide))) rfl (k:=1) (by decide)).2) ?_
 refine xx (.e [6] 7) _ 3 2 1 (Zi (l:=[Zf s 0 8,Zf s 8 4,Zf s 12 4]) (Ze h5'1) rfl (k:=2) (by decide)).1 ?_
 refine xlt (.e [] 8) (.t w.heap.size [191]) (fun V hV=>(Zi (l:=[Zf s 0 8,Zf s 8 4,Zf s 12 4]) (Ze (Zj h5'1 hV.2 (by decide))) rfl (k:=2) (by decide)).2) ?_
 refine xa (.o [9] 10) [.int .i64 0,.int .i64 0,.int .i64 0] 191 fun b8 W8 n8=>?_
 have k1:=(((n1.blk.below hb4).below n5.below).below hb6).below (Za W6)
 have d8_b1:=n8.ne k1
 have g8:=n8.ge (bln (bln (bln (bln n1.below hb4) n5.below) hb6) (Za W6))
 refine ysv (.o [] 11) n8.blk [.int .i64 (↑(Zf s 0 8):Int),.int .i64 (↑(Zf s 8 4):Int),.int .i64 (↑(Zf s 12 4):Int)] (.t w.heap.size [191]) fun W9 u9 k9=>⟨(Zx u9 n8.blk g8 (by decide)),?_⟩
 refine xlv 5 k9.rp ?_
 refine xc 0 (args:=#[.agg #[.int .i64 (↑(Zf s 0 8):Int),.int .i64 (↑(Zf s 8 4):Int),.int .i64 (↑(Zf s 12 4):Int)]]) (Zdz (↑(Zf s 0 8):Int) (↑(Zf s 8 4):Int) (↑(Zf s 12 4):Int) _) ?_
 rintro e W10 hq10
 rcases hq10 with ⟨hsb,rfl,hb10⟩|⟨hsb,rfl,hb10⟩
 ·have k1'1:=(u9.blk (k1.below n8.below) (Ne.symm (Ne.symm d8_b1))).below hb10
  refine xsv 7 k1'1 [.int .i64 0,.int .i64 0,.int .i64 0] fun W11 u11 k11=>?_
  have g1:=n1.ge (Below.refl w.heap.size _)
  have hB:=u11.below (bln (u9.below (bln (bln (bln (bln (bln n1.below hb4) n5.below) hb6) (Za W6)) n8.below) g8) hb10) g1
  refine xec 5 k11 (.tuple #[.agg #[.int .i64 0,.int .i64 0,.int .i64 0],.int .i64 2]) ?_
  have he:Xk Zy s=2:=by unfold Xk;rw[Bn,if_pos (by omega),Wy,hsb,if_neg (by decide)]
  rw[Yb,he,if_neg (by decide)];exact⟨rfl,hB⟩
 refine xk 3 (show(((⟨(Zc7 [(↑(Zf s 0 8):Int),(↑(Zf s 8 4):Int),(↑(Zf s 12 4):Int)] [8,4,4] 3).toArray⟩:ByteArray).toList==(⟨#[]⟩:ByteArray).toList):Bool)=false from txt3_ne _ _ _) ?_
 have k9'1:=k9.below hb10
 refine xlv 4 k9'1.rp ?_
 have k1'2:=(u9.blk (k1.below n8.below) (Ne.symm (Ne.symm d8_b1))).below hb10
 refine xsv 0 k1'2 [.int .i64 (↑(Zf s 0 8):Int),.int .i64 (↑(Zf s 8 4):Int),.int .i64 (↑(Zf s 12 4):Int)] fun W12 u12 k12=>?_
 have g1:=n1.ge (Below.refl w.heap.size _)
 have hB:=u12.below (bln (u9.below (bln (bln (bln (bln (bln n1.below hb4) n5.below) hb6) (Za W6)) n8.below) g8) hb10) g1
 refine xec 4 k12 (.tuple #[.agg #[.int .i64 (↑(Zf s 0 8):Int),.int .i64 (↑(Zf s 8 4):Int),.int .i64 (↑(Zf s 12 4):Int)],.int .i64 0]) ?_
 have he:Xk Zy s=0:=by unfold Xk;rw[Bn,if_pos (by omega),Wy,hsb,if_pos rfl]
 rw[Yb,he,if_pos rfl,Iu];exact⟨rfl,hB⟩
theorem Fg(a b:Option Addr)(ca cb:Nat)(l:List Int)(w:World)(ha:Ints w (.slice a l.length ca) l)(hb:Ints w (.slice b l.length cb) l) :
 Calls Tryz.prog 18 #[.slice a l.length ca,.slice b l.length cb] w (Ret (.bool true) w):=by
 have hLa:=Sl.len ha
 refine zin 26 Tryz.func18 ?_
 refine xk 15 (show(((↑l.length:Int) != (↑l.length:Int)):Bool)=false from by simp) ?_
 have hB:=Below.refl w.heap.size w
 refine zl 9 26 (fun zm zkv V=>∃ (i:Nat),zkv=[(0,.slice a l.length ca),(1,.slice b l.length cb),(5,.int .i64 (↑i:Int))]∧zm=l.length-((↑i:Int)).toNat∧Below w.heap.size w V∧i≤l.length) ⟨0,rfl,rfl,hB,Nat.zero_le _⟩ ?_
 rintro _ _ W1 ⟨i,rfl,rfl,hB_1,hi⟩ J1 hJ1 r1
 refine xid 9 ((↑i:Int)<(↑l.length:Int)) (fun hc2=>?_) (fun hc2=>?_)
 ·refine xd 5 .z ?_
  refine xx (.e [0,1] 2) _ l.length i 1 (Ints.elem ha (k:=i) (by omega)).1 ?_
  have hB'1:=bln hB_1 (Za W1)
  refine xl (.e [] 3) ((Ints.elem (ha.below hB'1) (k:=i) (by omega)).2) ?_
  refine xx (.e [4,5] 6) _ l.length i 1 (Ints.elem hb (k:=i) (by omega)).1 ?_
  refine xl (.e [] 7) ((Ints.elem (hb.below hB'1) (k:=i) (by omega)).2) ?_
  refine xk (.r [8] 2) (show(((l.getD i 0) != (l.getD i 0)):Bool)=false from by simp) ?_
  refine xwm 5 ((↑i:Int)+1) (↑(i+1):Int) ?_
  exact ze 2 (hJ1 _ _ _ ⟨i+1,rfl,rfl,hB'1,by omega⟩ (by omega))
 exact xe 11 (.bool true) ⟨rfl,hB_1⟩
theorem ImgR.mono{B B' b:Nat}{p:Option Addr}{n c:Nat}{l:List UInt8}{w:World}(h:ImgR B b p n c l w)(hB:B'≤B):ImgR B' b p n c l w:=⟨h.blk,Zd h.row hB,h.hn⟩
theorem image_OfR(a:Option Addr)(c n m:Nat)(l:List UInt8)(w:World)(hn:l.length=n)(hm:min (n/256) 14400*256=m)(h:Bys w (.slice a n c) l)(hl:n≤100000000)(hc:n≤c) :
 Calls Tryz.prog 9 #[.slice a n c] w (Yz (fun w' r=>∃ b p c2,r=.pointer (some ⟨b,0,none⟩)∧w.heap.size≤b∧ImgR w.heap.size b p m c2 (l.take m) w') w):=by
 subst hn hm
 refine(Zbo a c l w h hl hc).mono ?_
 rintro e W ⟨_,rfl,hb,b,p,c2,rfl,h1,h2,h3⟩
 exact⟨_,rfl,hb,b,p,c2,rfl,h1,h2,h3,by omega⟩
theorem Dc(l:List UInt8)(i:Nat)(w:World)(hs:(Qb l i).length≤1000):Calls Tryz.prog 142 #[.string ⟨(Qb l i).toArray⟩] w (fun e w' =>
 (Xk Zy (Qb l i)=0∧e=.returned (.tuple #[.agg #[.int .i64 (Ys l i 0:Int),.int .i64 (Ys l i 1:Int),.int .i64 (Ys l i 2:Int)],.int .i64 0])∧Below w.heap.size w w') ∨
 (Xk Zy (Qb l i)≠0∧e=.returned (.tuple #[.agg #[.int .i64 (Ys l i 0:Int),.int .i64 (Ys l i 1:Int),.int .i64 (Ys l i 2:Int)],.int .i64 (Xk Zy (Qb l i))])∧Below w.heap.size w w')):=by
 refine(Wf (Qb l i) w hs).mono ?_
 rintro e W ⟨rfl,hb⟩
 by_cases h:Xk Zy (Qb l i)=0
 ·exact .inl ⟨h,by rw[h];rfl,hb⟩
 ·exact .inr ⟨h,rfl,hb⟩
theorem bysZ{w:World}{a:Option Addr}{c r:Nat}{l:List UInt8}(h:Bys w (.slice a 244 c) l)(hl:l.length=244)(hk:4+16*r≤244):Bys w (.slice (Qy a (4+16*r) c 1) (244-(4+16*r)) (c-(4+16*r))) (l.drop (4+r*16)):=by
 rw[Nat.mul_comm r 16];exact bysK h hl hk
theorem slot_cut{w:World}{a:Option Addr}{c i:Nat}{l:List UInt8}(h:Bys w (.slice a 244 c) l)(hl:l.length=244)(hi:i<15):Bys w (.slice (Qy a (4+16*i) c 1) (20+16*i-(4+16*i)) (c-(4+16*i))) (Qb l i):=by
 have:=Bys.cut h hl (4+16*i) (20+16*i) (by omega) (by omega)
 unfold Qb
 have e:20+16*i-(4+16*i)=16:=by omega
 rw[Nat.mul_comm i 16]
 rw[e] at this ⊢
 exact this
theorem Zan{i:Nat}{l:List UInt8}(hl:l.length=244)(hi:i<15):(Qb l i).length=20+16*i-(4+16*i):=by rw[Nn hl hi];omega
theorem Zeg(a:Option Addr)(c:Nat)(l:List UInt8)(w:World)(hl:l.length=244)(h:Bys w (.slice a 244 c) l) :
 Calls Tryz.prog 189 #[.slice a 244 c] w (SlotsP l w):=by
 have hcap:=Bys.cap h hl
 refine zin 54 Tryz.func189 ?_
 refine xr 20 (args:=#[.slice a 244 c,.int .i64 0,.int .i64 4]) (Nc a 244 c 0 4 0 4 l _ hl rfl rfl (by decide) (by decide) (by decide) (h.below (Below.refl w.heap.size _))) fun W1 hb1=>?_
 refine xg 13 [19,20] (decide ((↑(Zf l 0 4):Int)>(15:Int))) (fun hc2=>?_) (fun hc2=>?_)
 ·have hc2:=of_decide_eq_true hc2
  refine xe 19 (.tuple #[.slice none 0 0,.int .i64 7]) ?_
  have he:Wk l=7:=by unfold Wk Pb;rw[decide_eq_false (by omega),Bool.false_and,if_neg (by decide)]
  exact .inl ⟨by rw[he];decide,by rw[he],hb1⟩
 have hc2:=of_decide_eq_false hc2
 refine xwm 2 (16*(↑(Zf l 0 4):Int)) (↑(16*(Zf l 0 4)):Int) ?_
 refine xwm 0 (4+(↑(16*(Zf l 0 4)):Int)) (↑(4+(16*(Zf l 0 4))):Int) ?_
 refine xsL 0 (fun _ _ _ _ zo zx zy V=>Xv (k:=(4+(16*(Zf l 0 4)))) (b:=a) (n:=244) (c:=c) (i:=(↑(4+(16*(Zf l 0 4))):Int)) (ki:=.i64) 1 zo zx zy rfl (by omega) Tryz.underlying22 (by kernel_rfl) V) ?_
 refine xr 0 (args:=#[.slice (Qy a (4+(16*(Zf l 0 4))) c 1) (244-(4+(16*(Zf l 0 4)))) (c-(4+(16*(Zf l 0 4))))]) (Gx (Qy a (4+(16*(Zf l 0 4))) c 1) (244-(4+(16*(Zf l 0 4)))) (c-(4+(16*(Zf l 0 4)))) (l.drop (4+Zf l 0 4*16)) _ (by simp;omega) (by omega) ((bysZ h hl (by omega)).below hb1)) fun W3 hb3=>?_
 refine xi 4 (!(Yy (l.drop (4+Zf l 0 4*16)))) (fun hc4=>?_) (fun hc4=>?_)
 ·have hze:Yy (l.drop (4+Zf l 0 4*16))=false:=Zad hc4
  have hB'1:=bln hb1 hb3
  refine xe 8 (.tuple #[.slice none 0 0,.int .i64 7]) ?_
  have he:Wk l=7:=by unfold Wk Pb;rw[hze,Bool.and_false,if_neg (by decide)]
  exact .inl ⟨by rw[he];decide,by rw[he],hB'1⟩
 have hze:Yy (l.drop (4+Zf l 0 4*16))=true:=Zaj hc4
 have hB'2:=bln hb1 hb3
 refine zl 14 54 (fun zm zkv V=>∃ (i:Nat) (q:Option Addr) (d:Nat),zkv=[(0,.slice a 244 c),(4,.int .i64 (↑(Zf l 0 4):Int)),(6,.slice q i d),(7,.int .i64 (↑i:Int))]∧zm=(Zf l 0 4)-((↑i:Int)).toNat∧Below w.heap.size w V∧V.ownsRow w.heap.size 191 3 (.slice q i d) i ((Ux l i).flatMap Og)∧i≤(Zf l 0 4)∧Gv l i=0) ⟨0,_,_,rfl,rfl,hB'2,World.ownsRow_nil _ _ _ _,Nat.zero_le _,rfl⟩ ?_
 rintro _ _ W5 ⟨i,q,d,rfl,rfl,hB_5,ho,hi,hz⟩ J5 hJ5 r5
 refine xid 8 ((↑i:Int)<(↑(Zf l 0 4):Int)) (fun hc6=>?_) (fun hc6=>?_)
 ·refine xwm 8 (16*(↑i:Int)) (↑(16*i):Int) ?_
  refine xwm 0 (4+(↑(16*i):Int)) (↑(4+(16*i)):Int) ?_
  refine xwm 1 (16*(↑i:Int)) (↑(16*i):Int) ?_
  refine xwm 0 (20+(↑(16*i):Int)) (↑(20+(16*i)):Int) ?_
  refine xsB 0 (fun _ _ _ _ _ zo zx zy zz V=>Yj (k:=(4+(16*i))) (h:=(20+(16*i))) (b:=a) (n:=244) (c:=c) (i:=(↑(4+(16*i)):Int)) (ki:=.i64) (j:=(↑(20+(16*i)):Int)) (kj:=.i64) 1 zo zx zy rfl zz rfl (by omega) (by omega) Tryz.underlying22 (by kernel_rfl) V) ?_
  refine xcv0 0 (fun _ _ _ zo zx=>Yp zo zx ((slot_cut (i:=i) h hl (by omega)).below hB_5) (Zan (i:=i) hl (by omega)) Tryz.underlying22 Tryz.underlying5 Tryz.underlying9) ?_
  refine xc 0 (args:=#[.string ⟨(Qb l i).toArray⟩]) (Dc l i _ (by rw[Nn hl (by omega)];decide)) ?_
  rintro e W7 hq7
  rcases hq7 with ⟨hz0,rfl,hb7⟩|⟨hz0,rfl,hb7⟩
  ·refine xa 3 [.int .i64 0,.int .i64 0,.int .i64 0] 191 fun b8 W8 n8=>?_
   have hB'3:=bln hB_5 hb7
   have g8:=n8.ge hB'3
   have ho'1:=Zb ho hb7
   have r8_ho:=Zr ho'1 n8
   refine xsv 0 n8.blk [.int .i64 (↑(Ys l i 0):Int),.int .i64 (↑(Ys l i 1):Int),.int .i64 (↑(Ys l i 2):Int)] fun W9 u9 k9=>?_
   refine xlv 15 k9.rp ?_
   refine xbs 0 1 [.int .i64 (↑(Ys l i 0):Int),.int .i64 (↑(Ys l i 1):Int),.int .i64 (↑(Ys l i 2):Int)] 191 fun b10 W10 n10=>?_
   have d10_b8:=n10.ne k9
   have hB'4:=u9.below (bln hB'3 n8.below) g8
   have g10:=n10.ge hB'4
   have ho'2:=u9.own3 (Zb ho'1 n8.below) r8_ho
   have r10_ho:=Zr ho'2 n10
   have ho'3:=Zb ho'2 n10.below
   have hB'5:=bln hB'4 n10.below
   refine xbi 0 fun _ _ _ _ zJ zQ zo zx zy zK=>Zo (m:=1) (news:=[.int .i64 (↑(Ys l i 0):Int),.int .i64 (↑(Ys l i 1):Int),.int .i64 (↑(Ys l i 2):Int)]) (.agg #[.int .i64 0,.int .i64 0,.int .i64 0]) 3 24 (i+1) (((Ux l (i+1)).flatMap Og)) zo Tryz.underlying197 (by kernel_rfl) rfl (by decide) zx ho'3 zy (n10.blk.sl 1 1 (by decide) (by decide)) rfl (by simp[Value.oneCell']) (by unfold maxLen;omega) (by omega) hB'5.size (by rfl) (by rw[Fd,List.flatMap_append];rfl) fun px11 cx11 W11 o11 hg11 hb11=>?_
   refine zK _ _ ?_
   refine xwm 6 ((↑i:Int)+1) (↑(i+1):Int) ?_
   have hB'6:=hB'5.trans hb11
   exact ze 2 (hJ5 _ _ _ ⟨i+1,_,_,rfl,rfl,hB'6,o11,by omega,Nw hz hz0⟩ (by omega))
  refine xa 3 [.int .i64 0,.int .i64 0,.int .i64 0] 191 fun b12 W12 n12=>?_
  have hB'7:=bln hB_5 hb7
  have g12:=n12.ge hB'7
  have ho'4:=Zb ho hb7
  have r12_ho:=Zr ho'4 n12
  refine xsv 0 n12.blk [.int .i64 (↑(Ys l i 0):Int),.int .i64 (↑(Ys l i 1):Int),.int .i64 (↑(Ys l i 2):Int)] fun W13 u13 k13=>?_
  refine xk 10 (show(((Xk Zy (Qb l i)) != (0:Int)):Bool)=true from bne_iff_ne.2 hz0) ?_
  have hB'8:=u13.below (bln hB'7 n12.below) g12
  refine xe 13 (.tuple #[.slice none 0 0,.int .i64 2]) ?_
  have hok:Pb l=true:=by unfold Pb;rw[hze,decide_eq_true (by omega)];rfl
  have h2:Xk Zy (Qb l i)=2:=(slot_two hl (by omega)).resolve_left hz0
  have he:Wk l=2:=by unfold Wk;rw[if_pos hok,Zc8 hz hz0 (by omega),h2]
  exact .inl ⟨by rw[he];decide,by rw[he],hB'8⟩
 refine xe 13 (.tuple #[.slice q i d,.int .i64 0]) ?_
 have hok:Pb l=true:=by unfold Pb;rw[hze,decide_eq_true (by omega)];rfl
 obtain rfl:i=Zf l 0 4:=by omega
 exact .inr ⟨by unfold Wk;rw[if_pos hok,hz],_,_,rfl,hB_5,ho⟩
def Tq(l:List UInt8)(no:Int):List Int:=if Xh l no=0 then Uq (inB l no) (Zf (inB l no) 0 4) else []
def Wh(l:List UInt8)(no:Int):List (Nat×Nat×Nat):=if Xl l no=0 then Ux (inB l no) (Zf (inB l no) 0 4) else []
theorem Rz{l:List UInt8}{no:Int}(h:Xh l no=0):Tq l no=Uq (inB l no) (Zf (inB l no) 0 4)∧(Tq l no).length=Zf (inB l no) 0 4:=by unfold Tq;rw[if_pos h];exact⟨rfl,Bj _ _⟩
theorem Ta{l:List UInt8}{no:Int}(h:Xh l no≠0):Tq l no=[]:=if_neg h
theorem Mr{l:List UInt8}{no:Int}(h:Xl l no=0):Wh l no=Ux (inB l no) (Zf (inB l no) 0 4)∧(Wh l no).length=Zf (inB l no) 0 4:=by unfold Wh;rw[if_pos h];exact⟨rfl,An _ _⟩
theorem Bk{l:List UInt8}{no:Int}(h:Xl l no≠0):Wh l no=[]:=if_neg h
theorem bitI_map(l:List UInt8)(n:Nat):(Uq l n).map (Value.int .i64)=(Lz l n).map nv:=by simp[Uq,nv]
def RBitsU(l:List UInt8)(no:Int)(w:World)(e:Ending)(w':World):Prop :=
 ∃ p c a5 c5,e=.returned (.tuple #[.slice p (Tq l no).length c,.agg #[.slice a5 (Jp no (Xh l no)).length c5,.int .i64 (Xh l no)]])∧Below w.heap.size w w'∧w'.ownsRow w.heap.size 3 1 (.slice p (Tq l no).length c) (Tq l no).length ((Tq l no).map (Value.int .i64))∧w'.ownsRow w.heap.size 3 1 (.slice a5 (Jp no (Xh l no)).length c5) (Jp no (Xh l no)).length ((Jp no (Xh l no)).map (Value.int .i64))
def RIdxU(l:List UInt8)(no:Int)(w:World)(e:Ending)(w':World):Prop :=
 ∃ p c a5 c5,e=.returned (.tuple #[.slice p (Wh l no).length c,.agg #[.slice a5 (Jp no (Xl l no)).length c5,.int .i64 (Xl l no)]])∧Below w.heap.size w w'∧w'.ownsRow w.heap.size 191 3 (.slice p (Wh l no).length c) (Wh l no).length ((Wh l no).flatMap Og)∧w'.ownsRow w.heap.size 3 1 (.slice a5 (Jp no (Xl l no)).length c5) (Jp no (Xl l no)).length ((Jp no (Xl l no)).map (Value.int .i64))
theorem rbitsU_ok{l:List UInt8}{no:Int}{w W:World}{p a5:Option Addr}{c c5:Nat}(he:Xh l no=0)(hb:Below w.heap.size w W)(ho:W.ownsRow w.heap.size 3 1 (.slice p (Zf (inB l no) 0 4) c) (Zf (inB l no) 0 4) ((Uq (inB l no) (Zf (inB l no) 0 4)).map (Value.int .i64)))(h5:W.ownsRow w.heap.size 3 1 (.slice a5 (Jp no 0).length c5) (Jp no 0).length ((Jp no 0).map (Value.int .i64))) :
 RBitsU l no w (.returned (.tuple #[.slice p (Zf (inB l no) 0 4) c,.agg #[.slice a5 (Jp no 0).length c5,.int .i64 0]])) W:=by
 obtain⟨h1,h2⟩:=Rz he
 refine⟨p,c,a5,c5,by rw[h2,he],hb,?_,by rw[he];exact h5⟩
 rw[h2,h1];exact ho
theorem Fi{l:List UInt8}{no er:Int}{w W:World}{a5:Option Addr}{c5:Nat}(he:Xh l no=er)(hz:er≠0)(hb:Below w.heap.size w W)(h5:W.ownsRow w.heap.size 3 1 (.slice a5 (Jp no er).length c5) (Jp no er).length ((Jp no er).map (Value.int .i64))) :
 RBitsU l no w (.returned (.tuple #[.slice none 0 0,.agg #[.slice a5 (Jp no er).length c5,.int .i64 er]])) W:=by
 subst he
 refine⟨none,0,a5,c5,by rw[Ta hz];rfl,hb,?_,h5⟩
 rw[Ta hz];exact World.ownsRow_nil _ _ _ _
theorem ridxU_ok{l:List UInt8}{no:Int}{w W:World}{p a5:Option Addr}{c c5:Nat}(he:Xl l no=0)(hb:Below w.heap.size w W)(ho:W.ownsRow w.heap.size 191 3 (.slice p (Zf (inB l no) 0 4) c) (Zf (inB l no) 0 4) ((Ux (inB l no) (Zf (inB l no) 0 4)).flatMap Og))(h5:W.ownsRow w.heap.size 3 1 (.slice a5 (Jp no 0).length c5) (Jp no 0).length ((Jp no 0).map (Value.int .i64))) :
 RIdxU l no w (.returned (.tuple #[.slice p (Zf (inB l no) 0 4) c,.agg #[.slice a5 (Jp no 0).length c5,.int .i64 0]])) W:=by
 obtain⟨h1,h2⟩:=Mr he
 refine⟨p,c,a5,c5,by rw[h2,he],hb,?_,by rw[he];exact h5⟩
 rw[h2,h1];exact ho
theorem Am{l:List UInt8}{no er:Int}{w W:World}{a5:Option Addr}{c5:Nat}(he:Xl l no=er)(hz:er≠0)(hb:Below w.heap.size w W)(h5:W.ownsRow w.heap.size 3 1 (.slice a5 (Jp no er).length c5) (Jp no er).length ((Jp no er).map (Value.int .i64))) :
 RIdxU l no w (.returned (.tuple #[.slice none 0 0,.agg #[.slice a5 (Jp no er).length c5,.int .i64 er]])) W:=by
 subst he
 refine⟨none,0,a5,c5,by rw[Bk hz];rfl,hb,?_,h5⟩
 rw[Bk hz];exact World.ownsRow_nil _ _ _ _
theorem Zft(B bm:Nat)(p:Option Addr)(k c:Nat)(l:List UInt8)(no:Int)(w:World)(hI:RefI B bm p k c l w) :
 Calls Tryz.prog 140 #[.pointer (some ⟨bm,0,none⟩),.int .i64 no] w (RBitsU l no w):=by
 refine zin 30 Tryz.func140 ?_
 refine xa 3 [.slice none 0 0,.int .i64 0] 33 fun b1 W1 n1=>?_
 have hI'1:=hI.below n1.below
 refine xc 6 (args:=#[.pointer (some ⟨bm,0,none⟩),.int .i64 no,.int .i64 3]) (Tf B bm p k c l _ hI'1 no 3) ?_
 rintro e W2 hq2
 rcases hq2 with ⟨hse,rfl,hb2⟩|⟨hse,hil,p3,c3,rfl,hb2,h3⟩
 ·refine xk 14 (show(((inE l 3 no) != (0:Int)):Bool)=true from bne_iff_ne.2 hse) ?_
  refine xc 4 (args:=#[.int .i64 no,.int .i64 (inE l 3 no)]) (Hx no (inE l 3 no) _) ?_
  rintro _ W3 ⟨a5,c5,rfl,hb3,hQ5⟩
  have hs3:=(bln n1.below hb2).size
  have k1:=(n1.blk.below hb2).below hb3
  refine xsv 1 k1 [.slice a5 ((Jp no (inE l 3 no)).length) c5,.int .i64 (inE l 3 no)] fun W4 u4 k4=>?_
  have g1:=n1.ge (Below.refl w.heap.size _)
  have hB:=u4.below (bln (bln n1.below hb2) hb3) g1
  have hQ5'1:=u4.own2 (Zd hQ5 hs3) k1 (by decide)
  exact xec 4 k4 (.tuple #[.slice none 0 0,.agg #[.slice a5 ((Jp no (inE l 3 no)).length) c5,.int .i64 (inE l 3 no)]]) (Fi (by unfold Xh;rw[if_neg hse]) hse hB hQ5'1)
 have h3'1:=Zd h3 n1.below.size
 refine xc 20 (args:=#[.slice p3 244 c3]) (Zdt p3 c3 (inB l no) _ hil (Yk (Ze h3'1) hil)) ?_
 rintro e W5 hq5
 rcases hq5 with ⟨hz,rfl,hb5⟩|⟨hz,p4,c4,rfl,hb5,h4⟩
 ·refine xc 12 (args:=#[.int .i64 no,.int .i64 7]) (Hx no 7 _) ?_
  rintro _ W6 ⟨a5,c5,rfl,hb6,hQ5⟩
  have hs6:=(bln (bln n1.below hb2) hb5).size
  have k1:=((n1.blk.below hb2).below hb5).below hb6
  refine xsv 1 k1 [.slice a5 ((Jp no 7).length) c5,.int .i64 7] fun W7 u7 k7=>?_
  have g1:=n1.ge (Below.refl w.heap.size _)
  have hB:=u7.below (bln (bln (bln n1.below hb2) hb5) hb6) g1
  have hQ5'2:=u7.own2 (Zd hQ5 hs6) k1 (by decide)
  exact xec 3 k7 (.tuple #[.slice none 0 0,.agg #[.slice a5 ((Jp no 7).length) c5,.int .i64 7]]) (Fi (by unfold Xh;rw[if_pos hse,hz,if_neg (by decide)]) (by decide) hB hQ5'2)
 have hs5:=(bln n1.below hb2).size
 refine xc 12 (args:=#[.int .i64 no,.int .i64 0]) (Hx no 0 _) ?_
 rintro _ W8 ⟨a5,c5,rfl,hb8,hQ5⟩
 have hs8:=(bln (bln n1.below hb2) hb5).size
 have k1:=((n1.blk.below hb2).below hb5).below hb8
 refine xsv 1 k1 [.slice a5 ((Jp no 0).length) c5,.int .i64 0] fun W9 u9 k9=>?_
 have g1:=n1.ge (Below.refl w.heap.size _)
 have hB:=u9.below (bln (bln (bln n1.below hb2) hb5) hb8) g1
 have h4'1:=u9.own2 (Zb (Zd h4 hs5) hb8) k1 (by decide)
 have hQ5'3:=u9.own2 (Zd hQ5 hs8) k1 (by decide)
 exact xec 3 k9 (.tuple #[.slice p4 (Zf (inB l no) 0 4) c4,.agg #[.slice a5 ((Jp no 0).length) c5,.int .i64 0]]) (rbitsU_ok (by unfold Xh;rw[if_pos hse,if_pos hz]) hB h4'1 hQ5'3)
theorem Za0(B bm:Nat)(p:Option Addr)(k c:Nat)(l:List UInt8)(no:Int)(w:World)(hI:RefI B bm p k c l w) :
 Calls Tryz.prog 138 #[.pointer (some ⟨bm,0,none⟩),.int .i64 no] w (RIdxU l no w):=by
 refine zin 30 Tryz.func138 ?_
 refine xa 3 [.slice none 0 0,.int .i64 0] 33 fun b1 W1 n1=>?_
 have hI'1:=hI.below n1.below
 refine xc 6 (args:=#[.pointer (some ⟨bm,0,none⟩),.int .i64 no,.int .i64 4]) (Tf B bm p k c l _ hI'1 no 4) ?_
 rintro e W2 hq2
 rcases hq2 with ⟨hse,rfl,hb2⟩|⟨hse,hil,p3,c3,rfl,hb2,h3⟩
 ·refine xk 14 (show(((inE l 4 no) != (0:Int)):Bool)=true from bne_iff_ne.2 hse) ?_
  refine xc 4 (args:=#[.int .i64 no,.int .i64 (inE l 4 no)]) (Hx no (inE l 4 no) _) ?_
  rintro _ W3 ⟨a5,c5,rfl,hb3,hQ5⟩
  have hs3:=(bln n1.below hb2).size
  have k1:=(n1.blk.below hb2).below hb3
  refine xsv 1 k1 [.slice a5 ((Jp no (inE l 4 no)).length) c5,.int .i64 (inE l 4 no)] fun W4 u4 k4=>?_
  have g1:=n1.ge (Below.refl w.heap.size _)
  have hB:=u4.below (bln (bln n1.below hb2) hb3) g1
  have hQ5'1:=u4.own2 (Zd hQ5 hs3) k1 (by decide)
  exact xec 4 k4 (.tuple #[.slice none 0 0,.agg #[.slice a5 ((Jp no (inE l 4 no)).length) c5,.int .i64 (inE l 4 no)]]) (Am (by unfold Xl;rw[if_neg hse]) hse hB hQ5'1)
 have h3'1:=Zd h3 n1.below.size
 refine xc 20 (args:=#[.slice p3 244 c3]) (Zeg p3 c3 (inB l no) _ hil (Yk (Ze h3'1) hil)) ?_
 rintro e W5 hq5
 rcases hq5 with ⟨hz,rfl,hb5⟩|⟨hz,p4,c4,rfl,hb5,h4⟩
 ·refine xc 12 (args:=#[.int .i64 no,.int .i64 (Wk (inB l no))]) (Hx no (Wk (inB l no)) _) ?_
  rintro _ W6 ⟨a5,c5,rfl,hb6,hQ5⟩
  have hs6:=(bln (bln n1.below hb2) hb5).size
  have k1:=((n1.blk.below hb2).below hb5).below hb6
  refine xsv 1 k1 [.slice a5 ((Jp no (Wk (inB l no))).length) c5,.int .i64 (Wk (inB l no))] fun W7 u7 k7=>?_
  have g1:=n1.ge (Below.refl w.heap.size _)
  have hB:=u7.below (bln (bln (bln n1.below hb2) hb5) hb6) g1
  have hQ5'2:=u7.own2 (Zd hQ5 hs6) k1 (by decide)
  exact xec 3 k7 (.tuple #[.slice none 0 0,.agg #[.slice a5 ((Jp no (Wk (inB l no))).length) c5,.int .i64 (Wk (inB l no))]]) (Am (by unfold Xl;rw[if_pos hse]) hz hB hQ5'2)
 have hs5:=(bln n1.below hb2).size
 refine xc 12 (args:=#[.int .i64 no,.int .i64 0]) (Hx no 0 _) ?_
 rintro _ W8 ⟨a5,c5,rfl,hb8,hQ5⟩
 have hs8:=(bln (bln n1.below hb2) hb5).size
 have k1:=((n1.blk.below hb2).below hb5).below hb8
 refine xsv 1 k1 [.slice a5 ((Jp no 0).length) c5,.int .i64 0] fun W9 u9 k9=>?_
 have g1:=n1.ge (Below.refl w.heap.size _)
 have hB:=u9.below (bln (bln (bln n1.below hb2) hb5) hb8) g1
 have h4'1:=u9.own2 (Zb (Zd h4 hs5) hb8) k1 (by decide)
 have hQ5'3:=u9.own2 (Zd hQ5 hs8) k1 (by decide)
 exact xec 3 k9 (.tuple #[.slice p4 (Zf (inB l no) 0 4) c4,.agg #[.slice a5 ((Jp no 0).length) c5,.int .i64 0]]) (ridxU_ok (by unfold Xl;rw[if_pos hse,hz]) hB h4'1 hQ5'3)
end Go.Proofs.YtlmaglneeaecdaaGreatDoor
namespace Go.Proofs.YtlmaglneeaecdaaGreatDoor
set_option maxHeartbeats 8000000
set_option maxRecDepth 100000
set_option linter.unusedVariables false
abbrev Rx:=Int×Int×Int
abbrev Cx:=List Nat×List Int×Int
def Er(no t:Int)(leaf:Bool)(v:List UInt8):Rx :=
 if leaf=true∧t=4 then(if Xk Zy v≠0 then(no,7,Xk Zy v) else(((Yb Zy v).getD 0 0:Nat),7,0))
 else if Xx v≠0 then(no,(if leaf then 2 else t),Xx v) else((Vg v:Int),(if leaf then 2 else t),0)
def Kh(t:Int)(leaf:Bool):Prop:=leaf=true∧t≠1∧t≠4
instance (t:Int) (leaf:Bool):Decidable (Kh t leaf):=inferInstanceAs (Decidable (_∧_∧_))
def Gq(l:List UInt8)(no ak:Int):Int:=if ak=6 then Xl l no else if ak=7 then Xh l no else Xg l no ak
def Zc0(l:List UInt8)(no:Int):List Rx:=if Kh (Xm (inB l no)) (Xr (inB l no)) then [] else(Yx l no).map (Er no (Xm (inB l no)) (Xr (inB l no)))
def Kb(s:Nat×Nat×Nat):Rx:=((s.1:Int),7,0)
def Wz(l:List UInt8)(no ak:Int):List Rx:=if ak=6 then(Wh l no).map Kb else if ak=7 then [] else Zc0 l no
def Qr(f:List Nat→Rx→Cx):List Nat→List Rx→Cx
 | cs,[]=>(cs,[],0)
 | cs,x::r=>if(f cs x).2.2≠0 then f cs x else Qr f (f cs x).1 r
def Jy(cs:List Nat)(k:Int):List Nat:=cs.set k.toNat (cs.getD k.toNat 0+1)
def Zu(l:List UInt8):Nat→List Nat→Rx→Cx
 | 0,cs,x=>(cs,[],0)
 | d+1,cs,x =>
  if x.2.2≠0 then(cs,[x.1],x.2.2)
  else if ¬ (0≤x.1∧x.1<cs.length) then(cs,[x.1],3)
  else if cs.getD x.1.toNat 0≠0 then(Jy cs x.1,[],0)
  else if Gq l x.1 x.2.1≠0 then(Jy cs x.1,[x.1],Gq l x.1 x.2.1)
  else Qr (Zu l d) (Jy cs x.1) (Wz l x.1 x.2.1)
def zer (cs:List Nat):Nat:=cs.count 0
def phi (cs:List Nat):Nat:=cs.sum+2001*zer cs
theorem Vo(cs:List Nat)(k:Int):(Jy cs k).length=cs.length:=by simp[Jy]
theorem sum_set{cs:List Nat}{k:Nat}(h:k<cs.length)(v:Nat):(cs.set k v).sum+cs.getD k 0=cs.sum+v:=by
 induction cs generalizing k with
 | nil=>exact absurd h (by simp)
 | cons a cs ih =>
  cases k with
  | zero=>simp[List.getD];omega
  | succ k =>
   have:=ih (k:=k) (by simpa using h)
   simp only[List.set_cons_succ,List.sum_cons,List.getD_cons_succ]
   omega
theorem zer_set{cs:List Nat}{k:Nat}(h:k<cs.length){v:Nat}(hv:v≠0):zer (cs.set k v)+(if cs.getD k 0=0 then 1 else 0)=zer cs:=by
 unfold zer
 induction cs generalizing k with
 | nil=>exact absurd h (by simp)
 | cons a cs ih =>
  cases k with
  | zero =>
   simp only[List.set_cons_zero,List.count_cons,List.getD_cons_zero]
   have:(v==0)=false:=by simpa using hv
   rw[this]
   by_cases e:a=0<;>simp[e]
  | succ k =>
   have:=ih (k:=k) (by simpa using h)
   simp only[List.set_cons_succ,List.count_cons,List.getD_cons_succ]
   omega
theorem Ki{cs:List Nat}{k:Int}(h0:0≤k)(h:k<cs.length):zer (Jy cs k)+(if cs.getD k.toNat 0=0 then 1 else 0)=zer cs:=zer_set (by omega) (by omega)
theorem Pu{cs:List Nat}{k:Int}(h0:0≤k)(h:k<cs.length):(Jy cs k).sum=cs.sum+1:=by
 have:=sum_set (cs:=cs) (k:=k.toNat) (by omega) (cs.getD k.toNat 0+1)
 unfold Jy;omega
theorem getD_sum(cs:List Nat)(k:Nat):cs.getD k 0≤cs.sum:=by
 induction cs generalizing k with
 | nil=>simp
 | cons a cs ih =>
  cases k with
  | zero=>simp[List.getD]
  | succ k=>have:=ih k;simp only[List.getD_cons_succ,List.sum_cons];omega
theorem Zb2(cs:List Nat)(k:Nat):cs.getD k 0≤phi cs:=Nat.le_trans (getD_sum cs k) (Nat.le_add_right _ _)
theorem Ya(f:List Nat→Rx→Cx)(cs:List Nat)(x:Rx)(r:List Rx):Qr f cs (x::r)=if(f cs x).2.2≠0 then f cs x else Qr f (f cs x).1 r:=rfl
theorem Jm(f:List Nat→Rx→Cx):∀ (A B:List Rx) (cs:List Nat),Qr f cs (A++B)=if(Qr f cs A).2.2≠0 then Qr f cs A else Qr f (Qr f cs A).1 B
 | [],B,cs=>by simp[Qr]
 | x::A,B,cs=>by
  rw[List.cons_append,Ya,Ya]
  by_cases h:(f cs x).2.2≠0
  ·rw[if_pos h,if_pos h,if_pos h]
  ·rw[if_neg h,if_neg h]
   exact Jm f A B _
structure Well(cs:List Nat)(n:Nat)(o:Cx):Prop where
 len:o.1.length=cs.length
 zer:zer o.1≤zer cs
 phi:phi o.1≤phi cs+n
theorem Well.refl(cs:List Nat)(n:Nat)(b:List Int)(e:Int):Well cs n (cs,b,e):=⟨rfl,Nat.le_refl _,Nat.le_add_right _ _⟩
theorem Well.mono{cs:List Nat}{n m:Nat}{o:Cx}(h:Well cs n o)(hm:n≤m):Well cs m o:=⟨h.len,h.zer,by have:=h.phi;omega⟩
theorem Well.trans{cs:List Nat}{n m:Nat}{o o2:Cx}(h:Well cs n o)(k:Well o.1 m o2):Well cs (n+m) o2:=⟨k.len.trans h.len,Nat.le_trans k.zer h.zer,by have:=h.phi;have:=k.phi;omega⟩
theorem Mc{f:List Nat→Rx→Cx}(hf:∀ cs x,Well cs 1 (f cs x)):∀ (L:List Rx) (cs:List Nat),Well cs L.length (Qr f cs L)
 | [],cs=>Well.refl cs _ _ _
 | x::r,cs=>by
  rw[Ya]
  split
  ·exact(hf cs x).mono (by simp)
  ·have:=(hf cs x).trans (Mc hf r (f cs x).1)
   exact this.mono (by simp;omega)
theorem maxC(l:List UInt8)(no ak:Int)(h:Xg l no ak=0):Xf (inB l no)≤18:=Nat.le_trans (Hz (Zai (Cw (Fy h).2))) (maxG_18 _ _)
theorem Bh(l:List UInt8)(no:Int):(Wh l no).length≤255:=by
 by_cases h:Xl l no=0
 ·rw[(Mr h).2]
  unfold Xl at h
  by_cases h1:inE l 4 no=0
  ·rw[if_pos h1] at h
   unfold Wk at h
   by_cases h2:Pb (inB l no)=true
   ·have h3:(decide (Zf (inB l no) 0 4≤15)&&_)=true:=h2
    rw[Bool.and_eq_true] at h3
    have:=of_decide_eq_true h3.1
    omega
   ·rw[if_neg h2] at h;omega
  ·rw[if_neg h1] at h;exact absurd h h1
 ·rw[Bk h];exact Nat.zero_le _
theorem Zch{l:List UInt8}{no ak:Int}(h:Gq l no ak=0):(Wz l no ak).length≤1000:=by
 unfold Gq at h;unfold Wz
 split
 ·rw[List.length_map];have:=Bh l no;omega
 ·rename_i h6
  rw[if_neg h6] at h
  split
  ·exact Nat.zero_le _
  ·rename_i h7
   rw[if_neg h7] at h
   unfold Zc0
   split
   ·exact Nat.zero_le _
   ·rw[List.length_map]
    have:=maxC l no ak h
    unfold Yx;rw[Hj];omega
theorem Hy(l:List UInt8):∀ (d:Nat) (cs:List Nat) (x:Rx),Well cs 1 (Zu l d cs x)
 | 0,cs,x=>Well.refl cs _ _ _
 | d+1,cs,x=>by
  unfold Zu
  split
  ·exact Well.refl cs _ _ _
  ·split
   ·exact Well.refl cs _ _ _
   ·rename_i h1 h2
    have h2:0≤x.1∧x.1<cs.length:=Classical.not_not.1 h2
    have hz:=Ki h2.1 h2.2
    have hs:=Pu h2.1 h2.2
    have hb:Well cs 1 (Jy cs x.1,([]:List Int),0):=⟨Vo _ _,by show zer (Jy cs x.1)≤_;omega,by show phi (Jy cs x.1)≤_;unfold phi;omega⟩
    split
    ·exact hb
    ·rename_i h3
     split
     ·exact⟨hb.len,hb.zer,hb.phi⟩
     ·rename_i h4
      have hw:=Mc (Hy l d) (Wz l x.1 x.2.1) (Jy cs x.1)
      have hf:=Zch (Classical.not_not.1 h4)
      rw[if_pos (Classical.not_not.1 h3)] at hz
      refine⟨hw.len.trans (Vo _ _),Nat.le_trans hw.zer hb.zer,?_⟩
      have:=hw.phi
      unfold phi at this ⊢
      omega
theorem Wl{f g:List Nat→Rx→Cx}{n:Nat}(hf:∀ cs x,Well cs 1 (f cs x))(h:∀ cs x,zer cs≤n→f cs x=g cs x):∀ (L:List Rx) (cs:List Nat),zer cs≤n→Qr f cs L=Qr g cs L
 | [],cs,_=>rfl
 | x::r,cs,hn=>by
  rw[Ya,Ya,h cs x hn]
  split
  ·rfl
  ·have:=(hf cs x).zer
   rw[h cs x hn] at this
   exact Wl hf h r _ (Nat.le_trans this hn)
theorem Cl(l:List UInt8):∀ (d d':Nat) (cs:List Nat) (x:Rx),zer cs<d→zer cs<d'→Zu l d cs x=Zu l d' cs x
 | 0,_,_,_,h,_=>absurd h (by omega)
 | _+1,0,_,_,_,h=>absurd h (by omega)
 | d+1,d'+1,cs,x,h,h'=>by
  unfold Zu
  by_cases h1:x.2.2≠0
  ·rw[if_pos h1,if_pos h1]
  ·rw[if_neg h1,if_neg h1]
   by_cases h2:¬ (0≤x.1∧x.1<cs.length)
   ·rw[if_pos h2,if_pos h2]
   ·rw[if_neg h2,if_neg h2]
    by_cases h3:cs.getD x.1.toNat 0≠0
    ·rw[if_pos h3,if_pos h3]
    ·rw[if_neg h3,if_neg h3]
     by_cases h4:Gq l x.1 x.2.1≠0
     ·rw[if_pos h4,if_pos h4]
     ·rw[if_neg h4,if_neg h4]
      have h2':=Classical.not_not.1 h2
      have hz:=Ki h2'.1 h2'.2
      rw[if_pos (Classical.not_not.1 h3)] at hz
      exact Wl (n:=zer (Jy cs x.1)) (Hy l d) (fun cs' x' hn=>Cl l d d' cs' x' (by omega) (by omega)) _ _ (Nat.le_refl _)
def Xz(l:List UInt8)(cs:List Nat)(L:List Rx):Cx:=Qr (Zu l (cs.length+1)) cs L
theorem zer_le(cs:List Nat):zer cs≤cs.length:=List.count_le_length
theorem Nv{l:List UInt8}{cs:List Nat}{x:Rx}{r:List Rx}(h:x.2.2≠0):Xz l cs (x::r)=(cs,[x.1],x.2.2):=by
 have e:Zu l (cs.length+1) cs x=(cs,[x.1],x.2.2):=if_pos h
 unfold Xz;rw[Ya,e,if_pos h]
theorem Mh{l:List UInt8}{cs:List Nat}{x:Rx}{r:List Rx}(h:x.2.2=0)(h2:¬ (0≤x.1∧x.1<cs.length)):Xz l cs (x::r)=(cs,[x.1],3):=by
 have e:Zu l (cs.length+1) cs x=(cs,[x.1],3):=by unfold Zu;rw[if_neg (fun q=>q h),if_pos h2]
 unfold Xz;rw[Ya,e,if_pos (show(3:Int)≠0 by decide)]
theorem Zau{l:List UInt8}{cs:List Nat}{x:Rx}{r:List Rx}(h:x.2.2=0)(h2:0≤x.1∧x.1<cs.length)(h3:cs.getD x.1.toNat 0≠0):Xz l cs (x::r)=Xz l (Jy cs x.1) r:=by
 have e:Zu l (cs.length+1) cs x=(Jy cs x.1,[],0):=by unfold Zu;rw[if_neg (fun q=>q h),if_neg (fun q=>q h2),if_pos h3]
 unfold Xz;rw[Ya,e,if_neg (by simp),Vo]
theorem Zdu{l:List UInt8}{cs:List Nat}{x:Rx}{r:List Rx}(h:x.2.2=0)(h2:0≤x.1∧x.1<cs.length)(h3:cs.getD x.1.toNat 0=0)(h4:Gq l x.1 x.2.1≠0):Xz l cs (x::r)=(Jy cs x.1,[x.1],Gq l x.1 x.2.1):=by
 have e:Zu l (cs.length+1) cs x=(Jy cs x.1,[x.1],Gq l x.1 x.2.1):=by unfold Zu;rw[if_neg (fun q=>q h),if_neg (fun q=>q h2),if_neg (fun q=>q h3),if_pos h4]
 unfold Xz;rw[Ya,e,if_pos h4]
theorem Lw{l:List UInt8}{cs:List Nat}{x:Rx}{r:List Rx}(h:x.2.2=0)(h2:0≤x.1∧x.1<cs.length)(h3:cs.getD x.1.toNat 0=0)(h4:Gq l x.1 x.2.1=0):Xz l cs (x::r)=Xz l (Jy cs x.1) (Wz l x.1 x.2.1++r):=by
 have hz:=Ki h2.1 h2.2
 rw[if_pos h3] at hz
 have hzl:=zer_le cs
 have e:Zu l (cs.length+1) cs x=Qr (Zu l (cs.length+1)) (Jy cs x.1) (Wz l x.1 x.2.1):=by
  conv=>lhs;unfold Zu
  rw[if_neg (fun q=>q h),if_neg (fun q=>q h2),if_neg (fun q=>q h3),if_neg (fun q=>q h4)]
  exact Wl (n:=zer (Jy cs x.1)) (Hy l _) (fun cs' x' hn=>Cl l _ _ cs' x' (by omega) (by omega)) _ _ (Nat.le_refl _)
 unfold Xz
 rw[Ya,e,Vo,Jm]
end Go.Proofs.YtlmaglneeaecdaaGreatDoor
namespace Go.Proofs.YtlmaglneeaecdaaGreatDoor
set_option maxHeartbeats 8000000
set_option maxRecDepth 100000
open Go.RowKit Go.Extern.Stop Go.Stop Go.Extern
set_option linter.unusedVariables false
attribute [local irreducible] wpList wpAnyH Code.wp Oper.wp Go
def RBlkNodeP(l:List UInt8)(no tree:Int)(w:World)(e:Ending)(w':World):Prop :=
 (Xg l no tree≠0∧∃ a c,e=.returned (.tuple #[.agg #[.int .i64 0,.bool false,.slice none 0 0,.slice none 0 0],.agg #[.slice a 1 c,.int .i64 (Xg l no tree)]])∧Below w.heap.size w w'∧w'.ownsRow w.heap.size 3 1 (.slice a 1 c) 1 [.int .i64 no]) ∨
 (Xg l no tree=0∧∃ kp kc vp vc,e=.returned (.tuple #[.agg #[.int .i64 (Xm (inB l no)),.bool (Xr (inB l no)),.slice kp (Xf (inB l no)) kc,.slice vp (Xf (inB l no)) vc],.agg #[.slice none 0 0,.int .i64 0]])∧Below w.heap.size w w'∧w'.ownsRow w.heap.size 3 1 (.slice kp (Xf (inB l no)) kc) (Xf (inB l no)) ((Kf (inB l no) (Xf (inB l no))).map (Value.int .i64))∧w'.ownsRow w.heap.size 9 1 (.slice vp (Xf (inB l no)) vc) (Xf (inB l no)) ((Kg (inB l no) (Xf (inB l no))).map sv))
theorem Zf8(B bm:Nat)(p:Option Addr)(k c:Nat)(l:List UInt8)(no tree:Int)(w:World)(hI:RefI B bm p k c l w) :
 Calls Tryz.prog 141 #[.pointer (some ⟨bm,0,none⟩),.int .i64 no,.int .i64 tree] w (RBlkNodeP l no tree w):=by
 refine zin 48 Tryz.func141 ?_
 refine xa 2 [.int .i64 0,.bool false,.slice none 0 0,.slice none 0 0] 220 fun b1 W1 n1=>?_
 refine xa 0 [.slice none 0 0,.int .i64 0] 33 fun b2 W2 n2=>?_
 have hI'1:=(hI.below n1.below).below n2.below
 refine xc 6 (args:=#[.pointer (some ⟨bm,0,none⟩),.int .i64 no,.int .i64 2]) (Tf B bm p k c l _ hI'1 no 2) ?_
 rintro e W3 hq3
 rcases hq3 with ⟨hse,rfl,hb3⟩|⟨hse,hil,p3,c3,rfl,hb3,h3⟩
 ·refine xk 14 (show(((inE l 2 no) != (0:Int)):Bool)=true from bne_iff_ne.2 hse) ?_
  refine xc 5 (args:=#[.int .i64 no,.int .i64 (inE l 2 no)]) (Pg no (inE l 2 no) _ hse) ?_
  rintro _ W4 ⟨_,rfl,hb4,a5,c5,rfl,hs5⟩
  have hs4:=(bln (bln n1.below n2.below) hb3).size
  have k1:=((n1.blk.below n2.below).below hb3).below hb4
  refine xsv 0 k1 [.int .i64 0,.bool false,.slice none 0 0,.slice none 0 0] fun W5 u5 k5=>?_
  have g1:=n1.ge (Below.refl w.heap.size _)
  have k2:=u5.blkT ((n2.blk.below hb3).below hb4) k1 (by decide)
  refine xsv 0 k2 [.slice a5 1 c5,.int .i64 (inE l 2 no)] fun W6 u6 k6=>?_
  have g2:=n2.ge n1.below
  have hB:=u6.below (u5.below (bln (bln (bln n1.below n2.below) hb3) hb4) g1) g2
  have hs5'1:=u6.own2 (u5.own2 (Zd hs5 hs4) k1 (by decide)) k2 (by decide)
  have k5'1:=u6.blkT k5 k2 (by decide)
  refine xecm 4 [(b1,[.int .i64 0,.bool false,.slice none 0 0,.slice none 0 0]),(b2,[.slice a5 1 c5,.int .i64 (inE l 2 no)])] ⟨⟨_,k5'1⟩,⟨_,k6⟩,trivial⟩ (.tuple #[.agg #[.int .i64 0,.bool false,.slice none 0 0,.slice none 0 0],.agg #[.slice a5 1 c5,.int .i64 (inE l 2 no)]]) ?_
  have he:Xg l no tree=(inE l 2 no):=by unfold Xg;rw[if_neg hse]
  exact .inl ⟨by rw[he];exact hse,_,_,by rw[he],hB,hs5'1⟩
 have hs3:=(bln n1.below n2.below).size
 have h3'1:=Zd h3 hs3
 refine xc 20 (args:=#[.slice p3 244 c3]) (Zem p3 c3 (inB l no) _ hil (Yk (Ze h3'1) hil)) ?_
 rintro e W7 hq7
 rcases hq7 with ⟨hz,rfl,hb7⟩|⟨hz,kp,kc,vp,vc,rfl,hb7,hk,hv_⟩
 ·refine xa 3 [.int .i64 0,.bool false,.slice none 0 0,.slice none 0 0] 220 fun b8 W8 n8=>?_
  have k1:=((n1.blk.below n2.below).below hb3).below hb7
  have d8_b1:=n8.ne k1
  refine xsv 0 n8.blk [.int .i64 0,.bool false,.slice none 0 0,.slice none 0 0] fun W9 u9 k9=>?_
  have g8:=n8.ge (bln (bln (bln n1.below n2.below) hb3) hb7)
  refine xk 10 (show(((Yn (inB l no)) != (0:Int)):Bool)=true from bne_iff_ne.2 hz) ?_
  refine xc 5 (args:=#[.int .i64 no,.int .i64 (Yn (inB l no))]) (Pg no (Yn (inB l no)) _ hz) ?_
  rintro _ W10 ⟨_,rfl,hb10,a5,c5,rfl,hs5⟩
  have hs10:=(u9.below (bln (bln (bln (bln n1.below n2.below) hb3) hb7) n8.below) g8).size
  have k1'1:=(u9.blk (k1.below n8.below) (Ne.symm (Ne.symm d8_b1))).below hb10
  refine xsv 0 k1'1 [.int .i64 0,.bool false,.slice none 0 0,.slice none 0 0] fun W11 u11 k11=>?_
  have g1:=n1.ge (Below.refl w.heap.size _)
  have k2:=u11.blkT ((u9.blkT (((n2.blk.below hb3).below hb7).below n8.below) n8.blk (by decide)).below hb10) k1'1 (by decide)
  refine xsv 0 k2 [.slice a5 1 c5,.int .i64 (Yn (inB l no))] fun W12 u12 k12=>?_
  have g2:=n2.ge n1.below
  have hB:=u12.below (u11.below (bln (u9.below (bln (bln (bln (bln n1.below n2.below) hb3) hb7) n8.below) g8) hb10) g1) g2
  have hs5'2:=u12.own2 (u11.own2 (Zd hs5 hs10) k1'1 (by decide)) k2 (by decide)
  have k11'1:=u12.blkT k11 k2 (by decide)
  refine xecm 4 [(b1,[.int .i64 0,.bool false,.slice none 0 0,.slice none 0 0]),(b2,[.slice a5 1 c5,.int .i64 (Yn (inB l no))])] ⟨⟨_,k11'1⟩,⟨_,k12⟩,trivial⟩ (.tuple #[.agg #[.int .i64 0,.bool false,.slice none 0 0,.slice none 0 0],.agg #[.slice a5 1 c5,.int .i64 (Yn (inB l no))]]) ?_
  have he:Xg l no tree=(Yn (inB l no)):=by unfold Xg Yv;rw[if_pos hse,if_neg hz]
  exact .inl ⟨by rw[he];exact hz,_,_,by rw[he],hB,hs5'2⟩
 have hs7:=(bln (bln n1.below n2.below) hb3).size
 refine xa 3 [.int .i64 0,.bool false,.slice none 0 0,.slice none 0 0] 220 fun b13 W13 n13=>?_
 have k1:=((n1.blk.below n2.below).below hb3).below hb7
 have d13_b1:=n13.ne k1
 refine xsv 0 n13.blk [.int .i64 (Xm (inB l no)),.bool (Xr (inB l no)),.slice kp (Xf (inB l no)) kc,.slice vp (Xf (inB l no)) vc] fun W14 u14 k14=>?_
 have g13:=n13.ge (bln (bln (bln n1.below n2.below) hb3) hb7)
 refine xg 19 [36,37] (tree != (0:Int)) (fun hc15=>?_) (fun hc15=>?_)
 ·have hc15:=Vq hc15
  refine xb 1 0 k14 ?_
  refine xin 5 (Xm (inB l no)) tree (fun hc16=>?_) (fun hc16=>?_)
  ·refine xc 4 (args:=#[.int .i64 no,.int .i64 6]) (Pg no 6 _ (by decide)) ?_
   rintro _ W17 ⟨_,rfl,hb17,a5,c5,rfl,hs5⟩
   have hs17:=(u14.below (bln (bln (bln (bln n1.below n2.below) hb3) hb7) n13.below) g13).size
   have k1'2:=(u14.blk (k1.below n13.below) (Ne.symm (Ne.symm d13_b1))).below hb17
   refine xsv 0 k1'2 [.int .i64 0,.bool false,.slice none 0 0,.slice none 0 0] fun W18 u18 k18=>?_
   have g1:=n1.ge (Below.refl w.heap.size _)
   have k2:=u18.blkT ((u14.blkT (((n2.blk.below hb3).below hb7).below n13.below) n13.blk (by decide)).below hb17) k1'2 (by decide)
   refine xsv 0 k2 [.slice a5 1 c5,.int .i64 6] fun W19 u19 k19=>?_
   have g2:=n2.ge n1.below
   have hB:=u19.below (u18.below (bln (u14.below (bln (bln (bln (bln n1.below n2.below) hb3) hb7) n13.below) g13) hb17) g1) g2
   have hs5'3:=u19.own2 (u18.own2 (Zd hs5 hs17) k1'2 (by decide)) k2 (by decide)
   have k18'1:=u19.blkT k18 k2 (by decide)
   refine xecm 4 [(b1,[.int .i64 0,.bool false,.slice none 0 0,.slice none 0 0]),(b2,[.slice a5 1 c5,.int .i64 6])] ⟨⟨_,k18'1⟩,⟨_,k19⟩,trivial⟩ (.tuple #[.agg #[.int .i64 0,.bool false,.slice none 0 0,.slice none 0 0],.agg #[.slice a5 1 c5,.int .i64 6]]) ?_
   have he:Xg l no tree=6:=by unfold Xg Yv;rw[if_pos hse,if_pos hz,if_neg (by omega)]
   exact .inl ⟨by rw[he];decide,_,_,by rw[he],hB,hs5'3⟩
  refine xlv 4 k14.rp ?_
  have k1'3:=u14.blk (k1.below n13.below) (Ne.symm (Ne.symm d13_b1))
  refine xsv 1 k1'3 [.int .i64 (Xm (inB l no)),.bool (Xr (inB l no)),.slice kp (Xf (inB l no)) kc,.slice vp (Xf (inB l no)) vc] fun W20 u20 k20=>?_
  have g1:=n1.ge (Below.refl w.heap.size _)
  have k2:=u20.blkT (u14.blkT (((n2.blk.below hb3).below hb7).below n13.below) n13.blk (by decide)) k1'3 (by decide)
  refine xsv 0 k2 [.slice none 0 0,.int .i64 0] fun W21 u21 k21=>?_
  have g2:=n2.ge n1.below
  have hB:=u21.below (u20.below (u14.below (bln (bln (bln (bln n1.below n2.below) hb3) hb7) n13.below) g13) g1) g2
  have hk'1:=u21.own2 (u20.own2 (u14.own2 (Zb (Zd hk hs7) n13.below) n13.blk (by decide)) k1'3 (by decide)) k2 (by decide)
  have hv_'1:=u21.own2 (u20.own2 (u14.own2 (Zb (Zd hv_ hs7) n13.below) n13.blk (by decide)) k1'3 (by decide)) k2 (by decide)
  have k20'1:=u21.blkT k20 k2 (by decide)
  exact xecm 3 [(b1,[.int .i64 (Xm (inB l no)),.bool (Xr (inB l no)),.slice kp (Xf (inB l no)) kc,.slice vp (Xf (inB l no)) vc]),(b2,[.slice none 0 0,.int .i64 0])] ⟨⟨_,k20'1⟩,⟨_,k21⟩,trivial⟩ (.tuple #[.agg #[.int .i64 (Xm (inB l no)),.bool (Xr (inB l no)),.slice kp (Xf (inB l no)) kc,.slice vp (Xf (inB l no)) vc],.agg #[.slice none 0 0,.int .i64 0]]) (.inr ⟨by unfold Xg Yv;rw[if_pos hse,if_pos hz,if_pos (by omega)],_,_,_,_,rfl,hB,hk'1,hv_'1⟩)
 have hc15:=Xp hc15
 refine xlv 12 k14.rp ?_
 have k1'4:=u14.blk (k1.below n13.below) (Ne.symm (Ne.symm d13_b1))
 refine xsv 1 k1'4 [.int .i64 (Xm (inB l no)),.bool (Xr (inB l no)),.slice kp (Xf (inB l no)) kc,.slice vp (Xf (inB l no)) vc] fun W22 u22 k22=>?_
 have g1:=n1.ge (Below.refl w.heap.size _)
 have k2:=u22.blkT (u14.blkT (((n2.blk.below hb3).below hb7).below n13.below) n13.blk (by decide)) k1'4 (by decide)
 refine xsv 0 k2 [.slice none 0 0,.int .i64 0] fun W23 u23 k23=>?_
 have g2:=n2.ge n1.below
 have hB:=u23.below (u22.below (u14.below (bln (bln (bln (bln n1.below n2.below) hb3) hb7) n13.below) g13) g1) g2
 have hk'2:=u23.own2 (u22.own2 (u14.own2 (Zb (Zd hk hs7) n13.below) n13.blk (by decide)) k1'4 (by decide)) k2 (by decide)
 have hv_'2:=u23.own2 (u22.own2 (u14.own2 (Zb (Zd hv_ hs7) n13.below) n13.blk (by decide)) k1'4 (by decide)) k2 (by decide)
 have k22'1:=u23.blkT k22 k2 (by decide)
 exact xecm 3 [(b1,[.int .i64 (Xm (inB l no)),.bool (Xr (inB l no)),.slice kp (Xf (inB l no)) kc,.slice vp (Xf (inB l no)) vc]),(b2,[.slice none 0 0,.int .i64 0])] ⟨⟨_,k22'1⟩,⟨_,k23⟩,trivial⟩ (.tuple #[.agg #[.int .i64 (Xm (inB l no)),.bool (Xr (inB l no)),.slice kp (Xf (inB l no)) kc,.slice vp (Xf (inB l no)) vc],.agg #[.slice none 0 0,.int .i64 0]]) (.inr ⟨by unfold Xg Yv;rw[if_pos hse,if_pos hz,if_pos (by omega)],_,_,_,_,rfl,hB,hk'2,hv_'2⟩)
end Go.Proofs.YtlmaglneeaecdaaGreatDoor
namespace Go.Proofs.YtlmaglneeaecdaaGreatDoor
set_option maxHeartbeats 8000000
set_option maxRecDepth 100000
open Go.RowKit Go.Extern.Stop Go.Stop Go.Extern
set_option linter.unusedVariables false
def Gk(B:Nat)(w:World)(a:Option Addr)(c:Nat)(l:List Int):Prop:=w.ownsRow B 3 1 (.slice a l.length c) l.length (l.map (Value.int .i64))
theorem Gk.below{B:Nat}{w W:World}{a:Option Addr}{c:Nat}{l:List Int}(h:Gk B w a c l)(hb:Below w.heap.size w W):Gk B W a c l:=Zb h hb
theorem Gk.only{B:Nat}{w W:World}{a:Option Addr}{c:Nat}{l:List Int}{T:List TypeId}(h:Gk B w a c l)(hO:Zh T w W)(hT:T.contains 3=false):Gk B W a c l:=Zj h hO hT
theorem Gk.mono{B B':Nat}{w:World}{a:Option Addr}{c:Nat}{l:List Int}(h:Gk B w a c l)(hB:B'≤B):Gk B' w a c l:=Zd h hB
theorem Di(no er:Int)(w:World)(he:er≠0):Calls Tryz.prog 36 #[.int .i64 no,.int .i64 er] w (fun e w'=>∃ a c,e=.returned (.agg #[.slice a 1 c,.int .i64 er])∧Below w.heap.size w w'∧Gk w.heap.size w' a c [no]):=by
 refine(Pg no er w he).mono ?_
 rintro e W ⟨_,rfl,hb,a,c,rfl,ho⟩
 exact⟨a,c,rfl,hb,ho⟩
theorem Gk.apart{B base e size n c:Nat}{w W:World}{u:Value}{xs:List Value}{a:Option Addr}{l:List Int}(q:Gk B W a c l)(k:w.ownsRow base e size u n xs)(h:w.heap.size≤B):Ws (.slice a l.length c) u:=(Ws.of_lt k q h).symm
end Go.Proofs.YtlmaglneeaecdaaGreatDoor
namespace Go.Proofs.YtlmaglneeaecdaaGreatDoor
set_option maxHeartbeats 8000000
set_option maxRecDepth 100000
open Go.RowKit Go.Extern.Stop Go.Stop Go.Extern
set_option linter.unusedVariables false
attribute [local irreducible] wpList wpAnyH Code.wp Oper.wp Go
theorem Tc(l:List Int):Qm (l.map some)=l:=by unfold Qm;simp[List.filterMap_map]
theorem Zat(l:List Int)(c:Int):Lm (l.map some) (some c)=c:=by simp[Lm,Ml]
def eL (S:WS):List (Option Int):=if S.fs=[] then [] else(S.fs.getD 0 ([],0)).1.map some
def eT (S:WS):Option Int:=if S.fs=[] then none else some (S.fs.getD 0 ([],0)).2
theorem ref_OfM(a:Option Addr)(c n k:Nat)(l:List UInt8)(w:World)(hn:l.length=n)(hk:min (n/256) 14400=k)(h:Bys w (.slice a n c) l)(hl:n≤100000000) :
 Calls Tryz.prog 11 #[.slice a n c] w (Yz (fun w' r=>∃ bm p c2,r=.pointer (some ⟨bm,0,none⟩)∧w.heap.size≤bm∧RefI w.heap.size bm p k c2 (l.take (k*256)) w') w):=by
 subst hn hk;exact ref_Of a c l w h hl
theorem Za3(w:World) :
 Calls Tryz.prog 174 #[] w (Yz (fun w' r=>∃ b,r=.slice (some ⟨b,0,none⟩) 1 1∧w.heap.size≤b∧Blk w' b [.int .i64 4,.int .i64 3,.int .i64 2147483647] 223) w):=by
 refine zin 3 Tryz.func174 ?_
 refine xbs 8 1 [.int .i64 4,.int .i64 3,.int .i64 2147483647] 223 fun b1 W1 n1=>?_
 have g1:=n1.ge (Below.refl w.heap.size _)
 exact xe 4 (.slice (some ⟨b1,0,none⟩) 1 1) ⟨_,rfl,n1.below,_,rfl,g1,n1.blk⟩
theorem Dr(gl gn:Nat)(n:Int)(h1:3≤n)(h2:n≤2147483647)(w:World)(hl:Blk w gl [.int .i64 4,.int .i64 3,.int .i64 2147483647] 223)(hn:Blk w gn [.int .i64 n] 3) :
 Calls Tryz.prog 64 #[.slice (some ⟨gl,0,none⟩) 1 1,.slice (some ⟨gn,0,none⟩) 1 1] w (Ret (.string ⟨(leB n 4).toArray⟩) w):=by
 refine zin 51 Tryz.func64 ?_
 refine xu 19 2 ?_
 refine xlv 15 hl.rp ?_
 refine xa 0 [.int .i64 0,.int .i64 0,.int .i64 0] 223 fun b1 W1 n1=>?_
 have d1_gl:=n1.ne hl
 refine xsv 1 n1.blk [.int .i64 4,.int .i64 3,.int .i64 2147483647] fun W2 u2 k2=>?_
 have g1:=n1.ge (Below.refl w.heap.size _)
 refine xd 4 .z ?_
 have hn'1:=(u2.blkT (hn.below n1.below) n1.blk (by decide)).below (Za W2)
 refine xb (.e [0,1,2] 3) 0 hn'1 ?_
 have k2'1:=k2.below (Za W2)
 refine xb (.e [4] 5) 1 k2'1 ?_
 refine xgk (.b [6,7]) [23,24] (show(decide (n<(3:Int)):Bool)=false from decide_eq_false (by omega)) ?_
 refine xb (.e [8,9,10] 11) 0 hn'1 ?_
 refine xb (.e [12] 13) 2 k2'1 ?_
 refine xk (.r [14,15] 2) (show(decide (n>(2147483647:Int)):Bool)=false from decide_eq_false (by omega)) ?_
 refine xd 3 .z ?_
 have k2'2:=k2'1.below (Za W2.drew)
 refine xb (.e [0] 1) 0 k2'2 ?_
 have hn'2:=hn'1.below (Za W2.drew)
 refine xb (.e [2,3,4] 5) 0 hn'2 ?_
 refine xbs (.o [6] 7) 1 [.int .i64 4,.int .i64 n] 226 fun b4 W4 n4=>?_
 refine yc (.o [] 8) (args:=#[.slice (some ⟨b4,0,none⟩) 1 1]) .z (Mz b4 n (by omega) (by omega) _ n4.blk) ?_
 rintro _ W5 ⟨_,rfl,hb5,p2_0,c2_0,rfl,h2_0⟩
 have hs5:=(bln (bln (bln (u2.below n1.below g1) (Za W2)) (Za W2.drew)) n4.below).size
 refine⟨hb5,?_⟩
 have o6:=World.ownsRow_nil W5 w.heap.size 5 1
 have h2_0'1:=Zd h2_0 hs5
 have hB:=bln (bln (bln (bln (u2.below n1.below g1) (Za W2)) (Za W2.drew)) n4.below) hb5
 refine xbi (.r [9,10,11,12,13] 5) fun _ _ _ _ zJ zQ zo zx zy zK=>Zo (m:=4) (news:=(leB n 4).map bv) (.int .u8 0) 1 1 (4) ((leB n 4).map bv) zo Tryz.underlying22 (by kernel_rfl) rfl (by decide) zx o6 zy (Ze h2_0'1) (by simp[Zg]) (Qc _) (by unfold maxLen;omega) (by omega) hB.size (by rfl) (by simp) fun px7 cx7 W7 o7 hg7 hb7=>?_
 refine zK _ _ ?_
 refine xcv0 24 (fun _ _ _ zo zx=>Yp zo zx (Yk (Ze o7) (by simp[Zg])) (by simp[Zg]) Tryz.underlying22 Tryz.underlying5 Tryz.underlying9) ?_
 have hB'1:=hB.trans hb7
 exact xe 4 (.string ⟨(leB n 4).toArray⟩) ⟨rfl,hB'1⟩
theorem Zav(n:Int)(h1:3≤n)(h2:n≤2147483647)(w:World) :
 Calls Tryz.prog 125 #[.int .i64 n] w (Ret (.string ⟨(leB n 4).toArray⟩) w):=by
 refine zin 7 Tryz.func125 ?_
 refine xc 7 (args:=#[]) (Za3 _) ?_
 rintro _ W1 ⟨_,rfl,hb1,gl,rfl,gg,kl⟩
 refine xbs 1 1 [.int .i64 n] 3 fun b2 W2 n2=>?_
 have kl'1:=kl.below n2.below
 refine xr 0 (args:=#[.slice (some ⟨gl,0,none⟩) 1 1,.slice (some ⟨b2,0,none⟩) 1 1]) (Dr gl b2 n h1 h2 _ kl'1 n2.blk) fun W3 hb3=>?_
 have hB:=bln (bln hb1 n2.below) hb3
 exact xe 4 (.string ⟨(leB n 4).toArray⟩) ⟨rfl,hB⟩
theorem Fl(w:World) :
 Calls Tryz.prog 129 #[] w (Yz (fun w' r=>∃ b,r=.slice (some ⟨b,0,none⟩) 3 3∧w.heap.size≤b∧Blk w' b [.int .i64 8,.int .i64 1,.int .i64 14399,.int .i64 4,.int .i64 0,.int .i64 960,.int .i64 4,.int .i64 0,.int .i64 960] 223) w):=by
 refine zin 5 Tryz.func129 ?_
 refine xbs 10 3 [.int .i64 8,.int .i64 1,.int .i64 14399,.int .i64 4,.int .i64 0,.int .i64 960,.int .i64 4,.int .i64 0,.int .i64 960] 223 fun b1 W1 n1=>?_
 have g1:=n1.ge (Below.refl w.heap.size _)
 exact xe 4 (.slice (some ⟨b1,0,none⟩) 3 3) ⟨_,rfl,n1.below,_,rfl,g1,n1.blk⟩
theorem Wc(gl gn:Nat)(n f g:Int)(h1:1≤n)(h2:n≤14399)(h3:0≤f)(h4:f≤960)(h5:0≤g)(h6:g≤960)(w:World)(hl:Blk w gl [.int .i64 8,.int .i64 1,.int .i64 14399,.int .i64 4,.int .i64 0,.int .i64 960,.int .i64 4,.int .i64 0,.int .i64 960] 223)(hn:Blk w gn [.int .i64 n,.int .i64 f,.int .i64 g] 3) :
 Calls Tryz.prog 64 #[.slice (some ⟨gl,0,none⟩) 3 3,.slice (some ⟨gn,0,none⟩) 3 3] w (Ret (.string ⟨(leB n 8++leB f 4++leB g 4).toArray⟩) w):=by
 refine zin 51 Tryz.func64 ?_
 refine xu 19 4 ?_
 refine xlv 15 (hl.rpp 0 3) ?_
 refine xa 0 [.int .i64 0,.int .i64 0,.int .i64 0] 223 fun b1 W1 n1=>?_
 have d1_gl:=n1.ne hl
 refine xsv 1 n1.blk [.int .i64 8,.int .i64 1,.int .i64 14399] fun W2 u2 k2=>?_
 have g1:=n1.ge (Below.refl w.heap.size _)
 refine xd 4 .z ?_
 have hn'1:=(u2.blkT (hn.below n1.below) n1.blk (by decide)).below (Za W2)
 refine xb (.e [0,1,2] 3) 0 hn'1 ?_
 have k2'1:=k2.below (Za W2)
 refine xb (.e [4] 5) 1 k2'1 ?_
 refine xgk (.b [6,7]) [23,24] (show(decide (n<(1:Int)):Bool)=false from decide_eq_false (by omega)) ?_
 refine xb (.e [8,9,10] 11) 0 hn'1 ?_
 refine xb (.e [12] 13) 2 k2'1 ?_
 refine xk (.r [14,15] 2) (show(decide (n>(14399:Int)):Bool)=false from decide_eq_false (by omega)) ?_
 refine xd 3 .z ?_
 have k2'2:=k2'1.below (Za W2.drew)
 refine xb (.e [0] 1) 0 k2'2 ?_
 have hn'2:=hn'1.below (Za W2.drew)
 refine xb (.e [2,3,4] 5) 0 hn'2 ?_
 refine xbs (.o [6] 7) 1 [.int .i64 8,.int .i64 n] 226 fun b4 W4 n4=>?_
 refine yc (.o [] 8) (args:=#[.slice (some ⟨b4,0,none⟩) 1 1]) .z (Pack_8 b4 n (by omega) _ n4.blk) ?_
 rintro _ W5 ⟨_,rfl,hb5,p2_0,c2_0,rfl,h2_0⟩
 have hs5:=(bln (bln (bln (u2.below n1.below g1) (Za W2)) (Za W2.drew)) n4.below).size
 refine⟨hb5,?_⟩
 have o6:=World.ownsRow_nil W5 w.heap.size 5 1
 have h2_0'1:=Zd h2_0 hs5
 have hB:=bln (bln (bln (bln (u2.below n1.below g1) (Za W2)) (Za W2.drew)) n4.below) hb5
 refine xbi (.r [9,10,11,12,13] 5) fun _ _ _ _ zJ zQ zo zx zy zK=>Zo (m:=8) (news:=(leB n 8).map bv) (.int .u8 0) 1 1 (8) ((leB n 8).map bv) zo Tryz.underlying22 (by kernel_rfl) rfl (by decide) zx o6 zy (Ze h2_0'1) (by simp[Zg]) (Qc _) (by unfold maxLen;omega) (by omega) hB.size (by rfl) (by simp) fun px7 cx7 W7 o7 hg7 hb7=>?_
 refine zK _ _ ?_
 have hl'1:=(((((u2.blk (hl.below n1.below) (Ne.symm (Ne.symm d1_gl))).below (Za W2)).below (Za W2.drew)).below n4.below).below hb5).grown hg7 o6 (by decide)
 refine xlv 24 (hl'1.rpp 3 3) ?_
 refine xa 0 [.int .i64 0,.int .i64 0,.int .i64 0] 223 fun b8 W8 n8=>?_
 have d8_gl:=n8.ne hl'1
 have k2'3:=((k2'2.below n4.below).below hb5).grown hg7 o6 (by decide)
 have d8_b1:=n8.ne k2'3
 have hB'1:=hB.trans hb7
 have g8:=n8.ge hB'1
 refine xsv 1 n8.blk [.int .i64 4,.int .i64 0,.int .i64 960] fun W9 u9 k9=>?_
 refine xd 4 .z ?_
 have hn'3:=(u9.blkT ((((hn'2.below n4.below).below hb5).grown hg7 o6 (by decide)).below n8.below) n8.blk (by decide)).below (Za W9)
 refine xb (.e [0,1,2] 3) 1 hn'3 ?_
 have k9'1:=k9.below (Za W9)
 refine xb (.e [4] 5) 1 k9'1 ?_
 refine xgk (.b [6,7]) [23,24] (show(decide (f<(0:Int)):Bool)=false from decide_eq_false (by omega)) ?_
 refine xb (.e [8,9,10] 11) 1 hn'3 ?_
 refine xb (.e [12] 13) 2 k9'1 ?_
 refine xk (.r [14,15] 2) (show(decide (f>(960:Int)):Bool)=false from decide_eq_false (by omega)) ?_
 refine xd 3 .z ?_
 have k9'2:=k9'1.below (Za W9.drew)
 refine xb (.e [0] 1) 0 k9'2 ?_
 have hn'4:=hn'3.below (Za W9.drew)
 refine xb (.e [2,3,4] 5) 1 hn'4 ?_
 refine xbs (.o [6] 7) 1 [.int .i64 4,.int .i64 f] 226 fun b11 W11 n11=>?_
 have k4'1:=((u9.blkT (((n4.blk.below hb5).grown hg7 o6 (by decide)).below n8.below) n8.blk (by decide)).below (Za W9)).below (Za W9.drew)
 have d11_b4:=n11.ne k4'1
 have hB'2:=bln (bln (u9.below (bln hB'1 n8.below) g8) (Za W9)) (Za W9.drew)
 have g11:=n11.ge hB'2
 refine yc (.o [] 8) (args:=#[.slice (some ⟨b11,0,none⟩) 1 1]) .z (Mz b11 f (by omega) (by omega) _ n11.blk) ?_
 rintro _ W12 ⟨_,rfl,hb12,p2_1,c2_1,rfl,h2_1⟩
 have hs12:=(bln hB'2 n11.below).size
 refine⟨hb12,?_⟩
 have o7'1:=Zb (Zb (Zb (Zb (u9.own2 (Zb o7 n8.below) n8.blk (by decide)) (Za W9)) (Za W9.drew)) n11.below) hb12
 have h2_1'1:=Zd h2_1 hs12
 have hB'3:=bln (bln hB'2 n11.below) hb12
 refine xbi (.r [9,10,11,12,13] 5) fun _ _ _ _ zJ zQ zo zx zy zK=>Zo (m:=4) (news:=(leB f 4).map bv) (.int .u8 0) 1 1 (12) ((leB n 8++leB f 4).map bv) zo Tryz.underlying22 (by kernel_rfl) rfl (by decide) zx o7'1 zy (Ze h2_1'1) (by simp[Zg]) (Qc _) (by unfold maxLen;omega) (by omega) hB'3.size (by rfl) (by simp) fun px13 cx13 W13 o13 hg13 hb13=>?_
 refine zK _ _ ?_
 have hl'2:=(((((u9.blk (hl'1.below n8.below) (Ne.symm (Ne.symm d8_gl))).below (Za W9)).below (Za W9.drew)).below n11.below).below hb12).grown hg13 o7'1 (by decide)
 refine xlv 24 (hl'2.rpp 6 3) ?_
 refine xa 0 [.int .i64 0,.int .i64 0,.int .i64 0] 223 fun b14 W14 n14=>?_
 have d14_gl:=n14.ne hl'2
 have k2'4:=(((((u9.blk (k2'3.below n8.below) (Ne.symm (Ne.symm d8_b1))).below (Za W9)).below (Za W9.drew)).below n11.below).below hb12).grown hg13 o7'1 (by decide)
 have d14_b1:=n14.ne k2'4
 have k9'3:=((k9'2.below n11.below).below hb12).grown hg13 o7'1 (by decide)
 have d14_b8:=n14.ne k9'3
 have hB'4:=hB'3.trans hb13
 have g14:=n14.ge hB'4
 refine xsv 1 n14.blk [.int .i64 4,.int .i64 0,.int .i64 960] fun W15 u15 k15=>?_
 refine xd 4 .z ?_
 have hn'5:=(u15.blkT ((((hn'4.below n11.below).below hb12).grown hg13 o7'1 (by decide)).below n14.below) n14.blk (by decide)).below (Za W15)
 refine xb (.e [0,1,2] 3) 2 hn'5 ?_
 have k15'1:=k15.below (Za W15)
 refine xb (.e [4] 5) 1 k15'1 ?_
 refine xgk (.b [6,7]) [23,24] (show(decide (g<(0:Int)):Bool)=false from decide_eq_false (by omega)) ?_
 refine xb (.e [8,9,10] 11) 2 hn'5 ?_
 refine xb (.e [12] 13) 2 k15'1 ?_
 refine xk (.r [14,15] 2) (show(decide (g>(960:Int)):Bool)=false from decide_eq_false (by omega)) ?_
 refine xd 3 .z ?_
 have k15'2:=k15'1.below (Za W15.drew)
 refine xb (.e [0] 1) 0 k15'2 ?_
 have hn'6:=hn'5.below (Za W15.drew)
 refine xb (.e [2,3,4] 5) 2 hn'6 ?_
 refine xbs (.o [6] 7) 1 [.int .i64 4,.int .i64 g] 226 fun b17 W17 n17=>?_
 have k4'2:=((u15.blkT ((((k4'1.below n11.below).below hb12).grown hg13 o7'1 (by decide)).below n14.below) n14.blk (by decide)).below (Za W15)).below (Za W15.drew)
 have d17_b4:=n17.ne k4'2
 have k11'1:=((u15.blkT (((n11.blk.below hb12).grown hg13 o7'1 (by decide)).below n14.below) n14.blk (by decide)).below (Za W15)).below (Za W15.drew)
 have d17_b11:=n17.ne k11'1
 have hB'5:=bln (bln (u15.below (bln hB'4 n14.below) g14) (Za W15)) (Za W15.drew)
 have g17:=n17.ge hB'5
 refine yc (.o [] 8) (args:=#[.slice (some ⟨b17,0,none⟩) 1 1]) .z (Mz b17 g (by omega) (by omega) _ n17.blk) ?_
 rintro _ W18 ⟨_,rfl,hb18,p2_2,c2_2,rfl,h2_2⟩
 have hs18:=(bln hB'5 n17.below).size
 refine⟨hb18,?_⟩
 have o13'1:=Zb (Zb (Zb (Zb (u15.own2 (Zb o13 n14.below) n14.blk (by decide)) (Za W15)) (Za W15.drew)) n17.below) hb18
 have h2_2'1:=Zd h2_2 hs18
 have hB'6:=bln (bln hB'5 n17.below) hb18
 refine xbi (.r [9,10,11,12,13] 5) fun _ _ _ _ zJ zQ zo zx zy zK=>Zo (m:=4) (news:=(leB g 4).map bv) (.int .u8 0) 1 1 (16) ((leB n 8++leB f 4++leB g 4).map bv) zo Tryz.underlying22 (by kernel_rfl) rfl (by decide) zx o13'1 zy (Ze h2_2'1) (by simp[Zg]) (Qc _) (by unfold maxLen;omega) (by omega) hB'6.size (by rfl) (by simp) fun px19 cx19 W19 o19 hg19 hb19=>?_
 refine zK _ _ ?_
 refine xcv0 24 (fun _ _ _ zo zx=>Yp zo zx (Yk (Ze o19) (by simp[Zg])) (by simp[Zg]) Tryz.underlying22 Tryz.underlying5 Tryz.underlying9) ?_
 have hB'7:=hB'6.trans hb19
 exact xe 4 (.string ⟨(leB n 8++leB f 4++leB g 4).toArray⟩) ⟨rfl,hB'7⟩
theorem Ko(n f g:Int)(h1:1≤n)(h2:n≤14399)(h3:0≤f)(h4:f≤960)(h5:0≤g)(h6:g≤960)(w:World) :
 Calls Tryz.prog 86 #[.agg #[.int .i64 n,.int .i64 f,.int .i64 g]] w (Ret (.string ⟨(leB n 8++leB f 4++leB g 4).toArray⟩) w):=by
 refine zin 12 Tryz.func86 ?_
 refine xa 2 [.int .i64 n,.int .i64 f,.int .i64 g] 191 fun b1 W1 n1=>?_
 refine xd 4 .z ?_
 have k1:=n1.blk.below (Za W1)
 refine xb (.e [1] 2) 0 k1 ?_
 refine xb (.e [3] 4) 1 k1 ?_
 refine xb (.e [5] 6) 2 k1 ?_
 refine xm2 0 0 7 ?_ ?_
 ·refine yc 0 (args:=#[]) .z (Fl _) ?_
  rintro _ W2 ⟨_,rfl,hb2,gl,rfl,gg,kl⟩
  refine⟨hb2,?_⟩
  refine xbs (.o [] 7) 3 [.int .i64 n,.int .i64 f,.int .i64 g] 3 fun b3 W3 n3=>?_
  have kl'1:=kl.below n3.below
  refine xr (.o [] 8) (args:=#[.slice (some ⟨gl,0,none⟩) 3 3,.slice (some ⟨b3,0,none⟩) 3 3]) (Wc gl b3 n f g h1 h2 h3 h4 h5 h6 _ kl'1 n3.blk) fun W4 hb4=>?_
  have hB:=bln (bln (bln (bln n1.below (Za W1)) hb2) n3.below) hb4
  exact xe (.r [9] 3) (.string ⟨(leB n 8++leB f 4++leB g 4).toArray⟩) ⟨rfl,hB⟩
 refine xbs 0 3 [.int .i64 n,.int .i64 f,.int .i64 g] 3 fun b5 W5 n5=>?_
 refine yc (.o [] 0) (args:=#[]) .z (Fl _) ?_
 rintro _ W6 ⟨_,rfl,hb6,gl,rfl,gg,kl⟩
 refine⟨hb6,?_⟩
 have k5:=n5.blk.below hb6
 refine xr (.o [] 8) (args:=#[.slice (some ⟨gl,0,none⟩) 3 3,.slice (some ⟨b5,0,none⟩) 3 3]) (Wc gl b5 n f g h1 h2 h3 h4 h5 h6 _ kl k5) fun W7 hb7=>?_
 have hB:=bln (bln (bln (bln n1.below (Za W1)) n5.below) hb6) hb7
 exact xe (.r [9] 3) (.string ⟨(leB n 8++leB f 4++leB g 4).toArray⟩) ⟨rfl,hB⟩
end Go.Proofs.YtlmaglneeaecdaaGreatDoor
namespace Go.Proofs.YtlmaglneeaecdaaGreatDoor
set_option maxHeartbeats 8000000
set_option maxRecDepth 100000
open Go.RowKit Go.Extern.Stop Go.Stop Go.Extern
open Go.ChangeMaps (setBlock heap_setBlock_same heap_setBlock_other)
set_option linter.unusedVariables false
attribute [local irreducible] wpList wpAnyH Code.wp Oper.wp Go
variable {P:Program} {w:World}
/-! ### in a walk -/
inductive Zm
 | mm (t:TypeId)
 | lk (t:TypeId) (m k:Value)
 | mu (t:TypeId) (m k v:Value)
 | b1 (b:Builtin) (t:TypeId) (u:Value)
 | b2 (b:Builtin) (t t2:TypeId) (u v:Value)
noncomputable def zmf (n:Nat) (kv:List (Nat×Value)) (o:Oper):Option Zm:=match o.op with
 | .makeMap t none=>some (.mm t)
 | .lookup t x y false=>some (.lk t (zev n kv x) (zev n kv y))
 | .mapUpdate t x y z=>some (.mu t (zev n kv x) (zev n kv y) (zev n kv z))
 | .call c=>match c.callee with
  | .builtin b=>match c.args.toList,c.argTypes.toList with
   | [x],[t]=>some (.b1 b t (zev n kv x))
   | [x,y],[t,t2]=>some (.b2 b t t2 (zev n kv x) (zev n kv y))
   | _,_=>none
  | _=>none
 | _=>none
noncomputable def zm (s:Zs):Option Zm:=match zop s with
 | some o=>zmf s.n s.kv o
 | none=>none
section
variable {P:Program} {fn:Func} {R:Ending→World→Prop} {w:World} {s:Zs}
end
end Go.Proofs.YtlmaglneeaecdaaGreatDoor
namespace Go.Proofs.YtlmaglneeaecdaaGreatDoor
set_option maxHeartbeats 8000000
set_option maxRecDepth 100000
open Go.RowKit
set_option linter.unusedVariables false
theorem rows_in{n:Nat}{P:Program}{row:String}{args:Array Value}{w:World}{R:Value→World→Prop}(h:Rows P row args w R):RowsIn Fence.wide n P row args w R :=
 fun c cs _=>let ⟨v,w',r,q⟩:=h c cs;⟨v,w',r,stepsIn_wide.2 q⟩
theorem oper_in{P:Program}{l n:Nat}{o:Oper}{a:Act}{w:World}{K:Act→World→Prop}{Q:Exit→Act→World→Prop}(hd:∀ c,o.op≠.defer c)(h:o.wp P a w K Q):o.wpIn (Fence.wide.inRound l) n P a w K Q:=by
 unfold Oper.wpIn
 refine⟨fun f _=>trivial,?_⟩
 rw[Oper.semAt_plain _ _ _ hd]
 unfold Oper.wp at h
 generalize (execOp a.eval o).run P w=r at *
 cases r with
 | ok nx w' =>
  cases nx with
  | value v=>exact h
  | skip=>exact h
  | defer d=>exact h
  | enter f args=>exact⟨(fun q=>by cases q),callsIn_wide.2 h⟩
  | row r args=>exact⟨(fun q=>by cases q),rows_in h⟩
  | _=>exact h.elim
 | halt hh w' =>
  cases hh with
  | panic v=>exact h
  | _=>exact h.elim
theorem op_in{P:Program}{l n i:Nat}{ops:Array Oper}{a:Act}{w:World}{K K':Act→World→Prop}{Q:Exit→Act→World→Prop}(hQ:¬ LetsOut Q)(hd:∀ o∈ops.toList,∀ c,o.op≠.defer c)(hK:∀ a w,K a w→K' a w)(h:wpOp P ops Q i K a w):wpOpIn (Fence.wide.inRound l) n P ops Q i K' a w:=by
 unfold wpOp at h
 unfold wpOpIn
 cases ho:ops[i]? with
 | none=>rw[ho] at h;exact hK _ _ h
 | some o =>
  rw[ho] at h
  dsimp only at h ⊢
  split at h
  ·rename_i hw
   rw[if_pos hw]
   have ho':o∈ops.toList:=by
    obtain⟨hi,e⟩:=Array.getElem?_eq_some_iff.1 ho
    rw[←e];exact Array.mem_toList_iff.2 (Array.getElem_mem hi)
   exact Oper.wpIn_mono hK (oper_in (hd o ho') (h.resolve_right fun q=>hQ q.2))
  ·rename_i hw
   rw[if_neg hw]
   exact⟨fun f _=>trivial,hK _ _ h⟩
theorem any_in{P:Program}{l n:Nat}{md:Region.Mode}{ops:Array Oper}{Q:Exit→Act→World→Prop}(hQ:¬ LetsOut Q)(hd:∀ o∈ops.toList,∀ c,o.op≠.defer c):∀ (fuel:Nat) (L:Array Bool) (a:Act) (w:World),wpAny P md ops Q fuel L a w→wpAnyIn (Fence.wide.inRound l) n P md ops Q fuel L a w
 | 0,_,_,_,h=>h
 | fuel+1,L,a,w,h=>⟨h.1,fun i hi=>op_in hQ hd (fun a w=>any_in hQ hd fuel _ a w) (h.2 i hi)⟩
theorem h_regIn{P:Program}{l0 n0 id:Nat}{l:List Oper}{Q:Exit→Act→World→Prop}{a:Act}{w:World}(S:World→Prop)(n:Nat)(hn:l.toArray.size=n)(L:Array Bool)(hL:Array.replicate n false=L)(hm:P.follows .mixedOrders=true)(hQ:¬ LetsOut Q)(hd:∀ o∈l,∀ c,o.op≠.defer c)(hS:S w.drew)(h:S w.drew→wpAnyH P .any l.toArray Q S n L a w.drew):(Code.region id l.toArray true).wpIn (Fence.wide.inRound l0) n0 P Q a w :=
 wpIn_region_any hm (any_in hQ (by simpa using hd) _ _ _ _ (wpAny_of_held _ _ _ _ (by rw[hn,hL];exact h hS)))
end Go.Proofs.YtlmaglneeaecdaaGreatDoor
namespace Go.Proofs.YtlmaglneeaecdaaGreatDoor
set_option maxHeartbeats 8000000
set_option maxRecDepth 100000
open Go.RowKit
set_option linter.unusedVariables false
attribute [local go_sem] Oper.semAt_some
def encK(b off n:Nat)(j:Fin (bmN n)):Array Value:=#[.slice (some ⟨b,off+j.val*960,none⟩) (min 960 (n-j.val*960)) (min 960 (n-j.val*960))]
theorem chunk1_in(l B1 B2:Nat)(p:Nat→Prop)(b off n cap:Nat)(hlen:n≤1000000)(hcap:n≤cap)(hB1:p B1)(hB2:p B2)(J Jx:List (Fin (bmN n))→World→Prop)
  (hY:∀ pre x W,J pre W→pre.length<bmN n→YieldAt Fence.wide 2 Tryz.prog l (encK b off n x) W fun e W' =>
   (e=.returned (.bool true)∧J (pre++[x]) W'∧Keeps p W W')∨(e=.returned (.bool false)∧Jx (pre++[x]) W'))
  (W:World) (hck:W.cell? ⟨B1,0,none⟩=some (.slice (some ⟨b,off,none⟩) n cap)) (hcn:W.cell? ⟨B2,0,none⟩=some (.int .i64 960)) (hJa:AbidesFrom W.heap.size J) (h0:J [] W) :
  CallsIn Fence.wide 3 Tryz.prog 175 #[.func (.yield l) #[] #[],.pointer (some ⟨B1,0,none⟩),.pointer (some ⟨B2,0,none⟩)] W fun e W'=>(∃ v,e=.returned v) ∧
   ((∃ ys,ys=List.finRange (bmN n)∧J ys W')∨(∃ pre,(∃ k,k≤bmN n∧pre=(List.finRange (bmN n)).take k)∧Jx pre W')):=by
 refine callsIn_of_wp Tryz.func175 rfl trivial ?_ rfl
 simp only[Tryz.ntmps175,List.size_toArray,List.length_cons,List.length_nil,Nat.reduceAdd,Nat.reduceSub,Array.replicate_succ,Array.replicate_zero,List.push_toArray,List.append_toArray,List.nil_append,List.cons_append]
 gi_wp2
 gi_loopw [4] (fun i wr=>∃ k:Nat,k≤bmN n∧i=.int .i64 ((k*960:Nat):Int)∧J ((List.finRange (bmN n)).take k) wr∧Keeps p W wr)
  (fun i _=>(n-(intOf i)).toNat)
 case atStart=>exact⟨0,Nat.zero_le _,by simp,h0,Keeps.refl _ _⟩
 case round =>
  obtain⟨k,hk,rfl,hJs,hnx⟩:=hrel
  have hck':=(hnx.cell (a:=⟨B1,0,none⟩) hB1).trans hck
  have hcn':=(hnx.cell (a:=⟨B2,0,none⟩) hB2).trans hcn
  by_cases hlt:k<bmN n
  ·have hkn:=bmN_lt hlt
   gi_wp2
   gi_big_quiet_th (fail)
   obtain⟨fn,tmps,assign,body,hy,hR⟩:=hY _ ⟨k,hlt⟩ (wr.drewN nq) (hJa _ wr _ none hJs ⟨rfl,rfl,rfl,Nat.le_refl _,fun _ _ _=>rfl⟩ (fun _ e=>by cases e)) (by rw[Cc hk];exact hlt)
   have hE:encK b off n ⟨k,hlt⟩=#[.slice (some ⟨b,off+k*960,none⟩) (min 960 (n-k*960)) (min 960 (n-k*960))]:=rfl
   rw[hE] at hy
   have HE:=Lib.hid hE;clear hE
   rw[show(if((n-k*960:Nat):Int)<960 then((n-k*960:Nat):Int) else 960)=((min 960 (n-k*960):Nat):Int) from by split<;>omega]
   obtain⟨m,hm⟩:∃ m,min 960 (n-k*960)=m:=⟨_,rfl⟩
   rw[hm] at hy ⊢
   have hm1:k*960+m≤n:=by omega
   have hm2:k*960+m≤cap:=by omega
   have hm3:k*960+m-k*960=m:=by omega
   gi_wp2
   refine hR.mono ?_
   rintro e W3 (⟨rfl,hJ3,hk3⟩|⟨rfl,hJx3⟩)
   ·have hcn3:W3.cell? ⟨B2,0,none⟩=some (.int .i64 960):=(hk3.cell (a:=⟨B2,0,none⟩) hB2).trans hcn'
    gi_wp2
    go_roundw
    case rel =>
     refine⟨k+1,by omega,?_,by rw[Pw hlt];exact hJ3,(hnx.trans (show Keeps p wr (wr.drewN nq) from⟨Nat.le_refl _,fun _ _=>rfl⟩)).trans hk3⟩
     exact congrArg (Value.int .i64) (by omega)
    case measure=>simp only[intOf];omega
   ·gi_wp2
    refine bodyPost_ret (results_none rfl _ _ _) rfl ?_
    exact⟨⟨_,rfl⟩,.inr ⟨_,⟨k+1,by omega,by rw[Pw hlt]⟩,hJx3⟩⟩
  ·obtain rfl:k=bmN n:=by omega
   have hdn:=bmN_done (n:=n) rfl
   have hdi:¬ (((bmN n*960:Nat):Int)<(n:Int)):=by omega
   rw[Ii] at hJs
   have HJ:=Lib.hid hJs;clear hJs
   gi_wp2
   go_end0
   exact⟨⟨_,rfl⟩,.inl HJ.out⟩
theorem Rp{α:Type}(l B1 B2:Nat)(J:List α→World→Prop)(W:World){a0:Option Addr}{c0:Nat}(hck:W.cell? ⟨B1,0,none⟩=some (.slice a0 0 c0))(h0:J [] W) :
 CallsIn Fence.wide 3 Tryz.prog 175 #[.func (.yield l) #[] #[],.pointer (some ⟨B1,0,none⟩),.pointer (some ⟨B2,0,none⟩)] W fun e W'=>(∃ v,e=.returned v)∧J [] W':=by
 refine callsIn_of_wp Tryz.func175 rfl trivial ?_ rfl
 simp only[Tryz.ntmps175,List.size_toArray,List.length_cons,List.length_nil,Nat.reduceAdd,Nat.reduceSub,Array.replicate_succ,Array.replicate_zero,List.push_toArray,List.append_toArray,List.nil_append,List.cons_append]
 gi_wp2
 gi_loopw [4] (fun i wr=>i=.int .i64 0∧J [] wr∧wr.cell? ⟨B1,0,none⟩=some (.slice a0 0 c0)) (fun _ _=>0)
 case atStart=>exact⟨rfl,h0,hck⟩
 case round =>
  obtain⟨rfl,hJs,hcr⟩:=hrel
  have HJ:=Lib.hid hJs;clear hJs
  gi_wp2
  go_end0
  exact⟨⟨_,rfl⟩,HJ.out⟩
theorem Oy(B1 B2:Nat)(p:Nat→Prop)(b off n cap:Nat)(v:Value)(w:World)(hp:∀ b,p b→b<w.heap.size)(h1:p B1)(h2:p B2)(hlen:n≤1000000)(hv:(n=0∧∃ a c,v=.slice a 0 c)∨v=.slice (some ⟨b,off,none⟩) n cap∧n≤cap)(hck:w.cell? ⟨B1,0,none⟩=some v)(hcn:w.cell? ⟨B2,0,none⟩=some (.int .i64 960)) :
  SeqStopsK Fence.wide 3 Tryz.prog 175 #[.pointer (some ⟨B1,0,none⟩),.pointer (some ⟨B2,0,none⟩)] (encK b off n) (Keeps p)
   (fun ys=>ys=List.finRange (bmN n)) (fun pre=>∃ k,k≤bmN n∧pre=(List.finRange (bmN n)).take k) (bmN n) w:=fun l J Jx W hW hJa _ hY h0=>by
 have hck':=getC hW hck
 have hcn':=getC hW hcn
 rcases hv with ⟨rfl,a,c,rfl⟩|⟨rfl,hcap⟩
 ·exact(Rp l B1 B2 J W hck' h0).mono fun e W' ⟨he,hj⟩=>⟨he,.inl ⟨_,rfl,hj⟩⟩
 ·exact chunk1_in l B1 B2 p b off n cap hlen hcap h1 h2 J Jx hY W hck' hcn' hJa h0
end Go.Proofs.YtlmaglneeaecdaaGreatDoor
namespace Go.Proofs.YtlmaglneeaecdaaGreatDoor
set_option maxHeartbeats 8000000
set_option maxRecDepth 100000
open Go.RowKit Go.Extern.Stop Go.Stop Go.Extern
set_option linter.unusedVariables false
attribute [local irreducible] wpList wpAnyH Code.wp Oper.wp Go
theorem Ay(p:Option Addr)(n c:Nat)(w:World) :
 Calls Tryz.prog 126 #[.slice p n c,.int .i64 960] w (fun e w'=>∃ b1 b2,e=.returned (.func (.func 175) #[] #[.pointer (some ⟨b1,0,none⟩),.pointer (some ⟨b2,0,none⟩)])∧Below w.heap.size w w'∧w.heap.size≤b1∧w.heap.size≤b2∧b1≠b2∧Blk w' b1 [.slice p n c] 31∧Blk w' b2 [.int .i64 960] 3):=by
 refine zin 9 Tryz.func126 ?_
 refine xa 2 [.slice p n c] 31 fun b1 W1 n1=>?_
 refine xa 0 [.int .i64 960] 3 fun b2 W2 n2=>?_
 refine xb 6 0 n2.blk ?_
 have k1:=n1.blk.below n2.below
 have hB:=bln n1.below n2.below
 have g1:=n1.ge (Below.refl w.heap.size _)
 have g2:=n2.ge n1.below
 exact xe 13 (.func (.func 175) #[] #[.pointer (some ⟨b1,0,none⟩),.pointer (some ⟨b2,0,none⟩)]) ⟨_,_,rfl,hB,g1,g2,(Blk.tne k1 n2.blk (by decide)),k1,n2.blk⟩
end Go.Proofs.YtlmaglneeaecdaaGreatDoor
namespace Go.Proofs.YtlmaglneeaecdaaGreatDoor
set_option maxHeartbeats 8000000
set_option maxRecDepth 100000
open Go.RowKit
set_option linter.unusedVariables false
theorem Zcv{A B:World}{row:Option Nat}{base size n:Nat}{e:TypeId}{v:Value}{xs:List Value}(k:A.ownsRow base e size v n xs)(hg:A.grownBy B row)(hr:∀ r,row=some r→∃ o:Obj,A.heap[r]? = some o∧o.isCells=false):B.ownsRow base e size v n xs:=by
 obtain⟨h1,h2⟩:=k
 refine⟨h1,?_⟩
 rcases h2 with h2|⟨g,cap,cur,hv,hb,hh,r⟩
 ·exact Or.inl h2
 ·refine Or.inr ⟨g,cap,cur,hv,hb,?_,r⟩
  rw[hg.block g (Array.getElem?_eq_some_iff.1 hh).1 (fun q=>by
   obtain⟨o,ho,hc⟩:=hr g q.symm
   rw[hh] at ho
   cases ho
   cases hc)]
  exact hh
theorem Lists.turn{A B:World}{row:Option Nat}{base:Nat}{v:Value}{gs:List (Nat×Nat)}{L:List (List Int)}(h:Lists A base v gs L)(hg:A.grownBy B row)(hr:∀ r,row=some r→∃ o:Obj,A.heap[r]? = some o∧o.isCells=false):Lists B base v gs L:=⟨Zcv h.row hg hr,fun i hi=>Zcv (h.each i hi) hg hr⟩
structure RdZ(w0:World)(b:Nat)(W V:World):Prop where
 bb:BelowBut w0 b V
 ko:KeepsOthers W V
 fr:∀ k,k<w0.heap.size→k≠b→V.heap[k]? = W.heap[k]?
 le:W.heap.size≤V.heap.size
theorem RdZ.refl{w0 W:World}{b:Nat}(h:BelowBut w0 b W):RdZ w0 b W W:=⟨h,⟨Nat.le_refl _,fun _ _ h _=>h⟩,fun _ _ _=>rfl,Nat.le_refl _⟩
theorem RdZ.below{w0 W V U:World}{b:Nat}(h:RdZ w0 b W V)(hb:Below V.heap.size V U):RdZ w0 b W U :=
 ⟨h.bb.next hb,h.ko.trans (Iw hb),fun k hk hn=>(hb.block k (Nat.lt_of_lt_of_le hk h.bb.size)).trans (h.fr k hk hn),Nat.le_trans h.le hb.size⟩
theorem RdZ.upd{w0 W V U:World}{b:Nat}{cs:List Value}{t:TypeId}(h:RdZ w0 b W V)(u:Upd V b U)(k:Blk V b cs t):RdZ w0 b W U :=
 ⟨h.bb.upd u,h.ko.trans (Ze5 u k),fun k hk hn=>(u.block k hn).trans (h.fr k hk hn),Nat.le_trans h.le (Nat.le_of_eq u.size.symm)⟩
theorem RdZ.grown{w0 W V U:World}{b size n:Nat}{e:TypeId}{v:Value}{xs:List Value}(h:RdZ w0 b W V)(hg:V.grownBy U v.ownBlock)(k:V.ownsRow w0.heap.size e size v n xs):RdZ w0 b W U :=
 ⟨⟨hg.os.trans h.bb.os,hg.tape.trans h.bb.tape,hg.output.trans h.bb.output,Nat.le_trans h.bb.size hg.size,fun i hi hn=>(hg.block i (Nat.lt_of_lt_of_le hi h.bb.size) (fun e=>by have:=(k.lt i e.symm).1;omega)).trans (h.bb.block i hi hn)⟩,
  ⟨Nat.le_trans h.ko.size hg.size,fun i o hi ho=>by
   have h1:=h.ko.same i o hi ho
   rw[hg.block i (Array.getElem?_eq_some_iff.1 h1).1 (fun q=>by
    rcases k.2 with ⟨rfl,_⟩|⟨g,cap,cur,rfl,_,hh,_⟩
    ·cases q
    ·simp only[Value.ownBlock,Option.some.injEq] at q
     subst q
     rw[hh] at h1
     cases h1
     cases ho)]
   exact h1⟩,
  fun i hi hn=>(hg.block i (Nat.lt_of_lt_of_le hi h.bb.size) (fun e=>by have:=(k.lt i e.symm).1;omega)).trans (h.fr i hi hn),Nat.le_trans h.le hg.size⟩
theorem row_or{w:World}{base e n c:Nat}{p:Option Addr}{xs:List Value}(k:w.ownsRow base e 1 (.slice p n c) n xs):∃ g,(n=0∧∃ a c',Value.slice p n c=.slice a 0 c')∨Value.slice p n c=.slice (some ⟨g,0,none⟩) n c∧n≤c:=by
 rcases k.2 with ⟨h,_⟩|⟨g,cap,cur,hv,_,_,hc,_⟩
 ·simp only[Value.slice.injEq] at h
  exact⟨0,.inl ⟨h.2.1,none,0,by rw[h.1,h.2.1,h.2.2]⟩⟩
 ·simp only[Value.slice.injEq] at hv
  obtain⟨rfl,_,rfl⟩:=hv
  exact⟨g,.inr ⟨rfl,hc⟩⟩
def Each(w:World)(base:Nat)(gs:List (Nat×Nat))(L:List (List Int)):Prop:=∀ i,i<L.length→w.ownsRow base 3 1 (Tp gs L i) (L.getD i []).length ((L.getD i []).map (Value.int .i64))
theorem Each.below{w W:World}{base:Nat}{gs:List (Nat×Nat)}{L:List (List Int)}(h:Each w base gs L)(hb:Below w.heap.size w W):Each W base gs L:=fun i hi=>Zb (h i hi) hb
theorem Each.only{T:List TypeId}{w W:World}{base:Nat}{gs:List (Nat×Nat)}{L:List (List Int)}(h:Each w base gs L)(hO:Zh T w W)(hT:T.contains 3=false):Each W base gs L:=fun i hi=>Zj (h i hi) hO hT
theorem Zc5{gs:List (Nat×Nat)}{L:List (List Int)}{g c i:Nat}{ch:List Int}(hg:gs.length=L.length)(hi:i<L.length):Tp (gs++[(g,c)]) (L++[ch]) i=Tp gs L i:=by
 unfold Tp
 simp[List.getD,List.getElem?_append_left,hi,hg]
theorem Zbx{gs:List (Nat×Nat)}{L:List (List Int)}{g c:Nat}{ch:List Int}(hg:gs.length=L.length):Tp (gs++[(g,c)]) (L++[ch]) L.length=.slice (some ⟨g,0,none⟩) ch.length c:=by
 unfold Tp
 rw[show(gs++[(g,c)]).getD L.length (0,0)=(g,c) from by rw[←hg];simp[List.getD],show(L++[ch]).getD L.length []=ch from by simp[List.getD]]
theorem Lists.snoc{w:World}{base g c n:Nat}{v:Value}{gs:List (Nat×Nat)}{L:List (List Int)}{ch:List Int}(hn:n=L.length+1)(hrow:w.ownsRow base 31 1 v n ((List.range L.length).map (Tp gs L)++[.slice (some ⟨g,0,none⟩) ch.length c]))(he:Each w base gs L)(hnew:w.ownsRow base 3 1 (.slice (some ⟨g,0,none⟩) ch.length c) ch.length (ch.map (Value.int .i64)))(hg:gs.length=L.length):Lists w base v (gs++[(g,c)]) (L++[ch]):=by
 subst hn
 refine⟨?_,fun i hi=>?_⟩
 ·rw[show(L++[ch]).length=L.length+1 from by simp,List.range_succ,List.map_append]
  rw[show(List.range L.length).map (Tp (gs++[(g,c)]) (L++[ch]))=(List.range L.length).map (Tp gs L) from List.map_congr_left fun i hi=>Zc5 hg (List.mem_range.1 hi),List.map_singleton,Zbx hg]
  exact hrow
 ·by_cases h:i<L.length
  ·rw[Zc5 hg h,show(L++[ch]).getD i []=L.getD i [] from by simp[List.getD,List.getElem?_append_left,h]]
   exact he i h
  ·obtain rfl:i=L.length:=by simp at hi;omega
   rw[Zbx hg,show(L++[ch]).getD L.length []=ch from by simp[List.getD]]
   exact hnew
theorem Sl.midI{w:World}{g n c:Nat}{xs:List Value}(h:Sl w (.slice (some ⟨g,0,none⟩) n c) n xs)(hl:xs.length=n)(k m:Nat)(hm:0<m)(hk:k+m≤n):Sl w (.slice (some ⟨g,0+k,none⟩) m m) m ((xs.drop k).take m):=by
 rcases h with ⟨a',c',h1,h2,h3⟩|⟨g',off',cap,h1,h2,h3,h4⟩
 ·omega
 ·simp only[Value.slice.injEq,Option.some.injEq,Addr.mk.injEq] at h1
  obtain⟨⟨rfl,rfl,_⟩,_,rfl⟩:=h1
  refine .inr ⟨g,0+k,m,rfl,Nat.le_refl _,by omega,fun j x hj=>?_⟩
  have hjm:j<m:=by
   rcases Nat.lt_or_ge j m with q|q
   ·exact q
   ·rw[List.getElem?_eq_none (by simp;omega)] at hj;cases hj
  rw[List.getElem?_take_of_lt hjm,List.getElem?_drop] at hj
  have:=h4 (k+j) x hj
  rw[show 0+k+j=0+(k+j) from by omega]
  exact this
end Go.Proofs.YtlmaglneeaecdaaGreatDoor
namespace Go.Proofs.YtlmaglneeaecdaaGreatDoor
set_option maxHeartbeats 8000000
set_option maxRecDepth 100000
open Go.RowKit Go.Extern.Stop Go.Stop Go.Extern
set_option linter.unusedVariables false
attribute [local irreducible] wpList wpAnyH Code.wp Oper.wp Go
section
variable {P:Program} {a:Act}
theorem shl_bd{n:Int}(h:0≤n∧n≤3){s:Nat}(hs:s≤6):0≤n*2 ^ s∧n*2 ^ s≤192:=by
 obtain rfl|rfl|rfl|rfl:n=0∨n=1∨n=2∨n=3:=by omega
 all_goals obtain rfl|rfl|rfl|rfl|rfl|rfl|rfl:s=0∨s=1∨s=2∨s=3∨s=4∨s=5∨s=6:=by omega
 all_goals decide
theorem run_shlS{o:Oper}{t t2:TypeId}{x y:Operand}{n:Int}{s:Nat}{j:Int}{kj:IntKind}(ho:o.op=.binOp .shl t x y t2)(hx:a.eval x=.int .i64 n)(hy:a.eval y=.int kj j)(hj:j=(s:Int))(hn:0≤n∧n≤3)(hs:s≤6)(w:World):(execOp a.eval o).run P w=.ok (.value (.int .i64 (n*2 ^ s))) w:=by
 subst hj
 have e:=shift_shl .i64 kj n (s:Int) (Int.natCast_nonneg s) (by show(s:Int)≤64;omega)
 rw[show((s:Int)).toNat=s from by omega] at e
 have hb:=shl_bd hn hs
 rw[IntWalk.i64_in _ (by omega)] at e
 simp only[execOp,ho,hx,hy,eqGuard_shl,binOp_shl,e]
 simp
end
section
variable {P:Program} {fn:Func} {R:Ending→World→Prop} {w:World} {s:Zs}
theorem xbot(q:Zq){b:BinOp}{t t2:TypeId}{u1 u2 v:Value}(hv:∀ (a:Act) (o:Oper) (x y:Operand),o.op=.binOp b t x y t2→a.eval x=u1→a.eval y=u2→∀ V,True→(execOp a.eval o).run P V=.ok (.value v) V)(g:Go P fn R (znx (zq P q s) v) w)(h:zk (zq P q s)=some (.bn b t t2 u1 u2):=by kernel_rfl):Go P fn R s w:=by
 refine Zn q s ?_
 obtain⟨o,ho,h⟩:=Qs h
 exact Zac ho (fun V _=>by
  obtain⟨x,y,h1,h2,h3⟩:=Ud h
  exact hv _ o x y h1 h2 h3 V trivial) g
end
theorem u8_shl{n:Int}(h:0≤n∧n≤3){s:Nat}(hs:s≤6):IntKind.u8.wrap (n*2 ^ s)=n*2 ^ s:=by
 have hb:=shl_bd h hs
 generalize n*2 ^ s=m at *
 simp[IntKind.wrap,IntKind.bits,IntKind.signed];omega
theorem Zcd(l:List Int)(i:Nat){k:Nat}(hk:k<240):(Gp l i).getD (4+k) 0=g4B l i k:=by
 unfold Gp
 rw[List.getD,List.getElem?_append_right (by rw[Zg];omega),Zg,Nat.add_sub_cancel_left]
 simp[hk]
theorem bits_or{l:List Int}(h:Vw l){i:Nat}(hi:i<960):IntKind.u8.wrap (↑(BitVec.ofInt 8 (↑((Gp l i).getD (4+(i/4)) 0).toNat:Int) ||| BitVec.ofInt 8 (l.getD i 0*2 ^ ((i%4)*2))).toNat:Int)=((g4B l (i+1) (i/4)).toNat:Int):=by
 rw[Zcd l i (by omega)]
 obtain⟨h1,h2⟩:=g4B_at h (i:=i)
 rw[h1]
 obtain⟨n,hn⟩:∃ n:Nat,l.getD i 0=n:=⟨(l.getD i 0).toNat,by have:=(Vi h i).1;omega⟩
 have hb:=Vi h i
 rw[hn] at hb ⊢
 generalize (g4B l i (i/4)).toNat=o at *
 have hr:i%4<4:=by omega
 generalize i%4=r at *
 have ho:o<64:=Nat.lt_of_lt_of_le h2 (by
  obtain rfl|rfl|rfl|rfl:r=0∨r=1∨r=2∨r=3:=by omega
  all_goals decide)
 have hs:=or_step ⟨r,hr⟩ ⟨n,by omega⟩ ⟨o,ho⟩ h2
 simp only at hs
 have e4:(4:Nat) ^ r=2 ^ (r*2):=by rw[Nat.mul_comm,Nat.pow_mul]
 have e:((n:Int)*2 ^ (r*2))=((n*4 ^ r:Nat):Int):=by rw[e4];simp
 have e':((n:Int)*4 ^ r)=((n*4 ^ r:Nat):Int):=by simp
 have hm:n*4 ^ r≤192:=by
   have h3:4 ^ r≤64:=by
    obtain rfl|rfl|rfl|rfl:r=0∨r=1∨r=2∨r=3:=by omega
    all_goals decide
   calc n*4 ^ r≤3*64:=Nat.mul_le_mul (by omega) h3
     _=192:=rfl
 rw[e,e',BitVec.ofInt_natCast,BitVec.ofInt_natCast,BitVec.toNat_or,BitVec.toNat_ofNat,BitVec.toNat_ofNat,Nat.mod_eq_of_lt (by omega),Nat.mod_eq_of_lt (by omega),hs]
 generalize n*4 ^ r=m at *
 simp[IntKind.wrap,IntKind.bits,IntKind.signed];omega
theorem bits_set{l:List Int}{i:Nat}(hi:i<960):((Gp l i).map bv).set (4+(i/4)) (.int .u8 ((g4B l (i+1) (i/4)).toNat:Int))=(Gp l (i+1)).map bv:=by
 rw[show Value.int .u8 ((g4B l (i+1) (i/4)).toNat:Int)=bv (g4B l (i+1) (i/4)) from rfl,←List.map_set]
 congr 1
 unfold Gp
 rw[List.set_append_right _ _ (by rw[Zg];omega),Zg,Nat.add_sub_cancel_left]
 congr 1
 apply List.ext_getElem
 ·simp
 ·intro k h1 h2
  rw[List.getElem_set]
  split
  ·rename_i e;subst e;simp
  ·rename_i e;simp only[List.getElem_map,List.getElem_range];unfold g4B;rw[g4_ne (by omega)]
theorem bits0(l:List Int):((List.replicate 244 (0:UInt8)).map bv).take 0++(leB (↑l.length:Int) 4).map bv++((List.replicate 244 (0:UInt8)).map bv).drop (0+4)=(Gp l 0).map bv:=by
 unfold Gp
 rw[List.map_append,List.take_zero,List.nil_append]
 congr 1
theorem BysN.elem{w:World}{b:Option Addr}{n c:Nat}{l:List UInt8}(h:Sl w (.slice b n c) n (l.map bv))(hl:l.length=n){k:Nat}(hk:k<n):b.isSome=true∧w.cell? (Xa b (k*1))=some (.int .u8 ((l.getD k 0).toNat:Int)):=by
 subst hl;exact Bys.elem (Yk h rfl) hk
theorem bits_put1(n:Int)(w:World)(h0:0≤n)(h3:n≤3) :
 Calls Tryz.prog 177 #[.int .i64 n] w (Ret (.bool false) w):=by
 refine zin 9 Tryz.func177 ?_
 refine xgk 10 [4,5] (show(decide (n<(0:Int)):Bool)=false from decide_eq_false (by omega)) ?_
 refine xe 7 (.bool (decide (n>(3:Int)))) ?_
 rw[show decide (n>(3:Int))=false from decide_eq_false (by omega)];exact⟨rfl,(Below.refl w.heap.size _)⟩
theorem Zfs(a:Option Addr)(c:Nat)(l:List Int)(w:World)(hS:Vw l)(hl:l.length≤960)(h:Sl w (.slice a l.length c) l.length (l.map (Value.int .i64))) :
 Calls Tryz.prog 216 #[.slice a l.length c,.func (.func 177) #[] #[]] w (Ret (.int .i64 (-1)) w):=by
 refine zin 19 Tryz.func216 ?_
 have hB:=Below.refl w.heap.size w
 refine zl 14 19 (fun zm zkv V=>∃ (i:Nat),zkv=[(0,.slice a l.length c),(1,.func (.func 177) #[] #[]),(7,.int .i64 (↑l.length:Int)),(8,.int .i64 (↑i:Int))]∧zm=l.length-((↑i:Int)).toNat∧Below w.heap.size w V∧i≤l.length) ⟨0,rfl,rfl,hB,Nat.zero_le _⟩ ?_
 rintro _ _ W1 ⟨i,rfl,rfl,hB_1,hi⟩ J1 hJ1 r1
 refine xid 6 ((↑i:Int)<(↑l.length:Int)) (fun hc2=>?_) (fun hc2=>?_)
 ·refine xx 15 _ l.length i 1 (Ints.elem h (k:=i) (by omega)).1 ?_
  refine xl 0 ((Ints.elem (h.below hB_1) (k:=i) (by omega)).2) ?_
  refine xr 0 (args:=#[.int .i64 (l.getD i 0)]) (bits_put1 (l.getD i 0) _ (Vi hS i).1 (Vi hS i).2) fun W3 hb3=>?_
  refine xwm 7 ((↑i:Int)+1) (↑(i+1):Int) ?_
  have hB'1:=bln hB_1 hb3
  exact ze 2 (hJ1 _ _ _ ⟨i+1,rfl,rfl,hB'1,by omega⟩ (by omega))
 exact xe 11 (.int .i64 (-1)) ⟨rfl,hB_1⟩
theorem Te(a:Option Addr)(c:Nat)(l:List Int)(w:World)(hS:Vw l)(hl:l.length≤960)(h:Sl w (.slice a l.length c) l.length (l.map (Value.int .i64))) :
 Calls Tryz.prog 176 #[.slice a l.length c,.func (.func 177) #[] #[]] w (Ret (.bool false) w):=by
 refine zin 9 Tryz.func176 ?_
 refine xr 9 (args:=#[.slice a l.length c,.func (.func 177) #[] #[]]) (Zfs a c l _ hS hl (h.below (Below.refl w.heap.size _))) fun W1 hb1=>?_
 exact xe 5 (.bool false) ⟨rfl,hb1⟩
theorem Il(a:Option Addr)(c:Nat)(l:List Int)(w:World)(hl:l.length≤960)(h:Sl w (.slice a l.length c) l.length (l.map (Value.int .i64))) :
 Calls Tryz.prog 128 #[.slice a l.length c] w (Ret (.tuple #[.int .i64 (↑(Yg l):Int),.int .i64 (↑(Xi l):Int)]) w):=by
 refine zin 27 Tryz.func128 ?_
 have hB:=Below.refl w.heap.size w
 refine zl 23 27 (fun zm zkv V=>∃ (i f g:Nat),zkv=[(2,.int .i64 0),(3,.int .i64 0),(4,.int .i64 (↑f:Int)),(5,.int .i64 (↑g:Int)),(10,.slice a l.length c),(11,.int .i64 (↑l.length:Int)),(12,.int .i64 (↑i:Int))]∧zm=l.length-((↑i:Int)).toNat∧Below w.heap.size w V∧i≤l.length∧f=Zff l i∧((f=0∧g=l.length∧∀ j,j<i→l.getD j 0≠0)∨(0<f∧g=Xi l))) ⟨0,0,l.length,rfl,rfl,hB,Nat.zero_le _,rfl,?_⟩ ?_
 ·exact .inl ⟨rfl,rfl,fun j hj=>absurd hj (by omega)⟩
 rintro _ _ W1 ⟨i,f,g,rfl,rfl,hB_1,hi,hf,hg⟩ J1 hJ1 r1
 have hfs:=fun(q:i<l.length)=>Zdf q
 have hfb:=Pt l i
 refine xid 6 ((↑i:Int)<(↑l.length:Int)) (fun hc2=>?_) (fun hc2=>?_)
 ·refine xx 7 _ l.length i 1 (Ints.elem h (k:=i) (by omega)).1 ?_
  refine xl 0 ((Ints.elem (h.below hB_1) (k:=i) (by omega)).2) ?_
  refine xin 11 (l.getD i 0) (0:Int) (fun hc3=>?_) (fun hc3=>?_)
  ·refine xwm 5 ((↑i:Int)+1) (↑(i+1):Int) ?_
   exact ze 2 (hJ1 _ _ _ ⟨i+1,f,g,rfl,rfl,hB_1,by omega,by rw[hfs (by omega),if_neg (by assumption)];exact hf,hg.elim (fun⟨h1,h2,h3⟩=>.inl ⟨h1,h2,fun j hj=>(Nat.lt_or_ge j i).elim (fun q=>h3 j q) (fun q=>by obtain rfl:j=i:=(by omega);assumption)⟩) .inr⟩ (by omega))
  refine xie 9 (↑f:Int) (0:Int) (fun hc4=>?_) (fun hc4=>?_)
  ·refine xwm 7 ((↑f:Int)+1) (↑(f+1):Int) ?_
   refine xwm 5 ((↑i:Int)+1) (↑(i+1):Int) ?_
   exact ze 2 (hJ1 _ _ _ ⟨i+1,f+1,i,rfl,rfl,hB_1,by omega,by rw[hfs (by omega),if_pos (by assumption),hf],.inr ⟨by omega,hg.elim (fun⟨_,_,h3⟩=>(firstN_at (by omega) (by assumption) h3).symm) (fun q=>absurd q.1 (by omega))⟩⟩ (by omega))
  refine xwm 4 ((↑f:Int)+1) (↑(f+1):Int) ?_
  refine xwm 5 ((↑i:Int)+1) (↑(i+1):Int) ?_
  exact ze 2 (hJ1 _ _ _ ⟨i+1,f+1,g,rfl,rfl,hB_1,by omega,by rw[hfs (by omega),if_pos (by assumption),hf],.inr ⟨by omega,hg.elim (fun⟨h1,_,_⟩=>absurd h1 (by omega)) (fun q=>q.2)⟩⟩ (by omega))
 refine xe 14 (.tuple #[.int .i64 (↑f:Int),.int .i64 (↑g:Int)]) ?_
 obtain rfl:i=l.length:=by omega
 have hfin:f=Yg l:=hf
 rcases hg with ⟨h1,h2,h3⟩|⟨h1,h2⟩
 ·exact⟨by rw[hfin,h2,Za8 h3],hB_1⟩
 ·exact⟨by rw[hfin,h2],hB_1⟩
theorem Zc6(a:Option Addr)(c:Nat)(l:List Int)(w:World)(hS:Vw l)(hl:l.length≤960)(h:Sl w (.slice a l.length c) l.length (l.map (Value.int .i64))) :
 Calls Tryz.prog 127 #[.slice a l.length c] w (Yz (fun w' r=>∃ g,r=.tuple #[.slice (some ⟨g,0,none⟩) 244 244,.int .i64 0]∧w'.ownsRow w.heap.size 5 1 (.slice (some ⟨g,0,none⟩) 244 244) 244 ((Jd l).map bv)) w):=by
 refine zin 51 Tryz.func127 ?_
 refine xgk 13 [11,12] (show(decide ((↑l.length:Int)>(960:Int)):Bool)=false from decide_eq_false (by omega)) ?_
 refine xr 1 (args:=#[.slice a l.length c,.func (.func 177) #[] #[]]) (Te a c l _ hS hl (h.below (Below.refl w.heap.size _))) fun W2 hb2=>?_
 refine xbs 11 1 [.int .i64 4,.int .i64 (↑l.length:Int)] 226 fun b3 W3 n3=>?_
 refine xc 0 (args:=#[.slice (some ⟨b3,0,none⟩) 1 1]) (Mz b3 (↑l.length:Int) (by omega) (by omega) _ n3.blk) ?_
 rintro _ W4 ⟨_,rfl,hb4,p2,c2,rfl,h2⟩
 have hs4:=(bln hb2 n3.below).size
 refine xmk 9 fun _ _ _ _ zJ zQ zo zx zy zK=>Vm 244 (.int .u8 0) 1 1 ((List.replicate 244 (0:UInt8)).map bv) zo zx zy Tryz.underlying22 (by kernel_rfl) rfl (by omega) (by omega) (Zcn 244) fun b5 W5 n5=>?_
 have h2'1:=Zd h2 hs4
 have r5_h2:=Zr h2'1 n5
 refine zK _ _ ?_
 have o5:=Zw (size:=1) (n:=244) n5.blk (n5.ge (bln (bln hb2 n3.below) hb4)) (by rw[List.length_map,List.length_replicate]) (by unfold maxLen;omega)
 have h2'2:=Zb h2'1 n5.below
 have hB:=bln (bln (bln hb2 n3.below) hb4) n5.below
 refine xbi 7 (t2:=22) fun _ _ _ _ zJ zQ zo zx zy zK=>Wx (dLen:=244) (dCap:=244) (off:=0) 4 ((leB (↑l.length:Int) 4).map bv) ((Gp l 0).map bv) zo Tryz.underlying22 (by kernel_rfl) zx zy (Ze h2'2) o5 (by simp[Zg]) (by omega) (by omega) (Qc _) hB.size (bits0 l) fun W6 o6 hg6 hb6=>?_
 refine zK _ _ ?_
 have hB'1:=hB.trans hb6
 have k3'1:=((n3.blk.below hb4).below n5.below).grown hg6 o5 (by decide)
 refine zl 11 51 (fun zm zkv V=>∃ (i:Nat),zkv=[(2,.slice none 0 0),(3,.int .i64 0),(6,.slice (some ⟨b5,0,none⟩) 244 244),(28,.slice a l.length c),(29,.int .i64 (↑l.length:Int)),(30,.int .i64 (↑i:Int))]∧zm=l.length-((↑i:Int)).toNat∧Below w.heap.size w V∧Blk V b3 ([.int .i64 4,.int .i64 (↑l.length:Int)]) 226∧V.ownsRow w.heap.size 5 1 (.slice (some ⟨b5,0,none⟩) 244 244) 244 ((Gp l i).map bv)∧i≤l.length) ⟨0,rfl,rfl,hB'1,k3'1,o6,Nat.zero_le _⟩ ?_
 rintro _ _ W7 ⟨i,rfl,rfl,hB_7,k7_b3,ho,hi⟩ J7 hJ7 r7
 refine xid 6 ((↑i:Int)<(↑l.length:Int)) (fun hc8=>?_) (fun hc8=>?_)
 ·refine xx 7 _ l.length i 1 (Ints.elem h (k:=i) (by omega)).1 ?_
  refine xl 0 ((Ints.elem (h.below hB_7) (k:=i) (by omega)).2) ?_
  refine xd 4 (.t w.heap.size [5]) ?_
  refine xq (.e [0,1] 2) (congrArg (Value.int .i64) (show(IntKind.i64.wrap (Int.tdiv (↑i:Int) 4):Int)=(↑(i/4):Int) from Gc i 4 (by omega) (by decide))) ?_
  refine xwm (.e [] 3) (4+(↑(i/4):Int)) (↑(4+(i/4)):Int) ?_
  refine xx (.e [] 4) _ 244 (4+(i/4)) 1 (show(some (⟨b5,0,none⟩:Addr)).isSome=true from rfl) ?_
  refine xq (.e [6,7] 8) (congrArg (Value.int .i64) (show(Int.tmod (↑i:Int) 4:Int)=(↑(i%4):Int) from He i 4)) ?_
  refine xwm (.e [] 9) ((↑(i%4):Int)*2) (↑((i%4)*2):Int) ?_
  refine xbot (.e [] 10) (t:=3) (t2:=3) (fun _ _ _ _ zo zx zy V hV=>run_shlS (n:=(l.getD i 0)) (s:=((i%4)*2)) (kj:=.i64) (j:=(↑((i%4)*2):Int)) zo zx zy rfl (Vi hS i) (by omega) V) ?_
  refine xq (.e [] 11) (congrArg (Value.int .u8) (show(IntKind.u8.wrap (l.getD i 0*2 ^ ((i%4)*2)):Int)=l.getD i 0*2 ^ ((i%4)*2) from u8_shl (Vi hS i) (by omega))) ?_
  have ho'1:=Zb ho (Za W7)
  refine xl (.o [] 5) ((BysN.elem (Ze ho'1) (Qf l i) (k:=(4+(i/4))) (by omega)).2) ?_
  refine xq (.e [] 12) (congrArg (Value.int .u8) (show(IntKind.u8.wrap (↑(BitVec.ofInt 8 (↑((Gp l i).getD (4+(i/4)) 0).toNat:Int) ||| BitVec.ofInt 8 (l.getD i 0*2 ^ ((i%4)*2))).toNat:Int):Int)=(↑(g4B l (i+1) (i/4)).toNat:Int) from bits_or hS (by omega))) ?_
  refine xx (.e [] 13) _ 244 (4+(i/4)) 1 (show(some (⟨b5,0,none⟩:Addr)).isSome=true from rfl) ?_
  refine yst (.o [] 14) (.t w.heap.size [5]) fun _ _ _ _ zJ zQ zo zx zy zK=>Ja (t:=5) (k:=(4+(i/4))) (v:=.int .u8 (↑(g4B l (i+1) (i/4)).toNat:Int)) zo zx zy (by kernel_rfl) rfl ho'1 (by omega) fun W9 u9 o9=>?_
  rw[bits_set (l:=l) (i:=i) (by omega)] at o9
  have k7_b3'1:=k7_b3.below (Za W7)
  refine zK _ _ (sft_only (T:=[5]) (u9.below (Below.refl _ _) (Hb ho'1)) (Zh.of_updRow u9 ho'1 (by decide))) ?_
  refine xwm 4 ((↑i:Int)+1) (↑(i+1):Int) ?_
  have hB'2:=u9.below (bln hB_7 (Za W7)) (Hb ho'1)
  have k7_b3'2:=u9.blk k7_b3'1 (Kr k7_b3'1 ho'1 (by decide))
  exact ze 2 (hJ7 _ _ _ ⟨i+1,rfl,rfl,hB'2,k7_b3'2,o9,by omega⟩ (by omega))
 refine xe 13 (.tuple #[.slice (some ⟨b5,0,none⟩) 244 244,.int .i64 0]) ?_
 obtain rfl:i=l.length:=by omega
 exact⟨_,rfl,hB_7,_,rfl,ho⟩
theorem Np(p:Addr)(N c:Nat)(xs:List Value)(w:World)(h:Sl w (.slice (some p) N c) N xs)(hl:xs.length=N)(h1:∀ u∈xs,u.oneCell'=true)(hn:N≤1000000) :
 Calls Tryz.prog 88 #[.slice (some p) N c] w (Yz (fun w' r=>∃ q c2,r=.slice q N c2∧w'.ownsRow w.heap.size 3 1 (.slice q N c2) N xs) w):=by
 refine zin 8 Tryz.func88 ?_
 refine xb0 17 3 fun b1 W1 n1=>?_
 have o1:=Zw (size:=1) (n:=0) n1.blk (n1.ge (Below.refl w.heap.size _)) rfl (by decide)
 refine xbi 1 fun _ _ _ _ zJ zQ zo zx zy zK=>Zo (m:=N) (news:=xs) (.int .i64 0) 1 8 (N) (xs) zo Tryz.underlying31 (by kernel_rfl) rfl (by decide) zx o1 zy (h.below n1.below) (by rw[hl,Nat.mul_one]) h1 (by unfold maxLen;omega) (by omega) n1.below.size (by omega) (by rfl) fun px2 cx2 W2 o2 hg2 hb2=>?_
 refine zK _ _ ?_
 have hB'1:=n1.below.trans hb2
 exact xe 4 (.slice px2 N cx2) ⟨_,rfl,hB'1,_,_,rfl,o2⟩
end Go.Proofs.YtlmaglneeaecdaaGreatDoor
namespace Go.Proofs.YtlmaglneeaecdaaGreatDoor
set_option maxHeartbeats 8000000
set_option maxRecDepth 100000
open Go.RowKit Go.Extern.Stop Go.Stop Go.Extern
set_option linter.unusedVariables false
attribute [local irreducible] wpList wpAnyH Code.wp Oper.wp Go
theorem Ph(no er:Int)(bl:List Int)(v:Value)(w:World)(hv:Kk w (bl.map some) (some er) v) :
 Calls Tryz.prog 70 #[.int .i64 no,v] w (fun e w'=>∃ ty x,e=.returned (.iface ty x)∧Below w.heap.size w w'∧Kk w' ((no::bl).map some) (some er) (.iface ty x)):=by
 refine(Zco no (some er) (bl.map some) v w hv).mono ?_
 rintro e W ⟨r,rfl,hb,hr⟩
 rw[show atL no (bl.map some) (some er)=(no::bl).map some from by unfold atL Ml;simp] at hr
 have hr2:Kk W (some no::bl.map some) (some er) r:=hr
 obtain⟨blk,v',rfl,h1,h2⟩:=hr2
 exact⟨_,_,rfl,hb,blk,v',rfl,h1,h2⟩
theorem Zab(B b:Nat)(p:Option Addr)(n c:Nat)(l:List UInt8)(no:Int)(w:World)(hI:ImgR B b p n c l w) :
 Calls Tryz.prog 135 #[.pointer (some ⟨b,0,none⟩),.int .i64 no] w (fun e w' =>
 (Xh l no≠0∧∃ ty x,e=.returned (.tuple #[.slice none 0 0,.iface ty x])∧Below w.heap.size w w'∧Kk w' (([no]:List Int).map some) (some (Xh l no)) (.iface ty x)) ∨
 (Xh l no=0∧∃ p c,e=.returned (.tuple #[.slice p (Tq l no).length c,.nilIface])∧Below w.heap.size w w'∧w'.ownsRow w.heap.size 3 1 (.slice p (Tq l no).length c) (Tq l no).length ((Tq l no).map (Value.int .i64)))):=by
 refine(Zev B b p n c l no w hI).mono ?_
 rintro e W q
 rcases q with ⟨h,b,rfl,hb,hv⟩|⟨h,p,c,rfl,hb,ho⟩
 ·exact .inl ⟨h,_,_,rfl,hb,hv⟩
 ·refine .inr ⟨h,p,c,by rw[(Rz h).2],hb,?_⟩
  rw[(Rz h).2,(Rz h).1,bitI_map];exact ho
end Go.Proofs.YtlmaglneeaecdaaGreatDoor
namespace Go.Proofs.YtlmaglneeaecdaaGreatDoor
set_option maxHeartbeats 8000000
set_option maxRecDepth 100000
open Go.RowKit Go.Extern.Stop Go.Stop Go.Extern
set_option linter.unusedVariables false
attribute [local irreducible] wpList wpAnyH Code.wp Oper.wp Go
def SplitP(l:List Int)(w:World)(e:Ending)(w':World):Prop :=
 (Jh l≠0∧e=.returned (.tuple #[.slice none 0 0,.slice none 0 0,.int .i64 2])∧Below w.heap.size w w') ∨
 (Jh l=0∧∃ pb cb gs po co,e=.returned (.tuple #[.slice pb (bmN l.length) cb,.slice po (Zt l l.length).length co,.int .i64 0])∧Below w.heap.size w w'∧Lists w' w.heap.size (.slice pb (bmN l.length) cb) gs (Xq (Zp l) (bmN l.length))∧w'.ownsRow w.heap.size 74 3 (.slice po (Zt l l.length).length co) (Zt l l.length).length ((Zt l l.length).flatMap Hr))
theorem Rc{l:List Int}{i:Nat}(hl:l.length≤65536)(hi:i<l.length)(h:¬ Wr (l.getD i 0)):Jh l≠0:=fun q=>h ((Nm q).2 i hi)
theorem Wo{l:List Int}(hl:l.length≤65536)(h:∀ k,k<l.length→Wr (l.getD k 0)):Jh l=0:=by
 unfold Jh;rw[if_neg (by omega),if_pos h]
attribute [local go_sem] Oper.semAt_some
theorem g_retM{P:Program}{fn:Func}{R:Ending→World→Prop}{a:Act}{w:World}(v:Value)(hd:a.defers=[])(hr:(results fn a.tmps).run P w=.ok v w)(h:R (.returned v) w):bodyPostM Fence.wide 4 P fn R .ret a w:=by
 show LeavesInM _ _ _ _ a.tmps R a.defers .returning w
 rw[hd]
 exact⟨v,hr,h⟩
theorem Lists.put{W U:World}{D base:Nat}{v:Value}{gs:List (Nat×Nat)}{L:List (List Int)}(h:Lists W base v gs L)(u:Upd W D U)(hK:Dfr D W):Lists U base v gs L:=⟨u.own3 h.row (hK.row h.row),fun i hi=>u.own3 (h.each i hi) (hK.row (h.each i hi))⟩
theorem mn3_if(n:Int):(if 3<n then 3 else n)=mn3 n:=by unfold mn3;split<;>split<;>omega
def Jr(s:List Int){n:Nat}(pre:List (Fin n)):List (List Int):=pre.map fun j=>Hh s j.val
theorem Hc(s:List Int){n:Nat}(pre:List (Fin n))(x:Fin n):Jr s (pre++[x])=Jr s pre++[Hh s x.val]:=by simp[Jr]
theorem preC_all(s:List Int)(n:Nat):Jr s (List.finRange n)=Xq s n:=by
 unfold Jr Xq
 apply List.ext_getElem
 ·simp
 ·intro i h1 h2;simp
theorem Zbl(a:Option Addr)(c:Nat)(l:List Int)(w:World)(h:Sl w (.slice a l.length c) l.length (l.map (Value.int .i64)))(hl:l.length≤65536) :
 Calls Tryz.prog 83 #[.slice a l.length c] w (SplitP l w):=by
 refine Ep Tryz.func83 rfl ?_
 refine g_fr ⟨#[.slice a l.length c,undef,undef,undef,undef,undef,undef,undef,undef,undef,undef,undef,undef,undef,undef,undef,undef,undef,undef,undef,undef,undef,undef,undef,undef,undef,undef,undef,undef,undef,undef,undef,undef,undef,undef,undef,undef,undef,undef,undef,undef,undef,undef,undef,undef,undef,undef,undef,undef,undef,undef,undef],[]⟩ (by kernel_rfl) ?_
 refine wp_seq ?_
 refine wp_region_lit ?_
 refine Dh 3 [(2,.slice none 0 0),(3,.slice none 0 0),(4,.int .i64 0)] (by kernel_rfl) ?_
 refine wpList_nil ?_
 refine wp_seq ?_
 refine wp_seq ?_
 refine wp_region_lit ?_
 refine Dh 3 [(11,.slice a l.length c),(12,.int .i64 (↑l.length:Int)),(13,.bool (decide ((↑l.length:Int)>(65536:Int))))] (by kernel_rfl) ?_
 refine wpList_nil ?_
 refine wp_cond_split (t:=decide ((↑l.length:Int)>(65536:Int))) (by kernel_rfl) (fun hh=>absurd (hh.symm.trans (show(decide ((↑l.length:Int)>(65536:Int)):Bool)=false from decide_eq_false (by omega))) (by decide)) (fun _=>?_)
 refine wp_skip ?_
 refine wp_seq ?_
 refine wp_region_lit ?_
 refine Dh 1 [(5,.slice none 0 0)] (by kernel_rfl) ?_
 refine wpList_nil ?_
 refine wp_seq ?_
 refine wp_region_lit ?_
 refine Dh 1 [(6,.slice none 0 0)] (by kernel_rfl) ?_
 refine wpList_nil ?_
 refine wp_seq ?_
 refine wp_seq ?_
 refine wp_region_lit ?_
 refine Dh 3 [(14,.slice a l.length c),(15,.int .i64 (↑l.length:Int)),(16,.int .i64 0)] (by kernel_rfl) ?_
 refine wpList_nil ?_
 refine wp_block ?_
 refine g_fr ⟨#[.slice a l.length c,undef,.slice none 0 0,.slice none 0 0,.int .i64 0,.slice none 0 0,.slice none 0 0,undef,undef,undef,undef,.slice a l.length c,.int .i64 (↑l.length:Int),.bool (decide ((↑l.length:Int)>(65536:Int))),.slice a l.length c,.int .i64 (↑l.length:Int),.int .i64 0,undef,undef,undef,undef,undef,undef,undef,undef,undef,undef,undef,undef,undef,undef,undef,undef,undef,undef,undef,undef,undef,undef,undef,undef,undef,undef,undef,undef,undef,undef,undef,undef,undef,undef,undef],[]⟩ (by kernel_rfl) ?_
 have hB:=Below.refl w.heap.size w
 refine wp_loop (fun act V=>∃ (i:Nat) (ps:Option Addr) (cs:Nat) (po:Option Addr) (co:Nat) (x2:Nat→Value),act=⟨#[.slice a l.length c,undef,(x2 0),(x2 1),(x2 2),.slice ps i cs,.slice po ((Zt l i).length) co,(x2 3),(x2 4),undef,undef,.slice a l.length c,.int .i64 (↑l.length:Int),.bool (decide ((↑l.length:Int)>(65536:Int))),.slice a l.length c,.int .i64 (↑l.length:Int),.int .i64 (↑i:Int),(x2 5),(x2 6),(x2 7),(x2 8),(x2 9),(x2 10),(x2 11),(x2 12),(x2 13),(x2 14),(x2 15),(x2 16),(x2 17),(x2 18),(x2 19),(x2 20),(x2 21),(x2 22),(x2 23),(x2 24),(x2 25),(x2 26),(x2 27),(x2 28),(x2 29),undef,undef,undef,undef,undef,undef,undef,undef,undef,undef],[]⟩∧Below w.heap.size w V∧V.ownsRow w.heap.size 3 1 (.slice ps i cs) i ((Zp (l.take i)).map (Value.int .i64))∧V.ownsRow w.heap.size 74 3 (.slice po (Zt l i).length co) (Zt l i).length ((Zt l i).flatMap Hr)∧i≤l.length∧((∀ j,j<i→Wr (l.getD j 0)))) (fun act V=>l.length-((intOf (act.tmps.getD 16 undef))).toNat) ⟨0,none,0,none,0,(pk [.slice none 0 0,.slice none 0 0,.int .i64 0,undef,undef,undef,undef,undef,undef,undef,undef,undef,undef,undef,undef,undef,undef,undef,undef,undef,undef,undef,undef,undef,undef,undef,undef,undef,undef,undef]),rfl,hB,World.ownsRow_nil _ _ _ _,World.ownsRow_nil _ _ _ _,Nat.zero_le _,?_⟩ ?_
 ·exact fun j hj=>absurd hj (by omega)
 rintro _ W2 ⟨i,ps,cs,po,co,x2,rfl,hB,hs,ho,hi,hz⟩
 refine wp_seq ?_
 refine wp_region_lit ?_
 refine Dh 1 [(17,.bool (decide ((↑i:Int)<(↑l.length:Int))))] (by kernel_rfl) ?_
 refine wpList_nil ?_
 refine wp_seq ?_
 refine wp_cond_split (t:=decide ((↑i:Int)<(↑l.length:Int))) (by kernel_rfl) (fun hc3=>?_) (fun hc3=>?_)
 ·have hc3:=of_decide_eq_true hc3
  refine wp_skip ?_
  refine wp_seq ?_
  refine wp_block ?_
  refine wp_seq ?_
  refine wp_region_lit ?_
  refine Dh 1 [(18,.int .i64 (↑i:Int))] (by kernel_rfl) ?_
  refine Ze1 (by kernel_rfl) (Hf (Rk (size:=1) (k:=i) (b:=a) (n:=l.length) (c:=c) (i:=(↑i:Int)) (ki:=.i64) rfl (by kernel_rfl) (by kernel_rfl) rfl (by omega) (Ints.elem h (k:=i) (by omega)).1 Tryz.underlying31 (by kernel_rfl) W2) ?_)
  refine Ze1 (by kernel_rfl) (Dg (Xa a (i*1)) (.int .i64 (l.getD i 0)) rfl (by kernel_rfl) (by kernel_rfl) (Ints.elem (h.below hB) (k:=i) (by omega)).2 ?_)
  refine Dh 2 [(7,.int .i64 (↑i:Int)),(8,.int .i64 (l.getD i 0))] (by kernel_rfl) ?_
  refine wpList_nil ?_
  refine wp_seq ?_
  refine wp_seq ?_
  refine wp_region_lit ?_
  refine Dh 3 [(21,.int .i64 (l.getD i 0)),(22,.bool (decide ((l.getD i 0)<(0:Int)))),(23,.bool (decide ((l.getD i 0)<(0:Int))))] (by kernel_rfl) ?_
  rcases Bool.eq_false_or_eq_true (decide ((l.getD i 0)<(0:Int))) with hc4|hc4
  ·refine g_b [22,23] _ _ hc4 (by kernel_rfl) ?_
   have hc4:=of_decide_eq_true hc4
   refine Dh 3 [(24,undef),(25,undef),(26,.bool true)] (by kernel_rfl) ?_
   refine wpList_nil ?_
   refine wp_cond_true (by kernel_rfl) ?_
   refine wp_seq ?_
   refine wp_region_lit ?_
   refine Dh 3 [(2,.slice none 0 0),(3,.slice none 0 0),(4,.int .i64 2)] (by kernel_rfl) ?_
   refine wpList_nil ?_
   refine wp_ret (Jk (Gi (Jk (Jk (Gi (Jk ?_))))))
   exact g_retM (.tuple #[.slice none 0 0,.slice none 0 0,.int .i64 2]) (by kernel_rfl) (by kernel_rfl) (.inl ⟨Rc (i:=i) hl (by omega) (fun q=>by unfold Wr at q;omega),rfl,hB⟩)
  ·refine g_b [22,23] _ _ hc4 (by kernel_rfl) ?_
   have hc4:=of_decide_eq_false hc4
   refine Dh 3 [(24,.int .i64 (l.getD i 0)),(25,.bool (decide ((l.getD i 0)>(2147483647:Int)))),(26,.bool (decide ((l.getD i 0)>(2147483647:Int))))] (by kernel_rfl) ?_
   refine wpList_nil ?_
   refine wp_cond_split (t:=decide ((l.getD i 0)>(2147483647:Int))) (by kernel_rfl) (fun hc5=>?_) (fun hc5=>?_)
   ·have hc5:=of_decide_eq_true hc5
    refine wp_seq ?_
    refine wp_region_lit ?_
    refine Dh 3 [(2,.slice none 0 0),(3,.slice none 0 0),(4,.int .i64 2)] (by kernel_rfl) ?_
    refine wpList_nil ?_
    refine wp_ret (Jk (Gi (Jk (Jk (Gi (Jk ?_))))))
    exact g_retM (.tuple #[.slice none 0 0,.slice none 0 0,.int .i64 2]) (by kernel_rfl) (by kernel_rfl) (.inl ⟨Rc (i:=i) hl (by omega) (fun q=>by unfold Wr at q;omega),rfl,hB⟩)
   ·have hc5:=of_decide_eq_false hc5
    refine wp_skip ?_
    refine wp_seq ?_
    refine wp_region_lit ?_
    refine Dh 3 [(27,.slice ps i cs),(28,.int .i64 (l.getD i 0)),(29,.int .i64 (if(3:Int)<(l.getD i 0) then(3:Int) else(l.getD i 0)))] (by kernel_rfl) ?_
    refine Ze1 (by kernel_rfl) (Ql 3 [.int .i64 (if(3:Int)<(l.getD i 0) then(3:Int) else(l.getD i 0))] rfl (by kernel_rfl) ?_)
    intro b6 W6 n6
    have g6:=n6.ge hB
    have r6_hs:=Zr hs n6
    replace hB:=bln hB n6.below
    replace hs:=Zb hs n6.below
    replace ho:=Zb ho n6.below
    have k6:=n6.blk
    refine Ze1 (by kernel_rfl) (Zo (e:=3) (n:=i) (xs:=(Zp (l.take i)).map (Value.int .i64)) (m:=1) (news:=[.int .i64 (if(3:Int)<(l.getD i 0) then(3:Int) else(l.getD i 0))]) (.int .i64 0) 1 8 (i+1) ((Zp (l.take (i+1))).map (Value.int .i64)) rfl Tryz.underlying31 (by kernel_rfl) rfl (by decide) (by kernel_rfl) hs (by kernel_rfl) (k6.sl 1 1 (by decide) (by decide)) rfl (by simp[Value.oneCell']) (by unfold maxLen;omega) (by omega) hB.size (by rfl) (by rw[mn3_if,Zez (by omega),List.map_append];rfl) ?_)
    intro p7 c7 W7 o7 hg7 hb7
    replace ho:=Xc ho hg7 hs (by decide)
    replace hB:=hB.trans hb7
    refine Dh 1 [(5,.slice p7 (i+1) c7)] (by kernel_rfl) ?_
    refine wpList_nil ?_
    refine wp_seq ?_
    refine wp_region_lit ?_
    refine Dh 2 [(32,.int .i64 (l.getD i 0)),(33,.bool (decide ((l.getD i 0)≥(3:Int))))] (by kernel_rfl) ?_
    refine wpList_nil ?_
    refine wp_cond_split (t:=decide ((l.getD i 0)≥(3:Int))) (by kernel_rfl) (fun hc8=>?_) (fun hc8=>?_)
    ·have hc8:=of_decide_eq_true hc8
     refine wp_region_lit ?_
     refine Dh 3 [(34,.slice po ((Zt l i).length) co),(35,.int .i64 (↑i:Int)),(36,.int .i64 (l.getD i 0))] (by kernel_rfl) ?_
     refine Ze1 (by kernel_rfl) (Ck (lb:=#[]) 125 #[.int .i64 (l.getD i 0)] rfl (by kernel_rfl) (fun _ _=>by kernel_rfl) (by kernel_rfl) ((Zav (l.getD i 0) (by omega) (by omega) _).mono ?_))
     rintro e W9 ⟨rfl,hb9⟩
     refine⟨_,rfl,?_⟩
     replace hB:=bln hB hb9
     replace ho:=Zb ho hb9
     replace o7:=Zb o7 hb9
     refine Dh 1 [(38,.agg #[.int .i64 (↑i:Int),.string ⟨(leB (l.getD i 0) 4).toArray⟩,.int .i64 0])] (by kernel_rfl) ?_
     refine Ze1 (by kernel_rfl) (Ql 74 [.int .i64 (↑i:Int),.string ⟨(leB (l.getD i 0) 4).toArray⟩,.int .i64 0] rfl (by kernel_rfl) ?_)
     intro b10 W10 n10
     have g10:=n10.ge hB
     have r10_ho:=Zr ho n10
     replace hB:=bln hB n10.below
     replace ho:=Zb ho n10.below
     replace o7:=Zb o7 n10.below
     have k10:=n10.blk
     refine Ze1 (by kernel_rfl) (Zo (e:=74) (n:=(Zt l i).length) (xs:=(Zt l i).flatMap Hr) (m:=1) (news:=[.int .i64 (↑i:Int),.string ⟨(leB (l.getD i 0) 4).toArray⟩,.int .i64 0]) (.agg #[.int .i64 0,.string ⟨#[]⟩,.int .i64 0]) 3 32 ((Zt l (i+1)).length) ((Zt l (i+1)).flatMap Hr) rfl Tryz.underlying75 (by kernel_rfl) rfl (by decide) (by kernel_rfl) ho (by kernel_rfl) (k10.sl 1 1 (by decide) (by decide)) rfl (by simp[Value.oneCell']) (by have:=Gs l i;unfold maxLen;omega) (by have:=Gs l i;omega) hB.size (by rw[Nh (by omega)];simp) (by rw[Nh (by omega)];simp[Hr]) ?_)
     intro p11 c11 W11 o11 hg11 hb11
     replace o7:=Xc o7 hg11 ho (by decide)
     replace hB:=hB.trans hb11
     refine Dh 1 [(6,.slice p11 ((Zt l (i+1)).length) c11)] (by kernel_rfl) ?_
     refine wpList_nil ?_
     refine wp_region_lit ?_
     refine Ze1 (by kernel_rfl) (op_wrap .i64 ((↑i:Int)+1) (↑(i+1):Int) (by kernel_rfl) ((show IntKind.i64.wrap ((↑i:Int)+1)=((↑i:Int)+1) from by first|exact IntWalk.i64_in _ (by omega)|(simp only[IntKind.wrap];omega)).trans (by omega)) ?_)
     refine Dh 1 [(16,.int .i64 (↑(i+1):Int))] (by kernel_rfl) ?_
     refine wpList_nil ?_
     refine g_nfr ⟨#[.slice a l.length c,undef,(x2 0),(x2 1),(x2 2),.slice p7 (i+1) c7,.slice p11 ((Zt l (i+1)).length) c11,.int .i64 (↑i:Int),.int .i64 (l.getD i 0),undef,undef,.slice a l.length c,.int .i64 (↑l.length:Int),.bool (decide ((↑l.length:Int)>(65536:Int))),.slice a l.length c,.int .i64 (↑l.length:Int),.int .i64 (↑(i+1):Int),.bool (decide ((↑i:Int)<(↑l.length:Int))),.int .i64 (↑i:Int),.pointer (some (Xa a (i*1))),.int .i64 (l.getD i 0),.int .i64 (l.getD i 0),.bool false,.bool false,.int .i64 (l.getD i 0),.bool (decide ((l.getD i 0)>(2147483647:Int))),.bool (decide ((l.getD i 0)>(2147483647:Int))),.slice ps i cs,.int .i64 (l.getD i 0),.int .i64 (if(3:Int)<(l.getD i 0) then(3:Int) else(l.getD i 0)),.slice (some ⟨b6,0,none⟩) 1 1,.slice p7 (i+1) c7,.int .i64 (l.getD i 0),.bool (decide ((l.getD i 0)≥(3:Int))),.slice po ((Zt l i).length) co,.int .i64 (↑i:Int),.int .i64 (l.getD i 0),.string ⟨(leB (l.getD i 0) 4).toArray⟩,.agg #[.int .i64 (↑i:Int),.string ⟨(leB (l.getD i 0) 4).toArray⟩,.int .i64 0],.slice (some ⟨b10,0,none⟩) 1 1,.slice p11 ((Zt l (i+1)).length) c11,.int .i64 (↑(i+1):Int),undef,undef,undef,undef,undef,undef,undef,undef,undef,undef],[]⟩ (by kernel_rfl) ?_
     refine⟨⟨i+1,_,_,_,_,(pk [(x2 0),(x2 1),(x2 2),.int .i64 (↑i:Int),.int .i64 (l.getD i 0),.bool (decide ((↑i:Int)<(↑l.length:Int))),.int .i64 (↑i:Int),.pointer (some (Xa a (i*1))),.int .i64 (l.getD i 0),.int .i64 (l.getD i 0),.bool false,.bool false,.int .i64 (l.getD i 0),.bool (decide ((l.getD i 0)>(2147483647:Int))),.bool (decide ((l.getD i 0)>(2147483647:Int))),.slice ps i cs,.int .i64 (l.getD i 0),.int .i64 (if(3:Int)<(l.getD i 0) then(3:Int) else(l.getD i 0)),.slice (some ⟨b6,0,none⟩) 1 1,.slice p7 (i+1) c7,.int .i64 (l.getD i 0),.bool (decide ((l.getD i 0)≥(3:Int))),.slice po ((Zt l i).length) co,.int .i64 (↑i:Int),.int .i64 (l.getD i 0),.string ⟨(leB (l.getD i 0) 4).toArray⟩,.agg #[.int .i64 (↑i:Int),.string ⟨(leB (l.getD i 0) 4).toArray⟩,.int .i64 0],.slice (some ⟨b10,0,none⟩) 1 1,.slice p11 ((Zt l (i+1)).length) c11,.int .i64 (↑(i+1):Int)]),rfl,hB,o7,o11,by omega,fun j hj=>(Nat.lt_or_ge j i).elim (hz j) (fun q=>by obtain rfl:j=i:=(by omega);exact⟨by omega,by omega⟩)⟩,?_⟩
     show l.length-((↑(i+1):Int)).toNat<l.length-((↑i:Int)).toNat
     omega
    ·have hc8:=of_decide_eq_false hc8
     refine wp_skip ?_
     refine wp_region_lit ?_
     refine Ze1 (by kernel_rfl) (op_wrap .i64 ((↑i:Int)+1) (↑(i+1):Int) (by kernel_rfl) ((show IntKind.i64.wrap ((↑i:Int)+1)=((↑i:Int)+1) from by first|exact IntWalk.i64_in _ (by omega)|(simp only[IntKind.wrap];omega)).trans (by omega)) ?_)
     refine Dh 1 [(16,.int .i64 (↑(i+1):Int))] (by kernel_rfl) ?_
     refine wpList_nil ?_
     refine g_nfr ⟨#[.slice a l.length c,undef,(x2 0),(x2 1),(x2 2),.slice p7 (i+1) c7,.slice po ((Zt l i).length) co,.int .i64 (↑i:Int),.int .i64 (l.getD i 0),undef,undef,.slice a l.length c,.int .i64 (↑l.length:Int),.bool (decide ((↑l.length:Int)>(65536:Int))),.slice a l.length c,.int .i64 (↑l.length:Int),.int .i64 (↑(i+1):Int),.bool (decide ((↑i:Int)<(↑l.length:Int))),.int .i64 (↑i:Int),.pointer (some (Xa a (i*1))),.int .i64 (l.getD i 0),.int .i64 (l.getD i 0),.bool false,.bool false,.int .i64 (l.getD i 0),.bool (decide ((l.getD i 0)>(2147483647:Int))),.bool (decide ((l.getD i 0)>(2147483647:Int))),.slice ps i cs,.int .i64 (l.getD i 0),.int .i64 (if(3:Int)<(l.getD i 0) then(3:Int) else(l.getD i 0)),.slice (some ⟨b6,0,none⟩) 1 1,.slice p7 (i+1) c7,.int .i64 (l.getD i 0),.bool (decide ((l.getD i 0)≥(3:Int))),(x2 22),(x2 23),(x2 24),(x2 25),(x2 26),(x2 27),(x2 28),.int .i64 (↑(i+1):Int),undef,undef,undef,undef,undef,undef,undef,undef,undef,undef],[]⟩ (by kernel_rfl) ?_
     refine g_nfr ⟨#[.slice a l.length c,undef,(x2 0),(x2 1),(x2 2),.slice p7 (i+1) c7,.slice po ((Zt l (i+1)).length) co,.int .i64 (↑i:Int),.int .i64 (l.getD i 0),undef,undef,.slice a l.length c,.int .i64 (↑l.length:Int),.bool (decide ((↑l.length:Int)>(65536:Int))),.slice a l.length c,.int .i64 (↑l.length:Int),.int .i64 (↑(i+1):Int),.bool (decide ((↑i:Int)<(↑l.length:Int))),.int .i64 (↑i:Int),.pointer (some (Xa a (i*1))),.int .i64 (l.getD i 0),.int .i64 (l.getD i 0),.bool false,.bool false,.int .i64 (l.getD i 0),.bool (decide ((l.getD i 0)>(2147483647:Int))),.bool (decide ((l.getD i 0)>(2147483647:Int))),.slice ps i cs,.int .i64 (l.getD i 0),.int .i64 (if(3:Int)<(l.getD i 0) then(3:Int) else(l.getD i 0)),.slice (some ⟨b6,0,none⟩) 1 1,.slice p7 (i+1) c7,.int .i64 (l.getD i 0),.bool (decide ((l.getD i 0)≥(3:Int))),(x2 22),(x2 23),(x2 24),(x2 25),(x2 26),(x2 27),(x2 28),.int .i64 (↑(i+1):Int),undef,undef,undef,undef,undef,undef,undef,undef,undef,undef],[]⟩ (by rw[By (by omega)]) ?_
     refine⟨⟨i+1,_,_,_,_,(pk [(x2 0),(x2 1),(x2 2),.int .i64 (↑i:Int),.int .i64 (l.getD i 0),.bool (decide ((↑i:Int)<(↑l.length:Int))),.int .i64 (↑i:Int),.pointer (some (Xa a (i*1))),.int .i64 (l.getD i 0),.int .i64 (l.getD i 0),.bool false,.bool false,.int .i64 (l.getD i 0),.bool (decide ((l.getD i 0)>(2147483647:Int))),.bool (decide ((l.getD i 0)>(2147483647:Int))),.slice ps i cs,.int .i64 (l.getD i 0),.int .i64 (if(3:Int)<(l.getD i 0) then(3:Int) else(l.getD i 0)),.slice (some ⟨b6,0,none⟩) 1 1,.slice p7 (i+1) c7,.int .i64 (l.getD i 0),.bool (decide ((l.getD i 0)≥(3:Int))),(x2 22),(x2 23),(x2 24),(x2 25),(x2 26),(x2 27),(x2 28),.int .i64 (↑(i+1):Int)]),rfl,hB,o7,(by rw[By (by omega)];exact ho),by omega,fun j hj=>(Nat.lt_or_ge j i).elim (hz j) (fun q=>by obtain rfl:j=i:=(by omega);exact⟨by omega,by omega⟩)⟩,?_⟩
     show l.length-((↑(i+1):Int)).toNat<l.length-((↑i:Int)).toNat
     omega
 ·have hc3:=of_decide_eq_false hc3
  refine wp_exit ?_
  refine Ao ?_
  refine Ao ?_
  refine Zbd ?_
  refine wp_seq ?_
  refine wp_region_lit ?_
  refine Ze1 (by kernel_rfl) (Zcy [.slice none 0 0] rfl (by kernel_rfl) ?_)
  intro b12 W12 n12
  have g12:=n12.ge hB
  replace hB:=bln hB n12.below
  replace hs:=Zb hs n12.below
  replace ho:=Zb ho n12.below
  have k12:=n12.blk
  refine wpList_nil ?_
  refine wp_seq ?_
  refine wp_seq ?_
  refine wp_region_lit ?_
  refine Dh 1 [(42,.slice ps i cs)] (by kernel_rfl) ?_
  refine Ze1 (by kernel_rfl) (Ck (lb:=#[]) 126 #[.slice ps i cs,.int .i64 960] rfl (by kernel_rfl) (fun _ _=>by kernel_rfl) (by kernel_rfl) ((Ay ps i cs _).mono ?_))
  rintro e W13 ⟨b1,b2,rfl,hb13,ga1,ga2,gn12,kkb1,kkb2⟩
  refine⟨_,rfl,?_⟩
  replace hB:=bln hB hb13
  replace k12:=k12.below hb13
  replace hs:=Zb hs hb13
  replace ho:=Zb ho hb13
  refine wpList_nil ?_
  refine wp_block ?_
  have hin:i=l.length:=by omega
  obtain⟨g,hv⟩:=row_or hs
  have hst:=Oy b1 b2 (fun b=>b<W13.heap.size∧b≠b12) g 0 i cs (.slice ps i cs) W13 (fun b h=>h.1) ⟨kkb1.lt,(by rintro rfl;exact absurd (kkb1.ty k12) (by decide))⟩ ⟨kkb2.lt,(by rintro rfl;exact absurd (kkb2.ty k12) (by decide))⟩ (by omega) hv (kkb1.cell (i:=0) rfl) (kkb2.cell (i:=0) rfl)
  refine g_fr ⟨#[.slice a l.length c,undef,(x2 0),(x2 1),(x2 2),.slice ps i cs,.slice po ((Zt l i).length) co,(x2 3),(x2 4),.pointer (some ⟨b12,0,none⟩),undef,.slice a l.length c,.int .i64 (↑l.length:Int),.bool (decide ((↑l.length:Int)>(65536:Int))),.slice a l.length c,.int .i64 (↑l.length:Int),.int .i64 (↑i:Int),.bool (decide ((↑i:Int)<(↑l.length:Int))),(x2 6),(x2 7),(x2 8),(x2 9),(x2 10),(x2 11),(x2 12),(x2 13),(x2 14),(x2 15),(x2 16),(x2 17),(x2 18),(x2 19),(x2 20),(x2 21),(x2 22),(x2 23),(x2 24),(x2 25),(x2 26),(x2 27),(x2 28),(x2 29),.slice ps i cs,.func (.func 175) #[] #[.pointer (some ⟨b1,0,none⟩),.pointer (some ⟨b2,0,none⟩)],undef,undef,undef,undef,undef,undef,undef,undef],[]⟩ (by kernel_rfl) ?_
  refine wp_range (g:=.tmp 43) (gf:=175) (lb:=#[.pointer (some ⟨b1,0,none⟩),.pointer (some ⟨b2,0,none⟩)]) rfl (enters_of Tryz.func175 (by kernel_rfl) rfl) _ (fun b h=>h.1) hst (fun _=>rfl)
   (fun pre W=>(∃ pb cb gs,gs.length=pre.length∧Blk W b12 [.slice pb (Jr (Zp (l.take i)) pre).length cb] 186∧Lists W W13.heap.size (.slice pb (Jr (Zp (l.take i)) pre).length cb) gs (Jr (Zp (l.take i)) pre))∧BelowBut W13 b12 W)
   (fun _ _ _=>False) ?own (fun _ _ _ _ _ h _ _=>h) ⟨⟨none,0,[],rfl,k12,⟨World.ownsRow_nil _ _ _ _,fun i hi=>absurd hi (Nat.not_lt_zero _)⟩⟩,(Below.refl _ _).but _⟩
   (fun x a' _=>a'={ tmps:=#[.slice a l.length c,undef,(x2 0),(x2 1),(x2 2),.slice ps i cs,.slice po ((Zt l i).length) co,(x2 3),(x2 4),.pointer (some ⟨b12,0,none⟩),.slice (some ⟨g,0+x.val*960,none⟩) (min 960 (i-x.val*960)) (min 960 (i-x.val*960)),.slice a l.length c,.int .i64 (↑l.length:Int),.bool (decide ((↑l.length:Int)>(65536:Int))),.slice a l.length c,.int .i64 (↑l.length:Int),.int .i64 (↑i:Int),.bool (decide ((↑i:Int)<(↑l.length:Int))),(x2 6),(x2 7),(x2 8),(x2 9),(x2 10),(x2 11),(x2 12),(x2 13),(x2 14),(x2 15),(x2 16),(x2 17),(x2 18),(x2 19),(x2 20),(x2 21),(x2 22),(x2 23),(x2 24),(x2 25),(x2 26),(x2 27),(x2 28),(x2 29),.slice ps i cs,.func (.func 175) #[] #[.pointer (some ⟨b1,0,none⟩),.pointer (some ⟨b2,0,none⟩)],.slice (some ⟨g,0+x.val*960,none⟩) (min 960 (i-x.val*960)) (min 960 (i-x.val*960)),undef,undef,undef,undef,undef,undef,undef],defers:=[] }) (fun _ _ _ _ _ _ h _ _=>h) ?assign ?body ?done (fun _ _ _ _ _ _ h _=>h.elim)
  case own=>exact OwnFrom.and (Own.from (fun s A B row hs hg hr=>by obtain⟨pb,cb,gs,h0,h1,h2⟩:=hs;exact⟨pb,cb,gs,h0,h1.turn hg hr,h2.turn hg hr⟩) _) (Zaw (Nat.le_refl _))
  case assign =>
   rintro lr pre x W K hI hK
   unfold encK
   gi_wp2
   refine hK _ _ (KeepsFrom.refl _ _) (Keeps.refl _ _) hI ?_
   simp only[hin,Nat.zero_add,decide_eq_false (show ¬ ((l.length:Int)>65536) by omega),Int.lt_irrefl,decide_false]
  case body =>
   rintro lr pre x a' W hlr ⟨⟨pb,cb,gs,hgl,m9,hL⟩,hbb⟩ rfl hlt
   have hx:=bmN_lt x.isLt
   have hvs:=hv.resolve_left (fun q=>by omega)
   have hsW:=hbb.own2 hs k12 (by decide)
   rw[hvs.1] at hsW
   obtain⟨m,hm⟩:∃ m,min 960 (i-x.val*960)=m:=⟨_,rfl⟩
   rw[hm]
   have hm0:0<m:=by omega
   have hmk:x.val*960+m≤i:=by omega
   have hsl:(Zp (l.take i)).length=i:=by simp[Zp];omega
   have hcl:(Hh (Zp (l.take i)) x.val).length=m:=by rw[Ny,hsl];exact hm
   have hpt:(((Zp (l.take i)).map (Value.int .i64)).drop (x.val*960)).take m=(Hh (Zp (l.take i)) x.val).map (Value.int .i64):=by rw[←List.map_drop,←List.map_take];unfold Hh;rw[show((Zp (l.take i)).drop (x.val*960)).take m=((Zp (l.take i)).drop (x.val*960)).take 960 from by rw[List.take_eq_take_iff,List.length_drop,hsl];omega]
   have hpl:(Jr (Zp (l.take i)) pre).length=pre.length:=by simp[Jr]
   have hbl:pre.length≤69:=by have:bmN i≤69:=(by unfold bmN;omega);omega
   have hrw:=hL.row
   have hE:Each W W13.heap.size gs (Jr (Zp (l.take i)) pre):=hL.each
   have hZ:RdZ W13 b12 W W:=RdZ.refl hbb
   have hW1:W13.heap.size≤W.heap.size:=hbb.size
   have hBW:w.heap.size≤W13.heap.size:=hB.size
   have hb9:=g12
   refine wpIn_block ?_
   have hB:=blB (Below.refl w.heap.size W) (Nat.le_trans hBW hW1) (Za W)
   replace m9:=m9.below (Za W)
   replace hsW:=Zb hsW (Za W)
   replace hrw:=Zb hrw (Za W)
   replace hE:=hE.below (Za W)
   replace hZ:=hZ.below (Za W)
   refine h_regIn (fun V=>Below w.heap.size (W.drew) V∧Zh [186,31] (W.drew) V) 6 rfl #[false,false,false,false,false,false] rfl (by kernel_rfl) (fun⟨_,_,q⟩=>q) (by simp) ⟨Below.refl _ _,Zh.refl _ _⟩ ?_
   intro hS14
   have hBd16:=hB
   have kd16_b12:=m9
   have fd_hrw:=hrw
   refine h_pv [1] 5 rfl #[false,true,false,false,false,false] [(46,.slice (some ⟨g,0+x.val*960,none⟩) m m)] (by kernel_rfl) (fun _ _ _ _ _ h=>h) (by kernel_rfl) hS14 ?_
   refine h_two 0 2 4 rfl (by kernel_rfl) rfl rfl (by kernel_rfl) (by kernel_rfl) ?_ ?_
   ·refine Dg ⟨b12,0,none⟩ (.slice pb ((Jr (Zp (l.take i)) pre).length) cb) rfl (by kernel_rfl) (by kernel_rfl) (m9.cell (i:=0) rfl) ?_
    have hS17:Below w.heap.size (W.drew) (W.drew)∧Zh [186,31] (W.drew) (W.drew):=hS14
    refine⟨hS17,?_⟩
    have hs18:W.heap.size≤(W.drew).heap.size:=hB.size
    refine Eh 2 3 rfl (by kernel_rfl) rfl (by kernel_rfl) (Ck (lb:=#[]) 88 #[.slice (some ⟨g,0+x.val*960,none⟩) m m] rfl (by kernel_rfl) (fun _ _=>by kernel_rfl) (by kernel_rfl) ((Np ⟨g,0+x.val*960,none⟩ m m ((Hh (Zp (l.take i)) x.val).map (Value.int .i64)) _ (hpt▸Sl.midI (Ze hsW) (by rw[List.length_map];exact hsl) (x.val*960) m hm0 hmk) (by rw[List.length_map];exact hcl) (fun u hu=>by obtain⟨y,_,rfl⟩:=List.mem_map.1 hu;rfl) (by omega)).mono ?_))
    rintro e W18 ⟨_,rfl,hb18,q,c2,rfl,hq⟩
    refine⟨_,rfl,?_⟩
    replace hB:=blB hB (Nat.le_trans hBW hW1) hb18
    replace m9:=m9.below hb18
    replace hsW:=Zb hsW hb18
    replace hrw:=Zb hrw hb18
    replace hE:=hE.below hb18
    replace hZ:=hZ.below hb18
    replace hq:=Zd hq hs18
    have hS19:Below w.heap.size (W.drew) (W18)∧Zh [186,31] (W.drew) (W18):=⟨blB hS17.1 (Nat.le_trans (Nat.le_trans hBW hW1) hBd16.size) hb18,hS17.2.trans (Zh.of_below hb18)⟩
    refine⟨hS19,?_⟩
    refine Eh 3 2 rfl (by kernel_rfl) rfl (by kernel_rfl) (Ql 31 [.slice q m c2] rfl (by kernel_rfl) ?_)
    intro b20 W20 n20
    have d20_b12:=n20.ne m9
    have g20:=n20.ge0 hB
    have r20_hrw:=Zr hrw n20
    have gd_b20:(W.drew).heap.size≤b20:=by have:=hS19.1.size;have:=n20.at_;omega
    replace hB:=blB hB (Nat.le_trans hBW hW1) n20.below
    replace m9:=m9.below n20.below
    replace hsW:=Zb hsW n20.below
    replace hrw:=Zb hrw n20.below
    replace hE:=hE.below n20.below
    replace hZ:=hZ.below n20.below
    replace hq:=Zb hq n20.below
    have k20:=n20.blk
    have hS21:Below w.heap.size (W.drew) (W20)∧Zh [186,31] (W.drew) (W20):=⟨blB hS19.1 (Nat.le_trans (Nat.le_trans hBW hW1) hBd16.size) n20.below,hS19.2.trans (Zh.of_below n20.below)⟩
    refine⟨hS21,?_⟩
    refine Eh 4 1 rfl (by kernel_rfl) rfl (by kernel_rfl) (Zo (e:=31) (n:=(Jr (Zp (l.take i)) pre).length) (xs:=(List.range (Jr (Zp (l.take i)) pre).length).map (Tp gs (Jr (Zp (l.take i)) pre))) (m:=1) (news:=[.slice q m c2]) (.slice none 0 0) 1 24 ((Jr (Zp (l.take i)) pre).length+1) ((List.range (Jr (Zp (l.take i)) pre).length).map (Tp gs (Jr (Zp (l.take i)) pre))++[.slice q m c2]) rfl Tryz.underlying186 (by kernel_rfl) rfl (by decide) (by kernel_rfl) hrw (by kernel_rfl) (k20.sl 1 1 (by decide) (by decide)) rfl (by simp[Value.oneCell']) (by unfold maxLen;omega) (by omega) (Nat.le_trans hW1 hZ.le) (by simp) (by simp) ?_)
    intro p22 c22 W22 o22 hg22 hb22
    replace m9:=m9.grown hg22 hrw (by decide)
    replace hsW:=Xc hsW hg22 hrw (by decide)
    replace hE:=hE.only (Zh.of_grown (T:=[31]) hg22 hrw (by decide)) (by decide)
    replace hZ:=hZ.grown hg22 hrw
    replace hq:=Xc hq hg22 hrw (by decide)
    replace hB:=hB.trans (hb22.mono hBW)
    have hS23:Below w.heap.size (W.drew) (W22)∧Zh [186,31] (W.drew) (W22):=⟨hS21.1.trans (hb22.mono hBW),hS21.2.trans (Zh.of_grown hg22 hrw (by decide))⟩
    refine⟨hS23,?_⟩
    refine Eh 5 0 rfl (by kernel_rfl) rfl (by kernel_rfl) (Pk (v:=.slice p22 ((Jr (Zp (l.take i)) pre).length+1) c22) (b:=b12) (off:=0) rfl (by kernel_rfl) (by kernel_rfl) (by kernel_rfl) rfl m9 (by first|decide|simp) ?_)
    intro W24 u24 k24
    change Blk _ _ [.slice p22 ((Jr (Zp (l.take i)) pre).length+1) c22] _ at k24
    replace hB:=u24.below hB hb9
    replace hsW:=u24.own2 hsW m9 (by decide)
    replace hE:=hE.only (Zh.of_upd (T:=[186]) u24 m9 (by decide)) (by decide)
    replace hZ:=hZ.upd u24 m9
    replace hq:=u24.own2 hq m9 (by decide)
    replace o22:=u24.own2 o22 m9 (by decide)
    have hS25:Below w.heap.size (W.drew) (W24)∧Zh [186,31] (W.drew) (W24):=⟨u24.below hS23.1 hb9,hS23.2.trans (Zh.of_upd u24 m9 (by decide))⟩
    refine⟨hS25,?_⟩
    refine h_done _ (by kernel_rfl) ?_
    obtain⟨g2,rfl,hc2⟩:=Gz hq hm0
    rw[←hcl] at hq
    have hrw2:=o22
    rw[←hcl] at hrw2
    have hS:=Lists.snoc (n:=(Jr (Zp (l.take i)) pre).length+1) rfl hrw2 hE (Zd hq hW1) (by rw[hgl,hpl])
    exact⟨hZ.ko.from _,⟨hZ.le,fun b hb=>hZ.fr b hb.1 hb.2⟩,⟨_,_,gs++[(g2,_)],by simp[hgl],by rw[Hc,List.length_append];exact k24,by rw[Hc,List.length_append];exact hS⟩,hZ.bb⟩
   ·have hs26:W.heap.size≤(W.drew).heap.size:=hB.size
    refine Ck (lb:=#[]) 88 #[.slice (some ⟨g,0+x.val*960,none⟩) m m] rfl (by kernel_rfl) (fun _ _=>by kernel_rfl) (by kernel_rfl) ((Np ⟨g,0+x.val*960,none⟩ m m ((Hh (Zp (l.take i)) x.val).map (Value.int .i64)) _ (hpt▸Sl.midI (Ze hsW) (by rw[List.length_map];exact hsl) (x.val*960) m hm0 hmk) (by rw[List.length_map];exact hcl) (fun u hu=>by obtain⟨y,_,rfl⟩:=List.mem_map.1 hu;rfl) (by omega)).mono ?_)
    rintro e W26 ⟨_,rfl,hb26,q,c2,rfl,hq⟩
    refine⟨_,rfl,?_⟩
    replace hB:=blB hB (Nat.le_trans hBW hW1) hb26
    replace m9:=m9.below hb26
    replace hsW:=Zb hsW hb26
    replace hrw:=Zb hrw hb26
    replace hE:=hE.below hb26
    replace hZ:=hZ.below hb26
    replace hq:=Zd hq hs26
    have hS27:Below w.heap.size (W.drew) (W26)∧Zh [186,31] (W.drew) (W26):=⟨blB hS14.1 (Nat.le_trans (Nat.le_trans hBW hW1) hBd16.size) hb26,hS14.2.trans (Zh.of_below hb26)⟩
    refine⟨hS27,?_⟩
    refine h_two 0 3 3 rfl (by kernel_rfl) rfl rfl (by kernel_rfl) (by kernel_rfl) ?_ ?_
    ·refine Dg ⟨b12,0,none⟩ (.slice pb ((Jr (Zp (l.take i)) pre).length) cb) rfl (by kernel_rfl) (by kernel_rfl) (m9.cell (i:=0) rfl) ?_
     have hS28:Below w.heap.size (W.drew) (W26)∧Zh [186,31] (W.drew) (W26):=hS27
     refine⟨hS28,?_⟩
     refine Eh 3 2 rfl (by kernel_rfl) rfl (by kernel_rfl) (Ql 31 [.slice q m c2] rfl (by kernel_rfl) ?_)
     intro b29 W29 n29
     have d29_b12:=n29.ne m9
     have g29:=n29.ge0 hB
     have r29_hrw:=Zr hrw n29
     have gd_b29:(W.drew).heap.size≤b29:=by have:=hS28.1.size;have:=n29.at_;omega
     replace hB:=blB hB (Nat.le_trans hBW hW1) n29.below
     replace m9:=m9.below n29.below
     replace hsW:=Zb hsW n29.below
     replace hrw:=Zb hrw n29.below
     replace hE:=hE.below n29.below
     replace hZ:=hZ.below n29.below
     replace hq:=Zb hq n29.below
     have k29:=n29.blk
     have hS30:Below w.heap.size (W.drew) (W29)∧Zh [186,31] (W.drew) (W29):=⟨blB hS28.1 (Nat.le_trans (Nat.le_trans hBW hW1) hBd16.size) n29.below,hS28.2.trans (Zh.of_below n29.below)⟩
     refine⟨hS30,?_⟩
     refine Eh 4 1 rfl (by kernel_rfl) rfl (by kernel_rfl) (Zo (e:=31) (n:=(Jr (Zp (l.take i)) pre).length) (xs:=(List.range (Jr (Zp (l.take i)) pre).length).map (Tp gs (Jr (Zp (l.take i)) pre))) (m:=1) (news:=[.slice q m c2]) (.slice none 0 0) 1 24 ((Jr (Zp (l.take i)) pre).length+1) ((List.range (Jr (Zp (l.take i)) pre).length).map (Tp gs (Jr (Zp (l.take i)) pre))++[.slice q m c2]) rfl Tryz.underlying186 (by kernel_rfl) rfl (by decide) (by kernel_rfl) hrw (by kernel_rfl) (k29.sl 1 1 (by decide) (by decide)) rfl (by simp[Value.oneCell']) (by unfold maxLen;omega) (by omega) (Nat.le_trans hW1 hZ.le) (by simp) (by simp) ?_)
     intro p31 c31 W31 o31 hg31 hb31
     replace m9:=m9.grown hg31 hrw (by decide)
     replace hsW:=Xc hsW hg31 hrw (by decide)
     replace hE:=hE.only (Zh.of_grown (T:=[31]) hg31 hrw (by decide)) (by decide)
     replace hZ:=hZ.grown hg31 hrw
     replace hq:=Xc hq hg31 hrw (by decide)
     replace hB:=hB.trans (hb31.mono hBW)
     have hS32:Below w.heap.size (W.drew) (W31)∧Zh [186,31] (W.drew) (W31):=⟨hS30.1.trans (hb31.mono hBW),hS30.2.trans (Zh.of_grown hg31 hrw (by decide))⟩
     refine⟨hS32,?_⟩
     refine Eh 5 0 rfl (by kernel_rfl) rfl (by kernel_rfl) (Pk (v:=.slice p31 ((Jr (Zp (l.take i)) pre).length+1) c31) (b:=b12) (off:=0) rfl (by kernel_rfl) (by kernel_rfl) (by kernel_rfl) rfl m9 (by first|decide|simp) ?_)
     intro W33 u33 k33
     change Blk _ _ [.slice p31 ((Jr (Zp (l.take i)) pre).length+1) c31] _ at k33
     replace hB:=u33.below hB hb9
     replace hsW:=u33.own2 hsW m9 (by decide)
     replace hE:=hE.only (Zh.of_upd (T:=[186]) u33 m9 (by decide)) (by decide)
     replace hZ:=hZ.upd u33 m9
     replace hq:=u33.own2 hq m9 (by decide)
     replace o31:=u33.own2 o31 m9 (by decide)
     have hS34:Below w.heap.size (W.drew) (W33)∧Zh [186,31] (W.drew) (W33):=⟨u33.below hS32.1 hb9,hS32.2.trans (Zh.of_upd u33 m9 (by decide))⟩
     refine⟨hS34,?_⟩
     refine h_done _ (by kernel_rfl) ?_
     obtain⟨g2,rfl,hc2⟩:=Gz hq hm0
     rw[←hcl] at hq
     have hrw2:=o31
     rw[←hcl] at hrw2
     have hS:=Lists.snoc (n:=(Jr (Zp (l.take i)) pre).length+1) rfl hrw2 hE (Zd hq hW1) (by rw[hgl,hpl])
     exact⟨hZ.ko.from _,⟨hZ.le,fun b hb=>hZ.fr b hb.1 hb.2⟩,⟨_,_,gs++[(g2,_)],by simp[hgl],by rw[Hc,List.length_append];exact k33,by rw[Hc,List.length_append];exact hS⟩,hZ.bb⟩
    ·refine Ql 31 [.slice q m c2] rfl (by kernel_rfl) ?_
     intro b35 W35 n35
     have d35_b12:=n35.ne m9
     have g35:=n35.ge0 hB
     have r35_hrw:=Zr hrw n35
     have gd_b35:(W.drew).heap.size≤b35:=by have:=hS27.1.size;have:=n35.at_;omega
     replace hB:=blB hB (Nat.le_trans hBW hW1) n35.below
     replace m9:=m9.below n35.below
     replace hsW:=Zb hsW n35.below
     replace hrw:=Zb hrw n35.below
     replace hE:=hE.below n35.below
     replace hZ:=hZ.below n35.below
     replace hq:=Zb hq n35.below
     have k35:=n35.blk
     have hS36:Below w.heap.size (W.drew) (W35)∧Zh [186,31] (W.drew) (W35):=⟨blB hS27.1 (Nat.le_trans (Nat.le_trans hBW hW1) hBd16.size) n35.below,hS27.2.trans (Zh.of_below n35.below)⟩
     refine⟨hS36,?_⟩
     refine Eh 0 2 rfl (by kernel_rfl) rfl (by kernel_rfl) (Dg ⟨b12,0,none⟩ (.slice pb ((Jr (Zp (l.take i)) pre).length) cb) rfl (by kernel_rfl) (by kernel_rfl) (m9.cell (i:=0) rfl) ?_)
     have hS37:Below w.heap.size (W.drew) (W35)∧Zh [186,31] (W.drew) (W35):=hS36
     refine⟨hS37,?_⟩
     refine Eh 4 1 rfl (by kernel_rfl) rfl (by kernel_rfl) (Zo (e:=31) (n:=(Jr (Zp (l.take i)) pre).length) (xs:=(List.range (Jr (Zp (l.take i)) pre).length).map (Tp gs (Jr (Zp (l.take i)) pre))) (m:=1) (news:=[.slice q m c2]) (.slice none 0 0) 1 24 ((Jr (Zp (l.take i)) pre).length+1) ((List.range (Jr (Zp (l.take i)) pre).length).map (Tp gs (Jr (Zp (l.take i)) pre))++[.slice q m c2]) rfl Tryz.underlying186 (by kernel_rfl) rfl (by decide) (by kernel_rfl) hrw (by kernel_rfl) (k35.sl 1 1 (by decide) (by decide)) rfl (by simp[Value.oneCell']) (by unfold maxLen;omega) (by omega) (Nat.le_trans hW1 hZ.le) (by simp) (by simp) ?_)
     intro p38 c38 W38 o38 hg38 hb38
     replace m9:=m9.grown hg38 hrw (by decide)
     replace hsW:=Xc hsW hg38 hrw (by decide)
     replace hE:=hE.only (Zh.of_grown (T:=[31]) hg38 hrw (by decide)) (by decide)
     replace hZ:=hZ.grown hg38 hrw
     replace hq:=Xc hq hg38 hrw (by decide)
     replace hB:=hB.trans (hb38.mono hBW)
     have hS39:Below w.heap.size (W.drew) (W38)∧Zh [186,31] (W.drew) (W38):=⟨hS37.1.trans (hb38.mono hBW),hS37.2.trans (Zh.of_grown hg38 hrw (by decide))⟩
     refine⟨hS39,?_⟩
     refine Eh 5 0 rfl (by kernel_rfl) rfl (by kernel_rfl) (Pk (v:=.slice p38 ((Jr (Zp (l.take i)) pre).length+1) c38) (b:=b12) (off:=0) rfl (by kernel_rfl) (by kernel_rfl) (by kernel_rfl) rfl m9 (by first|decide|simp) ?_)
     intro W40 u40 k40
     change Blk _ _ [.slice p38 ((Jr (Zp (l.take i)) pre).length+1) c38] _ at k40
     replace hB:=u40.below hB hb9
     replace hsW:=u40.own2 hsW m9 (by decide)
     replace hE:=hE.only (Zh.of_upd (T:=[186]) u40 m9 (by decide)) (by decide)
     replace hZ:=hZ.upd u40 m9
     replace hq:=u40.own2 hq m9 (by decide)
     replace o38:=u40.own2 o38 m9 (by decide)
     have hS41:Below w.heap.size (W.drew) (W40)∧Zh [186,31] (W.drew) (W40):=⟨u40.below hS39.1 hb9,hS39.2.trans (Zh.of_upd u40 m9 (by decide))⟩
     refine⟨hS41,?_⟩
     refine h_done _ (by kernel_rfl) ?_
     obtain⟨g2,rfl,hc2⟩:=Gz hq hm0
     rw[←hcl] at hq
     have hrw2:=o38
     rw[←hcl] at hrw2
     have hS:=Lists.snoc (n:=(Jr (Zp (l.take i)) pre).length+1) rfl hrw2 hE (Zd hq hW1) (by rw[hgl,hpl])
     exact⟨hZ.ko.from _,⟨hZ.le,fun b hb=>hZ.fr b hb.1 hb.2⟩,⟨_,_,gs++[(g2,_)],by simp[hgl],by rw[Hc,List.length_append];exact k40,by rw[Hc,List.length_append];exact hS⟩,hZ.bb⟩
  case done =>
   rintro D xs W hD rfl ⟨⟨pb,cb,gs,hgl,m9,hL⟩,hbb⟩ hK0
   rw[preC_all] at m9 hL
   have hK:Dfr D W:=hK0;clear hK0
   subst hin
   rw[List.take_length] at m9 hL
   rw[Kw] at m9 hL
   refine g_nopan ?_
   have hB1:=hB
   replace hB:=hbb.below hB g12 hB.size
   have ho2:=hbb.own2 ho k12 (by decide)
   have hBW:=hB1.size
   replace k12:=m9
   refine wp_seq ?_
   refine wp_region_lit ?_
   refine Ze1 (by kernel_rfl) (Dg ⟨b12,0,none⟩ (.slice pb (bmN l.length) cb) rfl (by kernel_rfl) (by kernel_rfl) (k12.cell (i:=0) rfl) ?_)
   refine Dh 4 [(51,.slice po ((Zt l l.length).length) co),(2,.slice pb (bmN l.length) cb),(3,.slice po ((Zt l l.length).length) co),(4,.int .i64 0)] (by kernel_rfl) ?_
   refine wpList_nil ?_
   refine wp_ret ?_
   exact g_endM hK (.tuple #[.slice pb (bmN l.length) cb,.slice po ((Zt l l.length).length) co,.int .i64 0]) (by kernel_rfl) (by kernel_rfl) (.inr ⟨Wo hl (fun k hk=>hz k (by omega)),_,_,gs,_,_,rfl,(Upd.of_put _ _ _).below hB (Nat.le_trans hBW hD),(hL.mono hBW).put (Upd.of_put _ _ _) hK,(Upd.of_put _ _ _).own3 ho2 (hK.row ho2)⟩)
end Go.Proofs.YtlmaglneeaecdaaGreatDoor
namespace Go.Proofs.YtlmaglneeaecdaaGreatDoor
set_option maxHeartbeats 8000000
set_option maxRecDepth 100000
open Go.RowKit Go.Extern.Stop Go.Stop Go.Extern
set_option linter.unusedVariables false
attribute [local irreducible] wpList wpAnyH Code.wp Oper.wp Go
theorem Ad(B b:Nat)(p:Option Addr)(n c:Nat)(l:List UInt8)(no:Int)(w:World)(hI:ImgR B b p n c l w) :
 Calls Tryz.prog 133 #[.pointer (some ⟨b,0,none⟩),.int .i64 no] w (fun e w' =>
 (Xl l no≠0∧∃ ty x,e=.returned (.tuple #[.slice none 0 0,.iface ty x])∧Below w.heap.size w w'∧Kk w' (([no]:List Int).map some) (some (Xl l no)) (.iface ty x)) ∨
 (Xl l no=0∧∃ p c,e=.returned (.tuple #[.slice p (Wh l no).length c,.nilIface])∧Below w.heap.size w w'∧w'.ownsRow w.heap.size 191 3 (.slice p (Wh l no).length c) (Wh l no).length ((Wh l no).flatMap Og))):=by
 refine(Zao B b p n c l no w hI).mono ?_
 rintro e W q
 rcases q with ⟨h,b,rfl,hb,hv⟩|⟨h,p,c,rfl,hb,ho⟩
 ·exact .inl ⟨h,_,_,rfl,hb,hv⟩
 ·refine .inr ⟨h,p,c,by rw[(Mr h).2],hb,?_⟩
  rw[(Mr h).2,(Mr h).1];exact ho
theorem nv_get{cs:List Nat}{k:Nat}(h:k<cs.length):(cs.map nv)[k]? = some (.int .i64 ((cs.getD k 0:Nat):Int)):=by simp[List.getD,h,nv]
theorem nv_bump(cs:List Nat)(k:Nat):(cs.map nv).set k (.int .i64 ((cs.getD k 0+1:Nat):Int))=(Jy cs (k:Int)).map nv:=by
 unfold Jy;rw[Int.toNat_natCast,List.map_set];rfl
theorem bump_get{cs:List Nat}{k:Nat}(h:k<cs.length):(Jy cs (k:Int)).getD k 0=cs.getD k 0+1:=by
 unfold Jy;rw[Int.toNat_natCast];simp[List.getD,h]
def AddP(B g n:Nat)(cs:List Nat)(no:Int)(w:World)(e:Ending)(w':World):Prop :=
 (¬ (0≤no∧no<cs.length)∧e=.returned (.tuple #[.int .i64 0,.int .i64 3])∧Below B w w'∧Zh [3] w w'∧w'.ownsRow B 3 1 (.slice (some ⟨g,0,none⟩) n n) n (cs.map nv)) ∨
 ((0≤no∧no<cs.length)∧e=.returned (.tuple #[.int .i64 ((cs.getD no.toNat 0+1:Nat):Int),.int .i64 0])∧Below B w w'∧Zh [3] w w'∧w'.ownsRow B 3 1 (.slice (some ⟨g,0,none⟩) n n) n ((Jy cs no).map nv))
theorem Py{w:World}{pc:Option Addr}{n m:Nat}{cs:List Nat}(h:Sl w (.slice pc n m) n (cs.map nv)){k:Nat}(hk:k<cs.length):pc.isSome=true∧w.cell? (Xa pc (k*1))=some (.int .i64 ((cs.getD k 0:Nat):Int)):=by
 rcases h with ⟨a,c,h1,h2,h3⟩|⟨b,off,cap,h1,h2,h3,h4⟩
 ·simp only[Value.slice.injEq] at h1
  have:(cs.map nv).length=0:=by rw[h3];rfl
  rw[List.length_map] at this;omega
 ·simp only[Value.slice.injEq] at h1
  obtain⟨rfl,_,_⟩:=h1
  refine⟨rfl,?_⟩
  have:=h4 k _ (nv_get hk)
  simpa [Xa,Addr.add_mid] using this
theorem refs_AddO(br g n:Nat)(no:Int)(w:World)(kr:Blk w br [.slice (some ⟨g,0,none⟩) n n] 206)(ho:¬ (0≤no∧no<n)) :
 Calls Tryz.prog 48 #[.pointer (some ⟨br,0,none⟩),.int .i64 no] w (Ret (.tuple #[.int .i64 0,.int .i64 3]) w):=by
 refine zin 37 Tryz.func48 ?_
 refine xg 21 [11,12] (decide (no<(0:Int))) (fun hc1=>?_) (fun hc1=>?_)
 ·have hc1:=of_decide_eq_true hc1
  exact xe 21 (.tuple #[.int .i64 0,.int .i64 3]) ⟨rfl,(Below.refl w.heap.size _)⟩
 have hc1:=of_decide_eq_false hc1
 refine xb 4 0 kr ?_
 refine xk 6 (show(decide (no≥(↑n:Int)):Bool)=true from decide_eq_true (by omega)) ?_
 exact xe 9 (.tuple #[.int .i64 0,.int .i64 3]) ⟨rfl,(Below.refl w.heap.size _)⟩
theorem Ip(B br g n k:Nat)(cs:List Nat)(w:World)(kr:Blk w br [.slice (some ⟨g,0,none⟩) n n] 206)(hBw:B≤w.heap.size)(hc:w.ownsRow B 3 1 (.slice (some ⟨g,0,none⟩) n n) n (cs.map nv))(hn:cs.length=n)(hk:k<n)(hb:cs.getD k 0≤4000000000000000000) :
 Calls Tryz.prog 48 #[.pointer (some ⟨br,0,none⟩),.int .i64 (↑k:Int)] w ((fun e w'=>e=.returned (.tuple #[.int .i64 ((cs.getD k 0+1:Nat):Int),.int .i64 0])∧Below B w w'∧Zh [3] w w'∧w'.ownsRow B 3 1 (.slice (some ⟨g,0,none⟩) n n) n ((Jy cs (k:Int)).map nv))):=by
 have hbl:=Vo cs (k:Int)
 refine zin 37 Tryz.func48 ?_
 refine xg 21 [11,12] (decide ((↑k:Int)<(0:Int))) (fun hc1=>?_) (fun hc1=>?_)
 ·have hc1:=of_decide_eq_true hc1
  exact xe 21 (.tuple #[.int .i64 0,.int .i64 3]) (by exfalso;omega)
 have hc1:=of_decide_eq_false hc1
 refine xb 4 0 kr ?_
 refine xid 6 ((↑k:Int)≥(↑n:Int)) (fun hc2=>?_) (fun hc2=>?_)
 ·exact xe 9 (.tuple #[.int .i64 0,.int .i64 3]) (by exfalso;omega)
 refine xb 8 0 kr ?_
 refine xx 1 _ n k 1 (Py (Ze hc) (k:=k) (by omega)).1 ?_
 refine xl 0 ((Py (Ze hc) (k:=k) (by omega)).2) ?_
 refine xwm 0 ((↑(cs.getD k 0):Int)+1) (↑((cs.getD k 0)+1):Int) ?_
 refine xx 0 _ n k 1 (Py (Ze hc) (k:=k) (by omega)).1 ?_
 refine xst 0 fun _ _ _ _ zJ zQ zo zx zy zK=>Ja (t:=3) (k:=k) (v:=.int .i64 (↑((cs.getD k 0)+1):Int)) zo zx zy (by kernel_rfl) rfl hc (by omega) fun W3 u3 o3=>?_
 rw[nv_bump cs k] at o3
 refine zK _ _ ?_
 have kr'1:=u3.blk kr (Kr kr hc (by decide))
 refine xb 7 0 kr'1 ?_
 refine xx 1 _ n k 1 (Py (Ze o3) (k:=k) (by omega)).1 ?_
 refine xl 0 ((Py (Ze o3) (k:=k) (by omega)).2) ?_
 have hB:=u3.below (Below.refl B w) (Hb hc)
 have hO:=(show Zh [3] w _ from(Zh.of_updRow u3 hc (by decide)))
 exact xe 5 (.tuple #[.int .i64 (↑((Jy cs (k:Int)).getD k 0):Int),.int .i64 0]) ⟨by rw[bump_get (by omega)],hB,hO,o3⟩
theorem refs_Add(B br g n:Nat)(cs:List Nat)(no:Int)(w:World)(kr:Blk w br [.slice (some ⟨g,0,none⟩) n n] 206)(hBw:B≤w.heap.size)(hc:w.ownsRow B 3 1 (.slice (some ⟨g,0,none⟩) n n) n (cs.map nv))(hn:cs.length=n)(hb:phi cs≤1000000000000):Calls Tryz.prog 48 #[.pointer (some ⟨br,0,none⟩),.int .i64 no] w (AddP B g n cs no w):=by
 by_cases ho:0≤no∧no<cs.length
 ·obtain⟨k,rfl⟩:∃ k:Nat,no=(k:Int):=⟨no.toNat,by omega⟩
  have h1:=Zb2 cs k
  refine(Ip B br g n k cs w kr hBw hc hn (by omega) (by omega)).mono ?_
  rintro e W ⟨rfl,hb1,hO,hc1⟩
  exact .inr ⟨ho,by rw[Int.toNat_natCast],hb1,hO,hc1⟩
 ·refine(refs_AddO br g n no w kr (by rw[←hn];exact ho)).mono ?_
  rintro e W ⟨rfl,hb1⟩
  exact .inl ⟨ho,rfl,hb1.mono hBw,Zh.of_below hb1,Zb hc hb1⟩
def asP (ak:Int):Int:=if ak=6 then -1 else if ak=7 then -2 else ak
structure RcM(B Bi b bx br:Nat)(pi:Option Addr)(ni ci:Nat)(l:List UInt8)(g n:Nat)(cs:List Nat)(w:World):Prop where
 hI:ImgR Bi b pi ni ci l w
 kx:Blk w bx [.pointer (some ⟨b,0,none⟩),.pointer (some ⟨br,0,none⟩)] 134
 kr:Blk w br [.slice (some ⟨g,0,none⟩) n n] 206
 hc:w.ownsRow B 3 1 (.slice (some ⟨g,0,none⟩) n n) n (cs.map nv)
 hn:cs.length=n
 hB:B≤w.heap.size
theorem RcM.move{B Bi b bx br:Nat}{pi:Option Addr}{ni ci:Nat}{l:List UInt8}{g n:Nat}{cs cs':List Nat}{w W:World}(h:RcM B Bi b bx br pi ni ci l g n cs w)(hb:Below B w W)(hO:Zh [3] w W)(hI:ImgR Bi b pi ni ci l W)(hc:W.ownsRow B 3 1 (.slice (some ⟨g,0,none⟩) n n) n (cs'.map nv))(hn:cs'.length=n):RcM B Bi b bx br pi ni ci l g n cs' W:=⟨hI,h.kx.only hO (by decide),h.kr.only hO (by decide),hc,hn,Nat.le_trans h.hB hb.size⟩
def Ue(B g n:Nat)(o:Cx)(w:World)(e:Ending)(w':World):Prop :=
 (o.2.2≠0∧∃ ty v,e=.returned (.iface ty v)∧Below B w w'∧Zh [3] w w'∧Kk w' (o.2.1.map some) (some o.2.2) (.iface ty v)) ∨
 (o.2.2=0∧e=.returned .nilIface∧Below B w w'∧Zh [3] w w'∧w'.ownsRow B 3 1 (.slice (some ⟨g,0,none⟩) n n) n (o.1.map nv))
theorem Xn{B g n:Nat}{o:Cx}{c:List Nat}{bl:List Int}{er:Int}{w W:World}{ty:TypeId}{v:Value}(h:o=(c,bl,er))(her:er≠0)(hb:Below B w W)(hO:Zh [3] w W)(hv:Kk W (bl.map some) (some er) (.iface ty v)):Ue B g n o w (.returned (.iface ty v)) W:=by
 subst h;exact .inl ⟨her,ty,v,rfl,hb,hO,hv⟩
theorem Qq{B g n:Nat}{o:Cx}{c:List Nat}{w W:World}(h:o.2.2=0)(h1:o.1=c)(hb:Below B w W)(hO:Zh [3] w W)(hc:W.ownsRow B 3 1 (.slice (some ⟨g,0,none⟩) n n) n (c.map nv)):Ue B g n o w (.returned .nilIface) W:=by
 subst h1;exact .inr ⟨h,rfl,hb,hO,hc⟩
def Ui(d:Nat)(B Bi b bx br:Nat)(pi:Option Addr)(ni ci:Nat)(l:List UInt8)(g n:Nat):Prop:=∀ (cs:List Nat) (no ak:Int) (w:World),RcM B Bi b bx br pi ni ci l g n cs w→zer cs<d→phi cs≤1000000000000→1≤ak→ak≤7 →
 Calls Tryz.prog 49 #[.pointer (some ⟨bx,0,none⟩),.int .i64 no,.int .i64 (asP ak)] w (Ue B g n (Zu l d cs (no,ak,0)) w)
def Yf(f:List Nat→Rx→Cx)(cs:List Nat)(L:List Rx)(c:List Nat):Prop:=(Qr f cs L).2.2=0∧(Qr f cs L).1=c
theorem Yf.nil(f:List Nat→Rx→Cx)(cs:List Nat):Yf f cs [] cs:=⟨rfl,rfl⟩
theorem Yf.next{f:List Nat→Rx→Cx}{cs c:List Nat}{L:List Rx}(h:Yf f cs L c){x:Rx}(h2:(f c x).2.2=0):Yf f cs (L++[x]) (f c x).1:=by
 have e:Qr f cs (L++[x])=Qr f (Qr f cs L).1 [x]:=by rw[Jm,if_neg (fun q=>q h.1)]
 rw[h.2,Ya,if_neg (fun q=>q h2)] at e
 unfold Yf
 rw[e];exact⟨rfl,rfl⟩
theorem Yf.bad{f:List Nat→Rx→Cx}{cs c:List Nat}{L:List Rx}(h:Yf f cs L c){x:Rx}(h2:(f c x).2.2≠0)(r:List Rx):Qr f cs (L++x::r)=f c x:=by
 rw[Jm,if_neg (fun q=>q h.1),h.2,Ya,if_pos h2]
theorem Yf.well{l:List UInt8}{d:Nat}{cs c:List Nat}{L:List Rx}(h:Yf (Zu l d) cs L c):c.length=cs.length∧zer c≤zer cs∧phi c≤phi cs+L.length:=by
 have hw:=Mc (Hy l d) L cs
 rw[←h.2]
 exact⟨hw.len,hw.zer,hw.phi⟩
theorem slt_take{L:List (Nat×Nat×Nat)}{i:Nat}(hi:i<L.length):(L.take (i+1)).map Kb=(L.take i).map Kb++[Kb (L.getD i (0,0,0))]:=by
 rw[List.take_succ_eq_append_getElem hi,List.map_append,show L.getD i (0,0,0)=L[i] from by simp[List.getD,hi]];rfl
theorem Zhg{L:List (Nat×Nat×Nat)}{i:Nat}(hi:i<L.length):L.map Kb=(L.take i).map Kb++Kb (L.getD i (0,0,0))::(L.drop (i+1)).map Kb:=by
 rw[show L.getD i (0,0,0)=L[i] from by simp[List.getD,hi]]
 rw[←List.map_cons,←List.map_append,←List.drop_eq_getElem_cons hi,List.take_append_drop]
theorem Cq(d:Nat)(B Bi b bx br:Nat)(pi:Option Addr)(ni ci:Nat)(l:List UInt8)(g n:Nat)(hR:Ui d B Bi b bx br pi ni ci l g n)(cs:List Nat)(B0:Nat)(pl:Option Addr)(cl:Nat)(L:List (Nat×Nat×Nat))(w:World)(hM:RcM B Bi b bx br pi ni ci l g n cs w)(hz:zer cs<d)(hph:phi cs≤999999998000)(hs:w.ownsRow B0 191 3 (.slice pl L.length cl) L.length (L.flatMap Og))(hm2:L.length≤255) :
 Calls Tryz.prog 134 #[.pointer (some ⟨bx,0,none⟩),.slice pl L.length cl] w (Ue B g n (Qr (Zu l d) cs (L.map Kb)) w):=by
 have hc:=hM.hc
 have kx:=hM.kx
 have kr:=hM.kr
 have hI:=hM.hI
 have hBw:=hM.hB
 have hn:=hM.hn
 refine zin 22 Tryz.func134 ?_
 have hB:=Below.refl B w
 refine zl 14 22 (fun zm zkv V=>∃ (i:Nat) (c:List Nat),zkv=[(0,.pointer (some ⟨bx,0,none⟩)),(8,.slice pl L.length cl),(9,.int .i64 (↑L.length:Int)),(10,.int .i64 (↑i:Int))]∧zm=L.length-((↑i:Int)).toNat∧Below B w V∧Zh [3] w V∧Blk V bx ([.pointer (some ⟨b,0,none⟩),.pointer (some ⟨br,0,none⟩)]) 134∧Blk V br ([.slice (some ⟨g,0,none⟩) n n]) 206∧V.ownsRow B0 191 3 (.slice pl L.length cl) L.length (L.flatMap Og)∧V.ownsRow B 3 1 (.slice (some ⟨g,0,none⟩) n n) n (c.map nv)∧ImgR Bi b pi ni ci l V∧i≤L.length∧Yf (Zu l d) cs ((L.take i).map Kb) c) ⟨0,cs,rfl,rfl,hB,(Zh.refl _ _),kx,kr,hs,hc,hI,Nat.zero_le _,Yf.nil _ _⟩ ?_
 rintro _ _ W1 ⟨i,c,rfl,rfl,hB_1,hO_1,k1_bx,k1_br,hs,hc,hI,hi,hf⟩ J1 hJ1 r1
 obtain⟨hw1,hw2,hw3⟩:=hf.well
 rw[List.length_map,List.length_take] at hw3
 have hw4:=Nat.min_le_left i L.length
 refine xid 6 ((↑i:Int)<(↑L.length:Int)) (fun hc2=>?_) (fun hc2=>?_)
 ·refine xx 6 _ L.length i 3 (Sts.cell (f:=Og) (Ze hs) Be (0,0,0) (k:=i) (i:=0) (by omega) rfl).1 ?_
  refine xlv 0 (Sts.rp (k:=i) (Ze hs) Be (0,0,0) (by omega) (by decide)) ?_
  refine xa 0 [.int .i64 0,.int .i64 0,.int .i64 0] 191 fun b3 W3 n3=>?_
  have g3:=n3.ge0 hB_1
  have r3_hs:=Zr hs n3
  refine xsv 0 n3.blk [.int .i64 (↑(L.getD i (0,0,0)).1:Int),.int .i64 (↑(L.getD i (0,0,0)).2.1:Int),.int .i64 (↑(L.getD i (0,0,0)).2.2:Int)] fun W4 u4 k4=>?_
  refine xb 6 0 k4 ?_
  have hI'1:=(hI.below n3.below).only (Zh.of_upd (T:=[191]) u4 n3.blk (by decide)) (by decide)
  have hc'1:=u4.own2 (Zb hc n3.below) n3.blk (by decide)
  have hB'1:=u4.below (blB hB_1 hBw n3.below) (Nat.le_trans hBw g3)
  have hO'1:=(Zh.upd_new (hO_1.trans (Zh.of_below n3.below)) u4 g3)
  refine xc 0 (args:=#[.pointer (some ⟨bx,0,none⟩),.int .i64 (↑(L.getD i (0,0,0)).1:Int),.int .i64 (-2)]) (hR c (↑(L.getD i (0,0,0)).1:Int) 7 _ (hM.move hB'1 hO'1 hI'1 hc'1 (by omega)) (by omega) (by omega) (by decide) (by decide)) ?_
  rintro e W5 hq5
  rcases hq5 with ⟨hre,tyr,vr,rfl,hb5,hO5,hv9⟩|⟨hre,rfl,hb5,hO5,hc⟩
  ·have hB'2:=hB'1.trans hb5
   have hO'2:=hO'1.trans hO5
   refine xe 22 (.iface tyr (vr)) ?_
   have e9:=hf.bad (x:=Kb (L.getD i (0,0,0))) hre ((L.drop (i+1)).map Kb)
   rw[←Zhg (by omega)] at e9
   exact Xn (c:=(Zu l d c (Kb (L.getD i (0,0,0)))).1) e9 hre hB'2 hO'2 hv9
  refine xwm 14 ((↑i:Int)+1) (↑(i+1):Int) ?_
  have hB'3:=hB'1.trans hb5
  have hO'3:=hO'1.trans hO5
  have k1_bx'1:=(u4.blkT (k1_bx.below n3.below) n3.blk (by decide)).only hO5 (by decide)
  have k1_br'1:=(u4.blkT (k1_br.below n3.below) n3.blk (by decide)).only hO5 (by decide)
  have hs'1:=Zj (u4.own3 (Zb hs n3.below) r3_hs) hO5 (by decide)
  have hI'2:=hI'1.only hO5 (by decide)
  exact ze 2 (hJ1 _ _ _ ⟨i+1,_,rfl,rfl,hB'3,hO'3,k1_bx'1,k1_br'1,hs'1,hc,hI'2,by omega,(by have q:=hf.next (x:=Kb (L.getD i (0,0,0))) hre;rwa [←slt_take (by omega)] at q)⟩ (by omega))
 refine xe 11 .nilIface ?_
 obtain rfl:i=L.length:=by omega
 rw[List.take_length] at hf
 exact Qq hf.1 hf.2 hB_1 hO_1 hc
theorem asP_id{t:Int}(h5:t≤5):asP t=t:=by unfold asP;rw[if_neg (by omega),if_neg (by omega)]
theorem Ui.node{d B Bi b bx br:Nat}{pi:Option Addr}{ni ci:Nat}{l:List UInt8}{g n:Nat}(hR:Ui d B Bi b bx br pi ni ci l g n){cs:List Nat}{no t:Int}{w:World}(hM:RcM B Bi b bx br pi ni ci l g n cs w)(hz:zer cs<d)(hph:phi cs≤1000000000000)(h1:1≤t)(h5:t≤5) :
 Calls Tryz.prog 49 #[.pointer (some ⟨bx,0,none⟩),.int .i64 no,.int .i64 t] w (Ue B g n (Zu l d cs (no,t,0)) w):=by
 have:=hR cs no t w hM hz hph h1 (by omega)
 rwa [asP_id h5] at this
def Wg(l:List UInt8)(d:Nat)(cs:List Nat)(no t:Int)(leaf:Bool)(v:List UInt8):Cx:=if Kh t leaf then(cs,[],0) else Zu l d cs (Er no t leaf v)
theorem valO_dead{l:List UInt8}{d:Nat}{cs:List Nat}{no t:Int}{leaf:Bool}{v:List UInt8}(h:leaf=true)(h1:t≠1)(h4:t≠4):Wg l d cs no t leaf v=(cs,[],0):=if_pos ⟨h,h1,h4⟩
theorem Tu{l:List UInt8}{d:Nat}{cs:List Nat}{no t:Int}{leaf:Bool}{v:List UInt8}(h:leaf=true)(h4:t=4)(he:Xk Zy v=0):Wg l d cs no t leaf v=Zu l d cs ((((Yb Zy v).getD 0 0):Nat),7,0):=by
 unfold Wg
 rw[if_neg (fun q=>q.2.2 h4)]
 unfold Er
 rw[if_pos ⟨h,h4⟩,if_neg (fun q=>q he)]
theorem Mi{l:List UInt8}{d:Nat}{cs:List Nat}{no t:Int}{leaf:Bool}{v:List UInt8}(hd:0<d)(h:leaf=true)(h4:t=4)(he:Xk Zy v≠0):Wg l d cs no t leaf v=(cs,[no],Xk Zy v):=by
 obtain⟨d,rfl⟩:∃ d',d=d'+1:=⟨d-1,by omega⟩
 unfold Wg
 rw[if_neg (fun q=>q.2.2 h4)]
 unfold Er
 rw[if_pos ⟨h,h4⟩,if_pos he]
 exact if_pos he
theorem Pz{l:List UInt8}{d:Nat}{cs:List Nat}{no t:Int}{leaf:Bool}{v:List UInt8}(h:leaf=true→t=1)(he:Xx v=0):Wg l d cs no t leaf v=Zu l d cs ((Vg v:Nat),(if leaf then 2 else t),0):=by
 unfold Wg
 rw[if_neg (fun q=>q.2.1 (h q.1))]
 unfold Er
 rw[if_neg (fun q=>by have:=h q.1;omega),if_neg (fun q=>q he)]
theorem Mb{l:List UInt8}{d:Nat}{cs:List Nat}{no t:Int}{leaf:Bool}{v:List UInt8}(hd:0<d)(h:leaf=true→t=1)(he:Xx v≠0):Wg l d cs no t leaf v=(cs,[no],Xx v):=by
 obtain⟨d,rfl⟩:∃ d',d=d'+1:=⟨d-1,by omega⟩
 unfold Wg
 rw[if_neg (fun q=>q.2.1 (h q.1))]
 unfold Er
 rw[if_neg (fun q=>by have:=h q.1;omega),if_pos he]
 exact if_pos he
theorem Zg2(d:Nat)(B Bi b bx br:Nat)(pi:Option Addr)(ni ci:Nat)(l:List UInt8)(g n:Nat)(hR:Ui d B Bi b bx br pi ni ci l g n)(cs:List Nat)(no t:Int)(leaf:Bool)(kp vp:Option Addr)(kn kc vn vc:Nat)(v:List UInt8)(w:World)(hM:RcM B Bi b bx br pi ni ci l g n cs w)(hz:zer cs<d)(hph:phi cs≤999999999000)(ht1:1≤t)(ht5:t≤5)(hv:v.length≤1000) :
 Calls Tryz.prog 137 #[.pointer (some ⟨bx,0,none⟩),.int .i64 no,.agg #[.int .i64 t,.bool leaf,.slice kp kn kc,.slice vp vn vc],.string ⟨v.toArray⟩] w (Ue B g n (Wg l d cs no t leaf v) w):=by
 have hc:=hM.hc
 have kx:=hM.kx
 have kr:=hM.kr
 have hI:=hM.hI
 have hBw:=hM.hB
 have hn:=hM.hn
 refine zin 59 Tryz.func137 ?_
 refine xa 2 [.int .i64 t,.bool leaf,.slice kp kn kc,.slice vp vn vc] 220 fun b1 W1 n1=>?_
 refine xb 12 0 n1.blk ?_
 refine xb 18 1 n1.blk ?_
 refine xg 1 [18,19] leaf (fun hc2=>?_) (fun hc2=>?_)
 ·refine xb 1 0 n1.blk ?_
  refine xie 5 t (4:Int) (fun hc3=>?_) (fun hc3=>?_)
  ·refine xr 9 (args:=#[.string ⟨v.toArray⟩]) (We v _ hv) fun W4 hb4=>?_
   refine xa 3 [.int .i64 0,.int .i64 0,.int .i64 0] 191 fun b5 W5 n5=>?_
   refine xsv 0 n5.blk [.int .i64 (↑((Yb Zy v).getD 0 0):Int),.int .i64 (↑((Yb Zy v).getD 1 0):Int),.int .i64 (↑((Yb Zy v).getD 2 0):Int)] fun W6 u6 k6=>?_
   have g5:=n5.ge0 (blB (blB (Below.refl B w) hBw n1.below) hBw hb4)
   refine xb 5 0 k6 ?_
   refine xin 22 (Xk Zy v) (0:Int) (fun hc7=>?_) (fun hc7=>?_)
   ·refine xc 5 (args:=#[.int .i64 no,.iface 91 (.int .i64 (Xk Zy v))]) (Ph no (Xk Zy v) [] _ _ rfl) ?_
    rintro _ W8 ⟨ty8,v8,rfl,hb8,hva⟩
    have hB:=blB (u6.below (blB (blB (blB (Below.refl B w) hBw n1.below) hBw hb4) hBw n5.below) (Nat.le_trans hBw g5)) hBw hb8
    have hO:=(Zh.upd_new (((show Zh [3] w _ from(Zh.of_below n1.below)).trans (Zh.of_below hb4)).trans (Zh.of_below n5.below)) u6 g5).trans (Zh.of_below hb8)
    refine xe 5 (.iface ty8 (v8)) ?_
    first|exact Xn (Mi (by omega) (by assumption) (by omega) (by assumption)) (by assumption) hB hO hva|exact Xn (Mb (by omega) (fun q=>by first|omega|exact absurd (q.symm.trans (show leaf=false by assumption)) (by decide)) (by assumption)) (by assumption) hB hO hva
   have hI'1:=(((hI.below n1.below).below hb4).below n5.below).only (Zh.of_upd (T:=[191]) u6 n5.blk (by decide)) (by decide)
   have hc'1:=u6.own2 (Zb (Zb (Zb hc n1.below) hb4) n5.below) n5.blk (by decide)
   have hB:=u6.below (blB (blB (blB (Below.refl B w) hBw n1.below) hBw hb4) hBw n5.below) (Nat.le_trans hBw g5)
   have hO:=(Zh.upd_new (((show Zh [3] w _ from(Zh.of_below n1.below)).trans (Zh.of_below hb4)).trans (Zh.of_below n5.below)) u6 g5)
   refine xc 7 (args:=#[.pointer (some ⟨bx,0,none⟩),.int .i64 (↑((Yb Zy v).getD 0 0):Int),.int .i64 (-2)]) (hR cs (↑((Yb Zy v).getD 0 0):Int) 7 _ (hM.move hB hO hI'1 hc'1 (by omega)) hz (by omega) (by decide) (by decide)) ?_
   rintro e W9 hq9
   rcases hq9 with ⟨hre,tyr,vr,rfl,hb9,hO9,hv9⟩|⟨hre,rfl,hb9,hO9,hc⟩
   ·have hB'1:=hB.trans hb9
    have hO'1:=hO.trans hO9
    refine xe 4 (.iface tyr (vr)) ?_
    have e9:=(show Wg l d cs no t leaf v=_ from Tu (by assumption) (by omega) (by omega))
    exact Xn (c:=(Wg l d cs no t leaf v).1) (bl:=(Wg l d cs no t leaf v).2.1) (er:=(Wg l d cs no t leaf v).2.2) rfl (by rw[e9];exact hre) hB'1 hO'1 (by rw[e9];exact hv9)
   have hB'2:=hB.trans hb9
   have hO'2:=hO.trans hO9
   refine xe 4 .nilIface ?_
   have e9:=(show Wg l d cs no t leaf v=_ from Tu (by assumption) (by omega) (by omega))
   exact Qq (by rw[e9];exact hre) (by rw[e9]) hB'2 hO'2 hc
  refine xb 6 1 n1.blk ?_
  refine xgk 1 [26,27] (show(leaf:Bool)=true from hc2) ?_
  refine xb 1 0 n1.blk ?_
  refine xie 5 t (1:Int) (fun hc11=>?_) (fun hc11=>?_)
  ·refine xr 15 (args:=#[.string ⟨v.toArray⟩]) (Wd v _ hv) fun W12 hb12=>?_
   refine xin 19 (Xx v) (0:Int) (fun hc13=>?_) (fun hc13=>?_)
   ·refine xc 5 (args:=#[.int .i64 no,.iface 91 (.int .i64 (Xx v))]) (Ph no (Xx v) [] _ _ rfl) ?_
    rintro _ W14 ⟨ty14,v14,rfl,hb14,hva⟩
    have hB:=blB (blB (blB (Below.refl B w) hBw n1.below) hBw hb12) hBw hb14
    have hO:=((show Zh [3] w _ from(Zh.of_below n1.below)).trans (Zh.of_below hb12)).trans (Zh.of_below hb14)
    refine xe 5 (.iface ty14 (v14)) ?_
    first|exact Xn (Mi (by omega) (by assumption) (by omega) (by assumption)) (by assumption) hB hO hva|exact Xn (Mb (by omega) (fun q=>by first|omega|exact absurd (q.symm.trans (show leaf=false by assumption)) (by decide)) (by assumption)) (by assumption) hB hO hva
   have hI'2:=(hI.below n1.below).below hb12
   have hc'2:=Zb (Zb hc n1.below) hb12
   have hB:=blB (blB (Below.refl B w) hBw n1.below) hBw hb12
   have hO:=(show Zh [3] w _ from(Zh.of_below n1.below)).trans (Zh.of_below hb12)
   refine xc 7 (args:=#[.pointer (some ⟨bx,0,none⟩),.int .i64 (↑(Vg v):Int),.int .i64 2]) (hR.node (cs:=cs) (no:=(↑(Vg v):Int)) (t:=2) (hM.move hB hO hI'2 hc'2 (by omega)) hz (by omega) (by omega) (by omega)) ?_
   rintro e W15 hq15
   rcases hq15 with ⟨hre,tyr,vr,rfl,hb15,hO15,hv9⟩|⟨hre,rfl,hb15,hO15,hc⟩
   ·have hB'3:=hB.trans hb15
    have hO'3:=hO.trans hO15
    refine xe 4 (.iface tyr (vr)) ?_
    have e9:=(show Wg l d cs no t leaf v=_ from(Pz (fun _=>by omega) (by omega)).trans (by rw[if_pos (by assumption)]))
    exact Xn (c:=(Wg l d cs no t leaf v).1) (bl:=(Wg l d cs no t leaf v).2.1) (er:=(Wg l d cs no t leaf v).2.2) rfl (by rw[e9];exact hre) hB'3 hO'3 (by rw[e9];exact hv9)
   have hB'4:=hB.trans hb15
   have hO'4:=hO.trans hO15
   refine xe 4 .nilIface ?_
   have e9:=(show Wg l d cs no t leaf v=_ from(Pz (fun _=>by omega) (by omega)).trans (by rw[if_pos (by assumption)]))
   exact Qq (by rw[e9];exact hre) (by rw[e9]) hB'4 hO'4 hc
  refine xb 5 1 n1.blk ?_
  refine xk 4 (show(!leaf:Bool)=false from by rw[hc2];rfl) ?_
  have hc'3:=Zb hc n1.below
  have hB:=blB (Below.refl B w) hBw n1.below
  have hO:=(show Zh [3] w _ from(Zh.of_below n1.below))
  refine xe 21 .nilIface ?_
  have e9:Wg l d cs no t leaf v=(cs,[],0):=valO_dead (by assumption) (by omega) (by omega)
  exact Qq (by rw[e9]) (by rw[e9]) hB hO hc'3
 refine xb 14 1 n1.blk ?_
 refine xgk 1 [26,27] (show(leaf:Bool)=false from hc2) ?_
 refine xb 13 1 n1.blk ?_
 refine xk 4 (show(!leaf:Bool)=true from by rw[hc2];rfl) ?_
 refine xr 11 (args:=#[.string ⟨v.toArray⟩]) (Wd v _ hv) fun W17 hb17=>?_
 refine xin 19 (Xx v) (0:Int) (fun hc18=>?_) (fun hc18=>?_)
 ·refine xc 5 (args:=#[.int .i64 no,.iface 91 (.int .i64 (Xx v))]) (Ph no (Xx v) [] _ _ rfl) ?_
  rintro _ W19 ⟨ty19,v19,rfl,hb19,hva⟩
  have hB:=blB (blB (blB (Below.refl B w) hBw n1.below) hBw hb17) hBw hb19
  have hO:=((show Zh [3] w _ from(Zh.of_below n1.below)).trans (Zh.of_below hb17)).trans (Zh.of_below hb19)
  refine xe 5 (.iface ty19 (v19)) ?_
  first|exact Xn (Mi (by omega) (by assumption) (by omega) (by assumption)) (by assumption) hB hO hva|exact Xn (Mb (by omega) (fun q=>by first|omega|exact absurd (q.symm.trans (show leaf=false by assumption)) (by decide)) (by assumption)) (by assumption) hB hO hva
 have hI'3:=(hI.below n1.below).below hb17
 have hc'4:=Zb (Zb hc n1.below) hb17
 have hB:=blB (blB (Below.refl B w) hBw n1.below) hBw hb17
 have hO:=(show Zh [3] w _ from(Zh.of_below n1.below)).trans (Zh.of_below hb17)
 refine xc 7 (args:=#[.pointer (some ⟨bx,0,none⟩),.int .i64 (↑(Vg v):Int),.int .i64 t]) (hR.node (cs:=cs) (no:=(↑(Vg v):Int)) (t:=t) (hM.move hB hO hI'3 hc'4 (by omega)) hz (by omega) (by omega) (by omega)) ?_
 rintro e W20 hq20
 rcases hq20 with ⟨hre,tyr,vr,rfl,hb20,hO20,hv9⟩|⟨hre,rfl,hb20,hO20,hc⟩
 ·have hB'5:=hB.trans hb20
  have hO'5:=hO.trans hO20
  refine xe 4 (.iface tyr (vr)) ?_
  have e9:=(show Wg l d cs no t leaf v=_ from(Pz (fun q=>absurd (q.symm.trans (show leaf=false by assumption)) (by decide)) (by omega)).trans (by rw[if_neg (fun q=>absurd (q.symm.trans (show leaf=false by assumption)) (by decide))]))
  exact Xn (c:=(Wg l d cs no t leaf v).1) (bl:=(Wg l d cs no t leaf v).2.1) (er:=(Wg l d cs no t leaf v).2.2) rfl (by rw[e9];exact hre) hB'5 hO'5 (by rw[e9];exact hv9)
 have hB'6:=hB.trans hb20
 have hO'6:=hO.trans hO20
 refine xe 4 .nilIface ?_
 have e9:=(show Wg l d cs no t leaf v=_ from(Pz (fun q=>absurd (q.symm.trans (show leaf=false by assumption)) (by decide)) (by omega)).trans (by rw[if_neg (fun q=>absurd (q.symm.trans (show leaf=false by assumption)) (by decide))]))
 exact Qq (by rw[e9];exact hre) (by rw[e9]) hB'6 hO'6 hc
def To(l:List UInt8)(d:Nat)(cs:List Nat)(no ak:Int):Cx:=if Gq l no ak≠0 then(cs,[no],Gq l no ak) else Qr (Zu l d) cs (Wz l no ak)
theorem Sa{l:List UInt8}{d:Nat}{cs:List Nat}{no ak e:Int}(he:Gq l no ak=e)(h:e≠0):To l d cs no ak=(cs,[no],e):=by subst he;exact if_pos h
theorem Cs{l:List UInt8}{d:Nat}{cs:List Nat}{no ak:Int}(h:Gq l no ak=0):To l d cs no ak=Qr (Zu l d) cs (Wz l no ak):=if_neg (fun q=>q h)
theorem hasE_6(l:List UInt8)(no:Int):Gq l no 6=Xl l no:=if_pos rfl
theorem hasE_7(l:List UInt8)(no:Int):Gq l no 7=Xh l no:=by unfold Gq;rw[if_neg (by decide),if_pos rfl]
theorem Zha{l:List UInt8}{no t:Int}(h5:t≤5):Gq l no t=Xg l no t:=by unfold Gq;rw[if_neg (by omega),if_neg (by omega)]
theorem hasL_6(l:List UInt8)(no:Int):Wz l no 6=(Wh l no).map Kb:=if_pos rfl
theorem hasL_7(l:List UInt8)(no:Int):Wz l no 7=[]:=by unfold Wz;rw[if_neg (by decide),if_pos rfl]
theorem hasL_n{l:List UInt8}{no t:Int}(h5:t≤5):Wz l no t=Zc0 l no:=by unfold Wz;rw[if_neg (by omega),if_neg (by omega)]
theorem Dj(d:Nat)(B Bi b bx br:Nat)(pi:Option Addr)(ni ci:Nat)(l:List UInt8)(g n:Nat)(hR:Ui d B Bi b bx br pi ni ci l g n)(cs:List Nat)(w:World)(hM:RcM B Bi b bx br pi ni ci l g n cs w)(hz:zer cs<d)(hph:phi cs≤999999998000):Calls Tryz.prog 134 #[.pointer (some ⟨bx,0,none⟩),.slice none 0 0] w (fun e w'=>e=.returned .nilIface∧Below B w w'∧Zh [3] w w'∧w'.ownsRow B 3 1 (.slice (some ⟨g,0,none⟩) n n) n (cs.map nv)):=by
 refine(Cq d B Bi b bx br pi ni ci l g n hR cs 0 none 0 [] w hM hz hph (World.ownsRow_nil _ _ _ _) (by decide)).mono ?_
 rintro e W q
 rcases q with ⟨h,_⟩|⟨_,h⟩
 ·exact absurd rfl h
 ·exact h
def Bb(l:List UInt8)(no:Int)(i:Nat):List Rx:=if Kh (Xm (inB l no)) (Xr (inB l no)) then [] else((Yx l no).take i).map (Er no (Xm (inB l no)) (Xr (inB l no)))
theorem Zfr(l:List UInt8)(no:Int):Bb l no 0=[]:=by unfold Bb;split<;>simp
theorem takeX_all(l:List UInt8)(no:Int):Bb l no (Yx l no).length=Zc0 l no:=by unfold Bb Zc0;rw[List.take_length]
theorem Zfw{l:List UInt8}{no:Int}{d i:Nat}{cs c:List Nat}(hi:i<(Yx l no).length)(h:Yf (Zu l d) cs (Bb l no i) c)(h2:(Wg l d c no (Xm (inB l no)) (Xr (inB l no)) ((Yx l no).getD i [])).2.2=0) :
 Yf (Zu l d) cs (Bb l no (i+1)) (Wg l d c no (Xm (inB l no)) (Xr (inB l no)) ((Yx l no).getD i [])).1:=by
 unfold Bb at h ⊢
 unfold Wg at h2 ⊢
 by_cases hd:Kh (Xm (inB l no)) (Xr (inB l no))
 ·rw[if_pos hd] at h h2 ⊢
  rw[if_pos hd]
  exact h
 ·rw[if_neg hd] at h h2 ⊢
  rw[if_neg hd]
  rw[List.take_succ_eq_append_getElem hi,List.map_append,List.map_cons,List.map_nil]
  rw[show(Yx l no).getD i []=(Yx l no)[i] from by simp[List.getD,hi]] at h2 ⊢
  exact h.next h2
theorem takeX_bad{l:List UInt8}{no:Int}{d i:Nat}{cs c:List Nat}(hi:i<(Yx l no).length)(h:Yf (Zu l d) cs (Bb l no i) c)(h2:(Wg l d c no (Xm (inB l no)) (Xr (inB l no)) ((Yx l no).getD i [])).2.2≠0) :
 Qr (Zu l d) cs (Zc0 l no)=Wg l d c no (Xm (inB l no)) (Xr (inB l no)) ((Yx l no).getD i []):=by
 unfold Bb at h
 unfold Wg at h2 ⊢
 by_cases hd:Kh (Xm (inB l no)) (Xr (inB l no))
 ·rw[if_pos hd] at h2;exact absurd rfl h2
 ·rw[if_neg hd] at h h2 ⊢
  rw[show(Yx l no).getD i []=(Yx l no)[i] from by simp[List.getD,hi]] at h2 ⊢
  unfold Zc0
  rw[if_neg hd]
  have e:Yx l no=(Yx l no).take i++(Yx l no)[i]::(Yx l no).drop (i+1):=by rw[←List.drop_eq_getElem_cons hi,List.take_append_drop]
  conv=>lhs;rw[e]
  rw[List.map_append,List.map_cons]
  exact h.bad h2 _
theorem Ss(l:List UInt8)(no:Int):(Yx l no).length=Xf (inB l no):=by unfold Yx;exact Hj _ _
theorem takeX_len(l:List UInt8)(no:Int)(i:Nat):(Bb l no i).length≤i:=by
 unfold Bb
 split
 ·exact Nat.zero_le _
 ·rw[List.length_map,List.length_take];exact Nat.min_le_left _ _
theorem nodT_is{l:List UInt8}{no t:Int}(h:Xg l no t=0)(h1:1≤t):Xm (inB l no)=t:=by
 have h2:=(Fy h).2
 have h3:=Cw h2
 unfold Yv at h2
 rw[if_pos h3] at h2
 split at h2
 ·rename_i h4;omega
 ·omega
theorem fault_Fnn(bb:Nat)(w:World)(k:Blk w bb [.nilIface,.nilIface] 26) :
 Calls Tryz.prog 69 #[.slice (some ⟨bb,0,none⟩) 2 2] w (Ret (.nilIface) w):=by
 refine zin 15 Tryz.func69 ?_
 refine xu 14 2 ?_
 refine xb 14 0 k ?_
 refine xb 32 1 k ?_
 exact xe 36 .nilIface ⟨rfl,(Below.refl w.heap.size _)⟩
theorem fault_Fnx(bb:Nat)(ty:TypeId)(x:Value)(w:World)(k:Blk w bb [.nilIface,.iface ty (x)] 26) :
 Calls Tryz.prog 69 #[.slice (some ⟨bb,0,none⟩) 2 2] w (Ret (.iface ty (x)) w):=by
 refine zin 15 Tryz.func69 ?_
 refine xu 14 2 ?_
 refine xb 14 0 k ?_
 refine xb 32 1 k ?_
 exact xe 22 (.iface ty (x)) ⟨rfl,(Below.refl w.heap.size _)⟩
theorem fault_Fxn(bb:Nat)(ty:TypeId)(x:Value)(w:World)(k:Blk w bb [.iface ty (x),.nilIface] 26) :
 Calls Tryz.prog 69 #[.slice (some ⟨bb,0,none⟩) 2 2] w (Ret (.iface ty (x)) w):=by
 refine zin 15 Tryz.func69 ?_
 refine xu 14 2 ?_
 refine xb 14 0 k ?_
 exact xe 22 (.iface ty (x)) ⟨rfl,(Below.refl w.heap.size _)⟩
theorem Zfh(d:Nat)(B Bi b bx br:Nat)(pi:Option Addr)(ni ci:Nat)(l:List UInt8)(g n:Nat)(hR:Ui d B Bi b bx br pi ni ci l g n)(cs:List Nat)(no:Int)(w:World)(hM:RcM B Bi b bx br pi ni ci l g n cs w)(hz:zer cs<d)(hph:phi cs≤999999998000) :
 Calls Tryz.prog 95 #[.pointer (some ⟨bx,0,none⟩),.int .i64 no,.int .i64 (-1)] w (Ue B g n (To l d cs no 6) w):=by
 have hc:=hM.hc
 have kx:=hM.kx
 have kr:=hM.kr
 have hI:=hM.hI
 have hBw:=hM.hB
 have hn:=hM.hn
 refine zin 75 Tryz.func95 ?_
 refine xb 24 0 kx ?_
 refine xc 1 (args:=#[.pointer (some ⟨b,0,none⟩),.int .i64 no]) (Ad Bi b pi ni ci l no _ hI) ?_
 rintro e W1 hq1
 rcases hq1 with ⟨hie,tyx,vx,rfl,hb1,hvx⟩|⟨hie,pl,cl,rfl,hb1,hs⟩
 ·have hI'1:=hI.below hb1
  have hc'1:=Zb hc hb1
  have hB:=blB (Below.refl B w) hBw hb1
  have hO:=(show Zh [3] w _ from(Zh.of_below hb1))
  refine xc 12 (args:=#[.pointer (some ⟨bx,0,none⟩),.slice none 0 0]) (Dj d B Bi b bx br pi ni ci l g n hR cs _ (hM.move hB hO hI'1 hc'1 (by omega)) hz hph) ?_
  rintro _ W2 ⟨rfl,hb2,hO2,hc⟩
  refine xbs 0 2 [.iface tyx (vx),.nilIface] 26 fun b3 W3 n3=>?_
  have hB'1:=hB.trans hb2
  have g3:=n3.ge0 hB'1
  refine xr 0 (args:=#[.slice (some ⟨b3,0,none⟩) 2 2]) (fault_Fxn b3 _ _ _ n3.blk) fun W4 hb4=>?_
  have hvx'1:=((hvx.only hO2 (by decide)).below n3.below).below hb4
  have hB'2:=blB (blB hB'1 hBw n3.below) hBw hb4
  have hO'1:=((hO.trans hO2).trans (Zh.of_below n3.below)).trans (Zh.of_below hb4)
  exact xe 6 (.iface tyx (vx)) (Xn (Sa (hasE_6 l no) hie) hie hB'2 hO'1 hvx'1)
 have hs1:=Nat.le_refl w.heap.size
 have hI'2:=hI.below hb1
 have hc'2:=Zb hc hb1
 have hs'1:=Zd hs hs1
 have hB:=blB (Below.refl B w) hBw hb1
 have hO:=(show Zh [3] w _ from(Zh.of_below hb1))
 refine xc 12 (args:=#[.pointer (some ⟨bx,0,none⟩),.slice pl ((Wh l no).length) cl]) (Cq d B Bi b bx br pi ni ci l g n hR cs _ pl cl (Wh l no) _ (hM.move hB hO hI'2 hc'2 (by omega)) hz hph hs'1 (Bh l no)) ?_
 rintro e W5 hq5
 rcases hq5 with ⟨hre,tyr,vr,rfl,hb5,hO5,hv9⟩|⟨hre,rfl,hb5,hO5,hc⟩
 ·refine xbs 0 2 [.nilIface,.iface tyr (vr)] 26 fun b6 W6 n6=>?_
  have hB'3:=hB.trans hb5
  have g6:=n6.ge0 hB'3
  refine xr 0 (args:=#[.slice (some ⟨b6,0,none⟩) 2 2]) (fault_Fnx b6 _ _ _ n6.blk) fun W7 hb7=>?_
  have hv9'1:=(hv9.below n6.below).below hb7
  have hB'4:=blB (blB hB'3 hBw n6.below) hBw hb7
  have hO'2:=((hO.trans hO5).trans (Zh.of_below n6.below)).trans (Zh.of_below hb7)
  refine xe 6 (.iface tyr (vr)) ?_
  have e9:To l d cs no 6=Qr (Zu l d) cs ((Wh l no).map Kb):=by rw[Cs ((hasE_6 l no).trans hie),hasL_6]
  exact Xn (c:=(To l d cs no 6).1) (bl:=(To l d cs no 6).2.1) (er:=(To l d cs no 6).2.2) rfl (by rw[e9];exact hre) hB'4 hO'2 (by rw[e9];exact hv9'1)
 refine xbs 0 2 [.nilIface,.nilIface] 26 fun b8 W8 n8=>?_
 have hB'5:=hB.trans hb5
 have g8:=n8.ge0 hB'5
 refine xr 0 (args:=#[.slice (some ⟨b8,0,none⟩) 2 2]) (fault_Fnn b8 _ n8.blk) fun W9 hb9=>?_
 have hc'3:=Zb (Zb hc n8.below) hb9
 have hB'6:=blB (blB hB'5 hBw n8.below) hBw hb9
 have hO'3:=((hO.trans hO5).trans (Zh.of_below n8.below)).trans (Zh.of_below hb9)
 refine xe 6 .nilIface ?_
 have e9:To l d cs no 6=Qr (Zu l d) cs ((Wh l no).map Kb):=by rw[Cs ((hasE_6 l no).trans hie),hasL_6]
 exact Qq (by rw[e9];exact hre) (by rw[e9]) hB'6 hO'3 hc'3
theorem Zfk(d:Nat)(B Bi b bx br:Nat)(pi:Option Addr)(ni ci:Nat)(l:List UInt8)(g n:Nat)(hR:Ui d B Bi b bx br pi ni ci l g n)(cs:List Nat)(no:Int)(w:World)(hM:RcM B Bi b bx br pi ni ci l g n cs w)(hz:zer cs<d)(hph:phi cs≤999999998000) :
 Calls Tryz.prog 95 #[.pointer (some ⟨bx,0,none⟩),.int .i64 no,.int .i64 (-2)] w (Ue B g n (To l d cs no 7) w):=by
 have hc:=hM.hc
 have kx:=hM.kx
 have kr:=hM.kr
 have hI:=hM.hI
 have hBw:=hM.hB
 have hn:=hM.hn
 refine zin 75 Tryz.func95 ?_
 refine xb 31 0 kx ?_
 refine xc 1 (args:=#[.pointer (some ⟨b,0,none⟩),.int .i64 no]) (Zab Bi b pi ni ci l no _ hI) ?_
 rintro e W1 hq1
 rcases hq1 with ⟨hie,tyx,vx,rfl,hb1,hvx⟩|⟨hie,pl,cl,rfl,hb1,hs⟩
 ·have hB:=blB (Below.refl B w) hBw hb1
  have hO:=(show Zh [3] w _ from(Zh.of_below hb1))
  exact xe 16 (.iface tyx (vx)) (Xn (Sa (hasE_7 l no) hie) hie hB hO hvx)
 have hc'1:=Zb hc hb1
 have hB:=blB (Below.refl B w) hBw hb1
 have hO:=(show Zh [3] w _ from(Zh.of_below hb1))
 refine xe 16 .nilIface ?_
 have e9:To l d cs no 7=(cs,[],0):=by rw[Cs ((hasE_7 l no).trans hie),hasL_7];rfl
 exact Qq (by rw[e9]) (by rw[e9]) hB hO hc'1
theorem Zfo(l:List UInt8)(no:Int)(i:Nat):((Yx l no).getD i []).length≤1000:=Hw _ _ _
theorem Zge(d:Nat)(B Bi b bx br:Nat)(pi:Option Addr)(ni ci:Nat)(l:List UInt8)(g n:Nat)(hR:Ui d B Bi b bx br pi ni ci l g n)(cs:List Nat)(no t:Int)(w:World)(hM:RcM B Bi b bx br pi ni ci l g n cs w)(hz:zer cs<d)(hph:phi cs≤999999998000)(ht1:1≤t)(ht5:t≤5) :
 Calls Tryz.prog 95 #[.pointer (some ⟨bx,0,none⟩),.int .i64 no,.int .i64 t] w (Ue B g n (To l d cs no t) w):=by
 have hc:=hM.hc
 have kx:=hM.kx
 have kr:=hM.kr
 have hI:=hM.hI
 have hBw:=hM.hB
 have hn:=hM.hn
 refine zin 75 Tryz.func95 ?_
 refine xk 18 (show((t==(-1:Int)):Bool)=false from beq_false_of_ne (by omega)) ?_
 refine xk 6 (show((t==(-2:Int)):Bool)=false from beq_false_of_ne (by omega)) ?_
 refine xb 8 0 kx ?_
 refine xc 2 (args:=#[.pointer (some ⟨b,0,none⟩),.int .i64 no,.int .i64 t]) (Zdx Bi b pi ni ci l no t _ hI) ?_
 rintro e W1 hq1
 rcases hq1 with ⟨hie,bf,rfl,hb1,hvx⟩|⟨hie,kp,kc,vp,vc,rfl,hb1,hks,hvs⟩
 ·refine xa 3 [.int .i64 0,.bool false,.slice none 0 0,.slice none 0 0] 220 fun b2 W2 n2=>?_
  refine xsv 0 n2.blk [.int .i64 0,.bool false,.slice none 0 0,.slice none 0 0] fun W3 u3 k3=>?_
  have g2:=n2.ge0 (blB (Below.refl B w) hBw hb1)
  have hvx'1:=(hvx.below n2.below).only (Zh.of_upd (T:=[220]) u3 n2.blk (by decide)) (by decide)
  have hB:=u3.below (blB (blB (Below.refl B w) hBw hb1) hBw n2.below) (Nat.le_trans hBw g2)
  have hO:=(Zh.upd_new ((show Zh [3] w _ from(Zh.of_below hb1)).trans (Zh.of_below n2.below)) u3 g2)
  exact xe 19 (.iface 179 (.pointer (some ⟨bf,0,none⟩))) (Xn (Sa (Zha ht5) hie) hie hB hO hvx'1)
 have hs1:=Nat.le_refl w.heap.size
 have hTt:=nodT_is hie ht1
 have hC18:=maxC l no t hie
 have hVl:=Ss l no
 refine xa 3 [.int .i64 0,.bool false,.slice none 0 0,.slice none 0 0] 220 fun b4 W4 n4=>?_
 refine xsv 0 n4.blk [.int .i64 (Xm (inB l no)),.bool (Xr (inB l no)),.slice kp (Xf (inB l no)) kc,.slice vp (Xf (inB l no)) vc] fun W5 u5 k5=>?_
 have g4:=n4.ge0 (blB (Below.refl B w) hBw hb1)
 refine xb 17 3 k5 ?_
 have hvs'1:=u5.own2 (Zb (Zd hvs hs1) n4.below) n4.blk (by decide)
 have hc'1:=u5.own2 (Zb (Zb hc hb1) n4.below) n4.blk (by decide)
 have hI'1:=((hI.below hb1).below n4.below).only (Zh.of_upd (T:=[220]) u5 n4.blk (by decide)) (by decide)
 have hB:=u5.below (blB (blB (Below.refl B w) hBw hb1) hBw n4.below) (Nat.le_trans hBw g4)
 have hO:=(Zh.upd_new ((show Zh [3] w _ from(Zh.of_below hb1)).trans (Zh.of_below n4.below)) u5 g4)
 have kx'1:=u5.blkT ((kx.below hb1).below n4.below) n4.blk (by decide)
 have kr'1:=u5.blkT ((kr.below hb1).below n4.below) n4.blk (by decide)
 refine zl 5 75 (fun zm zkv V=>∃ (i:Nat) (c:List Nat),zkv=[(0,.pointer (some ⟨bx,0,none⟩)),(1,.int .i64 no),(11,.pointer (some ⟨b4,0,none⟩)),(60,.slice vp (Xf (inB l no)) vc),(61,.int .i64 (↑(Xf (inB l no)):Int)),(62,.int .i64 (↑i:Int))]∧zm=(Xf (inB l no))-((↑i:Int)).toNat∧Below B w V∧Zh [3] w V∧Blk V bx ([.pointer (some ⟨b,0,none⟩),.pointer (some ⟨br,0,none⟩)]) 134∧Blk V br ([.slice (some ⟨g,0,none⟩) n n]) 206∧Blk V b4 ([.int .i64 (Xm (inB l no)),.bool (Xr (inB l no)),.slice kp (Xf (inB l no)) kc,.slice vp (Xf (inB l no)) vc]) 220∧V.ownsRow w.heap.size 9 1 (.slice vp (Xf (inB l no)) vc) (Xf (inB l no)) ((Yx l no).map sv)∧V.ownsRow B 3 1 (.slice (some ⟨g,0,none⟩) n n) n (c.map nv)∧ImgR Bi b pi ni ci l V∧i≤(Xf (inB l no))∧Yf (Zu l d) cs (Bb l no i) c) ⟨0,cs,rfl,rfl,hB,hO,kx'1,kr'1,k5,hvs'1,hc'1,hI'1,Nat.zero_le _,(by rw[Zfr];exact Yf.nil _ _)⟩ ?_
 rintro _ _ W6 ⟨i,c,rfl,rfl,hB_6,hO_6,k6_bx,k6_br,k6_b4,hvs,hc,hI,hi,hf⟩ J6 hJ6 r6
 obtain⟨hw1,hw2,hw3⟩:=hf.well
 have hw4:=takeX_len l no i
 refine xid 6 ((↑i:Int)<(↑(Xf (inB l no)):Int)) (fun hc7=>?_) (fun hc7=>?_)
 ·refine xx 6 _ (Xf (inB l no)) i 1 (Strs.elem (Ze hvs) (Ss l no) (k:=i) (by omega)).1 ?_
  refine xl 0 ((Strs.elem (Ze hvs) (Ss l no) (k:=i) (by omega)).2) ?_
  refine xlv 7 k6_b4.rp ?_
  refine xc 1 (args:=#[.pointer (some ⟨bx,0,none⟩),.int .i64 no,.agg #[.int .i64 (Xm (inB l no)),.bool (Xr (inB l no)),.slice kp (Xf (inB l no)) kc,.slice vp (Xf (inB l no)) vc],.string ⟨((Yx l no).getD i []).toArray⟩]) (Zg2 d B Bi b bx br pi ni ci l g n hR c no (Xm (inB l no)) (Xr (inB l no)) kp vp (Xf (inB l no)) kc (Xf (inB l no)) vc ((Yx l no).getD i []) _ (hM.move hB_6 hO_6 hI hc (by omega)) (by omega) (by omega) (by omega) (by omega) (Zfo l no i)) ?_
  rintro e W8 hq8
  rcases hq8 with ⟨hre,tyr,vr,rfl,hb8,hO8,hv9⟩|⟨hre,rfl,hb8,hO8,hc⟩
  ·have hB'1:=hB_6.trans hb8
   have hO'1:=hO_6.trans hO8
   refine xe 22 (.iface tyr (vr)) ?_
   have e9:To l d cs no t=Qr (Zu l d) cs (Zc0 l no):=by rw[Cs ((Zha ht5).trans hie),hasL_n ht5]
   have e8:=takeX_bad (by omega) hf hre
   exact Xn (c:=(To l d cs no t).1) (bl:=(To l d cs no t).2.1) (er:=(To l d cs no t).2.2) rfl (by rw[e9,e8];exact hre) hB'1 hO'1 (by rw[e9,e8];exact hv9)
  refine xwm 14 ((↑i:Int)+1) (↑(i+1):Int) ?_
  have hB'2:=hB_6.trans hb8
  have hO'2:=hO_6.trans hO8
  have k6_bx'1:=k6_bx.only hO8 (by decide)
  have k6_br'1:=k6_br.only hO8 (by decide)
  have k6_b4'1:=k6_b4.only hO8 (by decide)
  have hvs'2:=Zj hvs hO8 (by decide)
  have hI'2:=hI.only hO8 (by decide)
  exact ze 2 (hJ6 _ _ _ ⟨i+1,_,rfl,rfl,hB'2,hO'2,k6_bx'1,k6_br'1,k6_b4'1,hvs'2,hc,hI'2,by omega,Zfw (by omega) hf hre⟩ (by omega))
 refine xe 11 .nilIface ?_
 have e9:To l d cs no t=Qr (Zu l d) cs (Zc0 l no):=by rw[Cs ((Zha ht5).trans hie),hasL_n ht5]
 obtain rfl:i=(Yx l no).length:=by omega
 rw[takeX_all] at hf
 exact Qq (by rw[e9];exact hf.1) (by rw[e9];exact hf.2) hB_6 hO_6 hc
theorem Zhf(d:Nat)(B Bi b bx br:Nat)(pi:Option Addr)(ni ci:Nat)(l:List UInt8)(g n:Nat)(hR:Ui d B Bi b bx br pi ni ci l g n)(cs:List Nat)(no ak:Int)(w:World)(hM:RcM B Bi b bx br pi ni ci l g n cs w)(hz:zer cs<d)(hph:phi cs≤999999998000)(h1:1≤ak)(h7:ak≤7) :
 Calls Tryz.prog 95 #[.pointer (some ⟨bx,0,none⟩),.int .i64 no,.int .i64 (asP ak)] w (Ue B g n (To l d cs no ak) w):=by
 by_cases h6:ak=6
 ·subst h6;exact Zfh d B Bi b bx br pi ni ci l g n hR cs no w hM hz hph
 ·by_cases h8:ak=7
  ·subst h8;exact Zfk d B Bi b bx br pi ni ci l g n hR cs no w hM hz hph
  ·rw[asP_id (by omega)];exact Zge d B Bi b bx br pi ni ci l g n hR cs no ak w hM hz hph h1 (by omega)
theorem Zgj{l:List UInt8}{d:Nat}{cs:List Nat}{no ak:Int}(h:¬ (0≤no∧no<cs.length)):Zu l (d+1) cs (no,ak,0)=(cs,[no],3):=by unfold Zu;rw[if_neg (fun q=>q rfl),if_pos h]
theorem Za6{l:List UInt8}{d:Nat}{cs:List Nat}{no ak:Int}(h:0≤no∧no<cs.length)(h2:cs.getD no.toNat 0≠0):Zu l (d+1) cs (no,ak,0)=(Jy cs no,[],0):=by unfold Zu;rw[if_neg (fun q=>q rfl),if_neg (fun q=>q h),if_pos h2]
theorem Fp{l:List UInt8}{d:Nat}{cs:List Nat}{no ak:Int}(h:0≤no∧no<cs.length)(h2:cs.getD no.toNat 0=0):Zu l (d+1) cs (no,ak,0)=To l d (Jy cs no) no ak:=by unfold Zu;rw[if_neg (fun q=>q rfl),if_neg (fun q=>q h),if_neg (fun q=>q h2)];rfl
theorem Ov(d:Nat)(B Bi b bx br:Nat)(pi:Option Addr)(ni ci:Nat)(l:List UInt8)(g n:Nat)(hR:Ui d B Bi b bx br pi ni ci l g n)(cs:List Nat)(no ak:Int)(w:World)(hM:RcM B Bi b bx br pi ni ci l g n cs w)(hz:zer cs<d+1)(hph:phi cs≤1000000000000)(h1:1≤ak)(h7:ak≤7) :
 Calls Tryz.prog 49 #[.pointer (some ⟨bx,0,none⟩),.int .i64 no,.int .i64 (asP ak)] w (Ue B g n (Zu l (d+1) cs (no,ak,0)) w):=by
 have hc:=hM.hc
 have kx:=hM.kx
 have kr:=hM.kr
 have hI:=hM.hI
 have hBw:=hM.hB
 have hn:=hM.hn
 refine zin 30 Tryz.func49 ?_
 refine xb 10 1 kx ?_
 refine xc 1 (args:=#[.pointer (some ⟨br,0,none⟩),.int .i64 no]) (refs_Add B br g n cs no _ kr (Nat.le_trans hBw (Below.refl B _).size) hc hn hph) ?_
 rintro e W1 hq1
 rcases hq1 with ⟨hno,rfl,hb1,hO1,hc⟩|⟨hno,rfl,hb1,hO1,hc⟩
 ·refine xc 20 (args:=#[.int .i64 no,.iface 91 (.int .i64 3)]) (Ph no 3 [] _ _ rfl) ?_
  rintro _ W2 ⟨ty2,v2,rfl,hb2,hva⟩
  have hB:=blB hb1 hBw hb2
  have hO:=(show Zh [3] w _ from hO1).trans (Zh.of_below hb2)
  exact xe 5 (.iface ty2 (v2)) (Xn (Zgj hno) (by decide) hB hO hva)
 have hbz:=Ki hno.1 hno.2
 have hbs:=Pu hno.1 hno.2
 have hbl:=Vo cs no
 refine xid 24 ((↑(cs.getD no.toNat 0+1):Int)>(1:Int)) (fun hc3=>?_) (fun hc3=>?_)
 ·have hO:=(show Zh [3] w _ from hO1)
  refine xe 7 .nilIface ?_
  have e9:(Zu l (d+1) cs (no,ak,0))=_:=Za6 hno (by omega)
  exact Qq (by rw[e9]) (by rw[e9]) hb1 hO hc
 have hI'1:=hI.only hO1 (by decide)
 have hz0:cs.getD no.toNat 0=0:=by omega
 rw[if_pos hz0] at hbz
 have hO:=(show Zh [3] w _ from hO1)
 refine xc 7 (args:=#[.pointer (some ⟨bx,0,none⟩),.int .i64 no,.int .i64 (asP ak)]) (Zhf d B Bi b bx br pi ni ci l g n hR (Jy cs no) no ak _ (hM.move hb1 hO hI'1 hc (by omega)) (by omega) (by unfold phi at hph ⊢;omega) h1 h7) ?_
 rintro e W4 hq4
 rcases hq4 with ⟨hre,tyr,vr,rfl,hb4,hO4,hv9⟩|⟨hre,rfl,hb4,hO4,hc⟩
 ·have hB'1:=hb1.trans hb4
  have hO'1:=hO.trans hO4
  refine xe 4 (.iface tyr (vr)) ?_
  have e9:(Zu l (d+1) cs (no,ak,0))=_:=Fp hno hz0
  exact Xn (c:=(Zu l (d+1) cs (no,ak,0)).1) (bl:=(Zu l (d+1) cs (no,ak,0)).2.1) (er:=(Zu l (d+1) cs (no,ak,0)).2.2) rfl (by rw[e9];exact hre) hB'1 hO'1 (by rw[e9];exact hv9)
 have hB'2:=hb1.trans hb4
 have hO'2:=hO.trans hO4
 refine xe 4 .nilIface ?_
 have e9:(Zu l (d+1) cs (no,ak,0))=_:=Fp hno hz0
 exact Qq (by rw[e9];exact hre) (by rw[e9]) hB'2 hO'2 hc
theorem Mx:∀ (d:Nat) (B Bi b bx br:Nat) (pi:Option Addr) (ni ci:Nat) (l:List UInt8) (g n:Nat),Ui d B Bi b bx br pi ni ci l g n
 | 0,B,Bi,b,bx,br,pi,ni,ci,l,g,n=>fun cs no ak w _ hz _ _ _=>absurd hz (by omega)
 | d+1,B,Bi,b,bx,br,pi,ni,ci,l,g,n=>fun cs no ak w hM hz hph h1 h7=>Ov d B Bi b bx br pi ni ci l g n (Mx d B Bi b bx br pi ni ci l g n) cs no ak w hM hz hph h1 h7
end Go.Proofs.YtlmaglneeaecdaaGreatDoor
