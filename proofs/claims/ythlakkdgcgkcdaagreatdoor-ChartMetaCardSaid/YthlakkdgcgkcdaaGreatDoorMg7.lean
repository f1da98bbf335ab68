/- Counts read, the program and the document; how many blocks of counts any number needs. -/
import Derived.Maps.Own
import Derived.Test.YthlakkdgcgkcdaaGreatDoorMg6
namespace Go.Proofs.YthlakkdgcgkcdaaGreatDoor
set_option maxHeartbeats 8000000
set_option maxRecDepth 100000
open Go.RowKit Go.Extern.Stop Go.Stop Go.Extern
set_option linter.unusedVariables false
attribute [local irreducible] wpList wpAnyH Code.wp Oper.wp Go
theorem Rd(s:List UInt8)(w:World)(hs:s.length≤1000) :
 Calls Tryz.prog 96 #[.string ⟨s.toArray⟩] w (Ret (.tuple #[.int .i64 (↑((Xy Gz s).getD 0 0):Int),.int .i64 (Xq Gz s)]) w):=by
 refine zin 16 Tryz.func96 ?_
 refine xc 8 (args:=#[]) (Ss _) ?_
 rintro _ W1 ⟨_,rfl,hb1,gl,rfl,gg,kl⟩
 refine xc 1 (args:=#[.slice (some ⟨gl,0,none⟩) 1 1,.string ⟨s.toArray⟩]) (Fl Gz s (some ⟨gl,0,none⟩) 1 _ cntP_ok (by decide) (by omega) (kl.sl 1 1 (by decide) (by decide))) ?_
 rintro _ W2 ⟨_,rfl,hb2,p5,c5,rfl,h5⟩
 have h5'1:=Zd h5 hb1.size
 refine xx 10 _ 1 0 1 (Zt (l:=Xy Gz s) (Zf h5'1) (Jy _ _) (k:=0) (by decide)).1 ?_
 refine xl 0 ((Zt (l:=Xy Gz s) (Zf h5'1) (Jy _ _) (k:=0) (by decide)).2) ?_
 have hB:=bln hb1 hb2
 exact xe 6 (.tuple #[.int .i64 (↑((Xy Gz s).getD 0 0):Int),.int .i64 (Xq Gz s)]) ⟨rfl,hB⟩
theorem Zfj(s:List UInt8):Lb Gz s=[Zh s 0 4]:=rfl
theorem Zga(s:List UInt8):(if s.length=4∧(3:Int)≤(Zh s 0 4:Int)∧(Zh s 0 4:Int)≤2147483647 then(Zh s 0 4:Int) else 0)=(((Xy Gz s).getD 0 0:Nat):Int)∧(if s.length=4 then(if(3:Int)≤(Zh s 0 4:Int)∧(Zh s 0 4:Int)≤2147483647 then 0 else 2) else(7:Int))=Xq Gz s:=by
 have hs:(Ux Gz Gz.length).sum=4:=rfl
 have hk:Hm Gz s=decide ((3:Int)≤(Zh s 0 4:Int)∧(Zh s 0 4:Int)≤2147483647):=by
  unfold Hm
  rw[Zfj,show Gz.length=1 from rfl]
  simp[Nj,inP,Gz,List.range_succ]
 have he:Xq Gz s=if s.length=4 then(if(3:Int)≤(Zh s 0 4:Int)∧(Zh s 0 4:Int)≤2147483647 then 0 else 2) else(7:Int):=by
  unfold Xq
  rw[hs,hk]
  simp only[decide_eq_true_eq]
 refine⟨?_,he.symm⟩
 unfold Xy
 rw[he]
 by_cases h4:s.length=4
 ·by_cases hr:(3:Int)≤(Zh s 0 4:Int)∧(Zh s 0 4:Int)≤2147483647
  ·rw[if_pos ⟨h4,hr⟩,if_pos h4,if_pos hr,if_pos rfl,Zfj];rfl
  ·rw[if_neg (fun q=>hr q.2),if_pos h4,if_neg hr,if_neg (by decide)];rfl
 ·rw[if_neg (fun q=>h4 q.1),if_neg h4,if_neg (by decide)];rfl
theorem Zei(s:List UInt8)(w:World)(hs:s.length≤1000):Calls Tryz.prog 149 #[.string ⟨s.toArray⟩,.int .i64 3,.int .i64 2147483647] w (Ret (.tuple #[.int .i64 (↑((Xy Gz s).getD 0 0):Int),.int .i64 (Xq Gz s)]) w):=by
 have h:=Tt s 3 2147483647 w hs
 rwa [(Zga s).1,(Zga s).2] at h
theorem Sk(s:List UInt8)(w:World)(hs:s.length≤1000) :
 Calls Tryz.prog 106 #[.string ⟨s.toArray⟩] w (Ret (.tuple #[.int .i64 (↑((Xy Gz s).getD 0 0):Int),.int .i64 (Xq Gz s)]) w):=by
 refine zin 8 Tryz.func106 ?_
 refine xr 9 (args:=#[.string ⟨s.toArray⟩,.int .i64 3,.int .i64 2147483647]) (Zei s _ hs) fun W1 hb1=>?_
 exact xe 7 (.tuple #[.int .i64 (↑((Xy Gz s).getD 0 0):Int),.int .i64 (Xq Gz s)]) ⟨rfl,hb1⟩
theorem Tf(m:Nat)(w:World)(hm:1≤m)(hn:m≤1099511627776) :
 Calls Tryz.prog 30 #[.int .i64 (↑m:Int)] w (Ret (.int .i64 (↑(bmN m):Int)) w):=by
 refine zin 9 Tryz.func30 ?_
 refine xk 12 (show(decide ((↑m:Int)<(1:Int)):Bool)=false from decide_eq_false (by omega)) ?_
 refine xwm 5 ((↑m:Int)-1) (↑(m-1):Int) ?_
 refine xq 0 (congrArg (Value.int .i64) (show(IntKind.i64.wrap (Int.tdiv (↑(m-1):Int) 960):Int)=(↑((m-1)/960):Int) from Gw (m-1) 960 (by omega) (by decide))) ?_
 refine xw 0 ((↑((m-1)/960):Int)+1) ?_
 exact xe 4 (.int .i64 ((↑((m-1)/960):Int)+1)) ⟨by rw[show bmN m=(m-1)/960+1 from by unfold bmN;omega,Int.natCast_add];rfl,(Below.refl w.heap.size _)⟩
theorem Ti(n:Int)(w:World)(hn:n<1) :
 Calls Tryz.prog 30 #[.int .i64 n] w (Ret (.int .i64 0) w):=by
 refine zin 9 Tryz.func30 ?_
 refine xk 12 (show(decide (n<(1:Int)):Bool)=true from decide_eq_true hn) ?_
 exact xe 7 (.int .i64 0) ⟨rfl,(Below.refl w.heap.size _)⟩
theorem Mq(n:Int)(w:World)(hn:n≤1099511627776):Calls Tryz.prog 30 #[.int .i64 n] w (Ret (.int .i64 (↑(bmI n):Int)) w):=by
 by_cases h:n<1
 ·have:=Ti n w h
  rwa [show(0:Int)=((bmI n:Nat):Int) from by unfold bmI bmN;omega] at this
 ·obtain⟨m,rfl⟩:∃ m:Nat,n=(m:Int):=⟨n.toNat,by omega⟩
  exact Tf m w (by omega) (by omega)
theorem Fs(m:Nat)(w:World)(hm:1≤m)(hn:m≤1099511627776) :
 Calls Tryz.prog 35 #[.int .i64 (↑m:Int)] w (Ret (.int .i64 (↑(bmN m):Int)) w):=by
 refine zin 9 Tryz.func35 ?_
 refine xk 12 (show(decide ((↑m:Int)<(1:Int)):Bool)=false from decide_eq_false (by omega)) ?_
 refine xwm 5 ((↑m:Int)+960) (↑(m+960):Int) ?_
 refine xwm 0 ((↑(m+960):Int)-1) (↑((m+960)-1):Int) ?_
 refine xq 0 (congrArg (Value.int .i64) (show(IntKind.i64.wrap (Int.tdiv (↑((m+960)-1):Int) 960):Int)=(↑((m+960-1)/960):Int) from Gw (m+960-1) 960 (by omega) (by decide))) ?_
 exact xe 4 (.int .i64 (↑((m+960-1)/960):Int)) ⟨by rw[show bmN m=(m+960-1)/960 from rfl],(Below.refl w.heap.size _)⟩
theorem Sd(n:Int)(w:World)(hn:n<1) :
 Calls Tryz.prog 35 #[.int .i64 n] w (Ret (.int .i64 0) w):=by
 refine zin 9 Tryz.func35 ?_
 refine xk 12 (show(decide (n<(1:Int)):Bool)=true from decide_eq_true hn) ?_
 exact xe 7 (.int .i64 0) ⟨rfl,(Below.refl w.heap.size _)⟩
theorem Tm(n:Int)(w:World)(hn:n≤1099511627776):Calls Tryz.prog 35 #[.int .i64 n] w (Ret (.int .i64 (↑(bmI n):Int)) w):=by
 by_cases h:n<1
 ·have:=Sd n w h
  rwa [show(0:Int)=((bmI n:Nat):Int) from by unfold bmI bmN;omega] at this
 ·obtain⟨m,rfl⟩:∃ m:Nat,n=(m:Int):=⟨n.toNat,by omega⟩
  exact Fs m w (by omega) (by omega)
end Go.Proofs.YthlakkdgcgkcdaaGreatDoor
namespace Go.Proofs.YthlakkdgcgkcdaaGreatDoor
set_option maxHeartbeats 8000000
set_option maxRecDepth 100000
open Go.RowKit Go.Extern.Stop Go.Stop Go.Extern
open Go.ChangeMaps (setBlock heap_setBlock_same heap_setBlock_other)
set_option linter.unusedVariables false
attribute [local irreducible] wpList wpAnyH Code.wp Oper.wp Go
def mapE(ks:List Int):List (Value×Value):=ks.map fun k=>(Value.int .i64 k,Value.bool true)
def Uw(W:World)(r:Nat)(ks:List Int):Prop:=∃ es clock,W.heap[r]? = some (.map es clock)∧es.toList.map (fun e=>(e.key,e.val))=mapE ks
theorem Uw.lt{W:World}{r:Nat}{ks:List Int}(h:Uw W r ks):r<W.heap.size:=by
 obtain⟨es,clock,h1,_⟩:=h
 exact(Array.getElem?_eq_some_iff.1 h1).1
theorem Uw.kept{w W:World}{r:Nat}{ks:List Int}(h:Uw w r ks)(hb:W.heap[r]? = w.heap[r]?):Uw W r ks:=by
 obtain⟨es,clock,h1,h2⟩:=h
 exact⟨es,clock,hb.trans h1,h2⟩
theorem Uw.below{w W:World}{r:Nat}{ks:List Int}(h:Uw w r ks)(hb:Below w.heap.size w W):Uw W r ks:=h.kept (hb.block r h.lt)
theorem Uw.ne_blk{w:World}{r b:Nat}{ks:List Int}{cs:List Value}{t:TypeId}(h:Uw w r ks)(k:Blk w b cs t):r≠b:=fun e=>by
 subst e
 obtain⟨es,clock,h1,_⟩:=h
 have:w.heap[r]? = some (.cells cs.toArray t (0,0)):=k
 rw[h1] at this;cases this
theorem Uw.ne_own{w:World}{r base size n:Nat}{ks:List Int}{e:TypeId}{v:Value}{xs:List Value}(h:Uw w r ks)(k:w.ownsRow base e size v n xs):some r≠v.ownBlock:=fun q=>by
 rcases k.2 with ⟨h2,_⟩|⟨g,cap,cur,hv,hg,hh,_⟩
 ·subst h2;simp[Value.ownBlock] at q
 ·subst hv
  simp only[Value.ownBlock,Option.some.injEq] at q
  subst q
  obtain⟨es,clock,h1,_⟩:=h
  rw[h1] at hh;cases hh
theorem Uw.grown{w W:World}{r base size n:Nat}{ks:List Int}{e:TypeId}{v:Value}{xs:List Value}(h:Uw w r ks)(hg:w.grownBy W v.ownBlock)(k:w.ownsRow base e size v n xs):Uw W r ks:=h.kept (hg.block r h.lt (h.ne_own k))
theorem Uw.updRow{w W:World}{r b base size n c:Nat}{ks:List Int}{e:TypeId}{xs:List Value}(h:Uw w r ks)(u:Upd w b W)(k:w.ownsRow base e size (.slice (some ⟨b,0,none⟩) n c) n xs):Uw W r ks:=h.kept (u.block r fun q=>h.ne_own k (by simp[Value.ownBlock,q]))
theorem Uw.updBlk{w W:World}{r b:Nat}{ks:List Int}{cs:List Value}{t:TypeId}(h:Uw w r ks)(u:Upd w b W)(k:Blk w b cs t):Uw W r ks:=h.kept (u.block r (h.ne_blk k))
theorem Zec{w W:World}{r base size n:Nat}{ks:List Int}{e:TypeId}{v:Value}{xs:List Value}(k:w.ownsRow base e size v n xs)(h:Uw w r ks)(u:Upd w r W):W.ownsRow base e size v n xs:=u.own3 k fun j hj q=>h.ne_own k (by rw[hj,q])
theorem blk_map{w W:World}{r b:Nat}{ks:List Int}{cs:List Value}{t:TypeId}(k:Blk w b cs t)(h:Uw w r ks)(u:Upd w r W):Blk W b cs t:=u.blk k (fun q=>h.ne_blk k q.symm)
structure NewM(w:World)(r:Nat)(W:World):Prop where
 at_:r=w.heap.size
 below:Below w.heap.size w W
 map:Uw W r []
theorem NewM.ge{w W A:World}{r:Nat}(h:NewM w r W)(k:Below A.heap.size A w):A.heap.size≤r:=by have:=k.size;have:=h.at_;omega
theorem NewM.mk'(w:World):NewM w w.heap.size (w.alloc (.map #[] 0)):=⟨rfl,blx _ _,#[],0,World.alloc_heap_new w _,rfl⟩
theorem Sq(k:Int):∀ (es:List MapEntry) (ks:List Int) (i:Nat),es.map (fun e=>(e.key,e.val))=mapE ks→Instr.findNow (.int .i64) (.int .i64 k) es i=some (if k∈ks then some (i+ks.idxOf k,.bool true) else none)
 | [],ks,i,h=>by
  have:ks=[]:=by simpa [mapE] using h.symm
  subst this;rfl
 | e::es,[],i,h=>by simp[mapE] at h
 | e::es,k0::ks,i,h=>by
  simp only[mapE,List.map_cons,List.cons.injEq,Prod.mk.injEq] at h
  obtain⟨⟨h1,h2⟩,h3⟩:=h
  have ih:=Sq k es ks (i+1) h3
  by_cases q:k=k0
  ·subst q
   simp[Instr.findNow,h1,h2,Instr.sameNow]
  ·have hq:(k==k0)=false:=by simpa using q
   simp only[Instr.findNow,h1,Instr.sameNow,if_true,hq,ih]
   by_cases m:k∈ks
   ·rw[if_pos m,if_pos (List.mem_cons_of_mem _ m),List.idxOf_cons,show(k0==k)=false from by simpa using fun z=>q z.symm]
    simp;omega
   ·rw[if_neg m,if_neg (by simp[q,m])]
theorem Mi{P:Program}{kt:TypeId}(hk:P.underlying kt=some (.int .i64))(k:Int){es:List MapEntry}{ks:List Int}(h:es.map (fun e=>(e.key,e.val))=mapE ks)(w:World) :
 (Instr.findKey kt (.int .i64 k) es).run P w=.ok (if k∈ks then some (ks.idxOf k,.bool true) else none) w:=by
 simp only[Instr.findKey,Sem.run_bind,run_underlying hk,Result.andThen_ok,Sq k es ks 0 h,Nat.zero_add]
 rfl
theorem run_keyN{P:Program}{kt:TypeId}(hk:P.underlying kt=some (.int .i64))(k:Int)(b:Bool)(n:Nat)(w:World):(Instr.checkKey b (n+1) kt (.int .i64 k)).run P w=.ok () w:=by
 simp only[Instr.checkKey,Sem.run_bind,run_underlying hk,Result.andThen_ok]
 rfl
theorem Ba{P:Program}{kt:TypeId}(hk:P.underlying kt=some (.int .i64))(k:Int)(b:Bool)(w:World):(Instr.checkKey b 10000 kt (.int .i64 k)).run P w=.ok () w:=run_keyN hk k b 9999 w
variable {P:Program} {w:World}
theorem Zes{t kt et:TypeId}{r:Nat}{ks:List Int}(ht:P.underlying t=some (.map kt et))(hk:P.underlying kt=some (.int .i64))(hz:(zeroValue et).run P w=.ok (.bool false) w)(h:Uw w r ks)(k:Int) :
 (Instr.lookup t (.map (some r)) (.int .i64 k) false).run P w=.ok (.bool (decide (k∈ks))) w:=by
 obtain⟨es,clock,h1,h2⟩:=h
 have hf:=Mi (P:=P) hk k h2 w
 by_cases m:k∈ks
 ·rw[if_pos m] at hf
  simp[Instr.lookup,run_underlying ht,MapKept.run_getObj_map h1,Ba hk,hf,Result.andThen,m]
 ·rw[if_neg m] at hf
  simp[Instr.lookup,run_underlying ht,MapKept.run_getObj_map h1,Ba hk,hf,hz,Result.andThen,m]
theorem Cx{r:Nat}{es:Array MapEntry}{c:Nat}(hb:w.heap[r]? = some (.map es c))(o:Obj):Upd w r (setBlock w r o):=⟨rfl,rfl,rfl,by simp[setBlock],fun k hk=>heap_setBlock_other hb _ hk⟩
theorem run_mapPut{t kt et:TypeId}{r:Nat}{ks:List Int}(ht:P.underlying t=some (.map kt et))(hk:P.underlying kt=some (.int .i64))(h:Uw w r ks){k:Int}(hn:k∉ks) :
 ∃ W,(Instr.mapUpdate t (.map (some r)) (.int .i64 k) (.bool true)).run P w=.ok () W∧Upd w r W∧Uw W r (ks++[k]):=by
 obtain⟨es,clock,h1,h2⟩:=h
 have hf:=Mi (P:=P) hk k h2 w
 rw[if_neg hn] at hf
 refine⟨setBlock w r (.map (es.push ⟨.int .i64 k,.bool true,clock⟩) (clock+1)),?_,Cx h1 _,_,_,heap_setBlock_same h1 _,?_⟩
 ·simp[Instr.mapUpdate,run_underlying ht,MapKept.run_getObj_map h1,Ba hk,hf,MapKept.run_setObj_map _ h1,Result.andThen,setBlock]
 ·rw[Array.toList_push,List.map_append,h2];simp[mapE]
theorem Wh{α β:Type}(f:α→β):∀ (l:List α) (i:Nat),(l.eraseIdx i).map f=(l.map f).eraseIdx i
 | [],i=>by simp
 | a::l,0=>by simp
 | a::l,i+1=>by simp[Wh f l i]
theorem Ta(k:Int)(ks:List Int)(h:k∈ks):ks.eraseIdx (ks.idxOf k)=ks.erase k:=(List.erase_eq_eraseIdx_of_idxOf (w:=rfl)).symm
theorem run_mapDel{t kt et ty:TypeId}{r:Nat}{ks:List Int}(ht:P.underlying t=some (.map kt et))(hk:P.underlying kt=some (.int .i64))(h:Uw w r ks){k:Int}(hm:k∈ks) :
 ∃ W,(Builtin.delete_ #[t,kt] ty #[.map (some r),.int .i64 k]).run P w=.ok (.tuple #[]) W∧Upd w r W∧Uw W r (ks.erase k):=by
 obtain⟨es,clock,h1,h2⟩:=h
 have hf:=Mi (P:=P) hk k h2 w
 rw[if_pos hm] at hf
 have hl:es.toList.length=ks.length:=by have:=congrArg List.length h2;simpa [mapE] using this
 have hlt:ks.idxOf k<es.size:=by have:=List.idxOf_lt_length_iff.2 hm;simp at hl;omega
 refine⟨setBlock w r (.map (es.eraseIdxIfInBounds (ks.idxOf k)) clock),?_,Cx h1 _,_,_,heap_setBlock_same h1 _,?_⟩
 ·simp[Builtin.delete_,run_underlying ht,MapKept.run_getObj_map h1,Ba hk,hf,MapKept.run_setObj_map _ h1,Result.andThen,setBlock]
 ·rw[←Ta k ks hm]
  have e:(es.eraseIdxIfInBounds (ks.idxOf k)).toList=es.toList.eraseIdx (ks.idxOf k):=by
   unfold Array.eraseIdxIfInBounds
   rw[dif_pos hlt]
   simp
  rw[e,Wh,h2]
  unfold mapE
  rw[Wh]
theorem run_mapLen{t kt et ty:TypeId}{r:Nat}{ks:List Int}(ht:P.underlying t=some (.map kt et))(h:Uw w r ks):(Builtin.len_ #[t] ty #[.map (some r)]).run P w=.ok (.int .i64 (ks.length:Int)) w:=by
 obtain⟨es,clock,h1,h2⟩:=h
 have hl:es.size=ks.length:=by have:=congrArg List.length h2;simpa [mapE] using this
 simp[Builtin.len_,run_underlying ht,MapKept.run_getObj_map h1,Result.andThen,goInt,hl]
/-! ### in a walk -/
inductive Zm
 | mm (t:TypeId)
 | lk (t:TypeId) (m k:Value)
 | mu (t:TypeId) (m k v:Value)
 | b1 (b:Builtin) (t:TypeId) (u:Value)
 | b2 (b:Builtin) (t t2:TypeId) (u v:Value)
noncomputable def zmf (n:Nat) (kv:List (Nat×Value)) (o:Oper):Option Zm:=match o.op with
 | .makeMap t none=>some (.mm t)
 | .lookup t x y false=>some (.lk t (zev n kv x) (zev n kv y))
 | .mapUpdate t x y z=>some (.mu t (zev n kv x) (zev n kv y) (zev n kv z))
 | .call c=>match c.callee with
  | .builtin b=>match c.args.toList,c.argTypes.toList with
   | [x],[t]=>some (.b1 b t (zev n kv x))
   | [x,y],[t,t2]=>some (.b2 b t t2 (zev n kv x) (zev n kv y))
   | _,_=>none
  | _=>none
 | _=>none
noncomputable def zm (s:Zs):Option Zm:=match zop s with
 | some o=>zmf s.n s.kv o
 | none=>none
def ZmOk(a:Act)(o:Oper):Zm→Prop
 | .mm t=>o.op=.makeMap t none
 | .lk t m k=>∃ x y,o.op=.lookup t x y false∧a.eval x=m∧a.eval y=k
 | .mu t m k v=>∃ x y z,o.op=.mapUpdate t x y z∧a.eval x=m∧a.eval y=k∧a.eval z=v
 | .b1 b t u=>∃ x,o.op=.call { callee:=.builtin b,args:=#[x],argTypes:=#[t] }∧a.eval x=u
 | .b2 b t t2 u v=>∃ x y,o.op=.call { callee:=.builtin b,args:=#[x,y],argTypes:=#[t,t2] }∧a.eval x=u∧a.eval y=v
theorem Zb7{n:Nat}{kv:List (Nat×Value)}{o:Oper}{k:Zm}(h:zmf n kv o=some k):ZmOk (zact n kv) o k:=by
 unfold zmf at h
 split at h
 ·rename_i hop;cases h;exact hop
 ·rename_i hop;cases h;exact⟨_,_,hop,by rw[Xd],by rw[Xd]⟩
 ·rename_i hop;cases h;exact⟨_,_,_,hop,by rw[Xd],by rw[Xd],by rw[Xd]⟩
 ·rename_i c hop
  split at h
  ·rename_i b hb
   obtain⟨cal,args,ts⟩:=c
   dsimp only at hb h
   subst hb
   split at h
   ·rename_i x t h1 h2
    cases h
    have e1:args=#[x]:=by rw[←Array.toArray_toList (xs:=args),h1]
    have e2:ts=#[t]:=by rw[←Array.toArray_toList (xs:=ts),h2]
    subst e1 e2
    exact⟨x,hop,by rw[Xd]⟩
   ·rename_i x y t t2 h1 h2
    cases h
    have e1:args=#[x,y]:=by rw[←Array.toArray_toList (xs:=args),h1]
    have e2:ts=#[t,t2]:=by rw[←Array.toArray_toList (xs:=ts),h2]
    subst e1 e2
    exact⟨x,y,hop,by rw[Xd],by rw[Xd]⟩
   ·cases h
  ·cases h
 ·cases h
section
variable {P:Program} {fn:Func} {R:Ending→World→Prop} {w:World} {s:Zs}
theorem xmm(q:Zq)(t:TypeId)(k:∀ r W,NewM w r W→Go P fn R (znx (zq P q s) (.map (some r))) W)(h:zm (zq P q s)=some (.mm t):=by kernel_rfl)(hz:Gf (zq P q s)=true:=by kernel_rfl):Go P fn R s w:=by
 obtain⟨o,ho,h⟩:=Qo h
 have hop:o.op=.makeMap t none:=Zb7 h
 exact Zy q s (zgo ho (Vv hz) fun K hK=>Gg (v:=.map (some w.heap.size)) (w':=w.alloc (.map #[] 0)) (by simp[execOp,hop,Instr.makeMap,newObj,Sem.run,Result.andThen]) (hK _ _ (Vq hz) (k _ _ (NewM.mk' w))))
theorem xlk(q:Zq){t kt et:TypeId}{r:Nat}{ks:List Int}{k:Int}(ht:P.underlying t=some (.map kt et))(hk:P.underlying kt=some (.int .i64))(hz0:∀ V,(zeroValue et).run P V=.ok (.bool false) V)(hM:Uw w r ks)(g:Go P fn R (znx (zq P q s) (.bool (decide (k∈ks)))) w)
 (h:zm (zq P q s)=some (.lk t (.map (some r)) (.int .i64 k)):=by kernel_rfl) (hz:Mv (zq P q s)=true:=by kernel_rfl):Go P fn R s w:=by
 obtain⟨o,ho,h⟩:=Qo h
 obtain⟨x,y,h1,h2,h3⟩:=Zb7 h
 exact Zy q s (Zcl ho (fun V hV=>by
  have hr:=Zes (P:=P) ht hk (hz0 V) (hM.below (Um hz hV)) k
  simp[execOp,h1,h2,h3,hr,Result.andThen]) g)
theorem xml(q:Zq){t kt et:TypeId}{r:Nat}{ks:List Int}(ht:P.underlying t=some (.map kt et))(hM:Uw w r ks)(g:Go P fn R (znx (zq P q s) (.int .i64 (ks.length:Int))) w)
 (h:zm (zq P q s)=some (.b1 .len t (.map (some r))):=by kernel_rfl) (hz:Mv (zq P q s)=true:=by kernel_rfl):Go P fn R s w:=by
 obtain⟨o,ho,h⟩:=Qo h
 obtain⟨x,h1,h2⟩:=Zb7 h
 exact Zy q s (Zcl ho (fun V hV=>by
  have hr:=run_mapLen (P:=P) (ty:=o.type) ht (hM.below (Um hz hV))
  simp[execOp,h1,resolve,invoke,builtin,h2,hr,Result.andThen]) g)
theorem op_skip{a:Act}{o:Oper}{K:Act→World→Prop}{Q:Exit→Act→World→Prop}{w':World}(hv:(execOp a.eval o).run P w=.ok .skip w')(k:K (a.put o.dst undef) w'):o.wp P a w K Q:=by
 simp only[Oper.wp,hv,Oper.upon];exact k
theorem xmu(q:Zq){t kt et:TypeId}{r:Nat}{ks:List Int}{k:Int}(ht:P.underlying t=some (.map kt et))(hk:P.underlying kt=some (.int .i64))(hM:Uw w r ks)(hn:k∉ks)(g:∀ W,Upd w r W→Uw W r (ks++[k])→Go P fn R (znx (zq P q s) undef) W)
 (h:zm (zq P q s)=some (.mu t (.map (some r)) (.int .i64 k) (.bool true)):=by kernel_rfl) (hz:Gf (zq P q s)=true:=by kernel_rfl):Go P fn R s w:=by
 obtain⟨o,ho,h⟩:=Qo h
 obtain⟨x,y,z,h1,h2,h3,h4⟩:=Zb7 h
 obtain⟨W,hr,hu,hm⟩:=run_mapPut (P:=P) ht hk hM hn
 exact Zy q s (zgo ho (Vv hz) fun K hK=>op_skip (w':=W) (by simp[execOp,h1,h2,h3,h4,hr,Result.andThen]) (hK _ _ (Vq hz) (g W hu hm)))
theorem xmd(q:Zq){t kt et:TypeId}{r:Nat}{ks:List Int}{k:Int}(ht:P.underlying t=some (.map kt et))(hk:P.underlying kt=some (.int .i64))(hM:Uw w r ks)(hn:k∈ks)(g:∀ W,Upd w r W→Uw W r (ks.erase k)→Go P fn R (znx (zq P q s) (.tuple #[])) W)
 (h:zm (zq P q s)=some (.b2 .delete t kt (.map (some r)) (.int .i64 k)):=by kernel_rfl) (hz:Gf (zq P q s)=true:=by kernel_rfl):Go P fn R s w:=by
 obtain⟨o,ho,h⟩:=Qo h
 obtain⟨x,y,h1,h2,h3⟩:=Zb7 h
 obtain⟨W,hr,hu,hm⟩:=run_mapDel (P:=P) (ty:=o.type) ht hk hM hn
 exact Zy q s (zgo ho (Vv hz) fun K hK=>Gg (v:=.tuple #[]) (w':=W) (by simp[execOp,h1,resolve,invoke,builtin,h2,h3,hr,Result.andThen]) (hK _ _ (Vq hz) (g W hu hm)))
end
end Go.Proofs.YthlakkdgcgkcdaaGreatDoor
namespace Go.Proofs.YthlakkdgcgkcdaaGreatDoor
set_option maxHeartbeats 8000000
set_option maxRecDepth 100000
open Go.RowKit Go.Extern.Stop Go.Stop Go.Extern
set_option linter.unusedVariables false
attribute [local irreducible] wpList wpAnyH Code.wp Oper.wp Go
theorem Nf{w:World}{g o j:Nat}{v:Value}(h:w.cell? (Xh (some ⟨g,o,none⟩) j)=some v):w.cell? ⟨g,o+j,none⟩=some v:=by simpa [Xh,Addr.add_mid] using h
theorem Tz{F:List Int}{m:Nat}(h:m=F.length):(m:Int)∉Ji F:=fun q=>by
 have:=(Ip.1 q).2
 rw[show F.getD ((m:Int)).toNat 0=0 from by simp[List.getD,h]] at this
 omega
theorem Ht{l:List Int}{k:Nat}(h:k<l.length):l.take (k+1)=l.take k++[l.getD k 0]:=by rw[List.take_succ_eq_append_getElem h];simp[List.getD,h]
theorem As{A l:List Int}{k m:Nat}(h:k<l.length)(h3:l.getD k 0=3)(hm:m=A.length+k):Ji (A++l.take k)++[(m:Int)]=Ji (A++l.take (k+1)):=by
 rw[Ht h,←List.append_assoc,Rc,if_pos h3,hm,List.length_append,List.length_take,Nat.min_eq_left (by omega)]
theorem Ik{A l:List Int}{k:Nat}(h:k<l.length)(h3:l.getD k 0≠3):Ji (A++l.take k)=Ji (A++l.take (k+1)):=by
 rw[Ht h,←List.append_assoc,Rc,if_neg h3,List.append_nil]
theorem Zc6{L:List (List Int)}{i k:Nat}(hi:i<L.length)(hk:(L.getD i []).length≤k):Kz L i++(L.getD i []).take k=Kz L (i+1):=by rw[Py hi,List.take_of_length_le hk]
theorem Eh(L:List (List Int)):Kz L L.length=L.flatten:=by unfold Kz;rw[List.take_of_length_le (Nat.le_refl _)]
theorem tally_flat(B2:Nat)(pl:Option Addr)(cl:Nat)(gs:List (Nat×Nat))(L:List (List Int))(w:World)(hL:Lists w B2 (.slice pl L.length cl) gs L)(hF:FormOk L)(hl:L.length≤1200000000) :
 Calls Tryz.prog 95 #[.slice pl L.length cl] w (Vn (fun w' r=>∃ p c rm,r=.tuple #[.slice p L.flatten.length c,.map (some rm),.bool true]∧w'.ownsRow w.heap.size 3 1 (.slice p L.flatten.length c) L.flatten.length (L.flatten.map (Value.int .i64))∧Uw w' rm (Ji L.flatten)∧w.heap.size≤rm) w):=by
 refine zin 67 Tryz.func95 ?_
 refine xmm 14 178 fun r1 W1 m1=>?_
 refine zl 12 67 (fun zm zkv V=>∃ (i m:Nat) (p:Option Addr) (c:Nat),zkv=[(0,.slice pl L.length cl),(5,.slice p m c),(6,.map (some r1)),(13,.slice pl L.length cl),(14,.int .i64 (↑L.length:Int)),(15,.int .i64 (↑i:Int))]∧zm=L.length-((↑i:Int)).toNat∧Below w.heap.size w V∧V.ownsRow w.heap.size 3 1 (.slice p m c) m ((Kz L i).map (Value.int .i64))∧Uw V r1 (Ji (Kz L i))∧i≤L.length∧m=(Kz L i).length) ⟨0,0,none,0,rfl,rfl,m1.below,World.ownsRow_nil _ _ _ _,m1.map,Nat.zero_le _,rfl⟩ ?_
 rintro _ _ W2 ⟨i,m,p,c,rfl,rfl,hB_2,ho,hm,hi,hmm⟩ J2 hJ2 r2
 have hfo:=fun(q:i<L.length)=>hF.len i q
 have hfl:=fun(q:i≤L.length)=>Lp hF i q
 refine xid 6 ((↑i:Int)<(↑L.length:Int)) (fun hc3=>?_) (fun hc3=>?_)
 ·refine xx 7 _ L.length i 1 (Lists.elem hL rfl (k:=i) (by omega)).1 ?_
  refine xl 0 ((Lists.elem (hL.below hB_2) rfl (k:=i) (by omega)).2) ?_
  refine xwm 9 ((↑L.length:Int)-1) (↑(L.length-1):Int) ?_
  refine xgk 11 [27,28] (show(decide ((↑((L.getD i []).length):Int)>(960:Int)):Bool)=false from decide_eq_false (by have:=(hfo (by omega)).2.1;omega)) ?_
  refine xgk 5 [31,32,33] (show(((↑((L.getD i []).length):Int)==(0:Int)):Bool)=false from beq_false_of_ne (by have:=(hfo (by omega)).1;omega)) ?_
  refine xg 3 [35,36] (!((↑i:Int)==(↑(L.length-1):Int))) (fun hc6=>?_) (fun hc6=>?_)
  ·have hlast:i+1<L.length:=by simp at hc6;omega
   refine xk 7 (show(decide ((↑((L.getD i []).length):Int)<(960:Int)):Bool)=false from decide_eq_false (by have:=(hfo (by omega)).2.2 hlast;omega)) ?_
   refine zl 10 67 (fun zm zkv V=>∃ (k m2:Nat) (p2:Option Addr) (c2:Nat),zkv=[(0,.slice pl L.length cl),(5,.slice p2 m2 c2),(6,.map (some r1)),(13,.slice pl L.length cl),(14,.int .i64 (↑L.length:Int)),(15,.int .i64 (↑i:Int)),(42,.slice (some ⟨(gs.getD i (0,0)).1,0,none⟩) ((L.getD i []).length) ((gs.getD i (0,0)).2)),(43,.int .i64 (↑((L.getD i []).length):Int)),(44,.int .i64 (↑k:Int))]∧zm=(L.getD i []).length-((↑k:Int)).toNat∧Below w.heap.size w V∧V.ownsRow w.heap.size 3 1 (.slice p2 m2 c2) m2 ((Kz L i++(L.getD i []).take k).map (Value.int .i64))∧Uw V r1 (Ji (Kz L i++(L.getD i []).take k))∧k≤(L.getD i []).length∧m2=(Kz L i).length+k) ⟨0,m,_,_,rfl,rfl,hB_2,(by rw[List.take_zero,List.append_nil];exact ho),(by rw[List.take_zero,List.append_nil];exact hm),Nat.zero_le _,by omega⟩ ?_
   rintro _ _ W7 ⟨k,m2,p2,c2,rfl,rfl,hB_7,ho_7,hm_7,hk,hm2⟩ J7 hJ7 r7
   have hsm:=fun(q:k<(L.getD i []).length)=>Vj (hF.small i (by omega)) k
   refine xid 6 ((↑k:Int)<(↑((L.getD i []).length):Int)) (fun hc8=>?_) (fun hc8=>?_)
   ·refine xxb 6 (gs.getD i (0,0)).1 0 ((L.getD i []).length) k 1 ?_
    refine xl 0 (Nf (IntsN.elem (Zf (Lists.each (hL.below hB_7) i (by omega))) rfl (k:=k) (by omega)).2) ?_
    refine xgk 9 [49,50] (show(decide (((L.getD i []).getD k 0)<(0:Int)):Bool)=false from decide_eq_false (by have:=(hsm (by omega)).1;omega)) ?_
    refine xk 5 (show(decide (((L.getD i []).getD k 0)>(3:Int)):Bool)=false from decide_eq_false (by have:=(hsm (by omega)).2;omega)) ?_
    refine xie 9 ((L.getD i []).getD k 0) (3:Int) (fun hc10=>?_) (fun hc10=>?_)
    ·refine xmu 4 (k:=(↑m2:Int)) Tryz.underlying178 Tryz.underlying3 hm_7 (Tz (by rw[List.length_append,List.length_take];omega)) fun W11 u11 m11=>?_
     rw[As (A:=Kz L i) (l:=(L.getD i [])) (k:=k) (m:=m2) (by omega) (by omega) (by omega)] at m11
     have g1:=m1.ge (Below.refl w.heap.size _)
     refine xbs 5 1 [.int .i64 ((L.getD i []).getD k 0)] 3 fun b12 W12 n12=>?_
     have hB'1:=u11.below hB_7 g1
     have g12:=n12.ge hB'1
     have ho'1:=Zec ho_7 hm_7 u11
     have r12_ho:=Zu ho'1 n12
     have ho'2:=Zb ho'1 n12.below
     have hB'2:=bln hB'1 n12.below
     refine xbi 0 fun _ _ _ _ zJ zQ zo zx zy zK=>Zp (m:=1) (news:=[.int .i64 ((L.getD i []).getD k 0)]) (.int .i64 0) 1 8 (m2+1) (((Kz L i++(L.getD i []).take (k+1)).map (Value.int .i64))) zo Tryz.underlying30 (by kernel_rfl) rfl (by decide) zx ho'2 zy (n12.blk.sl 1 1 (by decide) (by decide)) rfl (by simp[Value.oneCell']) (by unfold maxLen;omega) (by omega) hB'2.size (by omega) (by rw[Ht (l:=(L.getD i [])) (k:=k) (by omega)];simp) fun px13 cx13 W13 o13 hg13 hb13=>?_
     refine zK _ _ ?_
     refine xwm 5 ((↑k:Int)+1) (↑(k+1):Int) ?_
     have hB'3:=hB'2.trans hb13
     have m11'1:=(m11.below n12.below).grown hg13 ho'2
     exact ze 2 (hJ7 _ _ _ ⟨k+1,_,_,_,rfl,rfl,hB'3,o13,m11'1,by omega,by omega⟩ (by omega))
    refine xbs 5 1 [.int .i64 ((L.getD i []).getD k 0)] 3 fun b14 W14 n14=>?_
    have g14:=n14.ge hB_7
    have r14_ho:=Zu ho_7 n14
    have ho'3:=Zb ho_7 n14.below
    have hB'4:=bln hB_7 n14.below
    refine xbi 0 fun _ _ _ _ zJ zQ zo zx zy zK=>Zp (m:=1) (news:=[.int .i64 ((L.getD i []).getD k 0)]) (.int .i64 0) 1 8 (m2+1) (((Kz L i++(L.getD i []).take (k+1)).map (Value.int .i64))) zo Tryz.underlying30 (by kernel_rfl) rfl (by decide) zx ho'3 zy (n14.blk.sl 1 1 (by decide) (by decide)) rfl (by simp[Value.oneCell']) (by unfold maxLen;omega) (by omega) hB'4.size (by omega) (by rw[Ht (l:=(L.getD i [])) (k:=k) (by omega)];simp) fun px15 cx15 W15 o15 hg15 hb15=>?_
    refine zK _ _ ?_
    refine xwm 5 ((↑k:Int)+1) (↑(k+1):Int) ?_
    have hm'1:=(hm_7.below n14.below).grown hg15 ho'3
    have hB'5:=hB'4.trans hb15
    exact ze 2 (hJ7 _ _ _ ⟨k+1,_,_,_,rfl,rfl,hB'5,o15,(by rw[←Ik (A:=Kz L i) (l:=(L.getD i [])) (k:=k) (by omega) (by omega)];exact hm'1),by omega,by omega⟩ (by omega))
   refine xwm 7 ((↑i:Int)+1) (↑(i+1):Int) ?_
   have hE:=Zc6 (L:=L) (i:=i) (k:=k) (by omega) (by omega)
   exact ze 2 (hJ2 _ _ _ ⟨i+1,_,_,_,rfl,rfl,hB_7,(by rw[←hE];exact ho_7),(by rw[←hE];exact hm_7),by omega,by rw[←hE,List.length_append,List.length_take];omega⟩ (by omega))
  refine zl 18 67 (fun zm zkv V=>∃ (k m2:Nat) (p2:Option Addr) (c2:Nat),zkv=[(0,.slice pl L.length cl),(5,.slice p2 m2 c2),(6,.map (some r1)),(13,.slice pl L.length cl),(14,.int .i64 (↑L.length:Int)),(15,.int .i64 (↑i:Int)),(42,.slice (some ⟨(gs.getD i (0,0)).1,0,none⟩) ((L.getD i []).length) ((gs.getD i (0,0)).2)),(43,.int .i64 (↑((L.getD i []).length):Int)),(44,.int .i64 (↑k:Int))]∧zm=(L.getD i []).length-((↑k:Int)).toNat∧Below w.heap.size w V∧V.ownsRow w.heap.size 3 1 (.slice p2 m2 c2) m2 ((Kz L i++(L.getD i []).take k).map (Value.int .i64))∧Uw V r1 (Ji (Kz L i++(L.getD i []).take k))∧k≤(L.getD i []).length∧m2=(Kz L i).length+k) ⟨0,m,_,_,rfl,rfl,hB_2,(by rw[List.take_zero,List.append_nil];exact ho),(by rw[List.take_zero,List.append_nil];exact hm),Nat.zero_le _,by omega⟩ ?_
  rintro _ _ W16 ⟨k,m2,p2,c2,rfl,rfl,hB_16,ho_16,hm_16,hk,hm2⟩ J16 hJ16 r16
  have hsm:=fun(q:k<(L.getD i []).length)=>Vj (hF.small i (by omega)) k
  refine xid 6 ((↑k:Int)<(↑((L.getD i []).length):Int)) (fun hc17=>?_) (fun hc17=>?_)
  ·refine xxb 6 (gs.getD i (0,0)).1 0 ((L.getD i []).length) k 1 ?_
   refine xl 0 (Nf (IntsN.elem (Zf (Lists.each (hL.below hB_16) i (by omega))) rfl (k:=k) (by omega)).2) ?_
   refine xgk 9 [49,50] (show(decide (((L.getD i []).getD k 0)<(0:Int)):Bool)=false from decide_eq_false (by have:=(hsm (by omega)).1;omega)) ?_
   refine xk 5 (show(decide (((L.getD i []).getD k 0)>(3:Int)):Bool)=false from decide_eq_false (by have:=(hsm (by omega)).2;omega)) ?_
   refine xie 9 ((L.getD i []).getD k 0) (3:Int) (fun hc19=>?_) (fun hc19=>?_)
   ·refine xmu 4 (k:=(↑m2:Int)) Tryz.underlying178 Tryz.underlying3 hm_16 (Tz (by rw[List.length_append,List.length_take];omega)) fun W20 u20 m20=>?_
    rw[As (A:=Kz L i) (l:=(L.getD i [])) (k:=k) (m:=m2) (by omega) (by omega) (by omega)] at m20
    have g1:=m1.ge (Below.refl w.heap.size _)
    refine xbs 5 1 [.int .i64 ((L.getD i []).getD k 0)] 3 fun b21 W21 n21=>?_
    have hB'6:=u20.below hB_16 g1
    have g21:=n21.ge hB'6
    have ho'4:=Zec ho_16 hm_16 u20
    have r21_ho:=Zu ho'4 n21
    have ho'5:=Zb ho'4 n21.below
    have hB'7:=bln hB'6 n21.below
    refine xbi 0 fun _ _ _ _ zJ zQ zo zx zy zK=>Zp (m:=1) (news:=[.int .i64 ((L.getD i []).getD k 0)]) (.int .i64 0) 1 8 (m2+1) (((Kz L i++(L.getD i []).take (k+1)).map (Value.int .i64))) zo Tryz.underlying30 (by kernel_rfl) rfl (by decide) zx ho'5 zy (n21.blk.sl 1 1 (by decide) (by decide)) rfl (by simp[Value.oneCell']) (by unfold maxLen;omega) (by omega) hB'7.size (by omega) (by rw[Ht (l:=(L.getD i [])) (k:=k) (by omega)];simp) fun px22 cx22 W22 o22 hg22 hb22=>?_
    refine zK _ _ ?_
    refine xwm 5 ((↑k:Int)+1) (↑(k+1):Int) ?_
    have hB'8:=hB'7.trans hb22
    have m20'1:=(m20.below n21.below).grown hg22 ho'5
    exact ze 2 (hJ16 _ _ _ ⟨k+1,_,_,_,rfl,rfl,hB'8,o22,m20'1,by omega,by omega⟩ (by omega))
   refine xbs 5 1 [.int .i64 ((L.getD i []).getD k 0)] 3 fun b23 W23 n23=>?_
   have g23:=n23.ge hB_16
   have r23_ho:=Zu ho_16 n23
   have ho'6:=Zb ho_16 n23.below
   have hB'9:=bln hB_16 n23.below
   refine xbi 0 fun _ _ _ _ zJ zQ zo zx zy zK=>Zp (m:=1) (news:=[.int .i64 ((L.getD i []).getD k 0)]) (.int .i64 0) 1 8 (m2+1) (((Kz L i++(L.getD i []).take (k+1)).map (Value.int .i64))) zo Tryz.underlying30 (by kernel_rfl) rfl (by decide) zx ho'6 zy (n23.blk.sl 1 1 (by decide) (by decide)) rfl (by simp[Value.oneCell']) (by unfold maxLen;omega) (by omega) hB'9.size (by omega) (by rw[Ht (l:=(L.getD i [])) (k:=k) (by omega)];simp) fun px24 cx24 W24 o24 hg24 hb24=>?_
   refine zK _ _ ?_
   refine xwm 5 ((↑k:Int)+1) (↑(k+1):Int) ?_
   have hm'2:=(hm_16.below n23.below).grown hg24 ho'6
   have hB'10:=hB'9.trans hb24
   exact ze 2 (hJ16 _ _ _ ⟨k+1,_,_,_,rfl,rfl,hB'10,o24,(by rw[←Ik (A:=Kz L i) (l:=(L.getD i [])) (k:=k) (by omega) (by omega)];exact hm'2),by omega,by omega⟩ (by omega))
  refine xwm 7 ((↑i:Int)+1) (↑(i+1):Int) ?_
  have hE:=Zc6 (L:=L) (i:=i) (k:=k) (by omega) (by omega)
  exact ze 2 (hJ2 _ _ _ ⟨i+1,_,_,_,rfl,rfl,hB_16,(by rw[←hE];exact ho_16),(by rw[←hE];exact hm_16),by omega,by rw[←hE,List.length_append,List.length_take];omega⟩ (by omega))
 have g1:=m1.ge (Below.refl w.heap.size _)
 refine xe 15 (.tuple #[.slice p m c,.map (some r1),.bool true]) ?_
 obtain rfl:i=L.length:=by omega
 rw[Eh] at ho hm hmm
 subst hmm
 exact⟨_,rfl,hB_2,_,_,_,rfl,ho,hm,g1⟩
theorem Ec(E:List Ent)(i:Nat)(w:World)(hs:(E.getD i Xp).2.1.length≤1000):Calls Tryz.prog 96 #[.string ⟨(E.getD i Xp).2.1.toArray⟩] w (Ret (.tuple #[.int .i64 (jVal E i),.int .i64 (Xq Gz (E.getD i Xp).2.1)]) w):=Rd _ w hs
theorem outL_setK{F:List Int}{E:List Ent}{i kk:Nat}(h:jOk F E (i+1))(hk:Qh E i=(kk:Int)):((Bd F E i).map (Value.int .i64)).set kk (.int .i64 (jVal E i))=(Bd F E (i+1)).map (Value.int .i64):=by
 have e:=outL_set h
 rwa [hk,Int.toNat_natCast] at e
theorem openL_delK{F:List Int}{E:List Ent}{i kk:Nat}(hk:Qh E i=(kk:Int)):(Gr F E i).erase ((kk:Nat):Int)=Gr F E (i+1):=by rw[←hk];exact openL_del F E i
theorem jLast_next(E:List Ent)(i:Nat):Kq E (i+1)=Qh E i:=by unfold Kq;rw[if_neg (by omega),Nat.add_sub_cancel]
def JoinP(F:List Int)(E:List Ent)(w:World)(e:Ending)(w':World):Prop :=
 ∃ p c,e=.returned (.tuple #[.slice p (Ka F E).2.length c,.int .i64 (Ka F E).1])∧Below w.heap.size w w'∧w'.ownsRow w.heap.size 3 1 (.slice p (Ka F E).2.length c) (Ka F E).2.length ((Ka F E).2.map (Value.int .i64))
theorem Qw{F:List Int}{E:List Ent}{w W:World}{z:Int}(h:Ka F E=(z,[]))(hb:Below w.heap.size w W):JoinP F E w (.returned (.tuple #[.slice none 0 0,.int .i64 z])) W:=⟨none,0,by rw[h];rfl,hb,by rw[h];exact World.ownsRow_nil _ _ _ _⟩
theorem Zf0{F:List Int}{E:List Ent}{i:Nat}(h:Qh E i≤Kq E i):Zdd F E i=8:=if_pos h
theorem Sh{F:List Int}{E:List Ent}{i:Nat}(h:Kq E i<Qh E i)(h3:F.getD (Qh E i).toNat 0≠3):Zdd F E i=13:=by unfold Zdd;rw[if_neg (by omega),if_pos h3]
theorem jBad_r{F:List Int}{E:List Ent}{i:Nat}(h:Kq E i<Qh E i)(h3:F.getD (Qh E i).toNat 0=3):Zdd F E i=Xq Gz (E.getD i Xp).2.1:=by unfold Zdd;rw[if_neg (by omega),if_neg (fun q=>q h3)]
theorem tally_Join(B2:Nat)(pl:Option Addr)(cl:Nat)(gs:List (Nat×Nat))(L:List (List Int))(a:Option Addr)(ce:Nat)(E:List Ent)(w:World)(hL:Lists w B2 (.slice pl L.length cl) gs L)(hF:FormOk L)(hl:L.length≤1200000000)(hE:Sts Ko w (.slice a E.length ce) E)(hv:∀ i,i<E.length→(E.getD i Xp).2.1.length≤1000) :
 Calls Tryz.prog 61 #[.slice pl L.length cl,.slice a E.length ce] w (JoinP L.flatten E w):=by
 have hEl:=Sl.len hE
 refine zin 61 Tryz.func61 ?_
 refine xc 9 (args:=#[.slice pl L.length cl]) (tally_flat B2 pl cl gs L _ (hL.below (Below.refl w.heap.size _)) hF hl) ?_
 rintro _ W1 ⟨_,rfl,hb1,p,c,rm,rfl,ho0,hm0,hfr⟩
 have hs1:=Nat.le_refl w.heap.size
 have hg0:=hfr
 refine xv1 33 9 (show(.int .i64 (-1):Value)=.int .i64 (Kq E 0) from rfl) ?_
 have ho0'1:=Zd ho0 hs1
 refine zl 0 61 (fun zm zkv V=>∃ (i:Nat),zkv=[(6,.slice p L.flatten.length c),(7,.map (some rm)),(9,.int .i64 (Kq E i)),(22,.slice a E.length ce),(23,.int .i64 (↑E.length:Int)),(24,.int .i64 (↑i:Int))]∧zm=E.length-((↑i:Int)).toNat∧Below w.heap.size w V∧V.ownsRow w.heap.size 3 1 (.slice p L.flatten.length c) L.flatten.length ((Bd L.flatten E i).map (Value.int .i64))∧Uw V rm (Gr L.flatten E i)∧i≤E.length∧jOk L.flatten E i) ⟨0,rfl,rfl,hb1,(by rw[outL_zero];exact ho0'1),(by rw[openL_zero];exact hm0),Nat.zero_le _,(fun j hj=>absurd hj (by omega))⟩ ?_
 rintro _ _ W2 ⟨i,rfl,rfl,hB_2,ho,hm,hi,hok⟩ J2 hJ2 r2
 have hjl:=Na hok
 refine xid 6 ((↑i:Int)<(↑E.length:Int)) (fun hc3=>?_) (fun hc3=>?_)
 ·refine xx 6 _ E.length i 3 (Sts.cell hE Yb Xp (k:=i) (i:=0) (by omega) rfl).1 ?_
  refine xlv 0 (Sts.rp (k:=i) (hE.below hB_2) Yb Xp (by omega) (by decide)) ?_
  refine xa 0 [.int .i64 0,.string ⟨#[]⟩,.int .i64 0] 77 fun b4 W4 n4=>?_
  have g4:=n4.ge hB_2
  refine xsv 0 n4.blk [.int .i64 (Qh E i),.string ⟨((E.getD i Xp).2.1).toArray⟩,.int .i64 ((E.getD i Xp).2.2)] fun W5 u5 k5=>?_
  refine xb 6 0 k5 ?_
  refine xid 4 ((Qh E i)≤(Kq E i)) (fun hc6=>?_) (fun hc6=>?_)
  ·have hB'1:=u5.below (bln hB_2 n4.below) g4
   exact xe 13 (.tuple #[.slice none 0 0,.int .i64 8]) (Qw ((Kd (by omega) hok (by rw[Zf0 (by omega)];decide)).trans (by rw[Zf0 (by omega)])) hB'1)
  have hlt:Kq E i<Qh E i:=by omega
  refine xb 7 0 k5 ?_
  have hm'1:=(hm.below n4.below).updBlk u5 n4.blk
  refine xlk 0 (k:=(Qh E i)) Tryz.underlying178 Tryz.underlying3 (fun V=>by kernel_rfl) hm'1 ?_
  refine xi 3 (!(decide ((Qh E i)∈(Gr L.flatten E i)))) (fun hc7=>?_) (fun hc7=>?_)
  ·have hno:¬ (Qh E i∈Gr L.flatten E i):=by simpa using hc7
   have hB'2:=u5.below (bln hB_2 n4.below) g4
   refine xe 13 (.tuple #[.slice none 0 0,.int .i64 13]) ?_
   have h13:=Sh (F:=L.flatten) hlt (fun q=>hno ((Zfi hok hlt).2 q))
   exact Qw ((Kd (by omega) hok (by rw[h13];decide)).trans (by rw[h13])) hB'2
  have hin:Qh E i∈Gr L.flatten E i:=by simpa using hc7
  have h3:=(Zfi hok hlt).1 hin
  have hjr:=jBad_r (F:=L.flatten) hlt h3
  refine xb 5 1 k5 ?_
  refine xr 0 (args:=#[.string ⟨((E.getD i Xp).2.1).toArray⟩]) (Ec E i _ (hv i (by omega))) fun W8 hb8=>?_
  refine xin 14 (Xq Gz (E.getD i Xp).2.1) (0:Int) (fun hc9=>?_) (fun hc9=>?_)
  ·have hB'3:=bln (u5.below (bln hB_2 n4.below) g4) hb8
   exact xe 14 (.tuple #[.slice none 0 0,.int .i64 (Xq Gz (E.getD i Xp).2.1)]) (Qw ((Kd (by omega) hok (by rw[hjr];omega)).trans (by rw[hjr])) hB'3)
  have hok2:jOk L.flatten E (i+1):=Zax hok (by rw[hjr];omega)
  obtain⟨kk,hkk⟩:∃ kk:Nat,Qh E i=(kk:Int):=⟨(Qh E i).toNat,by have:=hjl.1;omega⟩
  have hkl:=Zae h3
  rw[hkk,Int.toNat_natCast] at hkl
  have ho'1:=Zb (u5.own2 (Zb ho n4.below) n4.blk (by decide)) hb8
  obtain⟨gq,rfl,_⟩:=Hf ho'1 (by omega)
  have k5'1:=k5.below hb8
  have kq:Blk W8 b4 [.int .i64 (↑kk:Int),.string ⟨((E.getD i Xp).2.1).toArray⟩,.int .i64 ((E.getD i Xp).2.2)] 77:=by rw[←hkk];exact k5'1
  refine xb 6 0 kq ?_
  refine xx 1 _ L.flatten.length kk 1 (Hp ho'1 (by omega)).1 ?_
  refine xst 0 fun _ _ _ _ zJ zQ zo zx zy zK=>Wn (t:=3) (k:=kk) (v:=.int .i64 (jVal E i)) zo zx zy (by kernel_rfl) rfl ho'1 (by omega) fun W10 u10 o10=>?_
  rw[outL_setK (F:=L.flatten) hok2 hkk] at o10
  refine zK _ _ ?_
  have kq'1:=u10.blk kq (Aq kq ho'1 (by decide))
  refine xb 6 0 kq'1 ?_
  have hm'2:=(hm'1.below hb8).updRow u10 ho'1
  refine xmd 0 (k:=(↑kk:Int)) Tryz.underlying178 Tryz.underlying3 hm'2 (hkk▸hin) fun W11 u11 m11=>?_
  rw[openL_delK (F:=L.flatten) hkk] at m11
  have kq'2:=blk_map kq'1 hm'2 u11
  refine xb 4 0 kq'2 ?_
  refine xwm 5 ((↑i:Int)+1) (↑(i+1):Int) ?_
  refine xv1 2 9 (show(.int .i64 (↑kk:Int):Value)=.int .i64 (Kq E (i+1)) from by rw[jLast_next,hkk]) ?_
  have hB'4:=u11.below (u10.below (bln (u5.below (bln hB_2 n4.below) g4) hb8) (Zb1 ho'1)) hfr
  have o10'1:=Zec o10 hm'2 u11
  exact ze 0 (hJ2 _ _ _ ⟨i+1,rfl,rfl,hB'4,o10'1,m11,by omega,hok2⟩ (by omega))
 refine xml 9 Tryz.underlying178 hm ?_
 refine xid 3 ((↑(Gr L.flatten E i).length:Int)>(0:Int)) (fun hc12=>?_) (fun hc12=>?_)
 ·refine xe 8 (.tuple #[.slice none 0 0,.int .i64 13]) ?_
  obtain rfl:i=E.length:=by omega
  exact Qw ((Pk hok).trans (if_neg (fun q=>by have h0:=congrArg List.length q;rw[List.length_nil] at h0;omega))) hB_2
 refine xe 10 (.tuple #[.slice p L.flatten.length c,.int .i64 0]) ?_
 obtain rfl:i=E.length:=by omega
 have hnil:Gr L.flatten E E.length=[]:=List.eq_nil_of_length_eq_zero (by omega)
 have hj:=(Pk hok).trans (if_pos hnil)
 exact⟨p,c,by rw[hj,Yk],hB_2,by rw[hj,Yk];exact ho⟩
def OutP(O:List Int×Int×List Int)(w:World)(e:Ending)(w':World):Prop :=
 (O.2.1≠0∧∃ ty x,e=.returned (.tuple #[.slice none 0 0,.iface ty x])∧Below w.heap.size w w'∧Ja w' (O.1.map some) (some O.2.1) (.iface ty x)) ∨
 (O.2.1=0∧∃ p c,e=.returned (.tuple #[.slice p O.2.2.length c,.nilIface])∧Below w.heap.size w w'∧w'.ownsRow w.heap.size 3 1 (.slice p O.2.2.length c) O.2.2.length (O.2.2.map (Value.int .i64)))
theorem Jo{O:List Int×Int×List Int}{bl:List Int}{er:Int}{w W:World}{ty:TypeId}{x:Value}(h:O=(bl,er,[]))(her:er≠0)(hb:Below w.heap.size w W)(hv:Ja W (bl.map some) (some er) (.iface ty x)):OutP O w (.returned (.tuple #[.slice none 0 0,.iface ty x])) W:=by
 subst h;exact .inl ⟨her,ty,x,rfl,hb,hv⟩
theorem out_ok{O:List Int×Int×List Int}{L:List Int}{n:Nat}{w W:World}{p:Option Addr}{c:Nat}(h:O=([],0,L))(hn:L.length=n)(hb:Below w.heap.size w W)(ho:W.ownsRow w.heap.size 3 1 (.slice p n c) n (L.map (Value.int .i64))):OutP O w (.returned (.tuple #[.slice p n c,.nilIface])) W:=by
 subst h hn;exact .inr ⟨rfl,p,c,rfl,hb,ho⟩
theorem Kv(no er:Int)(bl:List Int)(v:Value)(w:World)(hv:Ja w (bl.map some) (some er) v) :
 Calls Tryz.prog 31 #[.int .i64 no,v] w (fun e w'=>∃ ty x,e=.returned (.iface ty x)∧Below w.heap.size w w'∧Ja w' ((no::bl).map some) (some er) (.iface ty x)):=by
 refine(Qv no (some er) (bl.map some) v w hv).mono ?_
 rintro e W ⟨r,rfl,hb,hr⟩
 rw[show atL no (bl.map some) (some er)=(no::bl).map some from by unfold atL Nw;simp] at hr
 have hr2:Ja W (some no::bl.map some) (some er) r:=hr
 obtain⟨blk,v',rfl,h1,h2⟩:=hr2
 exact⟨_,_,rfl,hb,blk,v',rfl,h1,h2⟩
theorem bitR_le(l:List UInt8)(no:Int):(Vg l no).length≤960:=by
 by_cases h:Xg l no=0
 ·rw[(Fh h).2]
  unfold Xg at h
  by_cases h1:inE l 3 no=0
  ·rw[if_pos h1] at h
   by_cases h2:Ue (inB l no)=true
   ·exact((Js _).1 h2).2.1
   ·rw[if_neg h2] at h;omega
  ·rw[if_neg h1] at h;exact absurd h h1
 ·rw[Ev h];exact Nat.zero_le _
theorem Zd8(B b:Nat)(p:Option Addr)(n c:Nat)(l:List UInt8)(no:Int)(w:World)(hI:ImgR B b p n c l w) :
 Calls Tryz.prog 94 #[.pointer (some ⟨b,0,none⟩),.int .i64 no] w (fun e w' =>
 (Xg l no≠0∧∃ ty x,e=.returned (.tuple #[.slice none 0 0,.iface ty x])∧Below w.heap.size w w'∧Ja w' (([no]:List Int).map some) (some (Xg l no)) (.iface ty x)) ∨
 (Xg l no=0∧∃ p c,e=.returned (.tuple #[.slice p (Vg l no).length c,.nilIface])∧Below w.heap.size w w'∧w'.ownsRow w.heap.size 3 1 (.slice p (Vg l no).length c) (Vg l no).length ((Vg l no).map (Value.int .i64)))):=by
 refine(Zhi B b p n c l no w hI).mono ?_
 rintro e W q
 rcases q with ⟨h,b,rfl,hb,hv⟩|⟨h,p,c,rfl,hb,ho⟩
 ·exact .inl ⟨h,_,_,rfl,hb,hv⟩
 ·refine .inr ⟨h,p,c,by rw[(Fh h).2],hb,?_⟩
  rw[(Fh h).2,(Fh h).1,bitI_map];exact ho
theorem Ol(Bi b:Nat)(pi:Option Addr)(ni ci:Nat)(l:List UInt8)(x:Plc)(want:Int)(w:World)(hI:ImgR Bi b pi ni ci l w) :
 Calls Tryz.prog 60 #[.agg #[.int .i64 (↑x.1.1:Int),.int .i64 (↑x.1.2.1:Int),.int .i64 (↑x.1.2.2:Int),.int .i64 x.2.1,.int .i64 x.2.2],.pointer (some ⟨b,0,none⟩),.int .i64 want] w (OutP (Zac l x want) w):=by
 refine zin 65 Tryz.func60 ?_
 refine xa 2 [.int .i64 (↑x.1.1:Int),.int .i64 (↑x.1.2.1:Int),.int .i64 (↑x.1.2.2:Int),.int .i64 x.2.1,.int .i64 x.2.2] 83 fun b1 W1 n1=>?_
 refine xb 8 4 n1.blk ?_
 refine xin 3 x.2.2 (0:Int) (fun hc2=>?_) (fun hc2=>?_)
 ·refine xb 3 3 n1.blk ?_
  refine xb 1 4 n1.blk ?_
  refine xc 1 (args:=#[.int .i64 x.2.1,.iface 51 (.int .i64 x.2.2)]) (Kv x.2.1 x.2.2 [] _ _ rfl) ?_
  rintro _ W3 ⟨ty3,v3,rfl,hb3,hva⟩
  have hB:=bln n1.below hb3
  exact xe 6 (.tuple #[.slice none 0 0,.iface ty3 (v3)]) (Jo (by unfold Zac;rw[if_pos (by assumption)]) (by assumption) hB hva)
 refine xb 7 0 n1.blk ?_
 refine xc 0 (args:=#[.pointer (some ⟨b,0,none⟩),.int .i64 (↑x.1.1:Int)]) (Zd8 Bi b pi ni ci l (↑x.1.1:Int) _ (hI.below n1.below)) ?_
 rintro e W4 hq4
 rcases hq4 with ⟨hbe,tyb,vb,rfl,hb4,hv9⟩|⟨hbe,p9,c9,rfl,hb4,ho9⟩
 ·have k1'1:=n1.blk.below hb4
  refine xb 18 3 k1'1 ?_
  refine xc 1 (args:=#[.int .i64 x.2.1,.iface tyb (vb)]) (Kv x.2.1 (Xg l (↑x.1.1:Int)) [(↑x.1.1:Int)] _ _ hv9) ?_
  rintro _ W5 ⟨ty5,v5,rfl,hb5,hva⟩
  have hB'1:=bln (bln n1.below hb4) hb5
  exact xe 6 (.tuple #[.slice none 0 0,.iface ty5 (v5)]) (Jo (by unfold Zac;rw[if_neg (by omega),if_pos hbe]) hbe hB'1 hva)
 refine xin 26 (↑((Vg l (↑x.1.1:Int)).length):Int) want (fun hc6=>?_) (fun hc6=>?_)
 ·have k1'2:=n1.blk.below hb4
  refine xb 3 3 k1'2 ?_
  refine xc 1 (args:=#[.int .i64 x.2.1,.iface 51 (.int .i64 7)]) (Kv x.2.1 7 [] _ _ rfl) ?_
  rintro _ W7 ⟨ty7,v7,rfl,hb7,hva⟩
  have hB'2:=bln (bln n1.below hb4) hb7
  exact xe 6 (.tuple #[.slice none 0 0,.iface ty7 (v7)]) (Jo (by unfold Zac;rw[if_neg (by omega),if_neg (by omega),if_pos (by assumption)]) (by decide) hB'2 hva)
 have ho9'1:=Zd ho9 n1.below.size
 refine xr 6 (args:=#[.slice p9 ((Vg l (↑x.1.1:Int)).length) c9]) (Za8 p9 c9 (Vg l (↑x.1.1:Int)) _ (bitR_le _ _) (Zf ho9'1)) fun W8 hb8=>?_
 have k1'3:=(n1.blk.below hb4).below hb8
 refine xb 12 1 k1'3 ?_
 refine xg 2 [52,53] ((↑(Yn (Vg l (↑x.1.1:Int))):Int) != (↑x.1.2.1:Int)) (fun hc9=>?_) (fun hc9=>?_)
 ·have hc9:=Qx hc9
  refine xb 12 3 k1'3 ?_
  refine xc 1 (args:=#[.int .i64 x.2.1,.iface 51 (.int .i64 13)]) (Kv x.2.1 13 [] _ _ rfl) ?_
  rintro _ W10 ⟨ty10,v10,rfl,hb10,hva⟩
  have hB'3:=bln (bln (bln n1.below hb4) hb8) hb10
  exact xe 6 (.tuple #[.slice none 0 0,.iface ty10 (v10)]) (Jo (by unfold Zac;rw[if_neg (by omega),if_neg (by omega),if_neg (by omega),if_neg (by omega)]) (by decide) hB'3 hva)
 have hc9:=Xk hc9
 refine xb 3 2 k1'3 ?_
 refine xin 4 (↑(Xm (Vg l (↑x.1.1:Int))):Int) (↑x.1.2.2:Int) (fun hc11=>?_) (fun hc11=>?_)
 ·refine xb 3 3 k1'3 ?_
  refine xc 1 (args:=#[.int .i64 x.2.1,.iface 51 (.int .i64 13)]) (Kv x.2.1 13 [] _ _ rfl) ?_
  rintro _ W12 ⟨ty12,v12,rfl,hb12,hva⟩
  have hB'4:=bln (bln (bln n1.below hb4) hb8) hb12
  exact xe 6 (.tuple #[.slice none 0 0,.iface ty12 (v12)]) (Jo (by unfold Zac;rw[if_neg (by omega),if_neg (by omega),if_neg (by omega),if_neg (by omega)]) (by decide) hB'4 hva)
 have hB'5:=bln (bln n1.below hb4) hb8
 have ho9'2:=Zb ho9'1 hb8
 exact xe 10 (.tuple #[.slice p9 ((Vg l (↑x.1.1:Int)).length) c9,.nilIface]) (out_ok (by unfold Zac;rw[if_neg (by omega),if_neg (by omega),if_neg (by omega),if_pos (by omega)]) rfl hB'5 ho9'2)
theorem Bu(l:List UInt8)(root tree fuel:Int):∀ i,i<(Zj l root tree fuel).es.length→((Zj l root tree fuel).es.getD i Xp).2.1.length≤1000:=fun i hi=>by
 have hx:(Zj l root tree fuel).es.getD i Xp∈(Zj l root tree fuel).es:=by rw[show(Zj l root tree fuel).es.getD i Xp=(Zj l root tree fuel).es[i] from by simp[List.getD,hi]];exact List.getElem_mem hi
 obtain⟨_,_,k,_,_,h,_⟩:=(scan_law l root tree fuel).2.2.1 _ hx
 rw[←h]
 exact Hx _ _ _
theorem scan_pos(l:List UInt8)(root tree fuel:Int):∀ i,i<(Zj l root tree fuel).es.length→0≤Qh (Zj l root tree fuel).es i:=fun i hi=>by
 obtain⟨es,fs,h⟩:=Un l root tree fuel
 have h1:(Zj l root tree fuel).es=es:=by rw[h.esE];rfl
 rw[h1] at hi ⊢
 unfold Qh
 rw[show es.getD i Xp=es[i] from by simp[List.getD,hi]]
 exact(h.rise.2 _ (List.getElem_mem hi)).1
def Tr(n:Int)(i:Nat):Int:=if 0<i∧n-960*i<0 then 0 else n-960*i
theorem remI_zero(n:Int):Tr n 0=n:=by unfold Tr;rw[if_neg (by omega)];omega
theorem rem_in{n:Int}{i m:Nat}(hX:m=bmI n)(hi:i<m):Tr n i=n-960*i∧1≤n-960*i∧(if 960<Tr n i then 960 else Tr n i)=Vk n i∧1≤Vk n i∧Vk n i≤960∧Tr n i-Vk n i=Tr n (i+1):=by
 unfold bmI bmN at hX
 have h1:1≤n-960*i:=by omega
 have h2:Tr n i=n-960*i:=by unfold Tr;rw[if_neg (by omega)]
 have h3:(if 960<Tr n i then 960 else Tr n i)=Vk n i:=by
  unfold Vk;rw[h2];split<;>split<;>omega
 have h4:1≤Vk n i∧Vk n i≤960:=by unfold Vk;split<;>omega
 refine⟨h2,h1,h3,h4.1,h4.2,?_⟩
 rw[h2]
 unfold Vk Tr
 split<;>split<;>omega
theorem Zbv{n:Int}(h:n≤1099511627776):bmI n≤1200000000:=by unfold bmI bmN;omega
theorem joinO_nil{F:List Int}{E:List Ent}(h:(Ka F E).1≠0):(Ka F E).2=[]:=by
 unfold Ka at h ⊢
 split
 ·rfl
 ·rename_i hq
  rw[hq] at h
  dsimp only at h
  split
  ·rename_i h2;rw[if_pos h2] at h;exact absurd rfl h
  ·rfl
theorem Rl(Bi b:Nat)(pi:Option Addr)(ni ci:Nat)(l:List UInt8)(root tree fuel:Int)(w:World)(hfu:fuel≤1000)(hI:ImgR Bi b pi ni ci l w) :
 Calls Tryz.prog 29 #[.pointer (some ⟨b,0,none⟩),.int .i64 root,.int .i64 tree,.int .i64 fuel] w (fun e w' =>
 ((Zj l root tree fuel).fs≠[]∧∃ pe ce pb cb pf cf ty x,e=.returned (.tuple #[.agg #[.slice pe 0 ce,.slice pb 0 cb,.int .i64 0,.int .i64 0,.slice pf 0 cf],.iface ty x])∧Below w.heap.size w w'∧Ja w' ((Ym (Zj l root tree fuel)).1.map some) (some (Ym (Zj l root tree fuel)).2) (.iface ty x)) ∨
 ((Zj l root tree fuel).fs=[]∧∃ pe ce pb nb cb dp lk pf cf,e=.returned (.tuple #[.agg #[.slice pe (Zj l root tree fuel).es.length ce,.slice pb nb cb,.int .i64 dp,.int .i64 lk,.slice pf 0 cf],.nilIface])∧Below w.heap.size w w'∧w'.ownsRow w.heap.size 77 3 (.slice pe (Zj l root tree fuel).es.length ce) (Zj l root tree fuel).es.length ((Zj l root tree fuel).es.flatMap Ko))):=by
 refine(Zfb Bi b pi ni ci l root tree fuel w hfu hI).mono ?_
 rintro e W ⟨t,pe,pb,pf,ce,cb,cf,fv,v,ht,rfl,hb,hW,hv⟩
 by_cases h:(Zj l root tree fuel).fs=[]
 ·obtain⟨h1,_,h3,h4⟩:=Ub h
  rw[h1] at ht
  rw[h3,h4] at hv
  subst ht
  have hv2:v=.nilIface:=hv
  subst hv2
  refine .inr ⟨h,pe,ce,pb,(Zj l root tree fuel).bs.length,cb,(Zj l root tree fuel).deep,((Zj l root tree fuel).looked:Int),pf,cf,?_,hb,hW.ents⟩
  unfold walkC
  rw[h];rfl
 ·obtain⟨h1,h2,h3,h4⟩:=Qy h
  rw[h1] at ht
  rw[h3,h4,←h2] at hv
  subst ht
  rcases hv.nil_or with ⟨hz,_⟩|⟨_,ty,x,rfl⟩
  ·simp[Nw] at hz
  ·exact .inl ⟨h,pe,ce,pb,cb,pf,cf,ty,x,rfl,hb,hv⟩
theorem To(Bi b:Nat)(pi:Option Addr)(ni ci:Nat)(l:List UInt8)(X:List Plc)(n:Int)(i:Nat)(w:World)(hI:ImgR Bi b pi ni ci l w)(hw:1≤Vk n i) :
 Calls Tryz.prog 60 #[.agg #[.int .i64 ((X.getD i Ju).1.1:Int),.int .i64 ((X.getD i Ju).1.2.1:Int),.int .i64 ((X.getD i Ju).1.2.2:Int),.int .i64 (X.getD i Ju).2.1,.int .i64 (X.getD i Ju).2.2],.pointer (some ⟨b,0,none⟩),.int .i64 (Vk n i)] w (fun e w' =>
 ((Hu l X n i).2.1≠0∧∃ ty x,e=.returned (.tuple #[.slice none 0 0,.iface ty x])∧Below w.heap.size w w'∧Ja w' ((Hu l X n i).1.map some) (some (Hu l X n i).2.1) (.iface ty x)) ∨
 ((Hu l X n i).2.1=0∧∃ g c,e=.returned (.tuple #[.slice (some ⟨g,0,none⟩) (Vg l ((X.getD i Ju).1.1:Int)).length c,.nilIface])∧Below w.heap.size w w'∧w'.ownsRow w.heap.size 3 1 (.slice (some ⟨g,0,none⟩) (Vg l ((X.getD i Ju).1.1:Int)).length c) (Vg l ((X.getD i Ju).1.1:Int)).length ((Vg l ((X.getD i Ju).1.1:Int)).map (Value.int .i64)))):=by
 refine(Ol Bi b pi ni ci l (X.getD i Ju) (Vk n i) w hI).mono ?_
 rintro e W q
 rcases q with ⟨h,ty,x,rfl,hb,hv⟩|⟨h,p,c,rfl,hb,ho⟩
 ·exact .inl ⟨h,ty,x,rfl,hb,hv⟩
 ·obtain⟨h1,h2⟩:=Zdw h
  rw[h1] at ho ⊢
  obtain⟨g,rfl,_⟩:=Hf ho (by show 0<(Vg l ((X.getD i Ju).1.1:Int)).length;omega)
  exact .inr ⟨h,g,c,rfl,hb,ho⟩
theorem Ln{gs:List (Nat×Nat)}{l:List UInt8}{X:List Plc}{n:Int}{i g c:Nat}(hg:gs.length=i) :
 (List.range i).map (Bt gs (Gs l X n i))++[.slice (some ⟨g,0,none⟩) (Vg l ((X.getD i Ju).1.1:Int)).length c]=(List.range (i+1)).map (Bt (gs++[(g,c)]) (Gs l X n (i+1))):=by
 have hl:gs.length=(Gs l X n i).length:=by rw[Qa];exact hg
 rw[List.range_succ,List.map_append,List.map_singleton,Zc0]
 congr 1
 ·exact List.map_congr_left fun k hk=>(Ek hl (by rw[Qa];exact List.mem_range.1 hk)).symm
 ·have:=Ep (c:=c) (g:=g) (ch:=Vg l ((X.getD i Ju).1.1:Int)) hl
  rw[Qa] at this
  rw[this]
theorem Mx{W:World}{base g c i:Nat}{gs:List (Nat×Nat)}{l:List UInt8}{X:List Plc}{n:Int}(h:Each W base gs (Gs l X n i))(hg:gs.length=i)(ho:W.ownsRow base 3 1 (.slice (some ⟨g,0,none⟩) (Vg l ((X.getD i Ju).1.1:Int)).length c) (Vg l ((X.getD i Ju).1.1:Int)).length ((Vg l ((X.getD i Ju).1.1:Int)).map (Value.int .i64))):Each W base (gs++[(g,c)]) (Gs l X n (i+1)):=by
 have hl:gs.length=(Gs l X n i).length:=by rw[Qa];exact hg
 intro k hk
 rw[Qa] at hk
 rw[Zc0]
 by_cases e:k<i
 ·have hk2:k<(Gs l X n i).length:=by rw[Qa];exact e
  rw[Ek hl hk2,show(Gs l X n i++[Vg l ((X.getD i Ju).1.1:Int)]).getD k []=(Gs l X n i).getD k [] from by simp[List.getD,List.getElem?_append_left,hk2]]
  exact h k hk2
 ·obtain rfl:k=i:=by omega
  have h2:=Ep (c:=c) (g:=g) (ch:=Vg l ((X.getD k Ju).1.1:Int)) hl
  rw[Qa] at h2
  rw[h2,show(Gs l X n k++[Vg l ((X.getD k Ju).1.1:Int)]).getD k []=Vg l ((X.getD k Ju).1.1:Int) from by
   have h3:=Qa l X n k
   simp[List.getD,h3]]
  exact ho
theorem Zc3{W:World}{base m c:Nat}{p:Option Addr}{gs:List (Nat×Nat)}{l:List UInt8}{X:List Plc}{n:Int}(hr:W.ownsRow base 30 1 (.slice p m c) m ((List.range m).map (Bt gs (Gs l X n m))))(he:Each W base gs (Gs l X n m)):Lists W base (.slice p (Gs l X n m).length c) gs (Gs l X n m):=⟨by rw[Qa];exact hr,fun i hi=>he i hi⟩
theorem Zdr(m:Nat)(B2:Nat)(pl:Option Addr)(cl:Nat)(gs:List (Nat×Nat))(L:List (List Int))(a:Option Addr)(ce:Nat)(E:List Ent)(w:World)(hm:L.length=m)(hL:Lists w B2 (.slice pl L.length cl) gs L)(hF:FormOk L)(hl:L.length≤1200000000)(hE:Sts Ko w (.slice a E.length ce) E)(hv:∀ i,i<E.length→(E.getD i Xp).2.1.length≤1000) :
 Calls Tryz.prog 61 #[.slice pl m cl,.slice a E.length ce] w (JoinP L.flatten E w):=by
 subst hm;exact tally_Join B2 pl cl gs L a ce E w hL hF hl hE hv
theorem chart_all(Bi b:Nat)(pi:Option Addr)(ni ci:Nat)(l:List UInt8)(px:Option Addr)(cx:Nat)(X:List Plc)(over n fuel:Int)(w:World)(hI:ImgR Bi b pi ni ci l w)(hX:Sts plcC w (.slice px X.length cx) X)(hXn:X.length=bmI n)(hn:n≤1099511627776)(hfu:fuel≤1000) :
 Calls Tryz.prog 33 #[.pointer (some ⟨b,0,none⟩),.slice px X.length cx,.int .i64 over,.int .i64 n,.int .i64 fuel] w (OutP (Zdf l X over n fuel) w):=by
 have hXl:=Zbv hn
 rw[←hXn] at hXl
 refine zin 72 Tryz.func33 ?_
 refine xv1 20 3 (show(.int .i64 n:Value)=.int .i64 (Tr n 0) from by rw[remI_zero]) ?_
 have hB:=Below.refl w.heap.size w
 refine zl 0 72 (fun zm zkv V=>∃ (i:Nat) (gs:List (Nat×Nat)) (p:Option Addr) (c:Nat),zkv=[(0,.pointer (some ⟨b,0,none⟩)),(2,.int .i64 over),(3,.int .i64 (Tr n i)),(4,.int .i64 fuel),(12,.slice p i c),(22,.slice px X.length cx),(23,.int .i64 (↑X.length:Int)),(24,.int .i64 (↑i:Int))]∧zm=X.length-((↑i:Int)).toNat∧Below w.heap.size w V∧V.ownsRow w.heap.size 30 1 (.slice p i c) i ((List.range i).map (Bt gs (Gs l X n i)))∧Each V w.heap.size gs (Gs l X n i)∧i≤X.length∧gs.length=i∧allK l X n i) ⟨0,[],none,0,rfl,rfl,hB,World.ownsRow_nil _ _ _ _,(fun j hj=>absurd hj (by rw[Qa];omega)),Nat.zero_le _,rfl,(fun j hj=>absurd hj (by omega))⟩ ?_
 rintro _ _ W1 ⟨i,gs,p,c,rfl,rfl,hB_1,ho,hEa,hi,hgl,hok⟩ J1 hJ1 r1
 have hrm:=fun(q:i<X.length)=>rem_in hXn q
 refine xid 6 ((↑i:Int)<(↑X.length:Int)) (fun hc2=>?_) (fun hc2=>?_)
 ·refine xx 6 _ X.length i 5 (Sts.cell hX Zg0 Ju (k:=i) (i:=0) (by omega) rfl).1 ?_
  refine xlv 0 (Sts.rp (k:=i) (hX.below hB_1) Zg0 Ju (by omega) (by decide)) ?_
  refine xa 0 [.int .i64 0,.int .i64 0,.int .i64 0,.int .i64 0,.int .i64 0] 83 fun b3 W3 n3=>?_
  have g3:=n3.ge hB_1
  refine xsv 0 n3.blk [.int .i64 (↑(X.getD i Ju).1.1:Int),.int .i64 (↑(X.getD i Ju).1.2.1:Int),.int .i64 (↑(X.getD i Ju).1.2.2:Int),.int .i64 ((X.getD i Ju).2.1),.int .i64 ((X.getD i Ju).2.2)] fun W4 u4 k4=>?_
  refine xq 5 (congrArg (Value.int .i64) (show(if(960:Int)<(Tr n i) then(960:Int) else(Tr n i):Int)=(Vk n i) from(hrm (by omega)).2.2.1)) ?_
  refine xlv 5 k4.rp ?_
  have hB'1:=u4.below (bln hB_1 n3.below) g3
  refine xc 2 (args:=#[.agg #[.int .i64 (↑(X.getD i Ju).1.1:Int),.int .i64 (↑(X.getD i Ju).1.2.1:Int),.int .i64 (↑(X.getD i Ju).1.2.2:Int),.int .i64 ((X.getD i Ju).2.1),.int .i64 ((X.getD i Ju).2.2)],.pointer (some ⟨b,0,none⟩),.int .i64 (Vk n i)]) (To Bi b pi ni ci l X n i _ (hI.below hB'1) (hrm (by omega)).2.2.2.1) ?_
  rintro e W5 hq5
  rcases hq5 with ⟨hbe,tyc,vc,rfl,hb5,hv9⟩|⟨hbe,g9,c9,rfl,hb5,ho9⟩
  ·have hB'2:=bln hB'1 hb5
   exact xe 29 (.tuple #[.slice none 0 0,.iface tyc (vc)]) (Jo (Et (by omega) hok hbe) hbe hB'2 hv9)
  have hs5:=(u4.below (bln hB_1 n3.below) g3).size
  refine xbs 21 1 [.slice (some ⟨g9,0,none⟩) ((Vg l (↑(X.getD i Ju).1.1:Int)).length) c9] 30 fun b6 W6 n6=>?_
  have hB'3:=bln hB'1 hb5
  have g6:=n6.ge hB'3
  have ho'1:=Zb (u4.own2 (Zb ho n3.below) n3.blk (by decide)) hb5
  have r6_ho:=Zu ho'1 n6
  have ho'2:=Zb ho'1 n6.below
  have hB'4:=bln hB'3 n6.below
  refine xbi 0 fun _ _ _ _ zJ zQ zo zx zy zK=>Zp (m:=1) (news:=[.slice (some ⟨g9,0,none⟩) ((Vg l (↑(X.getD i Ju).1.1:Int)).length) c9]) (.slice none 0 0) 1 24 (i+1) (((List.range (i+1)).map (Bt (gs++[(g9,c9)]) (Gs l X n (i+1))))) zo Tryz.underlying91 (by kernel_rfl) rfl (by decide) zx ho'2 zy (n6.blk.sl 1 1 (by decide) (by decide)) rfl (by simp[Value.oneCell']) (by unfold maxLen;omega) (by omega) hB'4.size (rfl) (by rw[←Ln hgl]) fun px7 cx7 W7 o7 hg7 hb7=>?_
  refine zK _ _ ?_
  refine xq 6 (congrArg (Value.int .i64) (show IntKind.i64.wrap ((Tr n i)-(Vk n i))=(Tr n (i+1)) from(show IntKind.i64.wrap ((Tr n i)-(Vk n i))=((Tr n i)-(Vk n i)) from by first|exact IntWalk.i64_in _ (by omega)|(simp only[IntKind.wrap];omega)).trans ((hrm (by omega)).2.2.2.2.2))) ?_
  refine xwm 5 ((↑i:Int)+1) (↑(i+1):Int) ?_
  have hEa'1:=((((hEa.below n3.below).only (Ze.of_upd (T:=[83]) u4 n3.blk (by decide)) (by decide)).below hb5).below n6.below).only (Ze.of_grown (T:=[30]) hg7 ho'2 (by decide)) (by decide)
  have ho9'1:=Zg (Zb (Zd ho9 hs5) n6.below) hg7 ho'2 (by decide)
  have hB'5:=hB'4.trans hb7
  exact ze 2 (hJ1 _ _ _ ⟨i+1,gs++[(g9,c9)],_,_,rfl,rfl,hB'5,o7,(Mx hEa'1 hgl ho9'1),by omega,by rw[List.length_append,hgl];rfl,My hok hbe⟩ (by omega))
 obtain rfl:i=X.length:=by omega
 refine xc 10 (args:=#[.pointer (some ⟨b,0,none⟩),.int .i64 over,.int .i64 5,.int .i64 fuel]) (Rl Bi b pi ni ci l over 5 fuel _ hfu (hI.below hB_1)) ?_
 rintro e W8 hq8
 rcases hq8 with ⟨hfs,pe,ce,pb,cb,pf,cf,tyw,vw,rfl,hb8,hv9⟩|⟨hfs,pe,ce,pb,nb,cb,dp,lk,pf,cf,rfl,hb8,hen⟩
 ·refine xa 3 [.slice none 0 0,.slice none 0 0,.int .i64 0,.int .i64 0,.slice none 0 0] 70 fun b9 W9 n9=>?_
  have hB'6:=bln hB_1 hb8
  have g9:=n9.ge hB'6
  refine xsv 0 n9.blk [.slice pe 0 ce,.slice pb 0 cb,.int .i64 0,.int .i64 0,.slice pf 0 cf] fun W10 u10 k10=>?_
  have hv9'1:=(hv9.below n9.below).only (Ze.of_upd (T:=[70]) u10 n9.blk (by decide)) (by decide)
  have hB'7:=u10.below (bln hB'6 n9.below) g9
  exact xe 20 (.tuple #[.slice none 0 0,.iface tyw (vw)]) (Jo ((By hok).trans (Zb0 hfs)) (La hfs) hB'7 hv9'1)
 refine xa 3 [.slice none 0 0,.slice none 0 0,.int .i64 0,.int .i64 0,.slice none 0 0] 70 fun b11 W11 n11=>?_
 have hB'8:=bln hB_1 hb8
 have g11:=n11.ge hB'8
 refine xsv 0 n11.blk [.slice pe ((Zj l over 5 fuel).es.length) ce,.slice pb nb cb,.int .i64 dp,.int .i64 lk,.slice pf 0 cf] fun W12 u12 k12=>?_
 refine xb 17 0 k12 ?_
 have ho'3:=u12.own2 (Zb (Zb ho hb8) n11.below) n11.blk (by decide)
 have hEa'2:=((hEa.below hb8).below n11.below).only (Ze.of_upd (T:=[70]) u12 n11.blk (by decide)) (by decide)
 have hen'1:=u12.own2 (Zb (Zd hen hB_1.size) n11.below) n11.blk (by decide)
 refine xc 0 (args:=#[.slice p X.length c,.slice pe ((Zj l over 5 fuel).es.length) ce]) (Zdr X.length w.heap.size p c gs (Gs l X n X.length) pe ce (Zj l over 5 fuel).es _ (Qa _ _ _ _) (Zc3 ho'3 hEa'2) (Zc1 hok hXn) (by rw[Qa,hXn];exact Zbv hn) (Zf hen'1) (Bu _ _ _ _)) ?_
 rintro _ W13 ⟨pj,cj,rfl,hb13,hoj⟩
 have hs13:=(u12.below (bln hB'8 n11.below) g11).size
 refine xin 14 ((Ka (Gs l X n X.length).flatten (Zj l over 5 fuel).es).1) (0:Int) (fun hc14=>?_) (fun hc14=>?_)
 ·refine xc 5 (args:=#[.int .i64 over,.iface 51 (.int .i64 ((Ka (Gs l X n X.length).flatten (Zj l over 5 fuel).es).1))]) (Kv over (Ka (Gs l X n X.length).flatten (Zj l over 5 fuel).es).1 [] _ _ rfl) ?_
  rintro _ W15 ⟨ty15,v15,rfl,hb15,hva⟩
  have hB'9:=bln (bln (u12.below (bln hB'8 n11.below) g11) hb13) hb15
  exact xe 6 (.tuple #[.slice none 0 0,.iface ty15 (v15)]) (Jo ((By hok).trans (Ae hfs (by assumption))) (by assumption) hB'9 hva)
 have hB'10:=bln (u12.below (bln hB'8 n11.below) g11) hb13
 have hoj'1:=Zd hoj hs13
 exact xe 10 (.tuple #[.slice pj ((Ka (Gs l X n X.length).flatten (Zj l over 5 fuel).es).2.length) cj,.nilIface]) (out_ok ((By hok).trans (Ot hfs (by omega))) rfl hB'10 hoj'1)
def sl0:Nat×Nat×Nat:=(0,0,0)
theorem plcE_snoc{es:List Ent}{i:Nat}(hi:i<es.length):((es.take (i+1)).map Zdi).flatMap plcC=((es.take i).map Zdi).flatMap plcC++plcC (Zdi (es.getD i Xp)):=by
 rw[List.take_succ_eq_append_getElem hi,List.map_append,List.flatMap_append,show es.getD i Xp=es[i] from by simp[List.getD,hi]]
 simp only[List.map_cons,List.map_nil,List.flatMap_cons,List.flatMap_nil,List.append_nil]
theorem plcS_snoc{sl:List (Nat×Nat×Nat)}{i:Nat}{at_:Int}(hi:i<sl.length):((sl.take (i+1)).map (Jd at_)).flatMap plcC=((sl.take i).map (Jd at_)).flatMap plcC++plcC (Jd at_ (sl.getD i sl0)):=by
 rw[List.take_succ_eq_append_getElem hi,List.map_append,List.flatMap_append,show sl.getD i sl0=sl[i] from by simp[List.getD,hi]]
 simp only[List.map_cons,List.map_nil,List.flatMap_cons,List.flatMap_nil,List.append_nil]
theorem dataO_flt{l:List UInt8}{index over n fuel:Int}(h:(Zj l index 4 fuel).fs≠[]):Cj l index over n fuel=((Ym (Zj l index 4 fuel)).1,(Ym (Zj l index 4 fuel)).2,[]):=if_pos h
theorem dataO_len{l:List UInt8}{index over n fuel:Int}(h:(Zj l index 4 fuel).fs=[])(h2:(Zj l index 4 fuel).es.length≠bmI n):Cj l index over n fuel=([index],7,[]):=by unfold Cj;rw[if_neg (fun q=>q h),if_pos h2]
theorem dataO_key{l:List UInt8}{index over n fuel:Int}{i:Nat}(h:(Zj l index 4 fuel).fs=[])(h2:(Zj l index 4 fuel).es.length=bmI n)(hi:i<(Zj l index 4 fuel).es.length)(h3:((Zj l index 4 fuel).es.getD i Xp).1≠(i:Int)):Cj l index over n fuel=([index],7,[]):=by unfold Cj;rw[if_neg (fun q=>q h),if_neg (fun q=>q h2),if_pos (keysOk_bad hi h3)]
theorem Zce{l:List UInt8}{index over n fuel:Int}(h:(Zj l index 4 fuel).fs=[])(h2:(Zj l index 4 fuel).es.length=bmI n)(h3:∀ i,i<(Zj l index 4 fuel).es.length→((Zj l index 4 fuel).es.getD i Xp).1=(i:Int)):Cj l index over n fuel=Zdf l ((Zj l index 4 fuel).es.map Zdi) over n fuel:=by unfold Cj;rw[if_neg (fun q=>q h),if_neg (fun q=>q h2),if_neg (by rw[Zc9 h3];decide)]
theorem Zcj{l:List UInt8}{index over n fuel:Int}(h:Xw l index≠0):Uh l index over n fuel=([index],Xw l index,[]):=if_pos h
theorem Zb6{l:List UInt8}{index over n fuel:Int}(h:Xw l index=0)(h2:(Xv l index).length≠bmI n):Uh l index over n fuel=([index],7,[]):=by unfold Uh;rw[if_neg (fun q=>q h),if_pos h2]
theorem Gk{l:List UInt8}{index over n fuel:Int}(h:Xw l index=0)(h2:(Xv l index).length=bmI n):Uh l index over n fuel=Zdf l ((Xv l index).map (Jd index)) over n fuel:=by unfold Uh;rw[if_neg (fun q=>q h),if_neg (fun q=>q h2)]
theorem Ic(m:Nat)(Bi b:Nat)(pi:Option Addr)(ni ci:Nat)(l:List UInt8)(px:Option Addr)(cx:Nat)(X:List Plc)(over n fuel:Int)(w:World)(hm:X.length=m)(hI:ImgR Bi b pi ni ci l w)(hX:Sl w (.slice px m cx) m (X.flatMap plcC))(hXn:m=bmI n)(hn:n≤1099511627776)(hfu:fuel≤1000) :
 Calls Tryz.prog 33 #[.pointer (some ⟨b,0,none⟩),.slice px m cx,.int .i64 over,.int .i64 n,.int .i64 fuel] w (OutP (Zdf l X over n fuel) w):=by
 subst hm;exact chart_all Bi b pi ni ci l px cx X over n fuel w hI hX hXn hn hfu
theorem Zcc(B b:Nat)(p:Option Addr)(n c:Nat)(l:List UInt8)(no:Int)(w:World)(hI:ImgR B b p n c l w) :
 Calls Tryz.prog 43 #[.pointer (some ⟨b,0,none⟩),.int .i64 no] w (fun e w' =>
 (Xw l no≠0∧∃ ty x,e=.returned (.tuple #[.slice none 0 0,.iface ty x])∧Below w.heap.size w w'∧Ja w' (([no]:List Int).map some) (some (Xw l no)) (.iface ty x)) ∨
 (Xw l no=0∧∃ p c,e=.returned (.tuple #[.slice p (Xv l no).length c,.nilIface])∧Below w.heap.size w w'∧w'.ownsRow w.heap.size 79 3 (.slice p (Xv l no).length c) (Xv l no).length ((Xv l no).flatMap Zd1))):=by
 refine(Zem B b p n c l no w hI).mono ?_
 rintro e W q
 rcases q with ⟨h,b,rfl,hb,hv⟩|⟨h,p,c,rfl,hb,ho⟩
 ·exact .inl ⟨h,_,_,rfl,hb,hv⟩
 ·refine .inr ⟨h,p,c,by rw[(On h).2],hb,?_⟩
  rw[(On h).2,(On h).1];exact ho
theorem Zhh(Bi b:Nat)(pi:Option Addr)(ni ci:Nat)(l:List UInt8)(index over n fuel:Int)(w:World)(hI:ImgR Bi b pi ni ci l w)(hn:n≤1099511627776)(hfu:fuel≤1000) :
 Calls Tryz.prog 16 #[.pointer (some ⟨b,0,none⟩),.int .i64 index,.int .i64 over,.int .i64 n,.int .i64 fuel] w (OutP (Cj l index over n fuel) w):=by
 have hbl:=Zbv hn
 refine zin 76 Tryz.func16 ?_
 refine xc 11 (args:=#[.pointer (some ⟨b,0,none⟩),.int .i64 index,.int .i64 4,.int .i64 fuel]) (Rl Bi b pi ni ci l index 4 fuel _ hfu (hI.below (Below.refl w.heap.size _))) ?_
 rintro e W1 hq1
 rcases hq1 with ⟨hfs,pe,ce,pb,cb,pf,cf,tyw,vw,rfl,hb1,hv9⟩|⟨hfs,pe,ce,pb,nb,cb,dp,lk,pf,cf,rfl,hb1,hen⟩
 ·refine xa 3 [.slice none 0 0,.slice none 0 0,.int .i64 0,.int .i64 0,.slice none 0 0] 70 fun b2 W2 n2=>?_
  refine xsv 0 n2.blk [.slice pe 0 ce,.slice pb 0 cb,.int .i64 0,.int .i64 0,.slice pf 0 cf] fun W3 u3 k3=>?_
  have g2:=n2.ge hb1
  have hv9'1:=(hv9.below n2.below).only (Ze.of_upd (T:=[70]) u3 n2.blk (by decide)) (by decide)
  have hB:=u3.below (bln hb1 n2.below) g2
  exact xe 20 (.tuple #[.slice none 0 0,.iface tyw (vw)]) (Jo (dataO_flt hfs) (La hfs) hB hv9'1)
 have hs1:=Nat.le_refl w.heap.size
 refine xa 3 [.slice none 0 0,.slice none 0 0,.int .i64 0,.int .i64 0,.slice none 0 0] 70 fun b4 W4 n4=>?_
 refine xsv 0 n4.blk [.slice pe ((Zj l index 4 fuel).es.length) ce,.slice pb nb cb,.int .i64 dp,.int .i64 lk,.slice pf 0 cf] fun W5 u5 k5=>?_
 have g4:=n4.ge hb1
 refine xd 15 .z ?_
 have k5'1:=k5.below (Za W5)
 refine xb (.e [0] 1) 0 k5'1 ?_
 refine xr (.o [2,3] 4) (args:=#[.int .i64 n]) (Mq n _ hn) fun W6 hb6=>?_
 refine xin (.r [5] 2) (↑((Zj l index 4 fuel).es.length):Int) (↑(bmI n):Int) (fun hc7=>?_) (fun hc7=>?_)
 ·have hne:(Zj l index 4 fuel).es.length≠bmI n:=by omega
  refine xc 4 (args:=#[.int .i64 index,.iface 51 (.int .i64 7)]) (Kv index 7 [] _ _ rfl) ?_
  rintro _ W8 ⟨ty8,v8,rfl,hb8,hva⟩
  have hB:=bln (bln (bln (u5.below (bln hb1 n4.below) g4) (Za W5)) hb6) hb8
  exact xe 6 (.tuple #[.slice none 0 0,.iface ty8 (v8)]) (Jo (dataO_len hfs hne) (by decide) hB hva)
 have hlen:(Zj l index 4 fuel).es.length=bmI n:=by omega
 have k5'2:=k5'1.below hb6
 refine xb 11 0 k5'2 ?_
 have hen'1:=Zb (Zb (u5.own2 (Zb (Zd hen hs1) n4.below) n4.blk (by decide)) (Za W5)) hb6
 have hB:=bln (bln (u5.below (bln hb1 n4.below) g4) (Za W5)) hb6
 refine zl 5 76 (fun zm zkv V=>∃ (i:Nat) (p:Option Addr) (c:Nat),zkv=[(0,.pointer (some ⟨b,0,none⟩)),(1,.int .i64 index),(2,.int .i64 over),(3,.int .i64 n),(4,.int .i64 fuel),(14,.slice p i c),(39,.slice pe ((Zj l index 4 fuel).es.length) ce),(40,.int .i64 (↑((Zj l index 4 fuel).es.length):Int)),(41,.int .i64 (↑i:Int))]∧zm=(Zj l index 4 fuel).es.length-((↑i:Int)).toNat∧Below w.heap.size w V∧Blk V b4 ([.slice pe ((Zj l index 4 fuel).es.length) ce,.slice pb nb cb,.int .i64 dp,.int .i64 lk,.slice pf 0 cf]) 70∧V.ownsRow w.heap.size 77 3 (.slice pe (Zj l index 4 fuel).es.length ce) (Zj l index 4 fuel).es.length ((Zj l index 4 fuel).es.flatMap Ko)∧V.ownsRow w.heap.size 83 5 (.slice p i c) i ((((Zj l index 4 fuel).es.take i).map Zdi).flatMap plcC)∧i≤(Zj l index 4 fuel).es.length∧(∀ j,j<i→((Zj l index 4 fuel).es.getD j Xp).1=(j:Int))) ⟨0,none,0,rfl,rfl,hB,k5'2,hen'1,World.ownsRow_nil _ _ _ _,Nat.zero_le _,?_⟩ ?_
 ·exact fun j hj=>absurd hj (by omega)
 rintro _ _ W9 ⟨i,p,c,rfl,rfl,hB_9,k9_b4,hen,ho,hi,hky⟩ J9 hJ9 r9
 refine xid 6 ((↑i:Int)<(↑((Zj l index 4 fuel).es.length):Int)) (fun hc10=>?_) (fun hc10=>?_)
 ·refine xx 7 _ ((Zj l index 4 fuel).es.length) i 3 (Sts.cell (f:=Ko) (Zf hen) Yb Xp (k:=i) (i:=0) (by omega) rfl).1 ?_
  refine xlv 0 (Sts.rp (k:=i) (Zf hen) Yb Xp (by omega) (by decide)) ?_
  refine xa 0 [.int .i64 0,.string ⟨#[]⟩,.int .i64 0] 77 fun b11 W11 n11=>?_
  have g11:=n11.ge hB_9
  have r11_hen:=Zu hen n11
  refine xsv 1 n11.blk [.int .i64 (((Zj l index 4 fuel).es.getD i Xp).1),.string ⟨(((Zj l index 4 fuel).es.getD i Xp).2.1).toArray⟩,.int .i64 (((Zj l index 4 fuel).es.getD i Xp).2.2)] fun W12 u12 k12=>?_
  refine xb 6 0 k12 ?_
  refine xin 4 (((Zj l index 4 fuel).es.getD i Xp).1) (↑i:Int) (fun hc13=>?_) (fun hc13=>?_)
  ·refine xc 4 (args:=#[.int .i64 index,.iface 51 (.int .i64 7)]) (Kv index 7 [] _ _ rfl) ?_
   rintro _ W14 ⟨ty14,v14,rfl,hb14,hva⟩
   have hB'1:=bln (u12.below (bln hB_9 n11.below) g11) hb14
   exact xe 11 (.tuple #[.slice none 0 0,.iface ty14 (v14)]) (Jo (dataO_key hfs hlen (i:=i) (by omega) (by assumption)) (by decide) hB'1 hva)
  refine xb 5 1 k12 ?_
  refine xr 0 (args:=#[.string ⟨(((Zj l index 4 fuel).es.getD i Xp).2.1).toArray⟩]) (Nq ((Zj l index 4 fuel).es.getD i Xp).2.1 _ (Bu _ _ _ _ i (by omega))) fun W15 hb15=>?_
  refine xa 3 [.int .i64 0,.int .i64 0,.int .i64 0] 79 fun b16 W16 n16=>?_
  have hB'2:=bln (u12.below (bln hB_9 n11.below) g11) hb15
  have g16:=n16.ge hB'2
  refine xsv 0 n16.blk [.int .i64 (↑((Xy Xo ((Zj l index 4 fuel).es.getD i Xp).2.1).getD 0 0):Int),.int .i64 (↑((Xy Xo ((Zj l index 4 fuel).es.getD i Xp).2.1).getD 1 0):Int),.int .i64 (↑((Xy Xo ((Zj l index 4 fuel).es.getD i Xp).2.1).getD 2 0):Int)] fun W17 u17 k17=>?_
  refine xlv 5 k17.rp ?_
  have k12'1:=u17.blkT ((k12.below hb15).below n16.below) n16.blk (by decide)
  refine xb 1 2 k12'1 ?_
  refine xbs 2 1 [.int .i64 (↑((Xy Xo ((Zj l index 4 fuel).es.getD i Xp).2.1).getD 0 0):Int),.int .i64 (↑((Xy Xo ((Zj l index 4 fuel).es.getD i Xp).2.1).getD 1 0):Int),.int .i64 (↑((Xy Xo ((Zj l index 4 fuel).es.getD i Xp).2.1).getD 2 0):Int),.int .i64 (((Zj l index 4 fuel).es.getD i Xp).2.2),.int .i64 (Xq Xo ((Zj l index 4 fuel).es.getD i Xp).2.1)] 83 fun b18 W18 n18=>?_
  have hB'3:=u17.below (bln hB'2 n16.below) g16
  have g18:=n18.ge hB'3
  have ho'1:=u17.own2 (Zb (Zb (u12.own2 (Zb ho n11.below) n11.blk (by decide)) hb15) n16.below) n16.blk (by decide)
  have r18_ho:=Zu ho'1 n18
  have ho'2:=Zb ho'1 n18.below
  have hB'4:=bln hB'3 n18.below
  refine xbi 0 fun _ _ _ _ zJ zQ zo zx zy zK=>Zp (m:=1) (news:=[.int .i64 (↑((Xy Xo ((Zj l index 4 fuel).es.getD i Xp).2.1).getD 0 0):Int),.int .i64 (↑((Xy Xo ((Zj l index 4 fuel).es.getD i Xp).2.1).getD 1 0):Int),.int .i64 (↑((Xy Xo ((Zj l index 4 fuel).es.getD i Xp).2.1).getD 2 0):Int),.int .i64 (((Zj l index 4 fuel).es.getD i Xp).2.2),.int .i64 (Xq Xo ((Zj l index 4 fuel).es.getD i Xp).2.1)]) (.agg #[.int .i64 0,.int .i64 0,.int .i64 0,.int .i64 0,.int .i64 0]) 5 40 (i+1) (((((Zj l index 4 fuel).es.take (i+1)).map Zdi).flatMap plcC)) zo Tryz.underlying75 (by kernel_rfl) rfl (by decide) zx ho'2 zy (n18.blk.sl 1 1 (by decide) (by decide)) rfl (by simp[Value.oneCell']) (by unfold maxLen;omega) (by omega) hB'4.size (rfl) (by rw[plcE_snoc (by omega)];rfl) fun px19 cx19 W19 o19 hg19 hb19=>?_
  refine zK _ _ ?_
  refine xwm 5 ((↑i:Int)+1) (↑(i+1):Int) ?_
  have hB'5:=hB'4.trans hb19
  have k9_b4'1:=((u17.blkT (((u12.blkT (k9_b4.below n11.below) n11.blk (by decide)).below hb15).below n16.below) n16.blk (by decide)).below n18.below).grown hg19 ho'2 (by decide)
  have hen'2:=Zg (Zb (u17.own2 (Zb (Zb (u12.own3 (Zb hen n11.below) r11_hen) hb15) n16.below) n16.blk (by decide)) n18.below) hg19 ho'2 (by decide)
  exact ze 2 (hJ9 _ _ _ ⟨i+1,_,_,rfl,rfl,hB'5,k9_b4'1,hen'2,o19,by omega,fun j hj=>(Nat.lt_or_ge j i).elim (hky j) (fun q=>by obtain rfl:j=i:=(by omega);omega)⟩ (by omega))
 have hiE:i=(Zj l index 4 fuel).es.length:=by omega
 have hsr:=Zf ho
 rw[hiE,List.take_of_length_le (Nat.le_refl _)] at hsr
 rw[←hiE] at hsr
 refine xc 12 (args:=#[.pointer (some ⟨b,0,none⟩),.slice p i c,.int .i64 over,.int .i64 n,.int .i64 fuel]) (Ic i Bi b pi ni ci l p c ((Zj l index 4 fuel).es.map Zdi) over n fuel _ (by rw[List.length_map];exact hiE.symm) (hI.below hB_9) hsr (hiE.trans hlen) hn hfu) ?_
 rintro e W20 hq20
 rcases hq20 with ⟨hbe,tya,va,rfl,hb20,hv9⟩|⟨hbe,p9,c9,rfl,hb20,ho9⟩
 ·have hB'6:=bln hB_9 hb20
  refine xe 7 (.tuple #[.slice none 0 0,.iface tya (va)]) ?_
  rw[Zce hfs hlen (fun j hj=>hky j (by omega))]
  exact .inl ⟨hbe,_,_,rfl,hB'6,hv9⟩
 have hB'7:=bln hB_9 hb20
 have ho9'1:=Zd ho9 hB_9.size
 refine xe 7 (.tuple #[.slice p9 ((Zdf l ((Zj l index 4 fuel).es.map Zdi) over n fuel).2.2.length) c9,.nilIface]) ?_
 rw[Zce hfs hlen (fun j hj=>hky j (by omega))]
 exact .inr ⟨hbe,_,_,rfl,hB'7,ho9'1⟩
theorem chart_Meta(Bi b:Nat)(pi:Option Addr)(ni ci:Nat)(l:List UInt8)(index over n fuel:Int)(w:World)(hI:ImgR Bi b pi ni ci l w)(hn:n≤1099511627776)(hfu:fuel≤1000) :
 Calls Tryz.prog 20 #[.pointer (some ⟨b,0,none⟩),.int .i64 index,.int .i64 over,.int .i64 n,.int .i64 fuel] w (OutP (Uh l index over n fuel) w):=by
 have hbl:=Zbv hn
 refine zin 55 Tryz.func20 ?_
 refine xc 10 (args:=#[.pointer (some ⟨b,0,none⟩),.int .i64 index]) (Zcc Bi b pi ni ci l index _ (hI.below (Below.refl w.heap.size _))) ?_
 rintro e W1 hq1
 rcases hq1 with ⟨hie,tyw,vw,rfl,hb1,hv9⟩|⟨hie,ps,cs,rfl,hb1,hsl⟩
 ·exact xe 24 (.tuple #[.slice none 0 0,.iface tyw (vw)]) (Jo (Zcj hie) hie hb1 hv9)
 have hs1:=Nat.le_refl w.heap.size
 refine xr 23 (args:=#[.int .i64 n]) (Mq n _ hn) fun W2 hb2=>?_
 refine xin 3 (↑((Xv l index).length):Int) (↑(bmI n):Int) (fun hc3=>?_) (fun hc3=>?_)
 ·have hne:(Xv l index).length≠bmI n:=by omega
  refine xc 4 (args:=#[.int .i64 index,.iface 51 (.int .i64 7)]) (Kv index 7 [] _ _ rfl) ?_
  rintro _ W4 ⟨ty4,v4,rfl,hb4,hva⟩
  have hB:=bln (bln hb1 hb2) hb4
  exact xe 6 (.tuple #[.slice none 0 0,.iface ty4 (v4)]) (Jo (Zb6 hie hne) (by decide) hB hva)
 have hlen:(Xv l index).length=bmI n:=by omega
 have hsl'1:=Zb (Zd hsl hs1) hb2
 have hB:=bln hb1 hb2
 refine zl 16 55 (fun zm zkv V=>∃ (i:Nat) (p:Option Addr) (c:Nat),zkv=[(0,.pointer (some ⟨b,0,none⟩)),(1,.int .i64 index),(2,.int .i64 over),(3,.int .i64 n),(4,.int .i64 fuel),(10,.slice none 0 0),(11,.nilIface),(14,.slice p i c),(34,.slice ps ((Xv l index).length) cs),(35,.int .i64 (↑((Xv l index).length):Int)),(36,.int .i64 (↑i:Int))]∧zm=(Xv l index).length-((↑i:Int)).toNat∧Below w.heap.size w V∧V.ownsRow w.heap.size 79 3 (.slice ps (Xv l index).length cs) (Xv l index).length ((Xv l index).flatMap Zd1)∧V.ownsRow w.heap.size 83 5 (.slice p i c) i ((((Xv l index).take i).map (Jd index)).flatMap plcC)∧i≤(Xv l index).length) ⟨0,none,0,rfl,rfl,hB,hsl'1,World.ownsRow_nil _ _ _ _,Nat.zero_le _⟩ ?_
 rintro _ _ W5 ⟨i,p,c,rfl,rfl,hB_5,hsl,ho,hi⟩ J5 hJ5 r5
 refine xid 6 ((↑i:Int)<(↑((Xv l index).length):Int)) (fun hc6=>?_) (fun hc6=>?_)
 ·refine xx 6 _ ((Xv l index).length) i 3 (Sts.cell (f:=Zd1) (Zf hsl) Ez sl0 (k:=i) (i:=0) (by omega) rfl).1 ?_
  refine xlv 0 (Sts.rp (k:=i) (Zf hsl) Ez sl0 (by omega) (by decide)) ?_
  refine xa 0 [.int .i64 0,.int .i64 0,.int .i64 0] 79 fun b7 W7 n7=>?_
  have g7:=n7.ge hB_5
  have r7_hsl:=Zu hsl n7
  refine xsv 0 n7.blk [.int .i64 (↑((Xv l index).getD i sl0).1:Int),.int .i64 (↑((Xv l index).getD i sl0).2.1:Int),.int .i64 (↑((Xv l index).getD i sl0).2.2:Int)] fun W8 u8 k8=>?_
  refine xlv 4 k8.rp ?_
  refine xbs 2 1 [.int .i64 (↑((Xv l index).getD i sl0).1:Int),.int .i64 (↑((Xv l index).getD i sl0).2.1:Int),.int .i64 (↑((Xv l index).getD i sl0).2.2:Int),.int .i64 index,.int .i64 0] 83 fun b9 W9 n9=>?_
  have hB'1:=u8.below (bln hB_5 n7.below) g7
  have g9:=n9.ge hB'1
  have ho'1:=u8.own2 (Zb ho n7.below) n7.blk (by decide)
  have r9_ho:=Zu ho'1 n9
  have ho'2:=Zb ho'1 n9.below
  have hB'2:=bln hB'1 n9.below
  refine xbi 0 fun _ _ _ _ zJ zQ zo zx zy zK=>Zp (m:=1) (news:=[.int .i64 (↑((Xv l index).getD i sl0).1:Int),.int .i64 (↑((Xv l index).getD i sl0).2.1:Int),.int .i64 (↑((Xv l index).getD i sl0).2.2:Int),.int .i64 index,.int .i64 0]) (.agg #[.int .i64 0,.int .i64 0,.int .i64 0,.int .i64 0,.int .i64 0]) 5 40 (i+1) (((((Xv l index).take (i+1)).map (Jd index)).flatMap plcC)) zo Tryz.underlying75 (by kernel_rfl) rfl (by decide) zx ho'2 zy (n9.blk.sl 1 1 (by decide) (by decide)) rfl (by simp[Value.oneCell']) (by unfold maxLen;omega) (by omega) hB'2.size (rfl) (by rw[plcS_snoc (by omega)];rfl) fun px10 cx10 W10 o10 hg10 hb10=>?_
  refine zK _ _ ?_
  refine xwm 5 ((↑i:Int)+1) (↑(i+1):Int) ?_
  have hB'3:=hB'2.trans hb10
  have hsl'2:=Zg (Zb (u8.own3 (Zb hsl n7.below) r7_hsl) n9.below) hg10 ho'2 (by decide)
  exact ze 2 (hJ5 _ _ _ ⟨i+1,_,_,rfl,rfl,hB'3,hsl'2,o10,by omega⟩ (by omega))
 have hiE:i=(Xv l index).length:=by omega
 have hsr:=Zf ho
 rw[hiE,List.take_of_length_le (Nat.le_refl _)] at hsr
 rw[←hiE] at hsr
 refine xc 12 (args:=#[.pointer (some ⟨b,0,none⟩),.slice p i c,.int .i64 over,.int .i64 n,.int .i64 fuel]) (Ic i Bi b pi ni ci l p c ((Xv l index).map (Jd index)) over n fuel _ (by rw[List.length_map];exact hiE.symm) (hI.below hB_5) hsr (hiE.trans hlen) hn hfu) ?_
 rintro e W11 hq11
 rcases hq11 with ⟨hbe,tya,va,rfl,hb11,hv9⟩|⟨hbe,p9,c9,rfl,hb11,ho9⟩
 ·have hB'4:=bln hB_5 hb11
  refine xe 7 (.tuple #[.slice none 0 0,.iface tya (va)]) ?_
  rw[Gk hie hlen]
  exact .inl ⟨hbe,_,_,rfl,hB'4,hv9⟩
 have hB'5:=bln hB_5 hb11
 have ho9'1:=Zd ho9 hB_5.size
 refine xe 7 (.tuple #[.slice p9 ((Zdf l ((Xv l index).map (Jd index)) over n fuel).2.2.length) c9,.nilIface]) ?_
 rw[Gk hie hlen]
 exact .inr ⟨hbe,_,_,rfl,hB'5,ho9'1⟩
theorem ref09_Free(a:Option Addr)(c:Nat)(l:List Int)(w:World)(hl:l.length≤960)(h:Sl w (.slice a l.length c) l.length (l.map (Value.int .i64))) :
 Calls Tryz.prog 67 #[.slice a l.length c] w (Ret (.tuple #[.int .i64 (↑(Yn l):Int),.int .i64 (↑(Xm l):Int)]) w):=by
 refine zin 35 Tryz.func67 ?_
 have hB:=Below.refl w.heap.size w
 refine zl 18 35 (fun zm zkv V=>∃ (i f:Nat),zkv=[(0,.slice a l.length c),(2,.int .i64 0),(3,.int .i64 0),(4,.int .i64 (↑f:Int)),(5,.int .i64 (↑i:Int))]∧zm=l.length-((↑i:Int)).toNat∧Below w.heap.size w V∧i≤l.length∧f=Ze7 l i) ⟨0,0,rfl,rfl,hB,Nat.zero_le _,rfl⟩ ?_
 rintro _ _ W1 ⟨i,f,rfl,rfl,hB_1,hi,hf⟩ J1 hJ1 r1
 have hfs:=fun(q:i<l.length)=>Iw q
 have hfb:=Fa l i
 refine xid 9 ((↑i:Int)<(↑l.length:Int)) (fun hc2=>?_) (fun hc2=>?_)
 ·refine xx 8 _ l.length i 1 (Ints.elem h (k:=i) (by omega)).1 ?_
  refine xl 0 ((Ints.elem (h.below hB_1) (k:=i) (by omega)).2) ?_
  refine xie 3 (l.getD i 0) (0:Int) (fun hc3=>?_) (fun hc3=>?_)
  ·refine xwm 2 ((↑f:Int)+1) (↑(f+1):Int) ?_
   refine xwm 6 ((↑i:Int)+1) (↑(i+1):Int) ?_
   exact ze 2 (hJ1 _ _ _ ⟨i+1,f+1,rfl,rfl,hB_1,by omega,by rw[hfs (by omega),if_pos (by assumption),hf]⟩ (by omega))
  refine xwm 5 ((↑i:Int)+1) (↑(i+1):Int) ?_
  exact ze 2 (hJ1 _ _ _ ⟨i+1,f,rfl,rfl,hB_1,by omega,by rw[hfs (by omega),if_neg (by assumption)];exact hf⟩ (by omega))
 refine zl 12 35 (fun zm zkv V=>∃ (g:Nat),zkv=[(0,.slice a l.length c),(2,.int .i64 0),(3,.int .i64 0),(4,.int .i64 (↑f:Int)),(6,.int .i64 (↑g:Int))]∧zm=l.length-((↑g:Int)).toNat∧Below w.heap.size w V∧g≤l.length∧((∀ j,j<g→l.getD j 0≠0))) ⟨0,rfl,rfl,hB_1,Nat.zero_le _,?_⟩ ?_
 ·exact fun j hj=>absurd hj (by omega)
 rintro _ _ W4 ⟨g,rfl,rfl,hB_4,hg,hz⟩ J4 hJ4 r4
 refine xg 8 [23,24] (decide ((↑g:Int)<(↑l.length:Int))) (fun hc5=>?_) (fun hc5=>?_)
 ·have hc5:=of_decide_eq_true hc5
  refine xx 2 _ l.length g 1 (Ints.elem h (k:=g) (by omega)).1 ?_
  refine xl 0 ((Ints.elem (h.below hB_4) (k:=g) (by omega)).2) ?_
  refine xin 4 (l.getD g 0) (0:Int) (fun hc6=>?_) (fun hc6=>?_)
  ·refine xwm 5 ((↑g:Int)+1) (↑(g+1):Int) ?_
   exact ze 3 (hJ4 _ _ _ ⟨g+1,rfl,rfl,hB_4,by omega,fun j hj=>(Nat.lt_or_ge j g).elim (fun q=>hz j q) (fun q=>by obtain rfl:j=g:=(by omega);first|assumption|omega)⟩ (by omega))
  refine xe 14 (.tuple #[.int .i64 (↑f:Int),.int .i64 (↑g:Int)]) ?_
  obtain rfl:i=l.length:=by omega
  have hfin:f=Yn l:=hf
  have hgf:g=Xm l:=by first|(exact(Rs (by omega) (by omega) hz).symm)|(obtain rfl:g=l.length:=(by omega);exact(Nx hz).symm)
  subst hfin hgf
  exact⟨rfl,hB_4⟩
 have hc5:=of_decide_eq_false hc5
 refine xe 23 (.tuple #[.int .i64 (↑f:Int),.int .i64 (↑g:Int)]) ?_
 obtain rfl:i=l.length:=by omega
 have hfin:f=Yn l:=hf
 have hgf:g=Xm l:=by first|(exact(Rs (by omega) (by omega) hz).symm)|(obtain rfl:g=l.length:=(by omega);exact(Nx hz).symm)
 subst hfin hgf
 exact⟨rfl,hB_4⟩
def entE(v:Nat)(l:List Ent)(i:Nat):Prop:=lastK l i<(l.getD i Xp).1∧(l.getD i Xp).1≤281474976710655∧(l.getD i Xp).2.1.length=v
instance (v:Nat) (l:List Ent) (i:Nat):Decidable (entE v l i):=by unfold entE;infer_instance
def slB (x:Nat×Nat×Nat):List UInt8:=leB (x.1:Int) 8++leB (x.2.1:Int) 4++leB (x.2.2:Int) 4
theorem slB_len(x:Nat×Nat×Nat):(slB x).length=16:=by simp[slB,Zo]
theorem leB_get{n w i:Nat}(h:i<w):(leB (n:Int) w).getD i 0=UInt8.ofNat (n/256 ^ i):=by simp[leB,Xa,List.getD,List.getElem?_range h]
theorem Ld{a b:List UInt8}{m w:Nat}(hm:m<256 ^ w):Zh (a++(leB (m:Int) w++b)) a.length w=m:=by
 rw[Wb w a.length m (fun i hi=>?_),Nat.mod_eq_of_lt hm]
 rw[List.getD,List.getElem?_append_right (by omega),List.getElem?_append_left (by rw[Zo];omega),show a.length+i-a.length=i by omega]
 exact leB_get hi
theorem Zfp{x:Nat×Nat×Nat}(h1:x.1≤14399)(h2:x.2.1≤960)(h3:x.2.2≤960):Lb Xo (slB x)=[x.1,x.2.1,x.2.2]:=by
 have e0:Zh (slB x) 0 8=x.1:=by
  have h:=Ld (a:=[]) (b:=leB (x.2.1:Int) 4++leB (x.2.2:Int) 4) (m:=x.1) (w:=8) (by omega)
  simpa [slB,List.append_assoc] using h
 have e1:Zh (slB x) 8 4=x.2.1:=by
  have h:=Ld (a:=leB (x.1:Int) 8) (b:=leB (x.2.2:Int) 4) (m:=x.2.1) (w:=4) (by omega)
  rw[Zo] at h
  simpa [slB,List.append_assoc] using h
 have e2:Zh (slB x) 12 4=x.2.2:=by
  have h:=Ld (a:=leB (x.1:Int) 8++leB (x.2.1:Int) 4) (b:=[]) (m:=x.2.2) (w:=4) (by omega)
  rw[List.length_append,Zo,Zo] at h
  simpa [slB,List.append_assoc] using h
 show Hh (slB x) 0 [8,4,4]=_
 simp only[Hh]
 rw[e0,e1,e2]
theorem slB_ok{x:Nat×Nat×Nat}(h0:1≤x.1)(h1:x.1≤14399)(h2:x.2.1≤960)(h3:x.2.2≤960):Xq Xo (slB x)=0:=by
 have hr:Hm Xo (slB x)=true:=by
  unfold Hm
  rw[Zfp h1 h2 h3,show Xo.length=3 from rfl]
  unfold Nj
  rw[show List.range 3=[0,1,2] from rfl]
  simp[inP,Xo]
  omega
 unfold Xq
 rw[if_pos (by rw[slB_len];rfl),if_pos hr]
theorem slB_val{x:Nat×Nat×Nat}(h0:1≤x.1)(h1:x.1≤14399)(h2:x.2.1≤960)(h3:x.2.2≤960):Xy Xo (slB x)=[x.1,x.2.1,x.2.2]:=by
 unfold Xy
 rw[if_pos (slB_ok h0 h1 h2 h3),Zfp h1 h2 h3]
theorem Re{l:List Int}(h:l.length≤960):Zh (Jb l) 0 4=l.length:=by
 have h2:=Ld (a:=[]) (b:=(List.range 240).map (g4B l l.length)) (m:=l.length) (w:=4) (by omega)
 simpa [Jb,Ww] using h2
theorem Oh(l:List Int)(j:Nat):atI l l.length j=l.getD j 0:=by
 unfold atI
 split
 ·rfl
 ·simp[List.getD,Nat.le_of_not_lt (by assumption)]
theorem Zfo{l:List Int}(h:Hj l){i:Nat}(hi:i<960):(Sv (Jb l) i:Int)=l.getD i 0:=by
 unfold Sv
 rw[show(Jb l).getD (4+i/4) 0=g4B l l.length (i/4) from Zfs l l.length (by omega)]
 have b0:=Vj h (4*(i/4))
 have b1:=Vj h (4*(i/4)+1)
 have b2:=Vj h (4*(i/4)+2)
 have b3:=Vj h (4*(i/4)+3)
 unfold g4B g4
 rw[Oh,Oh,Oh,Oh,UInt8.toNat_ofNat']
 obtain e|e|e|e:i%4=0∨i%4=1∨i%4=2∨i%4=3:=by omega
 ·rw[show l.getD i 0=l.getD (4*(i/4)) 0 by rw[show 4*(i/4)=i by omega],e,show 2 ^ (0*2)=1 from rfl];omega
 ·rw[show l.getD i 0=l.getD (4*(i/4)+1) 0 by rw[show 4*(i/4)+1=i by omega],e,show 2 ^ (1*2)=4 from rfl];omega
 ·rw[show l.getD i 0=l.getD (4*(i/4)+2) 0 by rw[show 4*(i/4)+2=i by omega],e,show 2 ^ (2*2)=16 from rfl];omega
 ·rw[show l.getD i 0=l.getD (4*(i/4)+3) 0 by rw[show 4*(i/4)+3=i by omega],e,show 2 ^ (3*2)=64 from rfl];omega
theorem bitsB_ok{l:List Int}(h:Hj l)(hl:l.length≤960):Ue (Jb l)=true:=by
 rw[Js]
 refine⟨Kk _ _,by rw[Re hl];exact hl,fun i hi hc=>?_⟩
 rw[Re hl] at hc
 have:=Zfo h hi
 rw[show l.getD i 0=0 from by simp[List.getD,hc]] at this
 omega
theorem putB_ge(l x:List UInt8)(k:Nat):l.length≤(Kf l k x).length:=by simp[Kf];omega
theorem Zg2(L:List (List Int))(q:Nat)(bs:List UInt8):∀ i,bs.length≤(Jf L q bs i).length
 | 0=>Nat.le_refl _
 | i+1=>Nat.le_trans (Zg2 L q bs i) (putB_ge _ _ _)
theorem Zbk{L:List (List Int)}{q m:Nat}{bs:List UInt8}:∀ {n i:Nat},(Jf L q bs n).length/256=m→bs.length/256=m→q+n≤m→i<n→Vy (Jf L q bs n) (q+i)=Yp 3 ((q+i:Nat):Int) (Jb (L.getD i []))
 | 0,i,_,_,_,hi=>absurd hi (by omega)
 | n+1,i,h,hb,hm,hi=>by
  have h1:=Zg2 L q bs n
  have h2:=putB_ge (Jf L q bs n) (Yp 3 ((q+n:Nat):Int) (Jb (L.getD n []))) ((q+n)*256)
  have h0:(Jf L q bs n).length/256=m:=by
   have h3:(Kf (Jf L q bs n) ((q+n)*256) (Yp 3 ((q+n:Nat):Int) (Jb (L.getD n [])))).length/256=m:=h
   have h4:=Nat.div_le_div_right (c:=256) h1
   have h5:=Nat.div_le_div_right (c:=256) h2
   omega
  have hx:(Yp 3 ((q+n:Nat):Int) (Jb (L.getD n []))).length=256:=Kx (by unfold Jb;rw[Kk];decide)
  show Vy (Kf (Jf L q bs n) ((q+n)*256) (Yp 3 ((q+n:Nat):Int) (Jb (L.getD n [])))) (q+i)=_
  by_cases e:i=n
  ·subst e;exact Zf1 hx (by omega)
  ·rw[Uf hx (by omega) (by omega) (by omega)]
   exact Zbk h0 hb (by omega) (by omega)
theorem seal_in{l:List UInt8}{kind:Int}{k:Nat}{li:List UInt8}(h1:1≤kind)(h2:kind≤4)(hk:k<l.length/256)(h4:k<14400)(hli:li.length=244)(hb:Vy l k=Yp kind (k:Int) li):inE l kind (k:Int)=0∧inB l (k:Int)=li:=by
 constructor
 ·rw[Of rfl rfl hk,hb];exact Zcy h1 h2 (by omega) (by omega) (by omega)
 ·rw[Iz rfl,hb,in_seal (by omega)];unfold Zbg;rw[hli,Nat.sub_self];simp
theorem getD_app{P Q:List UInt8}{k i:Nat}(hk:P.length=k):(P++Q).getD (k+i) 0=Q.getD i 0:=by
 subst hk
 simp[List.getD,List.getElem?_append_right]
theorem getD_hd{P Q:List UInt8}{i:Nat}(hi:i<P.length):(P++Q).getD i 0=P.getD i 0:=by
 simp[List.getD,List.getElem?_append_left hi]
theorem Gx{P Q:List UInt8}{k w:Nat}{x:Int}(hk:P.length=k)(h0:0≤x)(hb:x.toNat<256 ^ w):(Zh (P++(leB x w++Q)) k w:Int)=x:=by
 rw[Wb w k x.toNat,Nat.mod_eq_of_lt hb]
 ·omega
 ·intro i hi
  rw[getD_app hk,getD_hd (by rw[Zo];exact hi)]
  simp[leB,Xa,List.getD,List.getElem?_range hi]
theorem Oy{P Q:List UInt8}{k:Nat}(hk:P.length=k):(P++Q).drop k=Q:=List.drop_left' hk
theorem Zbz(n m:Nat):Vc ((List.replicate n (0:UInt8)).take m)=true:=by
 unfold Vc;rw[List.all_eq_true]
 intro x hx
 have:=List.mem_of_mem_take hx
 rw[(List.mem_replicate.1 this).2];rfl
theorem Ro(K:List Int)(n j:Nat):∀ d,∃ X,Qq K n (j+d)=Qq K n j++X
 | 0=>⟨[],by simp⟩
 | d+1=>by
  obtain⟨X,hX⟩:=Ro K n j d
  exact⟨_,by rw[←Nat.add_assoc,Kp,hX,List.append_assoc]⟩
theorem Ra(Vs:List (List UInt8))(j:Nat):∀ d,∃ X,Vz Vs (j+d)=Vz Vs j++X
 | 0=>⟨[],by simp⟩
 | d+1=>by
  obtain⟨X,hX⟩:=Ra Vs j d
  exact⟨_,by rw[←Nat.add_assoc,Wk,hX,List.append_assoc]⟩
theorem Cy{l:List UInt8}:∀ {n:Nat},(∀ i,i<n→Nt l i=0)→Yd l n=0
 | 0,_=>rfl
 | n+1,h=>Vh (Cy fun i hi=>h i (by omega)) (h n (by omega))
theorem getD_ext{l l':List Int}(h:l.length=l'.length)(h2:∀ j,j<l.length→l.getD j 0=l'.getD j 0):l=l':=by
 apply List.ext_getElem h
 intro j h3 h4
 have:=h2 j h3
 simpa [List.getD,h3,h4] using this
theorem getD_extV{l l':List (List UInt8)}(h:l.length=l'.length)(h2:∀ j,j<l.length→l.getD j []=l'.getD j []):l=l':=by
 apply List.ext_getElem h
 intro j h3 h4
 have:=h2 j h3
 simpa [List.getD,h3,h4] using this
structure NodBack(b:List UInt8)(t:Int)(leaf:Bool)(n m v:Nat)(K:List Int)(Vs:List (List UInt8)):Prop where
 len:b.length=244
 e:Yv b=0
 t:Xr b=t
 l:Xl b=leaf
 c:Zn b=n
 k:Yx b n=K
 v:Kw b n=Vs
theorem Ox{t:Int}{leaf:Bool}{n m v:Nat}{K:List Int}{Vs:List (List UInt8)}(N:NodeOk t leaf n m v K Vs):NodBack (Gq m v (Jg t leaf n m v) K Vs n) t leaf n m v K Vs:=by
 have hmb:=Qg t leaf
 rw[N.hm] at hmb
 have hwb:=Rn t leaf
 rw[N.hv] at hwb
 have hfit:=fitN t leaf
 rw[N.hm,N.hv] at hfit
 have ht1:=N.ht1
 have ht2:=N.ht2
 have hnm:=N.hn
 have hform:=Tu (H:=Jg t leaf n m v) (K:=K) (Vs:=Vs) (Ku _ _ _ _ _) hfit hnm (fun j hj=>N.hw j hj)
 have hlen:=Su (H:=Jg t leaf n m v) (K:=K) (Vs:=Vs) (Ku _ _ _ _ _) hfit hnm (fun j hj=>N.hw j hj)
 generalize Gq m v (Jg t leaf n m v) K Vs n=b at hform hlen
 obtain⟨R,hR⟩:∃ R,b=Jg t leaf n m v++R:=⟨_,by rw[hform,List.append_assoc,List.append_assoc]⟩
 have hfl:=Zau leaf
 have r0:(Zh b 0 1:Int)=Wu leaf:=by
  rw[hR,Jg];simp only[List.append_assoc]
  exact Gx (P:=[]) (k:=0) (w:=1) (x:=Wu leaf) rfl hfl.1 (Nat.lt_of_le_of_lt (show(Wu leaf).toNat≤255 by omega) (by decide))
 have r1:(Zh b 1 1:Int)=t:=by
  rw[hR,Jg];simp only[List.append_assoc]
  exact Gx (P:=leB (Wu leaf) 1) (by rw[Zo]) (by omega) (by omega)
 have r2:(Zh b 2 2:Int)=(n:Int):=by
  rw[hR,Jg];simp only[List.append_assoc]
  rw[←List.append_assoc]
  exact Gx (P:=leB (Wu leaf) 1++leB t 1) (by simp[Zo]) (by omega) (by omega)
 have r4:(Zh b 4 2:Int)=(v:Int):=by
  rw[hR,Jg];simp only[List.append_assoc]
  rw[←List.append_assoc,←List.append_assoc]
  exact Gx (P:=leB (Wu leaf) 1++leB t 1++leB (n:Int) 2) (by simp[Zo]) (by omega) (by omega)
 have r6:(Zh b 6 2:Int)=(m:Int):=by
  rw[hR,Jg];simp only[List.append_assoc]
  rw[←List.append_assoc,←List.append_assoc,←List.append_assoc]
  exact Gx (P:=leB (Wu leaf) 1++leB t 1++leB (n:Int) 2++leB (v:Int) 2) (by simp[Zo]) (by omega) (by omega)
 have r8:(Zh b 8 4:Int)=0:=by
  rw[hR,Jg];simp only[List.append_assoc]
  rw[←List.append_assoc,←List.append_assoc,←List.append_assoc,←List.append_assoc]
  exact Gx (P:=leB (Wu leaf) 1++leB t 1++leB (n:Int) 2++leB (v:Int) 2++leB (m:Int) 2) (by simp[Zo]) (by omega) (by decide)
 have eT:Xr b=t:=r1
 have eL:Xl b=leaf:=by
  unfold Xl;rw[r0];cases leaf<;>rfl
 have eC:Zn b=n:=by unfold Zn;omega
 have eW:Xi b=v:=by unfold Xi;rw[eT,eL,widG,if_pos ⟨ht1,ht2⟩];exact N.hv
 have eM:Xj b=m:=by unfold Xj;rw[eT,eL,maxG,if_pos ⟨ht1,ht2⟩];exact N.hm
 have hkey:∀ i,i<n→(Dz b i:Int)=K.getD i 0:=by
  intro i hi
  obtain⟨X,hX⟩:=Ro K n (i+1) (m-(i+1))
  rw[show i+1+(m-(i+1))=m by omega,Kp,if_pos hi] at hX
  unfold Dz
  rw[hform,hX]
  have hk:=N.hk0 i hi
  have:=Gx (P:=Jg t leaf n m v++Qq K n i) (Q:=X++(Vz Vs n++List.replicate (232-m*8-n*v) 0)) (k:=12+i*8) (w:=8) (x:=K.getD i 0) (by rw[List.length_append,Ku,Hv]) hk.1 (Nat.lt_of_le_of_lt (show(K.getD i 0).toNat≤281474976710655 by omega) (by decide))
  simp only[List.append_assoc] at this ⊢
  exact this
 have hval:∀ i,i<n→Dx b i=Vs.getD i []:=by
  intro i hi
  obtain⟨X,hX⟩:=Ra Vs (i+1) (n-(i+1))
  rw[show i+1+(n-(i+1))=n by omega,Wk] at hX
  have hvl:(Vz Vs i).length=i*v:=Pp fun j hj=>N.hw j (by omega)
  unfold Dx
  rw[eM,eW,hform,hX]
  have:=Oy (P:=Jg t leaf n m v++Qq K n m++Vz Vs i) (Q:=Vs.getD i []++(X++List.replicate (232-m*8-n*v) 0)) (k:=12+m*8+i*v) (by rw[List.length_append,List.length_append,Ku,Hv,hvl])
  simp only[List.append_assoc] at this ⊢
  rw[this]
  exact List.take_left' (N.hw i hi)
 have hmv:n*v≤m*v:=Nat.mul_le_mul_right v hnm
 refine⟨hlen,?_,eT,eL,eC,?_,?_⟩
 ·have hs:Kg b=true:=by
   unfold Kg
   rw[eW,eM]
   refine decide_eq_true ⟨?_,by omega,by omega,by omega,by omega,by omega,?_⟩
   ·cases leaf<;>simp only[Wu] at r0<;>simp at r0<;>omega
   ·cases leaf with
    | true=>left;simp only[Wu] at r0;simp at r0;omega
    | false=>right;have:=N.hl rfl;omega
  have hz:Lh b=true:=by
   unfold Lh Fn Zbp Fk
   rw[eC,eM,eW,Bool.and_eq_true]
   constructor
   ·have hk:=Gm K n (m-n)
    rw[show n+(m-n)=m by omega] at hk
    have:=Oy (P:=Jg t leaf n m v++Qq K n n) (Q:=List.replicate ((m-n)*8) 0++(Vz Vs n++List.replicate (232-m*8-n*v) 0)) (k:=12+n*8) (by rw[List.length_append,Ku,Hv])
    rw[hform,hk]
    simp only[List.append_assoc] at this ⊢
    rw[this,List.take_append_of_le_length (by rw[List.length_replicate];omega)]
    exact Zbz _ _
   ·have hvl:(Vz Vs n).length=n*v:=Pp fun j hj=>N.hw j hj
    have:=Oy (P:=Jg t leaf n m v++Qq K n m++Vz Vs n) (Q:=List.replicate (232-m*8-n*v) 0) (k:=12+m*8+n*v) (by rw[List.length_append,List.length_append,Ku,Hv,hvl])
    rw[hform,this]
    exact Zbz _ _
  unfold Yv
  rw[if_pos hs,if_pos hz,eC]
  refine Cy fun i hi=>?_
  have h1:=hkey i hi
  have h2:=N.hk0 i hi
  unfold Nt
  rw[if_neg (by omega),if_neg ?_]
  rintro⟨h3,h4⟩
  have h5:=hkey (i-1) (by omega)
  have h6:=N.hk1 (i-1) (by omega)
  rw[show i-1+1=i by omega] at h6
  omega
 ·exact getD_ext (by rw[Yr,N.hK]) fun j hj=>by rw[Yr] at hj;rw[Mz b hj];exact hkey j hj
 ·exact getD_extV (by rw[Vo,N.hV]) fun j hj=>by rw[Vo] at hj;rw[Zc4 b hj];exact hval j hj
theorem Zgg{t:Int}{leaf:Bool}{n m v:Nat}{K:List Int}{Vs:List (List UInt8)}(N:NodeOk t leaf n m v K Vs){l:List UInt8}{j len:Nat}(hl:l.length=len)(hj:j<len/256)(h4:j<14400)(hb:Vy l j=Yp 2 (j:Int) (Gq m v (Jg t leaf n m v) K Vs n))(tree:Int)(ht:tree=0∨t=tree) :
 Xc l (j:Int) tree=0∧inB l (j:Int)=Gq m v (Jg t leaf n m v) K Vs n:=by
 have B:=Ox N
 have hin:inB l (j:Int)=Gq m v (Jg t leaf n m v) K Vs n:=by
  rw[Iz (no:=(j:Int)) (j:=j) rfl,hb,in_seal (by rw[B.len];decide)]
  unfold Zbg;rw[B.len];simp
 refine⟨?_,hin⟩
 unfold Xc
 rw[Of (no:=(j:Int)) (j:=j) hl rfl hj,hb,if_pos (Zcy (by decide) (by decide) (by omega) (by omega) (by rw[B.len];decide)),hin]
 unfold Qp
 rw[if_pos B.e,if_pos (by rw[B.t];exact ht)]
theorem root_leB{q:Nat}(h1:1≤q)(h2:q≤14399):Yw (leB (q:Int) 4)=0∧(Kc (leB (q:Int) 4):Int)=(q:Int):=by
 have hr:(Zh (leB (q:Int) 4) 0 4:Int)=(q:Int):=by
  have:=Gx (P:=[]) (Q:=[]) (k:=0) (w:=4) (x:=(q:Int)) rfl (by omega) (Nat.lt_of_le_of_lt (show(q:Int).toNat≤14399 by omega) (by decide))
  simpa using this
 have he:Yw (leB (q:Int) 4)=0:=by
  unfold Yw;rw[if_pos (Zo _ _),if_pos (by omega)]
 exact⟨he,by unfold Kc;rw[if_pos he];exact hr⟩
def kvE (x:Ent):Int×List UInt8:=(x.1,x.2.1)
def LaidF(F:List UInt8)(t:Int)(leaf:Bool)(m v:Nat)(u:List Ent)(q:Nat):Prop :=
 ∀ i,i<ovN u.length m→Vy F (q+i)=Yp 2 ((q+i:Nat):Int) (nodB t leaf m v (Xe u m i))
theorem Pm{t:Int}{leaf:Bool}{m v:Nat}{l:List Ent}{q:Nat}{bs:List UInt8}(j:Nat):Pu t leaf m v l q bs (j+1)=Kf (Pu t leaf m v l q bs j) ((q+j)*256) (Yp 2 ((q+j:Nat):Int) (nodB t leaf m v (Xe l m j))):=rfl
theorem Kb{t:Int}{leaf:Bool}{m v:Nat}{l:List Ent}{q:Nat}{bs:List UInt8}(E:EntsOk v l)(h1:1≤t)(h2:t≤5)(hm:Ki t leaf=m)(hv:Uk t leaf=v)(hl:leaf=false→1≤l.length)(j:Nat) :
 j≤ovN l.length m→(q+j)*256≤bs.length→(Pu t leaf m v l q bs j).length=bs.length∧(∀ i,i<j→Vy (Pu t leaf m v l q bs j) (q+i)=Yp 2 ((q+i:Nat):Int) (nodB t leaf m v (Xe l m i)))∧(∀ x,x<q→Vy (Pu t leaf m v l q bs j) x=Vy bs x):=by
 induction j with
 | zero=>exact fun _ _=>⟨rfl,fun i hi=>absurd hi (Nat.not_lt_zero i),fun x _=>rfl⟩
 | succ j ih =>
  intro hj hq
  obtain⟨a1,a2,a3⟩:=ih (by omega) (by omega)
  have hlen:=Eo (Px E h1 h2 hm hv hl (show j<ovN l.length m by omega))
  have hsl:(Yp 2 ((q+j:Nat):Int) (nodB t leaf m v (Xe l m j))).length=256:=Kx (by rw[hlen];decide)
  rw[Pm]
  generalize Pu t leaf m v l q bs j=y at a1 a2 a3 ⊢
  generalize hx:Yp 2 ((q+j:Nat):Int) (nodB t leaf m v (Xe l m j))=x at hsl ⊢
  have hk:q+j<y.length/256:=by rw[a1];omega
  refine⟨?_,fun i hi=>?_,fun z hz=>?_⟩
  ·rw[Qf (by rw[hsl,a1];omega),a1]
  ·by_cases e:i=j
   ·subst e;rw[hx];exact Zf1 hsl hk
   ·rw[Uf hsl hk (by omega) (by omega)];exact a2 i (by omega)
  ·rw[Uf hsl hk (by omega) (by omega)];exact a3 z hz
theorem Mj{t:Int}(h1:1≤t)(h2:t≤5)(n:Nat):∀ (u:List Ent) (q:Nat) (bs:List UInt8),u.length=n→1≤n→EntsOk 4 u→(q+((Gp n).sum-n))*256≤bs.length→(Vi t u q bs).2.length=bs.length∧∀ x,x<q→Vy (Vi t u q bs).2 x=Vy bs x:=by
 induction n using Nat.strongRecOn with
 | _ n ih =>
  intro u q bs hn h1n E hq
  subst hn
  by_cases h:u.length≤1
  ·rw[Jp h];exact⟨rfl,fun _ _=>rfl⟩
  ·have h18:=ov18 (x:=u.length) (by omega)
   have hp:=Qd u.length 18
   have hlm:(Gp u.length).sum=u.length+(Gp (ovN u.length 18)).sum:=by rw[Kj h];rfl
   have hg:=Jm (ovN u.length 18)
   rw[Vm h]
   obtain⟨a1,a2,a3⟩:=Kb (t:=t) (leaf:=false) (m:=18) (v:=4) (l:=u) (q:=q) (bs:=bs) E h1 h2 rfl rfl (fun _=>by omega) (ovN u.length 18) (Nat.le_refl _) (by omega)
   obtain⟨b1,b2⟩:=ih (ovN u.length 18) (by omega) (upE u 18 q (ovN u.length 18)) (q+ovN u.length 18) (Pu t false 18 4 u q bs (ovN u.length 18)) (Ya _ _ _ _) hp (Ed E (by decide)) (by rw[a1];omega)
   exact⟨by rw[b1,a1],fun x hx=>by rw[b2 x (by omega),a3 x hx]⟩
theorem Fp{t:Int}{leaf:Bool}{n m v:Nat}{K:List Int}{Vs:List (List UInt8)}(N:NodeOk t leaf n m v K Vs):Kt K:=by
 intro k hk hk1
 rw[N.hK] at hk
 have:=N.hk1 (k-1) (by omega)
 rw[show k-1+1=k by omega] at this
 simpa [List.getD] using this
theorem look_ok{F:List UInt8}{way:List Int}{no t lo hi deep:Int}(hw:way.length<16)(hway:∀ y∈way,no≠y)(he:Xc F no t=0)(hr:Qn lo hi=true)(hs:Kt (Xs F no))(hk:∀ x∈Xs F no,lo≤x∧x<hi)
 (hd:Xl (inB F no)=true→deep=0∨deep=((way.length+1:Nat):Int)):Zx F way no t lo hi deep=0:=by
 have hf:Ys lo hi (Xs F no)=0:=by unfold Ys;rw[if_pos hr,if_pos hs,if_pos hk]
 have hh:Va way no=false:=by
  unfold Va;rw[List.any_eq_false]
  intro y hy
  simpa using hway y hy
 unfold Zx
 rw[if_neg (by rw[hh];simp),if_neg (by omega),if_neg (by rw[he];simp)]
 unfold Xs at hf
 rw[if_neg (by rw[hf];simp),if_neg (by rintro⟨a,b,c⟩;rcases hd a with h|h;exact b h;exact c h)]
structure Lev(F:List UInt8)(t fuel:Int)(h n base:Nat)(X:Nat→List (Int×List UInt8))(C:Nat→Nat):Prop where
 one:∀ i,i<n→1≤C i
 go:∀ i,i<n→∀ (d:Nat) (way:List Int) (lo hi:Int) (s:WS),h+1≤d→way.length+h+1≤16→(∀ y∈way,((base+n:Nat):Int)≤y)→Qn lo hi=true→(∀ x∈X i,lo≤x.1∧x.1<hi)→s.dry=false→((s.looked+C i:Nat):Int)≤fuel→(s.deep=0∨s.deep=((way.length+h+1:Nat):Int)) →
  ∃ (es:List Ent) (bl:List Int),es.map kvE=X i∧bl.length=C i∧Zz F t fuel d way ((base+i:Nat):Int) lo hi s={ s with es:=s.es++es,bs:=s.bs++bl,deep:=((way.length+h+1:Nat):Int),looked:=s.looked+C i }
theorem leaf_kv{c:List Ent}{no:Int}:(Ks (Qz c) (Je c) no c.length).map kvE=c.map kvE:=by
 unfold Ks
 apply List.ext_getElem?
 intro j
 by_cases h:j<c.length
 ·simp[Qz,Je,kvE,List.getD,h]
 ·rw[List.getElem?_eq_none (by simp;omega),List.getElem?_eq_none (by simp;omega)]
theorem lev_leaf{F:List UInt8}{t fuel:Int}{l:List Ent}{base len m v:Nat}(hm:Ki t true=m)(hv:Uk t true=v)(E:EntsOk v l)(h1:1≤t)(h2:t≤5)(hF:LaidF F t true m v l base)(hl:F.length=len)(hb:(base+ovN l.length m)*256≤len)(h4:base+ovN l.length m≤14400) :
  Lev F t fuel 0 (ovN l.length m) base (fun i=>(Xe l m i).map kvE) (fun _=>1) where
 one _ _:=Nat.le_refl _
 go i hi d way lo hi' s hd hw hway hr hX hdry hfu hdeep:=by
  obtain⟨d',rfl⟩:∃ d',d=d'+1:=⟨d-1,by omega⟩
  have N:=Px E h1 h2 hm hv (fun h=>by cases h) hi
  have B:=Ox N
  obtain⟨he,hin⟩:=Zgg N hl (by omega) (by omega) (hF i hi) t (.inr rfl)
  have hC:Zn (inB F ((base+i:Nat):Int))=(Xe l m i).length:=by rw[hin];exact B.c
  have hK:Xs F ((base+i:Nat):Int)=Qz (Xe l m i):=by unfold Xs;rw[hC,hin];exact B.k
  have hV:Vb F ((base+i:Nat):Int)=Je (Xe l m i):=by unfold Vb;rw[hC,hin];exact B.v
  have hL:Xl (inB F ((base+i:Nat):Int))=true:=by rw[hin];exact B.l
  have hk:∀ x∈Qz (Xe l m i),lo≤x∧x<hi':=by
   intro x hx
   obtain⟨y,hy,rfl⟩:=List.mem_map.1 hx
   exact hX (kvE y) (List.mem_map.2 ⟨y,hy,rfl⟩)
  have hlook:Zx F way ((base+i:Nat):Int) t lo hi' s.deep=0:=look_ok (by omega) (fun y hy=>by have:=hway y hy;omega) he hr (by rw[hK];exact Fp N) (by rw[hK];exact hk) fun _=>hdeep
  refine⟨Ks (Qz (Xe l m i)) (Je (Xe l m i)) ((base+i:Nat):Int) (Xe l m i).length,[((base+i:Nat):Int)],leaf_kv,rfl,?_⟩
  unfold Zz
  rw[if_neg (by omega),if_neg (by rw[hlook];simp),if_pos hL,hC,hK,hV]
theorem sum_rng_le{f:Nat→Nat}{a b:Nat}(h:a≤b):((List.range a).map f).sum≤((List.range b).map f).sum:=by
 obtain⟨d,rfl⟩:∃ d,b=a+d:=⟨b-a,by omega⟩
 rw[List.range_add,List.map_append,List.sum_append];omega
theorem part_snd{hi:Int}{K:List Int}{k:Nat}(hk:k<K.length):(k+1<K.length∧(Xb hi K k).2=K.getD (k+1) 0)∨(k+1=K.length∧(Xb hi K k).2=hi):=by
 by_cases q:k+1<K.length
 ·left;exact⟨q,by simp[Xb,List.getD,q]⟩
 ·right;exact⟨by omega,by simp only[Xb];rw[List.getElem?_eq_none (by omega)];rfl⟩
theorem lev_loop{F:List UInt8}{t fuel:Int}{h n base:Nat}{X:Nat→List (Int×List UInt8)}{C:Nat→Nat}(L:Lev F t fuel h n base X C){way:List Int}{no hi':Int}{s0:WS}{z a d':Nat}(K:List Int)(hK:Xs F no=K)(hKl:K.length=z)(hidx:a+z≤n)
  (hval:∀ k,k<z→(Vb F no).getD k []=leB ((base+(a+k):Nat):Int) 4) (hkk:∀ k,k<z→∃ v r,X (a+k)=(K.getD k 0,v)::r) (hs:∀ a b,a<b→b<n→∀ x∈X a,∀ y∈X b,x.1<y.1) (hs1:∀ a,a<n→(X a).Pairwise fun x y=>x.1<y.1)
  (hk0:∀ k,k<z→0≤K.getD k 0∧K.getD k 0<hi') (hk1:∀ k,k+1<z→K.getD k 0<K.getD (k+1) 0) (hX2:∀ k,k<z→∀ x∈X (a+k),x.1<hi') (hhi:hi'≤281474976710656) (hb1:1≤base) (h4:base+n≤14400) (hd:h+1≤d') (hw:way.length+1+h+1≤16) (hway:∀ y∈way,((base+n:Nat):Int)≤y) (hno:((base+n:Nat):Int)≤no)
  (hdry:s0.dry=false) (hdeep:s0.deep=0∨s0.deep=((way.length+(h+1)+1:Nat):Int)) (hfu:((s0.looked+((List.range z).map fun j=>C (a+j)).sum:Nat):Int)≤fuel) (k:Nat) :
  k≤z→∃ (es:List Ent) (bl:List Int),es.map kvE=((List.range k).flatMap fun j=>X (a+j))∧bl.length=((List.range k).map fun j=>C (a+j)).sum ∧
    Yj (Zz F t fuel d') F way no hi' k s0={ s0 with es:=s0.es++es,bs:=s0.bs++bl,deep:=if k=0 then s0.deep else((way.length+(h+1)+1:Nat):Int),looked:=s0.looked+((List.range k).map fun j=>C (a+j)).sum }:=by
 induction k with
 | zero=>exact fun _=>⟨[],[],rfl,rfl,by simp[Yj]⟩
 | succ k ih =>
  intro hk1z
  obtain⟨es,bl,e1,e2,e3⟩:=ih (by omega)
  have hkl:k<z:=by omega
  obtain⟨r1,r2⟩:=root_leB (q:=base+(a+k)) (by omega) (by omega)
  have hp1:(Xb hi' (Xs F no) k).1=K.getD k 0:=by rw[hK];rfl
  have hp2:=part_snd (hi:=hi') (K:=K) (k:=k) (by omega)
  rw[←hK] at hp2
  have hx1:∀ x∈X (a+k),K.getD k 0≤x.1:=by
   intro x hx
   obtain⟨v,r,hv⟩:=hkk k hkl
   have hpw:=hs1 (a+k) (by omega)
   rw[hv] at hx hpw
   rcases List.mem_cons.1 hx with rfl|hx
   ·exact Int.le_refl _
   ·exact Int.le_of_lt ((List.pairwise_cons.1 hpw).1 x hx)
  have hx2:∀ x∈X (a+k),x.1<(Xb hi' (Xs F no) k).2:=by
   intro x hx
   rcases hp2 with ⟨q1,q2⟩|⟨q1,q2⟩
   ·rw[hK] at q1
    obtain⟨v,r,hv⟩:=hkk (k+1) (by omega)
    rw[q2,hK]
    exact hs (a+k) (a+(k+1)) (by omega) (by omega) x hx (K.getD (k+1) 0,v) (by rw[hv];exact List.mem_cons_self)
   ·rw[q2];exact hX2 k hkl x hx
  have hr2:Qn (Xb hi' (Xs F no) k).1 (Xb hi' (Xs F no) k).2=true:=by
   have g0:=hk0 k hkl
   refine decide_eq_true ?_
   rw[hp1]
   rcases hp2 with ⟨q1,q2⟩|⟨q1,q2⟩
   ·rw[hK] at q1
    rw[q2,hK]
    have g1:=hk1 k (by omega)
    have g2:=hk0 (k+1) (by omega)
    omega
   ·rw[q2];omega
  have hsum:=sum_rng_le (f:=fun j=>C (a+j)) (show k+1≤z from hk1z)
  have hsucc:((List.range (k+1)).map fun j=>C (a+j)).sum=((List.range k).map fun j=>C (a+j)).sum+C (a+k):=by rw[List.range_succ,List.map_append,List.sum_append];simp
  rw[hsucc] at hsum
  have hfk:((s0.looked+((List.range k).map fun j=>C (a+j)).sum+C (a+k):Nat):Int)≤fuel:=by omega
  have hwl:(way++[no]).length=way.length+1:=by simp
  obtain⟨es2,bl2,g1,g2,g3⟩:=L.go (a+k) (by omega) d' (way++[no]) (Xb hi' (Xs F no) k).1 (Xb hi' (Xs F no) k).2 { s0 with es:=s0.es++es,bs:=s0.bs++bl,deep:=if k=0 then s0.deep else((way.length+(h+1)+1:Nat):Int),looked:=s0.looked+((List.range k).map fun j=>C (a+j)).sum } hd (by rw[hwl];omega) (by
    intro y hy
    rcases List.mem_append.1 hy with q|q
    ·exact hway y q
    ·rw[List.mem_singleton.1 q];exact hno) hr2 (fun x hx=>⟨by rw[hp1];exact hx1 x hx,hx2 x hx⟩) hdry hfk (by
    rw[hwl,show way.length+1+h+1=way.length+(h+1)+1 by omega]
    by_cases q:k=0
    ·rcases hdeep with d|d
     ·exact .inl (by show(if k=0 then s0.deep else _)=0;rw[if_pos q];exact d)
     ·exact .inr (by show(if k=0 then s0.deep else _)=_;rw[if_pos q];exact d)
    ·exact .inr (by show(if k=0 then s0.deep else _)=_;rw[if_neg q]))
  refine⟨es++es2,bl++bl2,?_,?_,?_⟩
  ·rw[List.map_append,e1,g1,List.range_succ,List.flatMap_append];simp
  ·rw[List.length_append,e2,g2,hsucc]
  ·rw[Wc,e3]
   unfold Np
   rw[if_neg (by rw[hdry];simp)]
   unfold Jj
   rw[hval k hkl,if_pos r1,r2,g3,hsucc,if_neg (Nat.succ_ne_zero k),hwl,show way.length+1+h+1=way.length+(h+1)+1 by omega,List.append_assoc,List.append_assoc]
   simp only[WS.mk.injEq,true_and,and_true]
   omega
theorem lev_inner{F:List UInt8}{t fuel:Int}{h n base len:Nat}{X:Nat→List (Int×List UInt8)}{C:Nat→Nat}{u:List Ent}(L:Lev F t fuel h n base X C)(hn:u.length=n)(hu:∀ k,k<n→(u.getD k Xp).2.1=leB ((base+k:Nat):Int) 4)(hh:∀ k,k<n→∃ v r,X k=((u.getD k Xp).1,v)::r)
  (hs:∀ a b,a<b→b<n→∀ x∈X a,∀ y∈X b,x.1<y.1) (hs1:∀ a,a<n→(X a).Pairwise fun x y=>x.1<y.1) (E:EntsOk 4 u) (h1:1≤t) (h2:t≤5) (hn1:1≤n) (hb1:1≤base) (hF:LaidF F t false 18 4 u (base+n)) (hl:F.length=len) (hb:(base+n+ovN n 18)*256≤len) (h4:base+n+ovN n 18≤14400) :
  Lev F t fuel (h+1) (ovN n 18) (base+n) (fun i=>(List.range (Qc n 18 i)).flatMap fun j=>X (i*18+j)) (fun i=>1+((List.range (Qc n 18 i)).map fun j=>C (i*18+j)).sum) where
 one _ _:=Nat.le_add_right _ _
 go i hi d way lo hi' s hd hw hway hr hX hdry hfu hdeep:=by
  subst hn
  obtain⟨d',rfl⟩:∃ d',d=d'+1:=⟨d-1,by omega⟩
  have N:=Px E h1 h2 (leaf:=false) (m:=18) (v:=4) rfl rfl (fun _=>hn1) hi
  have B:=Ox N
  obtain⟨he,hin⟩:=Zgg N hl (by omega) (by omega) (hF i hi) t (.inr rfl)
  have hilt:=Zf5 (m:=18) (by decide) hn1 hi
  have hzl:=Jw u 18 i
  have hget:∀ j,j<Qc u.length 18 i→(Xe u 18 i).getD j Xp=u.getD (i*18+j) Xp:=fun j hj=>Hb hj
  have hz1:1≤Qc u.length 18 i:=by unfold Qc;omega
  have hz2:i*18+Qc u.length 18 i≤u.length:=by unfold Qc;omega
  replace hX:∀ x∈(List.range (Qc u.length 18 i)).flatMap (fun j=>X (i*18+j)),lo≤x.1∧x.1<hi':=hX
  replace hfu:((s.looked+(1+((List.range (Qc u.length 18 i)).map fun j=>C (i*18+j)).sum):Nat):Int)≤fuel:=hfu
  show ∃ (es:List Ent) (bl:List Int),es.map kvE=(List.range (Qc u.length 18 i)).flatMap (fun j=>X (i*18+j))∧bl.length=1+((List.range (Qc u.length 18 i)).map fun j=>C (i*18+j)).sum∧Zz F t fuel (d'+1) way ((base+u.length+i:Nat):Int) lo hi' s={ s with es:=s.es++es,bs:=s.bs++bl,deep:=((way.length+(h+1)+1:Nat):Int),looked:=s.looked+(1+((List.range (Qc u.length 18 i)).map fun j=>C (i*18+j)).sum) }
  generalize Qc u.length 18 i=z at hzl hget hz1 hz2 hX hfu ⊢
  obtain⟨no,hno⟩:∃ no:Int,no=((base+u.length+i:Nat):Int):=⟨_,rfl⟩
  rw[←hno] at he hin ⊢
  have hC:Zn (inB F no)=(Xe u 18 i).length:=by rw[hin];exact B.c
  have hK:Xs F no=Qz (Xe u 18 i):=by unfold Xs;rw[hC,hin];exact B.k
  have hV:Vb F no=Je (Xe u 18 i):=by unfold Vb;rw[hC,hin];exact B.v
  have hL:Xl (inB F no)=false:=by rw[hin];exact B.l
  have hKl:(Qz (Xe u 18 i)).length=z:=by rw[Pl,hzl]
  have hVl:(Je (Xe u 18 i)).length=z:=by rw[Fm,hzl]
  have key:∀ j,j<z→(Qz (Xe u 18 i)).getD j 0=(u.getD (i*18+j) Xp).1:=fun j hj=>by rw[Rr (by rw[hzl];exact hj),hget j hj]
  have vals:∀ j,j<z→(Je (Xe u 18 i)).getD j []=(u.getD (i*18+j) Xp).2.1:=fun j hj=>by rw[Zb2 (by rw[hzl];exact hj),hget j hj]
  have hkk0:∀ j,j<z→0≤(Qz (Xe u 18 i)).getD j 0∧(Qz (Xe u 18 i)).getD j 0≤281474976710655:=fun j hj=>N.hk0 j (by rw[hzl];exact hj)
  have hkk1:∀ j,j+1<z→(Qz (Xe u 18 i)).getD j 0<(Qz (Xe u 18 i)).getD (j+1) 0:=fun j hj=>N.hk1 j (by rw[hzl];exact hj)
  have hsort:=Fp N
  have hcz:(Xe u 18 i).length=z:=hzl
  generalize Qz (Xe u 18 i)=K at hK hKl key hkk0 hkk1 hsort
  generalize Je (Xe u 18 i)=Vs at hV hVl vals
  rw[hcz] at hC
  have hX2:∀ j,j<z→∀ x∈X (i*18+j),lo≤x.1∧x.1<hi':=fun j hj x hx=>hX x (List.mem_flatMap.2 ⟨j,List.mem_range.2 hj,hx⟩)
  have hhead:∀ j,j<z→∃ v r,X (i*18+j)=(K.getD j 0,v)::r:=fun j hj=>by rw[key j hj];exact hh _ (by omega)
  have hkb:∀ j,j<z→lo≤K.getD j 0∧K.getD j 0<hi':=by
   intro j hj
   obtain⟨v,r,hv⟩:=hhead j hj
   exact hX2 j hj (K.getD j 0,v) (by rw[hv];exact List.mem_cons_self)
  have hk:∀ x∈K,lo≤x∧x<hi':=by
   intro x hx
   obtain⟨j,hj,rfl⟩:=List.mem_iff_getElem.1 hx
   have:=hkb j (by omega)
   simpa [List.getD,hj] using this
  have hrb:=of_decide_eq_true hr
  have hlook:Zx F way no t lo hi' s.deep=0:=look_ok (by omega) (fun y hy=>by have:=hway y hy;omega) he hr (by rw[hK];exact hsort) (by rw[hK];exact hk) fun q=>by rw[hL] at q;cases q
  obtain⟨es,bl,e1,e2,e3⟩:=lev_loop L (way:=way) (no:=no) (hi':=hi') (s0:={ s with looked:=s.looked+1,bs:=s.bs++[no] }) (z:=z) (a:=i*18) (d':=d') K hK hKl hz2
   (fun k hk=>by rw[hV,vals k hk];exact hu _ (by omega)) hhead hs hs1 (fun k hk=>⟨(hkk0 k hk).1,(hkb k hk).2⟩) hkk1 (fun k hk x hx=>(hX2 k hk x hx).2) hrb.2.2 hb1 (by omega) (by omega) (by omega) (fun y hy=>by have:=hway y hy;omega) (by omega) hdry (by rw[show way.length+(h+1)+1=way.length+(h+1)+1 from rfl];exact hdeep) (by simp only;omega) z (Nat.le_refl _)
  refine⟨es,no::bl,e1,by rw[List.length_cons,e2];omega,?_⟩
  unfold Zz
  rw[if_neg (by omega),if_neg (by rw[hlook];simp),if_neg (by rw[hL];simp),hC,e3,if_neg (by omega)]
  simp only[WS.mk.injEq,List.append_assoc,List.singleton_append,true_and,and_true]
  omega
theorem It{n m:Nat}(hm:1≤m)(C:Nat→Nat):∀ j,j≤ovN n m→((List.range j).map fun i=>1+((List.range (Qc n m i)).map fun k=>C (i*m+k)).sum).sum=j+((List.range (min (j*m) n)).map C).sum
 | 0,_=>by simp
 | j+1,hj=>by
  have hle:=Zbb hm (show j<ovN n m by omega)
  have e:min ((j+1)*m) n=j*m+Qc n m j:=by unfold Qc;rw[Nat.add_mul,Nat.one_mul];omega
  rw[List.range_succ,List.map_append,List.sum_append,It hm C j (by omega),e,List.range_add,List.map_append,List.sum_append,Nat.min_eq_left hle]
  simp only[List.map_cons,List.map_nil,List.sum_cons,List.sum_nil,List.map_map]
  have:((List.range (Qc n m j)).map fun k=>C (j*m+k))=(List.range (Qc n m j)).map (C ∘ fun x=>j*m+x):=rfl
  rw[this];omega
theorem Rf{α:Type}{n m:Nat}(hm:1≤m)(X:Nat→List α):∀ j,j≤ovN n m→((List.range j).flatMap fun i=>(List.range (Qc n m i)).flatMap fun k=>X (i*m+k))=(List.range (min (j*m) n)).flatMap X
 | 0,_=>by simp
 | j+1,hj=>by
  have hle:=Zbb hm (show j<ovN n m by omega)
  have e:min ((j+1)*m) n=j*m+Qc n m j:=by unfold Qc;rw[Nat.add_mul,Nat.one_mul];omega
  rw[List.range_succ,List.flatMap_append,Rf hm X j (by omega),e,List.range_add,List.flatMap_append,Nat.min_eq_left hle]
  simp[List.flatMap_map]
theorem ov_all{n m:Nat}(hm:1≤m):min (ovN n m*m) n=n:=by
 have h:=Nat.div_add_mod (n+m-1) m
 have h2:=Nat.mod_lt (n+m-1) (show 0<m by omega)
 have h3:(n+m-1)/m*m≤ovN n m*m:=Nat.mul_le_mul_right m (by unfold ovN;omega)
 rw[Nat.mul_comm] at h
 omega
def Zgz(X:List (Int×List UInt8))(total deep:Nat)(w:WS):Prop:=∃ (es:List Ent) (bl:List Int),es.map kvE=X∧bl.length=total∧w=⟨es,bl,(deep:Int),total,[],false⟩
theorem Zd9{t fuel:Int}(h1:1≤t)(h2:t≤5)(n:Nat):∀ (u:List Ent) (h base:Nat) (bs F:List UInt8) (X:Nat→List (Int×List UInt8)) (C:Nat→Nat),u.length=n→1≤n→EntsOk 4 u→(∀ k,k<n→(u.getD k Xp).2.1=leB ((base+k:Nat):Int) 4∧(u.getD k Xp).2.2=((base+k:Nat):Int)) →
 (2≤n→∀ k,k<n→∃ v r,X k=((u.getD k Xp).1,v)::r)→(∀ a b,a<b→b<n→∀ x∈X a,∀ y∈X b,x.1<y.1)→(∀ a,a<n→(X a).Pairwise fun x y=>x.1<y.1)→F=(Vi t u (base+n) bs).2→1≤base→(base+n+((Gp n).sum-n))*256≤bs.length→base+n+((Gp n).sum-n)≤14400→Lev F t fuel h n base X C→h+(Gp n).length≤16 →
 (∀ k,k<n→∀ x∈X k,0≤x.1∧x.1<281474976710656)→((((List.range n).map C).sum+((Gp n).sum-n):Nat):Int)≤fuel →
 Zgz ((List.range n).flatMap X) (((List.range n).map C).sum+((Gp n).sum-n)) (h+(Gp n).length) (Zj F (Vi t u (base+n) bs).1 t fuel):=by
 induction n using Nat.strongRecOn with
 | _ n ih =>
  intro u h base bs F X C hn hn1 E hu hh hs hs1 hF hb1 hbs h4 L hdep hX hfu
  subst hn
  by_cases h9:u.length≤1
  ·have h10:u.length=1:=by omega
   have hl1:Gp u.length=[1]:=by rw[Jt h9,h10]
   rw[hl1] at hdep hfu ⊢
   rw[h10] at hfu ⊢
   simp only[List.length_cons,List.length_nil,List.sum_cons,List.sum_nil,List.range_one,List.map_cons,List.map_nil,List.flatMap_cons,List.flatMap_nil,List.append_nil,Nat.sub_self,Nat.add_zero] at hdep hfu ⊢
   rw[Jp h9,(hu 0 (by omega)).2]
   obtain⟨es,bl,e1,e2,e3⟩:=L.go 0 (by omega) 17 [] 0 281474976710656 ws0 (by omega) (by simp;omega) (fun y hy=>by cases hy) (by decide) (fun x hx=>hX 0 (by omega) x hx) rfl (by simp only[ws0];omega) (.inl rfl)
   refine⟨es,bl,e1,e2,?_⟩
   unfold Zj
   rw[e3]
   simp[ws0]
  ·have h18:=ov18 (x:=u.length) (by omega)
   have hp:=Qd u.length 18
   have hlm:Gp u.length=u.length::Gp (ovN u.length 18):=Kj h9
   have hg:=Jm (ovN u.length 18)
   rw[hlm] at hbs h4 hdep hfu
   simp only[List.sum_cons,List.length_cons] at hbs h4 hdep hfu
   obtain⟨a1,a2,a3⟩:=Kb (t:=t) (leaf:=false) (m:=18) (v:=4) (l:=u) (q:=base+u.length) (bs:=bs) E h1 h2 rfl rfl (fun _=>by omega) (ovN u.length 18) (Nat.le_refl _) (by omega)
   obtain⟨b1,b2⟩:=Mj (t:=t) h1 h2 (ovN u.length 18) (upE u 18 (base+u.length) (ovN u.length 18)) (base+u.length+ovN u.length 18) (Pu t false 18 4 u (base+u.length) bs (ovN u.length 18)) (Ya _ _ _ _) hp (Ed E (by decide)) (by rw[a1];omega)
   have hF2:F=(Vi t (upE u 18 (base+u.length) (ovN u.length 18)) (base+u.length+ovN u.length 18) (Pu t false 18 4 u (base+u.length) bs (ovN u.length 18))).2:=by rw[hF,Vm h9]
   have hlen:F.length=bs.length:=by rw[hF2,b1,a1]
   have hLaid:LaidF F t false 18 4 u (base+u.length):=by
    intro i hi
    rw[hF2,b2 _ (by omega)];exact a2 i hi
   have L2:=lev_inner L rfl (fun k hk=>(hu k hk).1) (hh (by omega)) hs hs1 E h1 h2 hn1 hb1 hLaid hlen (by omega) (by omega)
   have hsz:∀ i,Qc u.length 18 i=min 18 (u.length-i*18):=fun i=>rfl
   have hsl:∀ i,i<ovN u.length 18→i*18<u.length:=fun i hi=>Zf5 (by decide) hn1 hi
   have hall:=ov_all (n:=u.length) (m:=18) (by decide)
   have hsum:=It (n:=u.length) (m:=18) (by decide) C (ovN u.length 18) (Nat.le_refl _)
   have hflat:=Rf (n:=u.length) (m:=18) (by decide) X (ovN u.length 18) (Nat.le_refl _)
   rw[hall] at hsum hflat
   have key:=ih (ovN u.length 18) (by omega) (upE u 18 (base+u.length) (ovN u.length 18)) (h+1) (base+u.length) (Pu t false 18 4 u (base+u.length) bs (ovN u.length 18)) F (fun i=>(List.range (Qc u.length 18 i)).flatMap fun j=>X (i*18+j)) (fun i=>1+((List.range (Qc u.length 18 i)).map fun j=>C (i*18+j)).sum) (Ya _ _ _ _) hp (Ed E (by decide)) (fun k hk=>by rw[Uj hk];exact⟨rfl,rfl⟩)
    (fun _ k hk=>by
     obtain⟨v,r,hv⟩:=hh (by omega) (k*18) (hsl k hk)
     obtain⟨z,hz⟩:∃ z,Qc u.length 18 k=z+1:=⟨Qc u.length 18 k-1,by have:=hsl k hk;rw[hsz];omega⟩
     refine⟨v,r++(List.range z).flatMap fun j=>X (k*18+(j+1)),?_⟩
     show(List.range (Qc u.length 18 k)).flatMap _=_
     rw[hz,List.range_succ_eq_map,List.flatMap_cons,Nat.add_zero,hv,Uj hk,(Zbr (v:=4) (by decide) hn1 hk).1,List.flatMap_map]
     rfl)
    (fun a b hab hb x hx y hy=>by
     obtain⟨j,hj,hx⟩:=List.mem_flatMap.1 hx
     obtain⟨j2,hj2,hy⟩:=List.mem_flatMap.1 hy
     have hj:=List.mem_range.1 hj
     have hj2:=List.mem_range.1 hj2
     rw[hsz] at hj hj2
     have:(a+1)*18≤b*18:=Nat.mul_le_mul_right 18 hab
     exact hs (a*18+j) (b*18+j2) (by omega) (by omega) x hx y hy)
    (fun a ha=>by
     refine List.pairwise_flatMap.2 ⟨fun j hj=>?_,?_⟩
     ·have hj:=List.mem_range.1 hj
      rw[hsz] at hj
      exact hs1 _ (by omega)
     ·refine List.Pairwise.imp_of_mem ?_ (List.pairwise_lt_range)
      intro j j2 hj hj2 hlt x hx y hy
      have hj2:=List.mem_range.1 hj2
      rw[hsz] at hj2
      exact hs (a*18+j) (a*18+j2) (by omega) (by omega) x hx y hy)
    hF2 (by omega) (by rw[a1];omega) (by omega) L2 (by omega)
    (fun k hk x hx=>by
     obtain⟨j,hj,hx⟩:=List.mem_flatMap.1 hx
     have hj:=List.mem_range.1 hj
     rw[hsz] at hj
     exact hX _ (by omega) x hx)
    (by rw[hsum];omega)
   rw[hsum,hflat] at key
   rw[Vm h9,hlm,List.sum_cons,List.length_cons]
   have e1:ovN u.length 18+((List.range u.length).map C).sum+((Gp (ovN u.length 18)).sum-ovN u.length 18)=((List.range u.length).map C).sum+(u.length+(Gp (ovN u.length 18)).sum-u.length):=by omega
   have e2:h+1+(Gp (ovN u.length 18)).length=h+((Gp (ovN u.length 18)).length+1):=by omega
   rw[e1,e2] at key
   exact key
theorem Ir:∀ (k x:Nat),x≤18 ^ k→(Gp x).length≤k+1
 | 0,x,h=>by rw[Jt (by simpa using h)];simp
 | k+1,x,h=>by
  by_cases h1:x≤1
  ·rw[Jt h1];simp
  ·rw[Kj h1,List.length_cons]
   have:ovN x 18≤18 ^ k:=by
    rw[Nat.pow_succ] at h
    have hp:0<18 ^ k:=Nat.pow_pos (by decide)
    unfold ovN
    have:(x+18-1)/18≤18 ^ k:=by
     rw[Nat.div_le_iff_le_mul_add_pred (by decide)];omega
    omega
   have:=Ir k _ this
   omega
theorem Af{l:List Ent}{m:Nat}:∀ j,((List.range j).flatMap fun i=>(Xe l m i).map kvE)=(l.take (j*m)).map kvE
 | 0=>by simp
 | j+1=>by
  rw[List.range_succ,List.flatMap_append,Af j,Nat.add_mul,Nat.one_mul,List.take_add,List.map_append]
  simp[Xe]
theorem sum_one(n:Nat):((List.range n).map fun _=>1).sum=n:=by
 induction n with
 | zero=>rfl
 | succ n ih=>rw[List.range_succ,List.map_append,List.sum_append,ih];simp
theorem Tw{t fuel:Int}{l:List Ent}{q:Nat}{bs:List UInt8}(h1:1≤t)(h2:t≤5)(E:EntsOk (Uk t true) l)(hn:l.length≤32768)(hq:1≤q)(hbs:(q+Qt t l.length)*256≤bs.length)(h4:q+Qt t l.length≤14400)(hfu:(Qt t l.length:Int)≤fuel) :
 Zgz (l.map kvE) (Qt t l.length) (Hi t l.length).length (Zj (Yu t l q bs).2 (Yu t l q bs).1 t fuel):=by
 obtain⟨m,hm⟩:∃ m,Ki t true=m:=⟨_,rfl⟩
 obtain⟨v,hv⟩:∃ v,Uk t true=v:=⟨_,rfl⟩
 have hmb:=Qg t true
 have h6:6≤Ki t true:=by
  unfold Ki;repeat' split
  all_goals first|decide|simp_all
 have hop:=Qd l.length m
 have hg:=Jm (ovN l.length m)
 have hN:Qt t l.length=(Gp (ovN l.length m)).sum:=by unfold Qt Hi;rw[hm]
 have hT:Yu t l q bs=Vi t (upE l m q (ovN l.length m)) (q+ovN l.length m) (Pu t true m v l q bs (ovN l.length m)):=by unfold Yu;rw[hm,hv]
 have hD:(Hi t l.length).length=0+(Gp (ovN l.length m)).length:=by unfold Hi;rw[hm,Nat.zero_add]
 rw[hv] at E
 rw[hm] at hmb h6
 rw[hN] at hbs h4 hfu ⊢
 rw[hD,hT]
 obtain⟨a1,a2,a3⟩:=Kb (t:=t) (leaf:=true) (m:=m) (v:=v) (l:=l) (q:=q) (bs:=bs) E h1 h2 hm hv (fun h=>by cases h) (ovN l.length m) (Nat.le_refl _) (by omega)
 obtain⟨b1,b2⟩:=Mj (t:=t) h1 h2 (ovN l.length m) (upE l m q (ovN l.length m)) (q+ovN l.length m) (Pu t true m v l q bs (ovN l.length m)) (Ya _ _ _ _) hop (Ed E hmb.1) (by rw[a1];omega)
 have hlen:(Vi t (upE l m q (ovN l.length m)) (q+ovN l.length m) (Pu t true m v l q bs (ovN l.length m))).2.length=bs.length:=by rw[b1,a1]
 have hLaid:LaidF (Vi t (upE l m q (ovN l.length m)) (q+ovN l.length m) (Pu t true m v l q bs (ovN l.length m))).2 t true m v l q:=by
   intro i hi
   rw[b2 _ (by omega)];exact a2 i hi
 have L:=lev_leaf (fuel:=fuel) hm hv E h1 h2 hLaid hlen (by omega) (by omega)
 have hov:ovN l.length m≤5833:=by
   unfold ovN
   have:(l.length+m-1)/m≤5833:=by
    rw[Nat.div_le_iff_le_mul_add_pred (by omega)]
    have:=Nat.mul_le_mul_right 5833 h6
    omega
   omega
 have hdep:=Ir 4 (ovN l.length m) (Nat.le_trans hov (by decide))
 have hget:∀ {i j:Nat},j<Qc l.length m i→i*m+j<l.length:=fun {i j} hj=>by unfold Qc at hj;omega
 have hmem:∀ {i:Nat} {x:Int×List UInt8},x∈(Xe l m i).map kvE→∃ j,j<Qc l.length m i∧x=kvE (l.getD (i*m+j) Xp):=by
   intro i x hx
   obtain⟨y,hy,rfl⟩:=List.mem_map.1 hx
   obtain⟨j,hj,rfl⟩:=List.mem_iff_getElem.1 hy
   have hj2:j<Qc l.length m i:=by rw[←Jw];exact hj
   refine⟨j,hj2,?_⟩
   rw[←Hb hj2];simp[List.getD,hj]
 have key:=Zd9 (fuel:=fuel) h1 h2 (ovN l.length m) (upE l m q (ovN l.length m)) 0 q (Pu t true m v l q bs (ovN l.length m)) _ (fun i=>(Xe l m i).map kvE) (fun _=>1) (Ya _ _ _ _) hop (Ed E hmb.1) (fun k hk=>by rw[Uj hk];exact⟨rfl,rfl⟩)
   (fun h2n k hk=>by
    have hl1:1≤l.length:=by
     rcases Nat.eq_zero_or_pos l.length with q0|q0
     ·rw[q0] at h2n
      have:ovN 0 m=1:=by unfold ovN;rw[Nat.div_eq_of_lt (by omega)];rfl
      omega
     ·exact q0
    obtain⟨k1,k2⟩:=Zbr (v:=v) (q:=q) hmb.1 hl1 hk
    have hz:0<Qc l.length m k:=by unfold Qc;omega
    rw[Uj hk,k1]
    have hc:=Jw l m k
    cases hcc:Xe l m k with
    | nil=>rw[hcc] at hc;simp at hc;omega
    | cons y r =>
     refine⟨y.2.1,r.map kvE,?_⟩
     have h0:=Hb (l:=l) (m:=m) (i:=k) (j:=0) hz
     rw[hcc,Nat.add_zero] at h0
     simp only[List.map_cons]
     have e0:y=l.getD (k*m) Xp:=by simpa [List.getD] using h0
     rw[e0];rfl)
   (fun a b hab hb x hx y hy=>by
    obtain⟨j,hj,rfl⟩:=hmem hx
    obtain⟨j2,hj2,rfl⟩:=hmem hy
    have:(a+1)*m≤b*m:=Nat.mul_le_mul_right m hab
    rw[Nat.add_mul,Nat.one_mul] at this
    have hjm:j<m:=by unfold Qc at hj;omega
    exact E.mono (a:=a*m+j) (b:=b*m+j2) (by omega) (hget hj2))
   (fun a ha=>by
    rw[List.pairwise_map]
    refine List.pairwise_iff_getElem.2 fun i j hi hj hij=>?_
    have hj2:j<Qc l.length m a:=by rw[←Jw];exact hj
    have e1:=Hb (l:=l) (m:=m) (i:=a) (j:=i) (by omega)
    have e2:=Hb (l:=l) (m:=m) (i:=a) (j:=j) hj2
    simp only[List.getD,List.getElem?_eq_getElem hi,List.getElem?_eq_getElem hj,Option.getD_some] at e1 e2
    show(Xe l m a)[i].1<(Xe l m a)[j].1
    rw[e1,e2]
    exact E.mono (a:=a*m+i) (b:=a*m+j) (by omega) (hget hj2))
   rfl hq (by rw[a1];omega) (by omega) L (by omega)
   (fun k hk x hx=>by
    obtain⟨j,hj,rfl⟩:=hmem hx
    have:=E.hk _ (hget hj)
    exact⟨this.1,by have:=this.2;simp only[kvE];omega⟩)
   (by rw[sum_one];omega)
 rw[sum_one,Af] at key
 rw[show ovN l.length m+((Gp (ovN l.length m)).sum-ovN l.length m)=(Gp (ovN l.length m)).sum by omega] at key
 have hall:=ov_all (n:=l.length) (m:=m) hmb.1
 rw[List.take_of_length_le (by omega)] at key
 exact key
theorem putB_comm{l x y:List UInt8}{a b:Nat}(ha:a+x.length≤l.length)(hb:b+y.length≤l.length)(hd:a+x.length≤b∨b+y.length≤a):Kf (Kf l a x) b y=Kf (Kf l b y) a x:=by
 have e1:=Qf ha
 have e2:=Qf hb
 apply Ll
 ·rw[Qf (by rw[e1];exact hb),e1,Qf (by rw[e2];exact ha),e2]
 ·intro j hj
  rw[Km (by rw[e1];exact hb),Km ha,Km (by rw[e2];exact ha),Km hb]
  by_cases p:a≤j∧j<a+x.length
  ·rw[if_neg (by omega),if_pos p,if_pos p]
  ·rw[if_neg p,if_neg p]
theorem Zgn{t:Int}{leaf:Bool}{m v:Nat}{l:List Ent}{q k:Nat}{bs x:List UInt8}(E:EntsOk v l)(h1:1≤t)(h2:t≤5)(hm:Ki t leaf=m)(hv:Uk t leaf=v)(hl:leaf=false→1≤l.length)(hx:x.length=256)(hk:(k+1)*256≤bs.length)(j:Nat) :
 j≤ovN l.length m→(q+j)*256≤bs.length→(k<q∨q+j≤k)→Kf (Pu t leaf m v l q bs j) (k*256) x=Pu t leaf m v l q (Kf bs (k*256) x) j:=by
 induction j with
 | zero=>exact fun _ _ _=>by simp only[Pu]
 | succ j ih =>
  intro hj hq hd
  have ih:=ih (by omega) (by omega) (by omega)
  have a1:=(Kb (t:=t) (leaf:=leaf) (m:=m) (v:=v) (l:=l) (q:=q) (bs:=bs) E h1 h2 hm hv hl j (by omega) (by omega)).1
  have hlen:=Eo (Px E h1 h2 hm hv hl (show j<ovN l.length m by omega))
  have hsl:(Yp 2 ((q+j:Nat):Int) (nodB t leaf m v (Xe l m j))).length=256:=Kx (by rw[hlen];decide)
  rw[Pm,Pm,←ih]
  exact putB_comm (by rw[hsl,a1];omega) (by rw[hx,a1];omega) (by rw[hsl,hx];omega)
theorem treeUp_put{t:Int}(h1:1≤t)(h2:t≤5){k:Nat}{x:List UInt8}(hx:x.length=256)(n:Nat):∀ (u:List Ent) (q:Nat) (bs:List UInt8),u.length=n→1≤n→EntsOk 4 u→(q+((Gp n).sum-n))*256≤bs.length→(k+1)*256≤bs.length→(k<q∨q+((Gp n).sum-n)≤k) →
 Vi t u q (Kf bs (k*256) x)=((Vi t u q bs).1,Kf (Vi t u q bs).2 (k*256) x):=by
 induction n using Nat.strongRecOn with
 | _ n ih =>
  intro u q bs hn h1n E hq hk hd
  subst hn
  by_cases h:u.length≤1
  ·rw[Jp h,Jp h]
  ·have h18:=ov18 (x:=u.length) (by omega)
   have hp:=Qd u.length 18
   have hlm:(Gp u.length).sum=u.length+(Gp (ovN u.length 18)).sum:=by rw[Kj h];rfl
   have hg:=Jm (ovN u.length 18)
   rw[Vm h,Vm h]
   obtain⟨a1,a2,a3⟩:=Kb (t:=t) (leaf:=false) (m:=18) (v:=4) (l:=u) (q:=q) (bs:=bs) E h1 h2 rfl rfl (fun _=>by omega) (ovN u.length 18) (Nat.le_refl _) (by omega)
   rw[←Zgn (leaf:=false) (m:=18) (v:=4) E h1 h2 rfl rfl (fun _=>by omega) hx hk (ovN u.length 18) (Nat.le_refl _) (by omega) (by omega)]
   exact ih (ovN u.length 18) (by omega) (upE u 18 q (ovN u.length 18)) (q+ovN u.length 18) _ (Ya _ _ _ _) hp (Ed E (by decide)) (by rw[a1];omega) (by rw[a1];exact hk) (by omega)
theorem treeB_put{t:Int}{l:List Ent}{q k:Nat}{bs x:List UInt8}(h1:1≤t)(h2:t≤5)(E:EntsOk (Uk t true) l)(hx:x.length=256)(hq:(q+Qt t l.length)*256≤bs.length)(hk:(k+1)*256≤bs.length)(hd:k<q∨q+Qt t l.length≤k) :
 Yu t l q (Kf bs (k*256) x)=((Yu t l q bs).1,Kf (Yu t l q bs).2 (k*256) x):=by
 obtain⟨m,hm⟩:∃ m,Ki t true=m:=⟨_,rfl⟩
 have hmb:=Qg t true
 have hop:=Qd l.length m
 have hg:=Jm (ovN l.length m)
 have hN:Qt t l.length=(Gp (ovN l.length m)).sum:=by unfold Qt Hi;rw[hm]
 rw[hm] at hmb
 rw[hN] at hq hd
 unfold Yu
 rw[hm]
 obtain⟨a1,a2,a3⟩:=Kb (t:=t) (leaf:=true) (m:=m) (v:=Uk t true) (l:=l) (q:=q) (bs:=bs) E h1 h2 hm rfl (fun h=>by cases h) (ovN l.length m) (Nat.le_refl _) (by omega)
 rw[←Zgn E h1 h2 hm rfl (fun h=>by cases h) hx hk (ovN l.length m) (Nat.le_refl _) (by omega) (by omega)]
 exact treeUp_put h1 h2 hx (ovN l.length m) (upE l m q (ovN l.length m)) (q+ovN l.length m) _ (Ya _ _ _ _) hop (Ed E hmb.1) (by rw[a1];omega) (by rw[a1];exact hk) (by omega)
theorem Be{t:Int}{l:List Ent}{q:Nat}{bs:List UInt8}(h1:1≤t)(h2:t≤5)(E:EntsOk (Uk t true) l)(hq:(q+Qt t l.length)*256≤bs.length):(Yu t l q bs).2.length=bs.length∧∀ x,x<q→Vy (Yu t l q bs).2 x=Vy bs x:=by
 obtain⟨m,hm⟩:∃ m,Ki t true=m:=⟨_,rfl⟩
 have hmb:=Qg t true
 have hop:=Qd l.length m
 have hg:=Jm (ovN l.length m)
 have hN:Qt t l.length=(Gp (ovN l.length m)).sum:=by unfold Qt Hi;rw[hm]
 rw[hm] at hmb
 rw[hN] at hq
 unfold Yu
 rw[hm]
 obtain⟨a1,a2,a3⟩:=Kb (t:=t) (leaf:=true) (m:=m) (v:=Uk t true) (l:=l) (q:=q) (bs:=bs) E h1 h2 hm rfl (fun h=>by cases h) (ovN l.length m) (Nat.le_refl _) (by omega)
 obtain⟨b1,b2⟩:=Mj (t:=t) h1 h2 (ovN l.length m) (upE l m q (ovN l.length m)) (q+ovN l.length m) (Pu t true m (Uk t true) l q bs (ovN l.length m)) (Ya _ _ _ _) hop (Ed E hmb.1) (by rw[a1];omega)
 exact⟨by rw[b1,a1],fun x hx=>by rw[b2 x (by omega),a3 x hx]⟩
theorem Zdb{t s:Int}{leaf:Bool}{m v:Nat}{l e:List Ent}{q p:Nat}{bs:List UInt8}(E:EntsOk v l)(h1:1≤t)(h2:t≤5)(hm:Ki t leaf=m)(hv:Uk t leaf=v)(hl:leaf=false→1≤l.length)(s1:1≤s)(s2:s≤5)(Es:EntsOk (Uk s true) e)(hp:(p+Qt s e.length)*256≤bs.length)(j:Nat) :
 j≤ovN l.length m→(q+j)*256≤bs.length→p+Qt s e.length≤q→Yu s e p (Pu t leaf m v l q bs j)=((Yu s e p bs).1,Pu t leaf m v l q (Yu s e p bs).2 j):=by
 induction j with
 | zero=>exact fun _ _ _=>by simp only[Pu]
 | succ j ih =>
  intro hj hq hd
  have ih:=ih (by omega) (by omega) hd
  have a1:=(Kb (t:=t) (leaf:=leaf) (m:=m) (v:=v) (l:=l) (q:=q) (bs:=bs) E h1 h2 hm hv hl j (by omega) (by omega)).1
  have hlen:=Eo (Px E h1 h2 hm hv hl (show j<ovN l.length m by omega))
  have hsl:(Yp 2 ((q+j:Nat):Int) (nodB t leaf m v (Xe l m j))).length=256:=Kx (by rw[hlen];decide)
  rw[Pm,Pm,treeB_put s1 s2 Es hsl (by rw[a1];exact hp) (by rw[a1];omega) (by omega),ih]
theorem Ze5{t s:Int}{e:List Ent}{p:Nat}(h1:1≤t)(h2:t≤5)(s1:1≤s)(s2:s≤5)(Es:EntsOk (Uk s true) e)(n:Nat):∀ (u:List Ent) (q:Nat) (bs:List UInt8),u.length=n→1≤n→EntsOk 4 u→(q+((Gp n).sum-n))*256≤bs.length→(p+Qt s e.length)*256≤bs.length→p+Qt s e.length≤q →
 Yu s e p (Vi t u q bs).2=((Yu s e p bs).1,(Vi t u q (Yu s e p bs).2).2):=by
 induction n using Nat.strongRecOn with
 | _ n ih =>
  intro u q bs hn h1n E hq hp hd
  subst hn
  by_cases h:u.length≤1
  ·rw[Jp h,Jp h]
  ·have h18:=ov18 (x:=u.length) (by omega)
   have hpo:=Qd u.length 18
   have hlm:(Gp u.length).sum=u.length+(Gp (ovN u.length 18)).sum:=by rw[Kj h];rfl
   have hg:=Jm (ovN u.length 18)
   obtain⟨a1,a2,a3⟩:=Kb (t:=t) (leaf:=false) (m:=18) (v:=4) (l:=u) (q:=q) (bs:=bs) E h1 h2 rfl rfl (fun _=>by omega) (ovN u.length 18) (Nat.le_refl _) (by omega)
   have hl:=Zdb (leaf:=false) (m:=18) (v:=4) (p:=p) E h1 h2 rfl rfl (fun _=>by omega) s1 s2 Es hp (ovN u.length 18) (Nat.le_refl _) (by omega) hd
   rw[Vm h,Vm h,ih (ovN u.length 18) (by omega) (upE u 18 q (ovN u.length 18)) (q+ovN u.length 18) _ (Ya _ _ _ _) hpo (Ed E (by decide)) (by rw[a1];omega) (by rw[a1];exact hp) (by omega),hl]
theorem treeB_tree{t s:Int}{l e:List Ent}{q p:Nat}{bs:List UInt8}(h1:1≤t)(h2:t≤5)(E:EntsOk (Uk t true) l)(s1:1≤s)(s2:s≤5)(Es:EntsOk (Uk s true) e)(hq:(q+Qt t l.length)*256≤bs.length)(hd:p+Qt s e.length≤q) :
 Yu s e p (Yu t l q bs).2=((Yu s e p bs).1,(Yu t l q (Yu s e p bs).2).2):=by
 obtain⟨m,hm⟩:∃ m,Ki t true=m:=⟨_,rfl⟩
 have hmb:=Qg t true
 have hop:=Qd l.length m
 have hg:=Jm (ovN l.length m)
 have hN:Qt t l.length=(Gp (ovN l.length m)).sum:=by unfold Qt Hi;rw[hm]
 rw[hm] at hmb
 rw[hN] at hq
 have hpb:(p+Qt s e.length)*256≤bs.length:=by omega
 obtain⟨a1,a2,a3⟩:=Kb (t:=t) (leaf:=true) (m:=m) (v:=Uk t true) (l:=l) (q:=q) (bs:=bs) E h1 h2 hm rfl (fun h=>by cases h) (ovN l.length m) (Nat.le_refl _) (by omega)
 have hl:=Zdb (p:=p) E h1 h2 hm rfl (fun h=>by cases h) s1 s2 Es hpb (ovN l.length m) (Nat.le_refl _) (by omega) hd
 have hu:=Ze5 (p:=p) h1 h2 s1 s2 Es (ovN l.length m) (upE l m q (ovN l.length m)) (q+ovN l.length m) (Pu t true m (Uk t true) l q bs (ovN l.length m)) (Ya _ _ _ _) hop (Ed E hmb.1) (by rw[a1];omega) (by rw[a1];exact hpb) (by omega)
 rw[show(Yu t l q bs)=Vi t (upE l m q (ovN l.length m)) (q+ovN l.length m) (Pu t true m (Uk t true) l q bs (ovN l.length m)) from by unfold Yu;rw[hm],hu,hl]
 rw[show(Yu t l q (Yu s e p bs).2)=Vi t (upE l m q (ovN l.length m)) (q+ovN l.length m) (Pu t true m (Uk t true) l q (Yu s e p bs).2 (ovN l.length m)) from by unfold Yu;rw[hm]]
theorem Zcv{l:List Int}{k:Nat}{x:Ent}:x∈Xn l k↔∃ j:Nat,j<k∧3≤l.getD j 0∧x=((j:Int),leB (l.getD j 0) 4,0):=by
 unfold Xn
 simp only[List.mem_flatMap,List.mem_range]
 constructor
 ·rintro⟨j,hj,hx⟩
  unfold ovX at hx
  split at hx
  ·rename_i h3
   exact⟨j,hj,h3,List.mem_singleton.1 hx⟩
  ·cases hx
 ·rintro⟨j,hj,h3,rfl⟩
  exact⟨j,hj,by unfold ovX;rw[if_pos h3];exact List.mem_singleton.2 rfl⟩
theorem cnt_val{n:Int}(h0:3≤n)(h:n≤2147483647):Xq Gz (leB n 4)=0∧Xy Gz (leB n 4)=[n.toNat]:=by
 obtain⟨m,rfl⟩:∃ m:Nat,n=(m:Int):=⟨n.toNat,by omega⟩
 have e:Zh (leB (m:Int) 4) 0 4=m:=by
  have h:=Ld (a:=[]) (b:=[]) (m:=m) (w:=4) (by omega)
  simpa using h
 have hr:Lb Gz (leB (m:Int) 4)=[m]:=by
  show Hh (leB (m:Int) 4) 0 [4]=_
  simp only[Hh]
  rw[e]
 have h1:Xq Gz (leB (m:Int) 4)=0:=by
  have hk:Hm Gz (leB (m:Int) 4)=true:=by
   unfold Hm
   rw[hr,show Gz.length=1 from rfl]
   unfold Nj
   rw[show List.range 1=[0] from rfl]
   simp[inP,Gz]
   omega
  unfold Xq
  rw[if_pos (by rw[Zo];rfl),if_pos hk]
 exact⟨h1,by unfold Xy;rw[if_pos h1,hr];simp⟩
theorem mn3_ge{n:Int}:mn3 n=3↔3≤n:=by unfold mn3;split<;>omega
theorem mn3_lt{n:Int}(h:n<3):mn3 n=n:=if_pos h
theorem Nb(l:List Int)(k:Nat):(Zv l).getD k 0=mn3 (l.getD k 0):=by
 by_cases h:k<l.length
 ·simp[Zv,List.getD,h]
 ·simp[Zv,List.getD,Nat.le_of_not_lt h,mn3]
theorem kv_get{E O:List Ent}(hE:E.map kvE=O.map kvE):E.length=O.length∧∀ i,i<O.length→(E.getD i Xp).1=(O.getD i Xp).1∧(E.getD i Xp).2.1=(O.getD i Xp).2.1:=by
 have hl:E.length=O.length:=by simpa using congrArg List.length hE
 refine⟨hl,fun i hi=>?_⟩
 have h:=congrArg (fun x=>x[i]?) hE
 simp only[List.getElem?_map,List.getElem?_eq_getElem hi,List.getElem?_eq_getElem (show i<E.length by omega),Option.map_some,Option.some.injEq] at h
 rw[Jc hi,Jc (by omega)]
 have h2:(E[i].1,E[i].2.1)=(O[i].1,O[i].2.1):=h
 exact⟨(Prod.mk.inj h2).1,(Prod.mk.inj h2).2⟩
theorem join_back{l:List Int}{E:List Ent}(hc:∀ k,k<l.length→Nz (l.getD k 0))(hE:E.map kvE=(Xn l l.length).map kvE):Ka (Zv l) E=(0,l):=by
 obtain⟨hl,hg⟩:=kv_get hE
 have hO:=Zgy l l.length
 have hm:∀ i,i<E.length→∃ k:Nat,k<l.length∧3≤l.getD k 0∧Qh E i=(k:Int)∧(E.getD i Xp).2.1=leB (l.getD k 0) 4:=fun i hi=>by
  rw[hl] at hi
  obtain⟨k,hk,h3,e⟩:=Zcv.1 (List.getElem_mem hi)
  have:=hg i hi
  rw[Jc (l:=Xn l l.length) hi,e] at this
  exact⟨k,hk,h3,this.1,this.2⟩
 have hv:∀ i,i<E.length→∀ k:Nat,Qh E i=(k:Int)→jVal E i=l.getD k 0∧3≤l.getD k 0∧Xq Gz (E.getD i Xp).2.1=0:=fun i hi k hk=>by
  obtain⟨k2,h1,h2,h3,h4⟩:=hm i hi
  obtain rfl:k=k2:=by omega
  have hb:=hc k h1
  unfold Nz at hb
  have hv:=cnt_val h2 hb.2
  unfold jVal
  rw[h4,hv.2]
  refine⟨?_,h2,hv.1⟩
  show(((l.getD k 0).toNat:Nat):Int)=_
  omega
 have hok:jOk (Zv l) E E.length:=fun i hi=>by
  obtain⟨k,h1,h2,h3,h4⟩:=hm i hi
  have hlast:Kq E i<Qh E i:=by
   unfold Kq
   split
   ·omega
   ·rename_i h0
    have hp:=List.pairwise_iff_getElem.1 hO.1 (i-1) i (by omega) (by omega) (by omega)
    have a:=(hg i (by omega)).1
    have b:=(hg (i-1) (by omega)).1
    rw[Jc (l:=Xn l l.length) (by omega)] at a b
    unfold Qh
    rw[a,b];exact hp
  unfold Zdd
  rw[if_neg (by omega),if_neg (fun q=>q (by rw[h3,Int.toNat_natCast,Nb];exact mn3_ge.2 h2))]
  exact(hv i hi k h3).2.2
 have hex:∀ k:Nat,k<l.length→(Zv l).getD k 0=3→∃ j,j<E.length∧Qh E j=(k:Int):=fun k hk h3=>by
  rw[Nb] at h3
  obtain⟨j,hj,e⟩:=List.getElem_of_mem (Zcv.2 ⟨k,hk,mn3_ge.1 h3,rfl⟩)
  have a:=(hg j hj).1
  rw[Jc (l:=Xn l l.length) hj,e] at a
  exact⟨j,by omega,a⟩
 rw[Pk hok,if_pos (Zgb fun k hk h3=>hex k (by rwa [Pv] at hk) h3)]
 congr 1
 apply List.ext_getElem (by rw[Yk,Pv])
 intro k h1 h2
 have e:=Ei (E:=E) (i:=E.length) (show k<(Zv l).length by rwa [Yk] at h1)
 rw[show(Bd (Zv l) E E.length).getD k 0=(Bd (Zv l) E E.length)[k] from by simp[List.getD,h1]] at e
 rw[e,show l[k]=l.getD k 0 from by simp[List.getD,h2]]
 by_cases h3:(Zv l).getD k 0=3
 ·obtain⟨j,hj,hjk⟩:=hex k h2 h3
  unfold Zgm
  rw[Bm hj hjk fun m hmj=>by have:=jOk_inj hok m j hmj hj;omega]
  exact(hv j hj k hjk).1
 ·rw[Zfk hok h3,Nb]
  rw[Nb,mn3_ge] at h3
  exact mn3_lt (by omega)
theorem Dm(l:List Int):∀ j,(Xt l j).flatten=l.take (j*960)
 | 0=>by simp[Xt]
 | j+1=>by
  rw[Zbo,List.flatten_append,Dm l j,Nat.add_mul,Nat.one_mul,List.take_add]
  simp[Vp]
theorem Zdt(l:List Int):(Xt l (bmN l.length)).flatten=l:=by
 rw[Dm,List.take_of_length_le (by unfold bmN;omega)]
theorem Ar{L:List (List Int)}{q:Nat}{bs:List UInt8}:∀ n,(q+n)*256≤bs.length→(Jf L q bs n).length=bs.length
 | 0,_=>rfl
 | n+1,h=>by
  have ih:=Ar (L:=L) (q:=q) (bs:=bs) n (by omega)
  have hx:(Yp 3 ((q+n:Nat):Int) (Jb (L.getD n []))).length=256:=Kx (by unfold Jb;rw[Kk];decide)
  show(Kf (Jf L q bs n) ((q+n)*256) (Yp 3 ((q+n:Nat):Int) (Jb (L.getD n [])))).length=_
  rw[Qf (by rw[hx,ih];omega),ih]
theorem data_parts{l:List Int}{q N:Nat}{bs:List UInt8}{fuel:Int}(hN:bmN l.length=N)(hq:1≤q)(hl:l.length≤30000)(h4:q+Wm l≤14400)(hb:(q+Wm l)*256≤bs.length)(hfu:(Wm l:Int)≤fuel) :
 Zgz ((Xz (Xt (Zv l) N) q N).map kvE) (Qt 4 N) (Hi 4 N).length (Zj (Jn l q bs).2.2 (Jn l q bs).1 4 fuel) ∧
 Zgz ((Xn l l.length).map kvE) (Qt 5 (Xn l l.length).length) (Hi 5 (Xn l l.length).length).length (Zj (Jn l q bs).2.2 (Jn l q bs).2.1 5 fuel) ∧
 (Jn l q bs).2.2.length=bs.length ∧
 ∀ i,i<N→Vy (Jn l q bs).2.2 (q+i)=Yp 3 ((q+i:Nat):Int) (Jb (Vp (Zv l) i)):=by
 have hNl:N≤40:=by unfold bmN at hN;omega
 have hol:=Pd l l.length
 obtain⟨L,hL⟩:∃ L,Xt (Zv l) N=L:=⟨_,rfl⟩
 obtain⟨O,hO⟩:∃ O,Xn l l.length=O:=⟨_,rfl⟩
 have hpn:Wm l=N+Qt 4 N+Qt 5 O.length:=by unfold Wm;rw[hN,hO]
 have ES:EntsOk (Uk 4 true) (Xz L q N):=Am _ _ _ (by omega)
 have EO:EntsOk (Uk 5 true) O:=hO▸Zbj _ _ (by omega)
 rw[hO] at hol
 have hcl:=Ar (L:=L) (q:=q) (bs:=bs) N (by omega)
 have hP:Jn l q bs=((Yu 4 (Xz L q N) (q+N) (Jf L q bs N)).1,(Yu 5 O (q+N+Qt 4 N) (Yu 4 (Xz L q N) (q+N) (Jf L q bs N)).2).1,(Yu 5 O (q+N+Qt 4 N) (Yu 4 (Xz L q N) (q+N) (Jf L q bs N)).2).2):=by
  unfold Jn;simp only[hN,hL,hO]
 have hT:=treeB_tree (t:=5) (s:=4) (l:=O) (e:=Xz L q N) (q:=q+N+Qt 4 N) (p:=q+N) (bs:=Jf L q bs N) (by decide) (by decide) EO (by decide) (by decide) ES (by rw[hcl];omega) (by rw[Yy];exact Nat.le_refl _)
 have k4:=Be (t:=4) (l:=Xz L q N) (q:=q+N) (bs:=Jf L q bs N) (by decide) (by decide) ES (by rw[hcl,Yy];omega)
 have k5:=Be (t:=5) (l:=O) (q:=q+N+Qt 4 N) (bs:=(Yu 4 (Xz L q N) (q+N) (Jf L q bs N)).2) (by decide) (by decide) EO (by rw[k4.1,hcl];omega)
 have k6:=Be (t:=5) (l:=O) (q:=q+N+Qt 4 N) (bs:=Jf L q bs N) (by decide) (by decide) EO (by rw[hcl];omega)
 have s4:=Tw (t:=4) (fuel:=fuel) (l:=Xz L q N) (q:=q+N) (bs:=(Yu 5 O (q+N+Qt 4 N) (Jf L q bs N)).2) (by decide) (by decide) ES (by rw[Yy];omega) (by omega) (by rw[Yy,k6.1,hcl];omega) (by rw[Yy];omega) (by rw[Yy];omega)
 have s5:=Tw (t:=5) (fuel:=fuel) (l:=O) (q:=q+N+Qt 4 N) (bs:=(Yu 4 (Xz L q N) (q+N) (Jf L q bs N)).2) (by decide) (by decide) EO (by omega) (by omega) (by rw[k4.1,hcl];omega) (by omega) (by omega)
 rw[hT,Yy] at s4
 rw[hP,hL,hO]
 refine⟨s4,s5,by show(Yu 5 O _ _).2.length=_;rw[k5.1,k4.1,hcl],fun i hi=>?_⟩
 show Vy (Yu 5 O _ _).2 _=_
 rw[k5.2 _ (by omega),k4.2 _ (by omega),Zbk (m:=bs.length/256) (by rw[hcl]) rfl (by omega) hi,←hL,Wo hi]
theorem Sg{l:List Int}(hc:∀ k,k<l.length→Nz (l.getD k 0))(i:Nat):Hj (Vp (Zv l) i)∧(Vp (Zv l) i).length≤960:=⟨Fq (Zgw hc) i,by rw[Pr];exact Nat.min_le_left _ _⟩
theorem bitsB_I{l:List Int}(h:Hj l)(hl:l.length≤960):Pz (Jb l) l.length=l:=by
 apply List.ext_getElem (by rw[Er])
 intro i h1 h2
 have e:=Zfo h (i:=i) (by omega)
 rw[show l.getD i 0=l[i] from by simp[List.getD,h2]] at e
 simp[Pz,Ea,e]
theorem data_bits{F:List UInt8}{k:Nat}{c:List Int}(hk:k<F.length/256)(h4:k<14400)(hb:Vy F k=Yp 3 (k:Int) (Jb c))(hs:Hj c)(hl:c.length≤960):Xg F (k:Int)=0∧Vg F (k:Int)=c:=by
 have h:=seal_in (kind:=3) (by decide) (by decide) hk h4 (by unfold Jb;rw[Kk]) hb
 have he:Xg F (k:Int)=0:=by unfold Xg;rw[if_pos h.1,h.2,if_pos (bitsB_ok hs hl)]
 refine⟨he,?_⟩
 unfold Vg
 rw[if_pos he,h.2,Re hl,bitsB_I hs hl]
theorem slotX_plc{L:List (List Int)}{q i:Nat}{e:Ent}(h0:1≤q)(h1:q+i≤14399)(hL:(L.getD i []).length≤960)(he:e.2.1=(Zcx L q i).2.1):Zdi e=((q+i,Yn (L.getD i []),Xm (L.getD i [])),e.2.2,0):=by
 have h2:Yn (L.getD i [])≤960:=Nat.le_trans (Fa _ _) hL
 have h3:Xm (L.getD i [])≤960:=Nat.le_trans (Zda _) hL
 have e2:(Zcx L q i).2.1=slB (q+i,Yn (L.getD i []),Xm (L.getD i [])):=rfl
 unfold Zdi slotT
 rw[he,e2,slB_ok (x:=(q+i,Yn (L.getD i []),Xm (L.getD i []))) (by simp only;omega) h1 h2 h3,slB_val (x:=(q+i,Yn (L.getD i []),Xm (L.getD i []))) (by simp only;omega) h1 h2 h3]
 rfl
theorem allO_ne{l:List UInt8}{X:List Plc}{over n fuel:Int}{i:Nat}(hi:i<X.length)(h:(Hu l X n i).2.1≠0):(Zdf l X over n fuel).2.1≠0:=by
 unfold Zdf
 cases hf:(List.range X.length).find? (fun i=>(Hu l X n i).2.1 != 0) with
 | some j=>simpa using List.find?_some hf
 | none =>
  have:=List.find?_eq_none.1 hf i (List.mem_range.2 hi)
  simp at this
  exact absurd this h
theorem data_back{l:List Int}{q:Nat}{bs:List UInt8}{fuel:Int}(hq:1≤q)(hs:Pb l=0)(hl:l.length≤30000)(h4:q+Wm l≤14400)(hb:(q+Wm l)*256≤bs.length)(hfu:(Wm l:Int)≤fuel) :
 Cj (Jn l q bs).2.2 (Jn l q bs).1 (Jn l q bs).2.1 (l.length:Int) fuel=([],0,l)∧(Cj (Jn l q bs).2.2 (Jn l q bs).1 (Jn l q bs).2.1 ((l.length:Int)+1) fuel).2.1≠0:=by
 obtain⟨N,hN⟩:∃ N,bmN l.length=N:=⟨_,rfl⟩
 have hc:=(Sa hs).2
 obtain⟨⟨es,bl,he,-,hw4⟩,⟨es5,bl5,he5,-,hw5⟩,hF,hB⟩:=data_parts hN hq hl h4 hb hfu
 have hpn:Wm l=N+Qt 4 N+Qt 5 (Xn l l.length).length:=by unfold Wm;rw[hN]
 obtain⟨hel,hg⟩:=kv_get he
 rw[Yy] at hel hg
 obtain⟨F,hFe⟩:∃ F,(Jn l q bs).2.2=F:=⟨_,rfl⟩
 rw[hFe] at hw4 hw5 hF hB ⊢
 have hk:Av es=true:=Zc9 fun i hi=>by
  rw[(hg i (by omega)).1,Hr (by omega)];rfl
 have hX:∀ i,i<N→(es.map Zdi).getD i Ju=((q+i,Yn (Vp (Zv l) i),Xm (Vp (Zv l) i)),(es.getD i Xp).2.2,0):=fun i hi=>by
  have hcl:=Sg hc i
  have hp:=slotX_plc (L:=Xt (Zv l) N) (q:=q) (i:=i) (e:=es.getD i Xp) hq (by omega) (by rw[Wo hi];exact hcl.2) (by rw[(hg i hi).2,Hr hi])
  rw[Wo hi] at hp
  rw[←hp]
  simp[List.getD,show i<es.length by omega]
 have hR:∀ i,i<N→Xg F ((q+i:Nat):Int)=0∧Vg F ((q+i:Nat):Int)=Vp (Zv l) i:=fun i hi=>by
  have hcl:=Sg hc i
  exact data_bits (by rw[hF];omega) (by omega) (hB i hi) hcl.1 hcl.2
 have h1:∀ (n:Int) (i:Nat),i<N→Hu F (es.map Zdi) n i=if((Vp (Zv l) i).length:Int)≠Vk n i then([(es.getD i Xp).2.2],7,[]) else([],0,Vp (Zv l) i):=fun n i hi=>by
  unfold Hu Zac
  rw[hX i hi]
  simp only
  rw[(hR i hi).1,(hR i hi).2]
  simp
 have hch:∀ i,(Vp (Zv l) i).length=min 960 (l.length-i*960):=fun i=>by rw[Pr,Pv]
 have hes:(Zj F (Jn l q bs).1 4 fuel).es=es∧(Zj F (Jn l q bs).1 4 fuel).fs=[]:=by rw[hw4];exact⟨rfl,rfl⟩
 have hes5:(Zj F (Jn l q bs).2.1 5 fuel).es=es5∧(Zj F (Jn l q bs).2.1 5 fuel).fs=[]:=by rw[hw5];exact⟨rfl,rfl⟩
 have hml:(es.map Zdi).length=N:=by rw[List.length_map,hel]
 have hNb:N*960<l.length+960∧l.length≤N*960:=by unfold bmN at hN;omega
 constructor
 ·unfold Cj
  rw[if_neg (fun q=>q hes.2),hes.1,if_neg (fun q=>q (by rw[hel];unfold bmI;rw[Int.toNat_natCast,hN])),if_neg (by rw[hk];decide)]
  rw[By fun i hi=>by
   rw[hml] at hi
   rw[h1 _ i hi,if_neg (fun q=>q (by rw[hch];unfold Vk;split<;>omega))]]
  have ha:Gs F (es.map Zdi) (l.length:Int) (es.map Zdi).length=Xt (Zv l) N:=by
   rw[hml]
   unfold Gs Xt
   apply List.map_congr_left
   intro i hi
   have hi:=List.mem_range.1 hi
   rw[hX i hi]
   exact(hR i hi).2
  have hfl:(Xt (Zv l) N).flatten=Zv l:=by
   have:=Zdt (Zv l)
   rwa [Pv,hN] at this
  have hj:=join_back hc he5
  rw[ha,Ot hes5.2 (by rw[hfl,hes5.1,hj]),hfl,hes5.1,hj]
 ·unfold Cj
  rw[if_neg (fun q=>q hes.2),hes.1]
  by_cases hb2:es.length=bmI ((l.length:Int)+1)
  ·rw[if_neg (fun q=>q hb2),if_neg (by rw[hk];decide)]
   have hb3:N=bmN (l.length+1):=by rw[←hel,hb2];unfold bmI;congr 1
   unfold bmN at hb3
   refine allO_ne (i:=N-1) (by rw[hml];omega) ?_
   rw[h1 _ _ (by omega),if_pos]
   ·show(7:Int)≠0;decide
   ·rw[hch];unfold Vk;split<;>omega
  ·rw[if_pos hb2];simp
theorem law23_made(N f:Nat)(w:World)(hN:N≤14400)(h1:1≤f)(h2:f≤N) :
 Calls Tryz.prog 26 #[.int .i64 (↑N:Int),.int .i64 (↑f:Int)] w (Vn (fun w' r=>∃ ba b g c pa ca,r=.pointer (some ⟨ba,0,none⟩)∧AlC w.heap.size ba (256*N) c ca f (N-f)∧Al w.heap.size ba b g (256*N) c pa ca f (N-f) 0 (List.replicate (256*N) (0:UInt8)) w') w):=by
 refine zin 17 Tryz.func26 ?_
 refine xwm 8 (256*(↑N:Int)) (↑(256*N):Int) ?_
 refine xmk 0 fun _ _ _ _ zJ zQ zo zx zy zK=>Gb (256*N) (.int .u8 0) 1 1 ((List.replicate (256*N) (0:UInt8)).map bv) zo zx zy Tryz.underlying22 (by kernel_rfl) rfl (by omega) (by omega) (Zgi (256*N)) fun b1 W1 n1=>?_
 refine zK _ _ ?_
 have o1:=Zw (size:=1) (n:=(256*N)) n1.blk (n1.ge (Below.refl w.heap.size _)) (by rw[List.length_map,List.length_replicate,Nat.mul_one]) (by unfold maxLen;omega)
 refine xc 0 (args:=#[.slice (some ⟨b1,0,none⟩) (256*N) (256*N)]) (image_OfN (some ⟨b1,0,none⟩) (256*N) (256*N) (256*N) (List.replicate (256*N) (0:UInt8)) _ List.length_replicate (by omega) (Qk (Zf o1) List.length_replicate) (by omega) (Nat.le_refl _)) ?_
 rintro _ W2 ⟨_,rfl,hb2,bi,pi,ci,rfl,gi,ki,hd⟩
 have hd'1:=Zd hd n1.below.size
 rw[List.take_of_length_le (by rw[List.length_replicate];omega)] at hd'1
 obtain⟨g,rfl,hci⟩:=Hf hd'1 (by omega)
 have hB:=bln n1.below hb2
 have hs9:=hB.size
 refine xc 1 (args:=#[.pointer (some ⟨bi,0,none⟩),.int .i64 (↑f:Int)]) (alloc_NewN bi (some ⟨g,0,none⟩) (256*N) ci f (N-f) (f:Int) rfl (by omega) _ ki (by omega) h1 (by omega)) ?_
 rintro _ W3 ⟨_,rfl,hb3,ba,pa,ca,rfl,ga,ka,ho⟩
 replace ga:=Nat.le_trans hs9 ga
 have ki'1:=ki.below hb3
 have hd'2:=Zb hd'1 hb3
 have ho'1:=Zd ho hB.size
 have hA:Al w.heap.size ba bi g (256*N) ci pa ca f (N-f) 0 (List.replicate (256*N) (0:UInt8)) _:=⟨ka,ki'1,hd'2,ho'1⟩
 have hca:N-f≤ca:=by
  rcases Nat.eq_zero_or_pos (N-f) with q|q
  ·omega
  ·exact own_cap ho'1 q
 have hC:AlC w.heap.size ba (256*N) ci ca f (N-f):=⟨by omega,hci,hca,by omega,ga⟩
 have hB'1:=bln hB hb3
 exact xe 14 (.pointer (some ⟨ba,0,none⟩)) ⟨_,rfl,hB'1,_,_,_,_,_,_,rfl,hC,hA⟩
theorem madeN23(N f:Nat)(Ni fi:Int)(hNi:Ni=(N:Int))(hfi:fi=(f:Int))(w:World)(hN:N≤14400)(h1:1≤f)(h2:f≤N) :
 Calls Tryz.prog 26 #[.int .i64 Ni,.int .i64 fi] w (Vn (fun w' r=>∃ ba b g c pa ca,r=.pointer (some ⟨ba,0,none⟩)∧AlC w.heap.size ba (256*N) c ca f (N-f)∧Al w.heap.size ba b g (256*N) c pa ca f (N-f) 0 (List.replicate (256*N) (0:UInt8)) w') w):=by
 subst hNi hfi;exact law23_made N f w hN h1 h2
theorem Zel(Bi b:Nat)(pi:Option Addr)(ni ci:Nat)(l:List UInt8)(index over n fuel:Int)(m:Nat)(L:List Int)(w:World)(hI:ImgR Bi b pi ni ci l w)(hn:n≤1099511627776)(hfu:fuel≤1000)(hO:Cj l index over n fuel=([],0,L))(hm:L.length=m) :
 Calls Tryz.prog 16 #[.pointer (some ⟨b,0,none⟩),.int .i64 index,.int .i64 over,.int .i64 n,.int .i64 fuel] w (Vn (fun w' r=>∃ p c,r=.tuple #[.slice p m c,.nilIface]∧w'.ownsRow w.heap.size 3 1 (.slice p m c) m (L.map (Value.int .i64))) w):=by
 subst hm
 refine(Zhh Bi b pi ni ci l index over n fuel w hI hn hfu).mono ?_
 rintro e W q
 rw[hO] at q
 rcases q with ⟨h,_⟩|⟨h,p,c,rfl,hb,ho⟩
 ·exact absurd rfl h
 ·exact⟨_,rfl,hb,p,c,rfl,ho⟩
theorem Mk(a b:Option Addr)(n ca cb:Nat)(l:List Int)(w:World)(hn:l.length=n)(ha:Sl w (.slice a n ca) n (l.map (Value.int .i64)))(hb:Sl w (.slice b n cb) n (l.map (Value.int .i64))):Calls Tryz.prog 13 #[.slice a n ca,.slice b n cb] w (Ret (.bool true) w):=by
 subst hn;exact ref01_Same a b ca cb l w ha hb
def Zde:List Int:=[0,5,2]
theorem Az:Pb Zde=0:=Ru (by decide) fun k hk=>by
 have hk':k<3:=hk
 obtain rfl|rfl|rfl:k=0∨k=1∨k=2:=by omega
 all_goals decide
theorem nodN4_1{n:Nat}(h:n≤9):Qt 4 n=1:=by
 unfold Qt Hi
 have hp:=Qd n 9
 rw[show Ki 4 true=9 from rfl,show ovN n 9=1 from by unfold ovN at hp ⊢;omega,Jt (by decide)];rfl
theorem Zgf:Wm Zde≤8:=by
 have h5:Qt 5 (Xn Zde Zde.length).length=1:=by
  unfold Qt Hi
  rw[show Ki 5 true=18 from rfl,show(Xn Zde Zde.length).length=1 from by decide,Jt (by decide)];rfl
 have hb:bmN Zde.length=1:=by decide
 unfold Wm
 rw[hb,nodN4_1 (by decide),h5];decide
theorem Oo(w:World) :
 Calls Tryz.prog 15 #[] w (Ret (.bool true) w):=by
 refine zin 36 Tryz.func15 ?_
 have hs1:w.heap.size≤(w).heap.size:=(Below.refl w.heap.size _).size
 refine xc 7 (args:=#[.int .i64 9,.int .i64 1]) (madeN23 9 1 (9) (1) (by simp) rfl _ (by decide) (by decide) (by decide)) ?_
 rintro _ W1 ⟨_,rfl,hb1,ba,b,g,c,pa,ca,rfl,hC,hA⟩
 have hs1:=Nat.le_refl w.heap.size
 replace hC:=hC.mono hs1
 replace hA:=hA.mono hs1
 refine xbs 16 3 [.int .i64 0,.int .i64 5,.int .i64 2] 3 fun b2 W2 n2=>?_
 have hA'1:=hA.below n2.below
 have hB:=bln hb1 n2.below
 refine xc 0 (args:=#[.pointer (some ⟨ba,0,none⟩),.slice (some ⟨b2,0,none⟩) 3 3]) (plot_Data w.heap.size ba b g _ c pa ca 1 _ 0 (List.replicate (256*9) (0:UInt8)) (some ⟨b2,0,none⟩) 3 Zde _ hC hA'1 (Zf (Zw (size:=1) (n:=3) n2.blk (n2.ge hb1) rfl (by decide))) (by decide) Az (by decide) (Nat.zero_le _) (by have:=Zgf;omega) hB.size) ?_
 rintro _ W3 ⟨rfl,hb3,hO3,hX3,hA⟩
 refine xr 12 (args:=#[.pointer (some ⟨ba,0,none⟩)]) (Ml ba b _ _ _ hA.blkA) fun W4 hb4=>?_
 have hbk:=(data_back (l:=Zde) (q:=1+0) (bs:=(List.replicate (256*9) (0:UInt8))) (fuel:=9) (by decide) Az (by decide) (by have:=Zgf;omega) (by have:=Zgf;rw[List.length_replicate];omega) (by have:=Zgf;omega)).1
 have hA'2:=hA.below hb4
 refine xc 2 (args:=#[.pointer (some ⟨b,0,none⟩),.int .i64 ((Jn Zde (1+0) (List.replicate (256*9) (0:UInt8))).1),.int .i64 ((Jn Zde (1+0) (List.replicate (256*9) (0:UInt8))).2.1),.int .i64 3,.int .i64 9]) (Zel w.heap.size b (some ⟨g,0,none⟩) (256*9) c (Jn Zde (1+0) (List.replicate (256*9) (0:UInt8))).2.2 (Jn Zde (1+0) (List.replicate (256*9) (0:UInt8))).1 (Jn Zde (1+0) (List.replicate (256*9) (0:UInt8))).2.1 3 9 3 Zde _ ⟨hA'2.blkI,hA'2.data,by omega⟩ (by omega) (by decide) hbk rfl) ?_
 rintro _ W5 ⟨_,rfl,hb5,p9,c9,rfl,ho9⟩
 have hs5:=(bln (hB.trans hb3) hb4).size
 refine xbs 17 3 [.int .i64 0,.int .i64 5,.int .i64 2] 3 fun b6 W6 n6=>?_
 have k2'1:=((n2.blk.only hO3 (by decide)).below hb4).below hb5
 have d6_b2:=n6.ne k2'1
 have hB'1:=bln (bln (hB.trans hb3) hb4) hb5
 have g6:=n6.ge hB'1
 have ho9'1:=Zd ho9 hs5
 have r6_ho9:=Zu ho9'1 n6
 have ho9'2:=Zb ho9'1 n6.below
 refine xr 0 (args:=#[.slice p9 3 c9,.slice (some ⟨b6,0,none⟩) 3 3]) (Mk p9 (some ⟨b6,0,none⟩) 3 c9 3 Zde _ rfl (Zf ho9'2) (Zf (Zw (size:=1) (n:=3) n6.blk g6 rfl (by decide)))) fun W7 hb7=>?_
 have hB'2:=bln (bln hB'1 n6.below) hb7
 exact xe 5 (.bool true) ⟨rfl,hB'2⟩
def jN (E:List Ent)(i:Nat):Nat:=(Qh E i).toNat
theorem Zdj{w:World}{a:Option Addr}{c k:Nat}{E:List Ent}(h:Sts Ko w (.slice a E.length c) E)(hk:k<E.length)(h0:∀ i,i<E.length→0≤Qh E i):w.cell? ((Xh a (k*3)).add 0)=some (.int .i64 (jN E k:Int)):=by
 have:=(Sts.cell h Yb Xp (k:=k) (i:=0) hk rfl).2
 rw[show((jN E k:Nat):Int)=(E.getD k Xp).1 from by have:=h0 k hk;unfold jN Qh at *;omega]
 exact this
theorem Hk(E:List Ent)(i:Nat)(w:World)(hs:(E.getD i Xp).2.1.length≤1000):Calls Tryz.prog 106 #[.string ⟨(E.getD i Xp).2.1.toArray⟩] w (Ret (.tuple #[.int .i64 (jVal E i),.int .i64 (Xq Gz (E.getD i Xp).2.1)]) w):=Sk _ w hs
theorem jLast_or(E:List Ent)(i:Nat):(i=0∧Kq E i = -1)∨(0<i∧Kq E i=Qh E (i-1)):=by
 unfold Kq
 by_cases h:i=0
 ·rw[if_pos h];exact .inl ⟨h,rfl⟩
 ·rw[if_neg h];exact .inr ⟨by omega,rfl⟩
theorem jN_key{E:List Ent}{i:Nat}(h0:∀ i,i<E.length→0≤Qh E i)(hi:i<E.length):(jN E i:Int)=Qh E i:=by have:=h0 i hi;unfold jN;omega
def FindP(E:List Ent)(k:Nat)(w:World)(e:Ending)(w':World):Prop :=
 (∃ j,(j<E.length∧Qh E j=(k:Int)∧∀ m,m<j→Qh E m≠(k:Int))∧e=.returned (.int .i64 (j:Int))∧Below w.heap.size w w')∨((∀ j,j<E.length→Qh E j≠(k:Int))∧e=.returned (.int .i64 (-1))∧Below w.heap.size w w')
theorem ref21_form(B2:Nat)(pl:Option Addr)(cl:Nat)(gs:List (Nat×Nat))(L:List (List Int))(w:World)(hL:Lists w B2 (.slice pl L.length cl) gs L)(hF:FormOk L)(hl:L.length≤1200000000) :
 Calls Tryz.prog 105 #[.slice pl L.length cl] w (Ret (.bool true) w):=by
 refine zin 57 Tryz.func105 ?_
 have hB:=Below.refl w.heap.size w
 refine zl 12 57 (fun zm zkv V=>∃ (i:Nat),zkv=[(0,.slice pl L.length cl),(3,.int .i64 (↑i:Int))]∧zm=L.length-((↑i:Int)).toNat∧Below w.heap.size w V∧i≤L.length) ⟨0,rfl,rfl,hB,Nat.zero_le _⟩ ?_
 rintro _ _ W1 ⟨i,rfl,rfl,hB_1,hi⟩ J1 hJ1 r1
 have hfo:=fun(q:i<L.length)=>hF.len i q
 refine xid 9 ((↑i:Int)<(↑L.length:Int)) (fun hc2=>?_) (fun hc2=>?_)
 ·refine xx 8 _ L.length i 1 (Lists.elem hL rfl (k:=i) (by omega)).1 ?_
  refine xl 0 ((Lists.elem (hL.below hB_1) rfl (k:=i) (by omega)).2) ?_
  refine xgk 10 [18,19] (show(((↑((L.getD i []).length):Int)==(0:Int)):Bool)=false from beq_false_of_ne (by have:=(hfo (by omega)).1;omega)) ?_
  refine xgk 4 [21,22,23] (show(decide ((↑((L.getD i []).length):Int)>(960:Int)):Bool)=false from decide_eq_false (by have:=(hfo (by omega)).2.1;omega)) ?_
  refine xwm 1 ((↑i:Int)+1) (↑(i+1):Int) ?_
  refine xg 4 [28,29] (decide ((↑(i+1):Int)<(↑L.length:Int))) (fun hc5=>?_) (fun hc5=>?_)
  ·have hc5:=of_decide_eq_true hc5
   refine xk 6 (show(decide ((↑((L.getD i []).length):Int)<(960:Int)):Bool)=false from decide_eq_false (by have:=(hfo (by omega)).2.2 (by omega);omega)) ?_
   refine zl 8 57 (fun zm zkv V=>∃ (k:Nat),zkv=[(0,.slice pl L.length cl),(3,.int .i64 (↑i:Int)),(4,.int .i64 (↑((L.getD i []).length):Int)),(5,.int .i64 (↑k:Int))]∧zm=(L.getD i []).length-((↑k:Int)).toNat∧Below w.heap.size w V∧k≤(L.getD i []).length) ⟨0,rfl,rfl,hB_1,Nat.zero_le _⟩ ?_
   rintro _ _ W6 ⟨k,rfl,rfl,hB_6,hk⟩ J6 hJ6 r6
   have hsm:=fun(q:k<(L.getD i []).length)=>Vj (hF.small i (by omega)) k
   have hf2:=(hF.len i (by omega)).2.1
   refine xid 8 ((↑k:Int)<(↑((L.getD i []).length):Int)) (fun hc7=>?_) (fun hc7=>?_)
   ·refine xx 8 _ L.length i 1 (Lists.elem hL rfl (k:=i) (by omega)).1 ?_
    refine xl 0 ((Lists.elem (hL.below hB_6) rfl (k:=i) (by omega)).2) ?_
    refine xxb 1 (gs.getD i (0,0)).1 0 ((L.getD i []).length) k 1 ?_
    refine xl 0 (Nf (IntsN.elem (Zf (Lists.each (hL.below hB_6) i (by omega))) rfl (k:=k) (by omega)).2) ?_
    refine xgk 2 [46,47] (show(decide (((L.getD i []).getD k 0)<(0:Int)):Bool)=false from decide_eq_false (by have:=(hsm (by omega)).1;omega)) ?_
    refine xx 2 _ L.length i 1 (Lists.elem hL rfl (k:=i) (by omega)).1 ?_
    refine xl 0 ((Lists.elem (hL.below hB_6) rfl (k:=i) (by omega)).2) ?_
    refine xxb 1 (gs.getD i (0,0)).1 0 ((L.getD i []).length) k 1 ?_
    refine xl 0 (Nf (IntsN.elem (Zf (Lists.each (hL.below hB_6) i (by omega))) rfl (k:=k) (by omega)).2) ?_
    refine xk 4 (show(decide (((L.getD i []).getD k 0)>(3:Int)):Bool)=false from decide_eq_false (by have:=(hsm (by omega)).2;omega)) ?_
    refine xwm 5 ((↑k:Int)+1) (↑(k+1):Int) ?_
    exact ze 2 (hJ6 _ _ _ ⟨k+1,rfl,rfl,hB_6,by omega⟩ (by omega))
   refine xwm 8 ((↑i:Int)+1) (↑(i+1):Int) ?_
   exact ze 2 (hJ1 _ _ _ ⟨i+1,rfl,rfl,hB_6,by omega⟩ (by omega))
  have hc5:=of_decide_eq_false hc5
  refine zl 15 57 (fun zm zkv V=>∃ (k:Nat),zkv=[(0,.slice pl L.length cl),(3,.int .i64 (↑i:Int)),(4,.int .i64 (↑((L.getD i []).length):Int)),(5,.int .i64 (↑k:Int))]∧zm=(L.getD i []).length-((↑k:Int)).toNat∧Below w.heap.size w V∧k≤(L.getD i []).length) ⟨0,rfl,rfl,hB_1,Nat.zero_le _⟩ ?_
  rintro _ _ W9 ⟨k,rfl,rfl,hB_9,hk⟩ J9 hJ9 r9
  have hsm:=fun(q:k<(L.getD i []).length)=>Vj (hF.small i (by omega)) k
  have hf2:=(hF.len i (by omega)).2.1
  refine xid 8 ((↑k:Int)<(↑((L.getD i []).length):Int)) (fun hc10=>?_) (fun hc10=>?_)
  ·refine xx 8 _ L.length i 1 (Lists.elem hL rfl (k:=i) (by omega)).1 ?_
   refine xl 0 ((Lists.elem (hL.below hB_9) rfl (k:=i) (by omega)).2) ?_
   refine xxb 1 (gs.getD i (0,0)).1 0 ((L.getD i []).length) k 1 ?_
   refine xl 0 (Nf (IntsN.elem (Zf (Lists.each (hL.below hB_9) i (by omega))) rfl (k:=k) (by omega)).2) ?_
   refine xgk 2 [46,47] (show(decide (((L.getD i []).getD k 0)<(0:Int)):Bool)=false from decide_eq_false (by have:=(hsm (by omega)).1;omega)) ?_
   refine xx 2 _ L.length i 1 (Lists.elem hL rfl (k:=i) (by omega)).1 ?_
   refine xl 0 ((Lists.elem (hL.below hB_9) rfl (k:=i) (by omega)).2) ?_
   refine xxb 1 (gs.getD i (0,0)).1 0 ((L.getD i []).length) k 1 ?_
   refine xl 0 (Nf (IntsN.elem (Zf (Lists.each (hL.below hB_9) i (by omega))) rfl (k:=k) (by omega)).2) ?_
   refine xk 4 (show(decide (((L.getD i []).getD k 0)>(3:Int)):Bool)=false from decide_eq_false (by have:=(hsm (by omega)).2;omega)) ?_
   refine xwm 5 ((↑k:Int)+1) (↑(k+1):Int) ?_
   exact ze 2 (hJ9 _ _ _ ⟨k+1,rfl,rfl,hB_9,by omega⟩ (by omega))
  refine xwm 8 ((↑i:Int)+1) (↑(i+1):Int) ?_
  exact ze 2 (hJ1 _ _ _ ⟨i+1,rfl,rfl,hB_9,by omega⟩ (by omega))
 exact xe 11 (.bool true) ⟨rfl,hB_1⟩
theorem ref21_find(a:Option Addr)(ce:Nat)(E:List Ent)(key:Nat)(w:World)(hE:Sts Ko w (.slice a E.length ce) E)(h0:∀ i,i<E.length→0≤Qh E i) :
 Calls Tryz.prog 107 #[.slice a E.length ce,.int .i64 (↑key:Int)] w (FindP E key w):=by
 have hEl:=Sl.len hE
 refine zin 20 Tryz.func107 ?_
 have hB:=Below.refl w.heap.size w
 refine zl 12 20 (fun zm zkv V=>∃ (i:Nat),zkv=[(0,.slice a E.length ce),(1,.int .i64 (↑key:Int)),(5,.int .i64 (↑i:Int))]∧zm=E.length-((↑i:Int)).toNat∧Below w.heap.size w V∧i≤E.length∧(∀ j,j<i→Qh E j≠(key:Int))) ⟨0,rfl,rfl,hB,Nat.zero_le _,?_⟩ ?_
 ·exact fun j hj=>absurd hj (by omega)
 rintro _ _ W1 ⟨i,rfl,rfl,hB_1,hi,hz⟩ J1 hJ1 r1
 have hkn:=fun(q:i<E.length)=>jN_key h0 q
 refine xid 9 ((↑i:Int)<(↑E.length:Int)) (fun hc2=>?_) (fun hc2=>?_)
 ·refine xx 8 _ E.length i 3 (Sts.cell hE Yb Xp (k:=i) (i:=0) (by omega) rfl).1 ?_
  refine xl 1 (Zdj (k:=i) (hE.below hB_1) (by omega) h0) ?_
  refine xie 4 (↑(jN E i):Int) (↑key:Int) (fun hc3=>?_) (fun hc3=>?_)
  ·exact xe 12 (.int .i64 (↑i:Int)) (.inl ⟨i,⟨by omega,by have:=hkn (by omega);omega,hz⟩,rfl,hB_1⟩)
  refine xwm 5 ((↑i:Int)+1) (↑(i+1):Int) ?_
  exact ze 2 (hJ1 _ _ _ ⟨i+1,rfl,rfl,hB_1,by omega,fun j hj=>(Nat.lt_or_ge j i).elim (hz j) (fun q=>by obtain rfl:j=i:=(by omega);have:=hkn (by omega);omega)⟩ (by omega))
 exact xe 11 (.int .i64 (-1)) (.inr ⟨fun j hj=>hz j (by omega),rfl,hB_1⟩)
theorem docL_cell{w:World}{p:Option Addr}{F:List Int}{E:List Ent}{n c k:Nat}(h:Sl w (.slice p F.length c) F.length ((Za1 F E n k).map (Value.int .i64)))(hk:k<F.length):w.cell? (Xh p (k*1))=some (.int .i64 (F.getD k 0)):=by
 have h1:=(IntsN.elem h (docL_len (by omega)) hk).2
 rwa [docL_at hk] at h1
theorem docL_setJ{F:List Int}{E:List Ent}{n k j:Nat}(h:k<F.length)(hj:j<n)(hk:Qh E j=(k:Int))(hn:∀ m,m<j→Qh E m≠(k:Int)):((Za1 F E n k).map (Value.int .i64)).set k (.int .i64 (jVal E j))=(Za1 F E n (k+1)).map (Value.int .i64):=by
 rw[←docL_set h]
 unfold Zgm
 rw[Bm hj hk hn]
theorem ref21_Join(B2:Nat)(pl:Option Addr)(cl:Nat)(gs:List (Nat×Nat))(L:List (List Int))(a:Option Addr)(ce:Nat)(E:List Ent)(w:World)(hL:Lists w B2 (.slice pl L.length cl) gs L)(hF:FormOk L)(hl:L.length≤1200000000)(hE:Sts Ko w (.slice a E.length ce) E)(hv:∀ i,i<E.length→(E.getD i Xp).2.1.length≤1000)(h0:∀ i,i<E.length→0≤Qh E i) :
 Calls Tryz.prog 68 #[.slice pl L.length cl,.slice a E.length ce] w (JoinP L.flatten E w):=by
 have hEl:=Sl.len hE
 have hFl:=Lp hF L.length (Nat.le_refl _)
 rw[Eh] at hFl
 refine zin 111 Tryz.func68 ?_
 refine xr 10 (args:=#[.slice pl L.length cl]) (ref21_form B2 pl cl gs L _ (hL.below (Below.refl w.heap.size _)) hF hl) fun W1 hb1=>?_
 refine zl 18 111 (fun zm zkv V=>∃ (i m:Nat) (p:Option Addr) (c:Nat),zkv=[(0,.slice pl L.length cl),(1,.slice a E.length ce),(4,.slice none 0 0),(5,.int .i64 0),(6,.slice p m c),(7,.int .i64 (↑i:Int))]∧zm=L.length-((↑i:Int)).toNat∧Below w.heap.size w V∧V.ownsRow w.heap.size 3 1 (.slice p m c) m ((Kz L i).map (Value.int .i64))∧i≤L.length∧m=(Kz L i).length) ⟨0,0,none,0,rfl,rfl,hb1,World.ownsRow_nil _ _ _ _,Nat.zero_le _,rfl⟩ ?_
 rintro _ _ W2 ⟨i,m,p,c,rfl,rfl,hB_2,ho,hi,hm⟩ J2 hJ2 r2
 have hfo:=fun(q:i<L.length)=>hF.len i q
 have hfl:=fun(q:i≤L.length)=>Lp hF i q
 refine xid 9 ((↑i:Int)<(↑L.length:Int)) (fun hc3=>?_) (fun hc3=>?_)
 ·refine xx 8 _ L.length i 1 (Lists.elem hL rfl (k:=i) (by omega)).1 ?_
  refine xl 0 ((Lists.elem (hL.below hB_2) rfl (k:=i) (by omega)).2) ?_
  refine xbi 0 fun _ _ _ _ zJ zQ zo zx zy zK=>Zp (m:=(L.getD i []).length) (news:=((L.getD i []).map (Value.int .i64))) (.int .i64 0) 1 8 (m+(L.getD i []).length) (((Kz L (i+1)).map (Value.int .i64))) zo Tryz.underlying30 (by kernel_rfl) rfl (by decide) zx ho zy (Zf (Lists.each (hL.below hB_2) i (by omega))) (by simp) (Kl _) (by have:=(hfo (by omega)).2.1;have:=hfl (by omega);unfold maxLen;omega) (by have:=(hfo (by omega)).2.1;have:=hfl (by omega);omega) hB_2.size (by omega) (by rw[Py (by omega),List.map_append]) fun px4 cx4 W4 o4 hg4 hb4=>?_
  refine zK _ _ ?_
  refine xwm 6 ((↑i:Int)+1) (↑(i+1):Int) ?_
  have hB'1:=hB_2.trans hb4
  exact ze 2 (hJ2 _ _ _ ⟨i+1,_,_,_,rfl,rfl,hB'1,o4,by omega,by rw[Py (by omega),List.length_append];omega⟩ (by omega))
 obtain rfl:i=L.length:=by omega
 rw[Eh] at hm
 have hof:=ho
 rw[Eh] at hof
 subst hm
 refine zl 12 111 (fun zm zkv V=>∃ (i:Nat),zkv=[(1,.slice a E.length ce),(6,.slice p L.flatten.length c),(8,.int .i64 (↑i:Int))]∧zm=E.length-((↑i:Int)).toNat∧Below w.heap.size w V∧V.ownsRow w.heap.size 3 1 (.slice p L.flatten.length c) L.flatten.length (L.flatten.map (Value.int .i64))∧i≤E.length∧jOk L.flatten E i) ⟨0,rfl,rfl,hB_2,hof,Nat.zero_le _,(fun j hj=>absurd hj (by omega))⟩ ?_
 rintro _ _ W5 ⟨i,rfl,rfl,hB_5,ho_5,hi_5,hok⟩ J5 hJ5 r5
 have hjl:=Na hok
 have hjo:=jLast_or E i
 have hkn:=fun(q:i<E.length)=>jN_key h0 q
 have hkp:=fun(q:i<E.length)=>jN_key (i:=i-1) h0 (by omega)
 refine xid 9 ((↑i:Int)<(↑E.length:Int)) (fun hc6=>?_) (fun hc6=>?_)
 ·refine xx 8 _ E.length i 3 (Sts.cell hE Yb Xp (k:=i) (i:=0) (by omega) rfl).1 ?_
  refine xl 1 (Zdj (k:=i) (hE.below hB_5) (by omega) h0) ?_
  refine xgk 9 [43,44] (show(decide ((↑(jN E i):Int)<(0:Int)):Bool)=false from decide_eq_false (by omega)) ?_
  refine xg 3 [46,47] (decide ((↑i:Int)>(0:Int))) (fun hc8=>?_) (fun hc8=>?_)
  ·have hc8:=of_decide_eq_true hc8
   refine xwm 3 ((↑i:Int)-1) (↑(i-1):Int) ?_
   refine xx 0 _ E.length (i-1) 3 (Sts.cell hE Yb Xp (k:=(i-1)) (i:=0) (by omega) rfl).1 ?_
   refine xl 1 (Zdj (k:=(i-1)) (hE.below hB_5) (by omega) h0) ?_
   refine xid 5 ((↑(jN E i):Int)≤(↑(jN E (i-1)):Int)) (fun hc9=>?_) (fun hc9=>?_)
   ·refine xe 13 (.tuple #[.slice none 0 0,.int .i64 8]) ?_
    have h8:Qh E i≤Kq E i:=by have:=hkn (by omega);have:=hkp (by omega);omega
    exact Qw ((Kd (by omega) hok (by rw[Zf0 h8];decide)).trans (by rw[Zf0 h8])) hB_5
   refine xg 10 [61,62] (decide ((↑(jN E i):Int)≥(↑L.flatten.length:Int))) (fun hc10=>?_) (fun hc10=>?_)
   ·have hc10:=of_decide_eq_true hc10
    refine xe 22 (.tuple #[.slice none 0 0,.int .i64 13]) ?_
    have hlt:Kq E i<Qh E i:=by have:=hkn (by omega);have:=hkp (by omega);omega
    have h13:=Sh (F:=L.flatten) hlt (fun q=>by have:=Zae q;unfold jN at *;omega)
    exact Qw ((Kd (by omega) hok (by rw[h13];decide)).trans (by rw[h13])) hB_5
   have hc10:=of_decide_eq_false hc10
   have hkf:jN E i<L.flatten.length:=by omega
   refine xx 2 _ L.flatten.length (jN E i) 1 (Hp ho_5 (by omega)).1 ?_
   refine xl 0 ((IntsN.elem (Zf ho_5) (by rfl) (k:=(jN E i)) (by omega)).2) ?_
   refine xin 4 (L.flatten.getD (jN E i) 0) (3:Int) (fun hc11=>?_) (fun hc11=>?_)
   ·refine xe 13 (.tuple #[.slice none 0 0,.int .i64 13]) ?_
    have hlt:Kq E i<Qh E i:=by have:=hkn (by omega);have:=hkp (by omega);omega
    have h13:=Sh (F:=L.flatten) hlt (fun q=>by unfold jN at *;omega)
    exact Qw ((Kd (by omega) hok (by rw[h13];decide)).trans (by rw[h13])) hB_5
   have hlt:Kq E i<Qh E i:=by have:=hkn (by omega);have:=hkp (by omega);omega
   have h3:L.flatten.getD (Qh E i).toNat 0=3:=by unfold jN at *;omega
   have hjr:=jBad_r (F:=L.flatten) hlt h3
   refine xx 6 _ E.length i 3 (Sts.cell hE Yb Xp (k:=i) (i:=0) (by omega) rfl).1 ?_
   refine xl 1 ((Sts.cell (hE.below hB_5) Yb Xp (k:=i) (i:=1) (by omega) rfl).2) ?_
   refine xr 0 (args:=#[.string ⟨((E.getD i Xp).2.1).toArray⟩]) (Hk E i _ (hv i (by omega))) fun W12 hb12=>?_
   refine xin 13 (Xq Gz (E.getD i Xp).2.1) (0:Int) (fun hc13=>?_) (fun hc13=>?_)
   ·have hB'2:=bln hB_5 hb12
    exact xe 13 (.tuple #[.slice none 0 0,.int .i64 (Xq Gz (E.getD i Xp).2.1)]) (Qw ((Kd (by omega) hok (by rw[hjr];omega)).trans (by rw[hjr])) hB'2)
   have hok2:jOk L.flatten E (i+1):=Zax hok (by rw[hjr];omega)
   refine xwm 5 ((↑i:Int)+1) (↑(i+1):Int) ?_
   have hB'3:=bln hB_5 hb12
   have ho'1:=Zb ho_5 hb12
   exact ze 2 (hJ5 _ _ _ ⟨i+1,rfl,rfl,hB'3,ho'1,by omega,hok2⟩ (by omega))
  have hc8:=of_decide_eq_false hc8
  refine xg 23 [61,62] (decide ((↑(jN E i):Int)≥(↑L.flatten.length:Int))) (fun hc14=>?_) (fun hc14=>?_)
  ·have hc14:=of_decide_eq_true hc14
   refine xe 22 (.tuple #[.slice none 0 0,.int .i64 13]) ?_
   have hlt:Kq E i<Qh E i:=by have:=hkn (by omega);have:=hkp (by omega);omega
   have h13:=Sh (F:=L.flatten) hlt (fun q=>by have:=Zae q;unfold jN at *;omega)
   exact Qw ((Kd (by omega) hok (by rw[h13];decide)).trans (by rw[h13])) hB_5
  have hc14:=of_decide_eq_false hc14
  have hkf:jN E i<L.flatten.length:=by omega
  refine xx 2 _ L.flatten.length (jN E i) 1 (Hp ho_5 (by omega)).1 ?_
  refine xl 0 ((IntsN.elem (Zf ho_5) (by rfl) (k:=(jN E i)) (by omega)).2) ?_
  refine xin 4 (L.flatten.getD (jN E i) 0) (3:Int) (fun hc15=>?_) (fun hc15=>?_)
  ·refine xe 13 (.tuple #[.slice none 0 0,.int .i64 13]) ?_
   have hlt:Kq E i<Qh E i:=by have:=hkn (by omega);have:=hkp (by omega);omega
   have h13:=Sh (F:=L.flatten) hlt (fun q=>by unfold jN at *;omega)
   exact Qw ((Kd (by omega) hok (by rw[h13];decide)).trans (by rw[h13])) hB_5
  have hlt:Kq E i<Qh E i:=by have:=hkn (by omega);have:=hkp (by omega);omega
  have h3:L.flatten.getD (Qh E i).toNat 0=3:=by unfold jN at *;omega
  have hjr:=jBad_r (F:=L.flatten) hlt h3
  refine xx 6 _ E.length i 3 (Sts.cell hE Yb Xp (k:=i) (i:=0) (by omega) rfl).1 ?_
  refine xl 1 ((Sts.cell (hE.below hB_5) Yb Xp (k:=i) (i:=1) (by omega) rfl).2) ?_
  refine xr 0 (args:=#[.string ⟨((E.getD i Xp).2.1).toArray⟩]) (Hk E i _ (hv i (by omega))) fun W16 hb16=>?_
  refine xin 13 (Xq Gz (E.getD i Xp).2.1) (0:Int) (fun hc17=>?_) (fun hc17=>?_)
  ·have hB'4:=bln hB_5 hb16
   exact xe 13 (.tuple #[.slice none 0 0,.int .i64 (Xq Gz (E.getD i Xp).2.1)]) (Qw ((Kd (by omega) hok (by rw[hjr];omega)).trans (by rw[hjr])) hB'4)
  have hok2:jOk L.flatten E (i+1):=Zax hok (by rw[hjr];omega)
  refine xwm 5 ((↑i:Int)+1) (↑(i+1):Int) ?_
  have hB'5:=bln hB_5 hb16
  have ho'2:=Zb ho_5 hb16
  exact ze 2 (hJ5 _ _ _ ⟨i+1,rfl,rfl,hB'5,ho'2,by omega,hok2⟩ (by omega))
 obtain rfl:i=E.length:=by omega
 refine zl 12 111 (fun zm zkv V=>∃ (k:Nat),zkv=[(1,.slice a E.length ce),(6,.slice p L.flatten.length c),(12,.int .i64 (↑k:Int))]∧zm=L.flatten.length-((↑k:Int)).toNat∧Below w.heap.size w V∧V.ownsRow w.heap.size 3 1 (.slice p L.flatten.length c) L.flatten.length ((Za1 L.flatten E E.length k).map (Value.int .i64))∧k≤L.flatten.length∧(∀ j,j<k→L.flatten.getD j 0=3→∃ m,m<E.length∧Qh E m=(j:Int))) ⟨0,rfl,rfl,hB_5,(by rw[docL_zero];exact ho_5),Nat.zero_le _,?_⟩ ?_
 ·exact fun j hj=>absurd hj (by omega)
 rintro _ _ W18 ⟨k,rfl,rfl,hB_18,ho,hk,hal⟩ J18 hJ18 r18
 refine xid 9 ((↑k:Int)<(↑L.flatten.length:Int)) (fun hc19=>?_) (fun hc19=>?_)
 ·obtain⟨gq,rfl,_⟩:=Hf ho (by omega)
  refine xx 9 _ L.flatten.length k 1 (Hp ho (by omega)).1 ?_
  refine xl 0 (docL_cell (E:=E) (n:=E.length) (k:=k) (Zf ho) (by omega)) ?_
  refine xin 3 (L.flatten.getD k 0) (3:Int) (fun hc20=>?_) (fun hc20=>?_)
  ·refine xwm 6 ((↑k:Int)+1) (↑(k+1):Int) ?_
   have hnk:L.flatten.getD k 0≠3:=by omega
   exact ze 2 (hJ18 _ _ _ ⟨k+1,rfl,rfl,hB_18,(by rw[←docL_keep (E:=E) (n:=E.length) (k:=k) (by omega) (Zfk hok hnk)];exact ho),by omega,fun j hj h3=>(Nat.lt_or_ge j k).elim (fun q=>hal j q h3) (fun q=>by obtain rfl:j=k:=(by omega);exact absurd h3 hnk)⟩ (by omega))
  refine xc 6 (args:=#[.slice a E.length ce,.int .i64 (↑k:Int)]) (ref21_find a ce E k _ (Sl.below hE hB_18) h0) ?_
  rintro e W21 hq21
  rcases hq21 with ⟨jj,⟨hj1,hj2,hj3⟩,rfl,hb21⟩|⟨hnf,rfl,hb21⟩
  ·refine xk 10 (show(decide ((↑jj:Int)<(0:Int)):Bool)=false from decide_eq_false (by omega)) ?_
   refine xx 6 _ E.length jj 3 (Sts.cell hE Yb Xp (k:=jj) (i:=0) (by omega) rfl).1 ?_
   have hB'6:=bln hB_18 hb21
   refine xl 1 ((Sts.cell (hE.below hB'6) Yb Xp (k:=jj) (i:=1) (by omega) rfl).2) ?_
   refine xr 0 (args:=#[.string ⟨((E.getD jj Xp).2.1).toArray⟩]) (Hk E jj _ (hv jj (by omega))) fun W22 hb22=>?_
   have ho'3:=Zb (Zb ho hb21) hb22
   refine xx 11 _ L.flatten.length k 1 (Hp ho'3 (by omega)).1 ?_
   refine xst 0 fun _ _ _ _ zJ zQ zo zx zy zK=>Wn (t:=3) (k:=k) (v:=.int .i64 (jVal E jj)) zo zx zy (by kernel_rfl) rfl ho'3 (by omega) fun W23 u23 o23=>?_
   rw[docL_setJ (F:=L.flatten) (E:=E) (by omega) hj1 hj2 hj3] at o23
   refine zK _ _ ?_
   refine xwm 5 ((↑k:Int)+1) (↑(k+1):Int) ?_
   have hB'7:=u23.below (bln hB'6 hb22) (Zb1 ho'3)
   exact ze 2 (hJ18 _ _ _ ⟨k+1,rfl,rfl,hB'7,o23,by omega,fun j hj h3=>(Nat.lt_or_ge j k).elim (fun q=>hal j q h3) (fun q=>by obtain rfl:j=k:=(by omega);exact⟨jj,hj1,hj2⟩)⟩ (by omega))
  have hB'8:=bln hB_18 hb21
  exact xe 24 (.tuple #[.slice none 0 0,.int .i64 13]) (Qw ((Pk hok).trans (if_neg (open_ne (k:=k) (by omega) hnf))) hB'8)
 refine xe 13 (.tuple #[.slice p L.flatten.length c,.int .i64 0]) ?_
 obtain rfl:k=L.flatten.length:=by omega
 have hnil:=Zgb (F:=L.flatten) (E:=E) (n:=E.length) (fun j hj h3=>hal j hj h3)
 have hj:=(Pk hok).trans (if_pos hnil)
 have ho2:=ho
 rw[docL_all] at ho2
 exact⟨p,c,by rw[hj,Yk],hB_18,by rw[hj,Yk];exact ho2⟩
def Zbs(O:List Int×Int×List Int)(w:World)(e:Ending)(w':World):Prop :=
 (O.2.1≠0∧∃ p c a c2,e=.returned (.tuple #[.slice p 0 c,.agg #[.slice a O.1.length c2,.int .i64 O.2.1]])∧Below w.heap.size w w'∧w'.ownsRow w.heap.size 3 1 (.slice a O.1.length c2) O.1.length (O.1.map (Value.int .i64))) ∨
 (O.2.1=0∧∃ p c a c2,e=.returned (.tuple #[.slice p O.2.2.length c,.agg #[.slice a 0 c2,.int .i64 0]])∧Below w.heap.size w w'∧w'.ownsRow w.heap.size 3 1 (.slice p O.2.2.length c) O.2.2.length (O.2.2.map (Value.int .i64)))
theorem Uc{O:List Int×Int×List Int}{bl:List Int}{er:Int}{m c c2:Nat}{w W:World}{p a:Option Addr}(h:O=(bl,er,[]))(her:er≠0)(hm:bl.length=m)(hb:Below w.heap.size w W)(ho:W.ownsRow w.heap.size 3 1 (.slice a m c2) m (bl.map (Value.int .i64))):Zbs O w (.returned (.tuple #[.slice p 0 c,.agg #[.slice a m c2,.int .i64 er]])) W:=by
 subst h hm;exact .inl ⟨her,p,c,a,c2,rfl,hb,ho⟩
theorem rout_ok{O:List Int×Int×List Int}{L:List Int}{n c c2:Nat}{w W:World}{p a:Option Addr}(h:O=([],0,L))(hn:L.length=n)(hb:Below w.heap.size w W)(ho:W.ownsRow w.heap.size 3 1 (.slice p n c) n (L.map (Value.int .i64))):Zbs O w (.returned (.tuple #[.slice p n c,.agg #[.slice a 0 c2,.int .i64 0]])) W:=by
 subst h hn;exact .inr ⟨rfl,p,c,a,c2,rfl,hb,ho⟩
theorem Ze0(B bm:Nat)(p:Option Addr)(k c:Nat)(l:List UInt8)(no:Int)(w:World)(hI:RefI B bm p k c l w) :
 Calls Tryz.prog 66 #[.pointer (some ⟨bm,0,none⟩),.int .i64 no] w (fun e w' =>
 (Xg l no≠0∧∃ p c a c2,e=.returned (.tuple #[.slice p 0 c,.agg #[.slice a 1 c2,.int .i64 (Xg l no)]])∧Below w.heap.size w w'∧w'.ownsRow w.heap.size 3 1 (.slice a 1 c2) 1 (([no]:List Int).map (Value.int .i64))) ∨
 (Xg l no=0∧∃ p c a c2,e=.returned (.tuple #[.slice p (Vg l no).length c,.agg #[.slice a 0 c2,.int .i64 0]])∧Below w.heap.size w w'∧w'.ownsRow w.heap.size 3 1 (.slice p (Vg l no).length c) (Vg l no).length ((Vg l no).map (Value.int .i64)))):=by
 refine(ref11_Bits B bm p k c l no w hI).mono ?_
 rintro e W ⟨p,c,a5,c5,rfl,hb,ho,hf⟩
 by_cases h:Xg l no=0
 ·refine .inr ⟨h,p,c,a5,c5,?_,hb,ho⟩
  rw[h];rfl
 ·refine .inl ⟨h,p,c,a5,c5,?_,hb,?_⟩
  ·rw[Ev h,Pj h];rfl
  ·rw[Pj h] at hf;exact hf
theorem Zci(B bm:Nat)(p:Option Addr)(k c:Nat)(l:List UInt8)(no:Int)(w:World)(hI:RefI B bm p k c l w) :
 Calls Tryz.prog 44 #[.pointer (some ⟨bm,0,none⟩),.int .i64 no] w (fun e w' =>
 (Xw l no≠0∧∃ p c a c2,e=.returned (.tuple #[.slice p 0 c,.agg #[.slice a 1 c2,.int .i64 (Xw l no)]])∧Below w.heap.size w w'∧w'.ownsRow w.heap.size 3 1 (.slice a 1 c2) 1 (([no]:List Int).map (Value.int .i64))) ∨
 (Xw l no=0∧∃ p c a c2,e=.returned (.tuple #[.slice p (Xv l no).length c,.agg #[.slice a 0 c2,.int .i64 0]])∧Below w.heap.size w w'∧w'.ownsRow w.heap.size 79 3 (.slice p (Xv l no).length c) (Xv l no).length ((Xv l no).flatMap Zd1))):=by
 refine(Zfe B bm p k c l no w hI).mono ?_
 rintro e W ⟨p,c,a5,c5,rfl,hb,ho,hf⟩
 by_cases h:Xw l no=0
 ·refine .inr ⟨h,p,c,a5,c5,?_,hb,ho⟩
  rw[h];rfl
 ·refine .inl ⟨h,p,c,a5,c5,?_,hb,?_⟩
  ·rw[Zad h,Pj h];rfl
  ·rw[Pj h] at hf;exact hf
theorem Zbu(B bm:Nat)(p:Option Addr)(k c:Nat)(l:List UInt8)(root tree fuel:Int)(w:World)(hfu:fuel≤1000)(hI:RefI B bm p k c l w) :
 Calls Tryz.prog 34 #[.pointer (some ⟨bm,0,none⟩),.int .i64 root,.int .i64 tree,.int .i64 fuel] w (fun e w' =>
 ((Zj l root tree fuel).fs≠[]∧∃ pe ce pb cb pf nf cf a c2,e=.returned (.tuple #[.agg #[.slice pe 0 ce,.slice pb 0 cb,.int .i64 0,.int .i64 0,.slice pf nf cf],.agg #[.slice a (Ym (Zj l root tree fuel)).1.length c2,.int .i64 (Ym (Zj l root tree fuel)).2]])∧Below w.heap.size w w'∧w'.ownsRow w.heap.size 3 1 (.slice a (Ym (Zj l root tree fuel)).1.length c2) (Ym (Zj l root tree fuel)).1.length ((Ym (Zj l root tree fuel)).1.map (Value.int .i64))) ∨
 ((Zj l root tree fuel).fs=[]∧∃ pe ce pb nb cb dp lk pf nf cf a c2,e=.returned (.tuple #[.agg #[.slice pe (Zj l root tree fuel).es.length ce,.slice pb nb cb,.int .i64 dp,.int .i64 lk,.slice pf nf cf],.agg #[.slice a 0 c2,.int .i64 0]])∧Below w.heap.size w w'∧w'.ownsRow w.heap.size 77 3 (.slice pe (Zj l root tree fuel).es.length ce) (Zj l root tree fuel).es.length ((Zj l root tree fuel).es.flatMap Ko))):=by
 refine(Zcm B bm p k c l root tree fuel w hfu hI).mono ?_
 rintro e W ⟨t,pe,pb,pf,ce,cb,cf,fv,a,c2,ht,rfl,hb,hW,hv⟩
 by_cases h:(Zj l root tree fuel).fs=[]
 ·obtain⟨h1,h2,_,_⟩:=Ub h
  rw[h1] at ht
  subst ht
  refine .inr ⟨h,pe,ce,pb,(Zj l root tree fuel).bs.length,cb,(Zj l root tree fuel).deep,((Zj l root tree fuel).looked:Int),pf,fv.length,cf,a,c2,?_,hb,hW.ents⟩
  rw[h2];rfl
 ·obtain⟨h1,h2,h3,h4⟩:=Qy h
  rw[h1] at ht
  subst ht
  exact .inl ⟨h,pe,ce,pb,cb,pf,fv.length,cf,a,c2,rfl,hb,hv⟩
theorem Iq(n:Int)(i:Nat)(w:World)(hi:i≤1200000000)(hn:n≤1099511627776)(hn2:0≤n) :
 Calls Tryz.prog 39 #[.int .i64 n,.int .i64 (↑i:Int)] w (Ret (.int .i64 (Vk n i)) w):=by
 refine zin 14 Tryz.func39 ?_
 refine xwm 10 (960*(↑i:Int)) (↑(960*i):Int) ?_
 refine xw 0 (n-(↑(960*i):Int)) ?_
 refine xid 3 (n-(↑(960*i):Int)<(960:Int)) (fun hc1=>?_) (fun hc1=>?_)
 ·refine xwm 4 (960*(↑i:Int)) (↑(960*i):Int) ?_
  refine xw 0 (n-(↑(960*i):Int)) ?_
  exact xe 5 (.int .i64 (n-(↑(960*i):Int))) ⟨by rw[show Vk n i=n-((960*i:Nat):Int) from by unfold Vk;split<;>omega],(Below.refl w.heap.size _)⟩
 exact xe 8 (.int .i64 960) ⟨by rw[show Vk n i=960 from by unfold Vk;split<;>omega],(Below.refl w.heap.size _)⟩
theorem ref23_one(B bm:Nat)(p:Option Addr)(k c:Nat)(l:List UInt8)(x:Plc)(at0 want:Int)(w:World)(hI:RefI B bm p k c l w)(hat:x.2.1=at0)(h0:x.2.2=0) :
 Calls Tryz.prog 38 #[.pointer (some ⟨bm,0,none⟩),.agg #[.int .i64 (↑x.1.1:Int),.int .i64 (↑x.1.2.1:Int),.int .i64 (↑x.1.2.2:Int)],.int .i64 at0,.int .i64 want] w (Zbs (Zac l x want) w):=by
 refine zin 52 Tryz.func38 ?_
 refine xa 2 [.int .i64 (↑x.1.1:Int),.int .i64 (↑x.1.2.1:Int),.int .i64 (↑x.1.2.2:Int)] 79 fun b1 W1 n1=>?_
 refine xa 1 [.slice none 0 0,.int .i64 0] 43 fun b2 W2 n2=>?_
 have k1:=n1.blk.below n2.below
 refine xb 6 0 k1 ?_
 have hB:=bln n1.below n2.below
 refine xc 0 (args:=#[.pointer (some ⟨bm,0,none⟩),.int .i64 (↑x.1.1:Int)]) (Ze0 B bm p k c l (↑x.1.1:Int) _ (hI.below hB)) ?_
 rintro e W3 hq3
 rcases hq3 with ⟨hbe,p9,c9,a9,d9,rfl,hb3,hf9⟩|⟨hbe,p9,c9,a9,d9,rfl,hb3,ho9⟩
 ·have hs3:=(bln n1.below n2.below).size
  refine xa 3 [.slice none 0 0,.int .i64 0] 43 fun b4 W4 n4=>?_
  have k2:=n2.blk.below hb3
  have d4_b2:=n4.ne k2
  have hB'1:=bln hB hb3
  have g4:=n4.ge hB'1
  refine xsv 1 n4.blk [.slice a9 1 d9,.int .i64 (Xg l (↑x.1.1:Int))] fun W5 u5 k5=>?_
  refine xb 6 1 k5 ?_
  refine xk 3 (show(((Xg l (↑x.1.1:Int)) != (0:Int)):Bool)=true from bne_iff_ne.2 hbe) ?_
  refine xlv 3 k5.rp ?_
  have hf9'1:=u5.own2 (Zb (Zd hf9 hs3) n4.below) n4.blk (by decide)
  refine xc 0 (args:=#[.int .i64 at0,.agg #[.slice a9 1 d9,.int .i64 (Xg l (↑x.1.1:Int))]]) (Zdc at0 (Xg l (↑x.1.1:Int)) a9 1 d9 [(↑x.1.1:Int)] _ hbe rfl (by decide) (Zf hf9'1)) ?_
  rintro _ W6 ⟨_,rfl,hb6,pa,ca,rfl,hva⟩
  have hs6:=(u5.below (bln hB'1 n4.below) g4).size
  have k2'1:=(u5.blk (k2.below n4.below) (Ne.symm (Ne.symm d4_b2))).below hb6
  refine xsv 1 k2'1 [.slice pa (1+1) ca,.int .i64 (Xg l (↑x.1.1:Int))] fun W7 u7 k7=>?_
  have g2:=n2.ge n1.below
  have hva'1:=u7.own2 (Zd hva hs6) k2'1 (by decide)
  have hB'2:=u7.below (bln (u5.below (bln hB'1 n4.below) g4) hb6) g2
  exact xec 4 k7 (.tuple #[.slice none 0 0,.agg #[.slice pa (1+1) ca,.int .i64 (Xg l (↑x.1.1:Int))]]) (Uc (by unfold Zac;rw[if_neg (fun q=>q h0),if_pos hbe,hat]) hbe rfl hB'2 hva'1)
 have hs3:=(bln n1.below n2.below).size
 refine xa 3 [.slice none 0 0,.int .i64 0] 43 fun b8 W8 n8=>?_
 have k2:=n2.blk.below hb3
 have d8_b2:=n8.ne k2
 have hB'3:=bln hB hb3
 have g8:=n8.ge hB'3
 refine xsv 1 n8.blk [.slice a9 0 d9,.int .i64 0] fun W9 u9 k9=>?_
 refine xb 6 1 k9 ?_
 refine xin 15 (↑((Vg l (↑x.1.1:Int)).length):Int) want (fun hc10=>?_) (fun hc10=>?_)
 ·refine xc 3 (args:=#[.int .i64 at0,.int .i64 7]) (Ha at0 7 _ (by decide)) ?_
  rintro _ W11 ⟨pa,ca,rfl,hb11,hva⟩
  have hs11:=(u9.below (bln hB'3 n8.below) g8).size
  have k2'2:=(u9.blk (k2.below n8.below) (Ne.symm (Ne.symm d8_b2))).below hb11
  refine xsv 1 k2'2 [.slice pa 1 ca,.int .i64 7] fun W12 u12 k12=>?_
  have g2:=n2.ge n1.below
  have hva'2:=u12.own2 (Zd hva hs11) k2'2 (by decide)
  have hB'4:=u12.below (bln (u9.below (bln hB'3 n8.below) g8) hb11) g2
  exact xec 4 k12 (.tuple #[.slice none 0 0,.agg #[.slice pa 1 ca,.int .i64 7]]) (Uc (by unfold Zac;rw[if_neg (fun q=>q h0),if_neg (by omega),if_pos (by assumption),hat]) (by decide) rfl hB'4 hva'2)
 have ho9'1:=u9.own2 (Zb (Zd ho9 hs3) n8.below) n8.blk (by decide)
 refine xr 5 (args:=#[.slice p9 ((Vg l (↑x.1.1:Int)).length) c9]) (ref09_Free p9 c9 (Vg l (↑x.1.1:Int)) _ (bitR_le _ _) (Zf ho9'1)) fun W13 hb13=>?_
 have k1'1:=(u9.blkT ((k1.below hb3).below n8.below) n8.blk (by decide)).below hb13
 refine xb 12 1 k1'1 ?_
 refine xg 2 [41,42] ((↑(Yn (Vg l (↑x.1.1:Int))):Int) != (↑x.1.2.1:Int)) (fun hc14=>?_) (fun hc14=>?_)
 ·have hc14:=Qx hc14
  refine xc 11 (args:=#[.int .i64 at0,.int .i64 13]) (Ha at0 13 _ (by decide)) ?_
  rintro _ W15 ⟨pa,ca,rfl,hb15,hva⟩
  have hs15:=(bln (u9.below (bln hB'3 n8.below) g8) hb13).size
  have k2'3:=((u9.blk (k2.below n8.below) (Ne.symm (Ne.symm d8_b2))).below hb13).below hb15
  refine xsv 1 k2'3 [.slice pa 1 ca,.int .i64 13] fun W16 u16 k16=>?_
  have g2:=n2.ge n1.below
  have hva'3:=u16.own2 (Zd hva hs15) k2'3 (by decide)
  have hB'5:=u16.below (bln (bln (u9.below (bln hB'3 n8.below) g8) hb13) hb15) g2
  exact xec 4 k16 (.tuple #[.slice none 0 0,.agg #[.slice pa 1 ca,.int .i64 13]]) (Uc (by unfold Zac;rw[if_neg (fun q=>q h0),if_neg (by omega),if_neg (by omega),if_neg (by omega),hat]) (by decide) rfl hB'5 hva'3)
 have hc14:=Xk hc14
 refine xb 2 2 k1'1 ?_
 refine xin 4 (↑(Xm (Vg l (↑x.1.1:Int))):Int) (↑x.1.2.2:Int) (fun hc17=>?_) (fun hc17=>?_)
 ·refine xc 3 (args:=#[.int .i64 at0,.int .i64 13]) (Ha at0 13 _ (by decide)) ?_
  rintro _ W18 ⟨pa,ca,rfl,hb18,hva⟩
  have hs18:=(bln (u9.below (bln hB'3 n8.below) g8) hb13).size
  have k2'4:=((u9.blk (k2.below n8.below) (Ne.symm (Ne.symm d8_b2))).below hb13).below hb18
  refine xsv 1 k2'4 [.slice pa 1 ca,.int .i64 13] fun W19 u19 k19=>?_
  have g2:=n2.ge n1.below
  have hva'4:=u19.own2 (Zd hva hs18) k2'4 (by decide)
  have hB'6:=u19.below (bln (bln (u9.below (bln hB'3 n8.below) g8) hb13) hb18) g2
  exact xec 4 k19 (.tuple #[.slice none 0 0,.agg #[.slice pa 1 ca,.int .i64 13]]) (Uc (by unfold Zac;rw[if_neg (fun q=>q h0),if_neg (by omega),if_neg (by omega),if_neg (by omega),hat]) (by decide) rfl hB'6 hva'4)
 have k2'5:=(u9.blk (k2.below n8.below) (Ne.symm (Ne.symm d8_b2))).below hb13
 refine xsv 7 k2'5 [.slice none 0 0,.int .i64 0] fun W20 u20 k20=>?_
 have g2:=n2.ge n1.below
 have hB'7:=u20.below (bln (u9.below (bln hB'3 n8.below) g8) hb13) g2
 have ho9'2:=u20.own2 (Zb ho9'1 hb13) k2'5 (by decide)
 exact xec 3 k20 (.tuple #[.slice p9 ((Vg l (↑x.1.1:Int)).length) c9,.agg #[.slice none 0 0,.int .i64 0]]) (rout_ok (by unfold Zac;rw[if_neg (fun q=>q h0),if_neg (by omega),if_neg (by omega),if_pos (by omega)]) rfl hB'7 ho9'2)
theorem ref23_rest(B bm:Nat)(p:Option Addr)(k c:Nat)(l:List UInt8)(B2:Nat)(pl:Option Addr)(cl:Nat)(gs:List (Nat×Nat))(L:List (List Int))(over fuel:Int)(w:World)(hI:RefI B bm p k c l w)(hL:Lists w B2 (.slice pl L.length cl) gs L)(hF:FormOk L)(hl:L.length≤1200000000)(hfu:fuel≤1000) :
 Calls Tryz.prog 40 #[.pointer (some ⟨bm,0,none⟩),.slice pl L.length cl,.int .i64 over,.int .i64 fuel] w (Zbs (Nk l L over fuel) w):=by
 refine zin 36 Tryz.func40 ?_
 refine xa 3 [.slice none 0 0,.int .i64 0] 43 fun b1 W1 n1=>?_
 refine xc 7 (args:=#[.pointer (some ⟨bm,0,none⟩),.int .i64 over,.int .i64 5,.int .i64 fuel]) (Zbu B bm p k c l over 5 fuel _ hfu (hI.below n1.below)) ?_
 rintro e W2 hq2
 rcases hq2 with ⟨hfs,pe,ce,pb,cb,pf,nf,cf,a9,d9,rfl,hb2,hf9⟩|⟨hfs,pe,ce,pb,nb,cb,dp,lk,pf,nf,cf,a9,d9,rfl,hb2,hen⟩
 ·refine xa 3 [.slice none 0 0,.slice none 0 0,.int .i64 0,.int .i64 0,.slice none 0 0] 87 fun b3 W3 n3=>?_
  have hB'1:=bln n1.below hb2
  have g3:=n3.ge hB'1
  refine xa 0 [.slice none 0 0,.int .i64 0] 43 fun b4 W4 n4=>?_
  have k1:=(n1.blk.below hb2).below n3.below
  have d4_b1:=n4.ne k1
  have hB'2:=bln hB'1 n3.below
  have g4:=n4.ge hB'2
  have k3:=n3.blk.below n4.below
  refine xsv 0 k3 [.slice pe 0 ce,.slice pb 0 cb,.int .i64 0,.int .i64 0,.slice pf nf cf] fun W5 u5 k5=>?_
  have k4:=u5.blkT n4.blk k3 (by decide)
  refine xsv 0 k4 [.slice a9 ((Ym (Zj l over 5 fuel)).1.length) d9,.int .i64 ((Ym (Zj l over 5 fuel)).2)] fun W6 u6 k6=>?_
  refine xb 6 1 k6 ?_
  refine xk 3 (show(((Ym (Zj l over 5 fuel)).2 != (0:Int)):Bool)=true from bne_iff_ne.2 (La hfs)) ?_
  refine xd 1 (.t w.heap.size [43]) ?_
  have k6'1:=k6.below (Za W6)
  refine xlv (.o [1] 0) k6'1.rp ?_
  have k1'1:=(u6.blk (u5.blkT (k1.below n4.below) k3 (by decide)) (Ne.symm (Ne.symm d4_b1))).below (Za W6)
  have g1:=n1.ge (Below.refl w.heap.size _)
  refine ysv (.o [] 2) k1'1 [.slice a9 ((Ym (Zj l over 5 fuel)).1.length) d9,.int .i64 ((Ym (Zj l over 5 fuel)).2)] (.t w.heap.size [43]) fun W7 u7 k7=>⟨(Zi u7 k1'1 g1 (by decide)),?_⟩
  have hf9'1:=u7.own2 (Zb (u6.own2 (u5.own2 (Zb (Zb (Zd hf9 n1.below.size) n3.below) n4.below) k3 (by decide)) k4 (by decide)) (Za W6)) k1'1 (by decide)
  have hB'3:=u7.below (bln (u6.below (u5.below (bln hB'2 n4.below) g3) g4) (Za W6)) g1
  exact xec 4 k7 (.tuple #[.slice none 0 0,.agg #[.slice a9 ((Ym (Zj l over 5 fuel)).1.length) d9,.int .i64 ((Ym (Zj l over 5 fuel)).2)]]) (Uc (Zb0 hfs) (La hfs) rfl hB'3 hf9'1)
 refine xa 3 [.slice none 0 0,.slice none 0 0,.int .i64 0,.int .i64 0,.slice none 0 0] 87 fun b8 W8 n8=>?_
 have hB'4:=bln n1.below hb2
 have g8:=n8.ge hB'4
 refine xa 0 [.slice none 0 0,.int .i64 0] 43 fun b9 W9 n9=>?_
 have k1:=(n1.blk.below hb2).below n8.below
 have d9_b1:=n9.ne k1
 have hB'5:=bln hB'4 n8.below
 have g9:=n9.ge hB'5
 have k8:=n8.blk.below n9.below
 refine xsv 0 k8 [.slice pe ((Zj l over 5 fuel).es.length) ce,.slice pb nb cb,.int .i64 dp,.int .i64 lk,.slice pf nf cf] fun W10 u10 k10=>?_
 have k9:=u10.blkT n9.blk k8 (by decide)
 refine xsv 0 k9 [.slice a9 0 d9,.int .i64 0] fun W11 u11 k11=>?_
 refine xb 6 1 k11 ?_
 have k10'1:=u11.blkT k10 k9 (by decide)
 refine xb 10 0 k10'1 ?_
 have hB'6:=u11.below (u10.below (bln hB'5 n9.below) g8) g9
 have hen'1:=u11.own2 (u10.own2 (Zb (Zb (Zd hen n1.below.size) n8.below) n9.below) k8 (by decide)) k9 (by decide)
 refine xc 0 (args:=#[.slice pl L.length cl,.slice pe ((Zj l over 5 fuel).es.length) ce]) (ref21_Join B2 pl cl gs L pe ce (Zj l over 5 fuel).es _ (hL.below hB'6) hF hl (Zf hen'1) (Bu _ _ _ _) (scan_pos _ _ _ _)) ?_
 rintro _ W12 ⟨pj,cj,rfl,hb12,hoj⟩
 have hs12:=(u11.below (u10.below (bln hB'5 n9.below) g8) g9).size
 refine xc 12 (args:=#[.int .i64 over,.int .i64 ((Ka L.flatten (Zj l over 5 fuel).es).1)]) (Gv over (Ka L.flatten (Zj l over 5 fuel).es).1 _) ?_
 rintro _ W13 ⟨pa,ca,rfl,hb13,hva⟩
 have hs13:=(bln hB'6 hb12).size
 have k1'2:=((u11.blk (u10.blkT (k1.below n9.below) k8 (by decide)) (Ne.symm (Ne.symm d9_b1))).below hb12).below hb13
 refine xsv 1 k1'2 [.slice pa ((Gn over (Ka L.flatten (Zj l over 5 fuel).es).1).length) ca,.int .i64 ((Ka L.flatten (Zj l over 5 fuel).es).1)] fun W14 u14 k14=>?_
 have g1:=n1.ge (Below.refl w.heap.size _)
 have hoj'1:=u14.own2 (Zb (Zd hoj hs12) hb13) k1'2 (by decide)
 have hva'1:=u14.own2 (Zd hva hs13) k1'2 (by decide)
 have hB'7:=u14.below (bln (bln hB'6 hb12) hb13) g1
 refine xec 3 k14 (.tuple #[.slice pj ((Ka L.flatten (Zj l over 5 fuel).es).2.length) cj,.agg #[.slice pa ((Gn over (Ka L.flatten (Zj l over 5 fuel).es).1).length) ca,.int .i64 ((Ka L.flatten (Zj l over 5 fuel).es).1)]]) ?_
 have hoj9:=hoj'1
 have hva9:=hva'1
 by_cases hz:(Ka L.flatten (Zj l over 5 fuel).es).1=0
 ·rw[hz]
  exact rout_ok (Ot hfs hz) rfl hB'7 hoj9
 ·rw[joinO_nil hz]
  rw[Pj hz] at hva9
  rw[Pj hz]
  exact Uc (Ae hfs hz) hz rfl hB'7 hva9
theorem plcS_at{sl:List (Nat×Nat×Nat)}{i:Nat}{at0:Int}(hi:i<sl.length):(sl.map (Jd at0)).getD i Ju=Jd at0 (sl.getD i sl0):=by simp[List.getD,hi]
theorem Cd(B bm:Nat)(p:Option Addr)(k c:Nat)(l:List UInt8)(X:List Plc)(n:Int)(i:Nat)(x:Plc)(w:World)(hI:RefI B bm p k c l w)(hx:X.getD i Ju=x)(h0:x.2.2=0)(hw:1≤Vk n i) :
 Calls Tryz.prog 38 #[.pointer (some ⟨bm,0,none⟩),.agg #[.int .i64 (x.1.1:Int),.int .i64 (x.1.2.1:Int),.int .i64 (x.1.2.2:Int)],.int .i64 x.2.1,.int .i64 (Vk n i)] w (fun e w' =>
 ((Hu l X n i).2.1≠0∧∃ p c a c2,e=.returned (.tuple #[.slice p 0 c,.agg #[.slice a (Hu l X n i).1.length c2,.int .i64 (Hu l X n i).2.1]])∧Below w.heap.size w w'∧w'.ownsRow w.heap.size 3 1 (.slice a (Hu l X n i).1.length c2) (Hu l X n i).1.length ((Hu l X n i).1.map (Value.int .i64))) ∨
 ((Hu l X n i).2.1=0∧∃ g c a c2,e=.returned (.tuple #[.slice (some ⟨g,0,none⟩) (Vg l ((X.getD i Ju).1.1:Int)).length c,.agg #[.slice a 0 c2,.int .i64 0]])∧Below w.heap.size w w'∧w'.ownsRow w.heap.size 3 1 (.slice (some ⟨g,0,none⟩) (Vg l ((X.getD i Ju).1.1:Int)).length c) (Vg l ((X.getD i Ju).1.1:Int)).length ((Vg l ((X.getD i Ju).1.1:Int)).map (Value.int .i64)))):=by
 subst hx
 refine(ref23_one B bm p k c l (X.getD i Ju) _ (Vk n i) w hI rfl h0).mono ?_
 rintro e W q
 rcases q with ⟨h,p,c,a,c2,rfl,hb,ho⟩|⟨h,p,c,a,c2,rfl,hb,ho⟩
 ·exact .inl ⟨h,p,c,a,c2,rfl,hb,ho⟩
 ·obtain⟨h1,h2⟩:=Zdw h
  rw[h1] at ho ⊢
  obtain⟨g,rfl,_⟩:=Hf ho (by show 0<(Vg l ((X.getD i Ju).1.1:Int)).length;omega)
  exact .inr ⟨h,g,c,a,c2,rfl,hb,ho⟩
theorem Zeb(m:Nat)(B bm:Nat)(p:Option Addr)(k c:Nat)(l:List UInt8)(B2:Nat)(pl:Option Addr)(cl:Nat)(gs:List (Nat×Nat))(L:List (List Int))(over fuel:Int)(w:World)(hm:L.length=m)(hI:RefI B bm p k c l w)(hL:Lists w B2 (.slice pl L.length cl) gs L)(hF:FormOk L)(hl:L.length≤1200000000)(hfu:fuel≤1000) :
 Calls Tryz.prog 40 #[.pointer (some ⟨bm,0,none⟩),.slice pl m cl,.int .i64 over,.int .i64 fuel] w (Zbs (Nk l L over fuel) w):=by
 subst hm;exact ref23_rest B bm p k c l B2 pl cl gs L over fuel w hI hL hF hl hfu
theorem Ty(B bm:Nat)(p:Option Addr)(k c:Nat)(l:List UInt8)(index over n fuel:Int)(w:World)(hI:RefI B bm p k c l w)(hn:n≤1099511627776)(hfu:fuel≤1000) :
 Calls Tryz.prog 21 #[.pointer (some ⟨bm,0,none⟩),.int .i64 index,.int .i64 over,.int .i64 n,.int .i64 fuel] w (Zbs (Uh l index over n fuel) w):=by
 refine zin 69 Tryz.func21 ?_
 refine xa 3 [.slice none 0 0,.int .i64 0] 43 fun b1 W1 n1=>?_
 refine xc 6 (args:=#[.pointer (some ⟨bm,0,none⟩),.int .i64 index]) (Zci B bm p k c l index _ (hI.below n1.below)) ?_
 rintro e W2 hq2
 rcases hq2 with ⟨hie,ps,cs,a9,d9,rfl,hb2,hf9⟩|⟨hie,ps,cs,a9,d9,rfl,hb2,hsl⟩
 ·refine xa 3 [.slice none 0 0,.int .i64 0] 43 fun b3 W3 n3=>?_
  have k1:=n1.blk.below hb2
  have d3_b1:=n3.ne k1
  have hB'1:=bln n1.below hb2
  have g3:=n3.ge hB'1
  refine xsv 1 n3.blk [.slice a9 1 d9,.int .i64 (Xw l index)] fun W4 u4 k4=>?_
  refine xb 6 1 k4 ?_
  refine xk 3 (show(((Xw l index) != (0:Int)):Bool)=true from bne_iff_ne.2 hie) ?_
  refine xd 1 (.t w.heap.size [43]) ?_
  have k4'1:=k4.below (Za W4)
  refine xlv (.o [1] 0) k4'1.rp ?_
  have k1'1:=(u4.blk (k1.below n3.below) (Ne.symm (Ne.symm d3_b1))).below (Za W4)
  have g1:=n1.ge (Below.refl w.heap.size _)
  refine ysv (.o [] 2) k1'1 [.slice a9 1 d9,.int .i64 (Xw l index)] (.t w.heap.size [43]) fun W5 u5 k5=>⟨(Zi u5 k1'1 g1 (by decide)),?_⟩
  have hf9'1:=u5.own2 (Zb (u4.own2 (Zb (Zd hf9 n1.below.size) n3.below) n3.blk (by decide)) (Za W4)) k1'1 (by decide)
  have hB'2:=u5.below (bln (u4.below (bln hB'1 n3.below) g3) (Za W4)) g1
  exact xec 4 k5 (.tuple #[.slice none 0 0,.agg #[.slice a9 1 d9,.int .i64 (Xw l index)]]) (Uc (Zcj hie) hie rfl hB'2 hf9'1)
 refine xa 3 [.slice none 0 0,.int .i64 0] 43 fun b6 W6 n6=>?_
 have k1:=n1.blk.below hb2
 have d6_b1:=n6.ne k1
 have hB'3:=bln n1.below hb2
 have g6:=n6.ge hB'3
 refine xsv 1 n6.blk [.slice a9 0 d9,.int .i64 0] fun W7 u7 k7=>?_
 refine xb 6 1 k7 ?_
 refine xr 12 (args:=#[.int .i64 n]) (Tm n _ hn) fun W8 hb8=>?_
 refine xin 3 (↑((Xv l index).length):Int) (↑(bmI n):Int) (fun hc9=>?_) (fun hc9=>?_)
 ·have hne:(Xv l index).length≠bmI n:=by omega
  refine xc 3 (args:=#[.int .i64 index,.int .i64 7]) (Ha index 7 _ (by decide)) ?_
  rintro _ W10 ⟨pa,ca,rfl,hb10,hva⟩
  have hs10:=(bln (u7.below (bln hB'3 n6.below) g6) hb8).size
  have k1'2:=((u7.blk (k1.below n6.below) (Ne.symm (Ne.symm d6_b1))).below hb8).below hb10
  refine xsv 1 k1'2 [.slice pa 1 ca,.int .i64 7] fun W11 u11 k11=>?_
  have g1:=n1.ge (Below.refl w.heap.size _)
  have hva'1:=u11.own2 (Zd hva hs10) k1'2 (by decide)
  have hB'4:=u11.below (bln (bln (u7.below (bln hB'3 n6.below) g6) hb8) hb10) g1
  exact xec 4 k11 (.tuple #[.slice none 0 0,.agg #[.slice pa 1 ca,.int .i64 7]]) (Uc (Zb6 hie hne) (by decide) rfl hB'4 hva'1)
 have hlen:(Xv l index).length=bmI n:=by omega
 have hxm:=Zbv hn
 have hXl:((Xv l index).map (Jd index)).length=(Xv l index).length:=List.length_map _
 have hsl'1:=Zb (u7.own2 (Zb (Zd hsl n1.below.size) n6.below) n6.blk (by decide)) hb8
 have hB'5:=bln (u7.below (bln hB'3 n6.below) g6) hb8
 have k1'3:=(u7.blk (k1.below n6.below) (Ne.symm (Ne.symm d6_b1))).below hb8
 have k7'1:=k7.below hb8
 refine zl 14 69 (fun zm zkv V=>∃ (i:Nat) (gs:List (Nat×Nat)) (pq:Option Addr) (cq:Nat),zkv=[(0,.pointer (some ⟨bm,0,none⟩)),(1,.int .i64 index),(2,.int .i64 over),(3,.int .i64 n),(4,.int .i64 fuel),(11,.pointer (some ⟨b1,0,none⟩)),(12,.slice ps ((Xv l index).length) cs),(14,.slice pq i cq),(15,.int .i64 (↑i:Int))]∧zm=(Xv l index).length-((↑i:Int)).toNat∧Below w.heap.size w V∧Blk V b1 ([.slice none 0 0,.int .i64 0]) 43∧Blk V b6 ([.slice a9 0 d9,.int .i64 0]) 43∧V.ownsRow w.heap.size 79 3 (.slice ps (Xv l index).length cs) (Xv l index).length ((Xv l index).flatMap Zd1)∧V.ownsRow w.heap.size 30 1 (.slice pq i cq) i ((List.range i).map (Bt gs (Gs l ((Xv l index).map (Jd index)) n i)))∧Each V w.heap.size gs (Gs l ((Xv l index).map (Jd index)) n i)∧i≤(Xv l index).length∧gs.length=i∧allK l ((Xv l index).map (Jd index)) n i) ⟨0,[],none,0,rfl,rfl,hB'5,k1'3,k7'1,hsl'1,World.ownsRow_nil _ _ _ _,(fun j hj=>absurd hj (by rw[Qa];omega)),Nat.zero_le _,rfl,(fun j hj=>absurd hj (by omega))⟩ ?_
 rintro _ _ W12 ⟨i,gs,pq,cq,rfl,rfl,hB_12,k12_b1,k12_b6,hsl,ho,hEa,hi,hgl,hok⟩ J12 hJ12 r12
 have hrm:=fun(q:i<(Xv l index).length)=>rem_in hlen q
 refine xid 9 ((↑i:Int)<(↑((Xv l index).length):Int)) (fun hc13=>?_) (fun hc13=>?_)
 ·refine xd 5 (.t w.heap.size [43]) ?_
  have hsl'2:=Zb hsl (Za W12)
  refine xx (.e [0,1,2] 3) _ ((Xv l index).length) i 3 (Sts.cell (f:=Zd1) (Zf hsl'2) Ez sl0 (k:=i) (i:=0) (by omega) rfl).1 ?_
  refine xlvt (.e [] 4) (.t w.heap.size [43]) (fun V hV=>(Sts.rp (k:=i) (Zf (Zl hsl'2 hV.2 (by decide))) Ez sl0 (by omega) (by decide))) ?_
  refine xm2 (.b [5,6,7]) 8 13 ?_ ?_
  ·have hxi:=plcS_at (sl:=(Xv l index)) (at0:=index) (i:=i) (by omega)
   refine xr 0 (args:=#[.int .i64 n,.int .i64 (↑i:Int)]) (Iq n i _ (by omega) hn (by have:=(hrm (by omega)).2.1;omega)) fun W14 hb14=>?_
   refine xm2 0 9 13 ?_ ?_
   ·have hB'6:=bln (bln hB_12 (Za W12)) hb14
    refine yc 0 (args:=#[.pointer (some ⟨bm,0,none⟩),.agg #[.int .i64 (↑((Xv l index).getD i sl0).1:Int),.int .i64 (↑((Xv l index).getD i sl0).2.1:Int),.int .i64 (↑((Xv l index).getD i sl0).2.2:Int)],.int .i64 index,.int .i64 (Vk n i)]) (.t w.heap.size [43]) (Cd B bm p k c l ((Xv l index).map (Jd index)) n i (Jd index ((Xv l index).getD i sl0)) _ (hI.below hB'6) hxi rfl (hrm (by omega)).2.2.2.1) ?_
    rintro e W15 hq15
    rcases hq15 with ⟨hbe,p9,c9,a9,d9,rfl,hb15,hf9⟩|⟨hbe,g9,c9,a9,d9,rfl,hb15,ho9⟩
    ·have hs15:=(bln (bln hB_12 (Za W12)) hb14).size
     refine⟨(SF.of_below _ hb15),?_⟩
     refine xa (.o [10,11,12] 13) [.slice none 0 0,.int .i64 0] 43 fun b16 W16 n16=>?_
     have k12_b1'1:=((k12_b1.below (Za W12)).below hb14).below hb15
     have d16_b1:=n16.ne k12_b1'1
     have k12_b6'1:=((k12_b6.below (Za W12)).below hb14).below hb15
     have d16_b6:=n16.ne k12_b6'1
     have hB'7:=bln hB'6 hb15
     have g16:=n16.ge hB'7
     refine ysv (.o [14] 15) n16.blk [.slice a9 ((Hu l ((Xv l index).map (Jd index)) n i).1.length) d9,.int .i64 ((Hu l ((Xv l index).map (Jd index)) n i).2.1)] (.t w.heap.size [43]) fun W17 u17 k17=>⟨(Zi u17 n16.blk g16 (by decide)),?_⟩
     refine xb 6 1 k17 ?_
     refine xk 3 (show(((Hu l ((Xv l index).map (Jd index)) n i).2.1 != (0:Int)):Bool)=true from bne_iff_ne.2 hbe) ?_
     refine xd 1 (.t w.heap.size [43]) ?_
     have k17'1:=k17.below (Za W17)
     refine xlv (.o [1] 0) k17'1.rp ?_
     have k12_b1'2:=(u17.blk (k12_b1'1.below n16.below) (Ne.symm (Ne.symm d16_b1))).below (Za W17)
     have g1:=n1.ge (Below.refl w.heap.size _)
     refine ysv (.o [] 2) k12_b1'2 [.slice a9 ((Hu l ((Xv l index).map (Jd index)) n i).1.length) d9,.int .i64 ((Hu l ((Xv l index).map (Jd index)) n i).2.1)] (.t w.heap.size [43]) fun W18 u18 k18=>⟨(Zi u18 k12_b1'2 g1 (by decide)),?_⟩
     have hf9'2:=u18.own2 (Zb (u17.own2 (Zb (Zd hf9 hs15) n16.below) n16.blk (by decide)) (Za W17)) k12_b1'2 (by decide)
     have hB'8:=u18.below (bln (u17.below (bln hB'7 n16.below) g16) (Za W17)) g1
     refine xec 9 k18 (.tuple #[.slice none 0 0,.agg #[.slice a9 ((Hu l ((Xv l index).map (Jd index)) n i).1.length) d9,.int .i64 ((Hu l ((Xv l index).map (Jd index)) n i).2.1)]]) ?_
     rw[Gk hie hlen,Et (by omega) hok hbe]
     exact .inl ⟨hbe,none,0,a9,d9,rfl,hB'8,hf9'2⟩
    have hs15:=(bln (bln hB_12 (Za W12)) hb14).size
    refine⟨(SF.of_below _ hb15),?_⟩
    refine xa (.o [10,11,12] 13) [.slice none 0 0,.int .i64 0] 43 fun b19 W19 n19=>?_
    have k12_b1'3:=((k12_b1.below (Za W12)).below hb14).below hb15
    have d19_b1:=n19.ne k12_b1'3
    have k12_b6'2:=((k12_b6.below (Za W12)).below hb14).below hb15
    have d19_b6:=n19.ne k12_b6'2
    have hB'9:=bln hB'6 hb15
    have g19:=n19.ge hB'9
    refine ysv (.o [14] 15) n19.blk [.slice a9 0 d9,.int .i64 0] (.t w.heap.size [43]) fun W20 u20 k20=>⟨(Zi u20 n19.blk g19 (by decide)),?_⟩
    refine xb 6 1 k20 ?_
    refine xbs 9 1 [.slice (some ⟨g9,0,none⟩) ((Vg l (↑(((Xv l index).map (Jd index)).getD i Ju).1.1:Int)).length) c9] 30 fun b21 W21 n21=>?_
    have hB'10:=u20.below (bln hB'9 n19.below) g19
    have g21:=n21.ge hB'10
    have ho'1:=u20.own2 (Zb (Zb (Zb (Zb ho (Za W12)) hb14) hb15) n19.below) n19.blk (by decide)
    have r21_ho:=Zu ho'1 n21
    have ho'2:=Zb ho'1 n21.below
    have hB'11:=bln hB'10 n21.below
    refine xbi 0 fun _ _ _ _ zJ zQ zo zx zy zK=>Zp (m:=1) (news:=[.slice (some ⟨g9,0,none⟩) ((Vg l (↑(((Xv l index).map (Jd index)).getD i Ju).1.1:Int)).length) c9]) (.slice none 0 0) 1 24 (i+1) (((List.range (i+1)).map (Bt (gs++[(g9,c9)]) (Gs l ((Xv l index).map (Jd index)) n (i+1))))) zo Tryz.underlying91 (by kernel_rfl) rfl (by decide) zx ho'2 zy (n21.blk.sl 1 1 (by decide) (by decide)) rfl (by simp[Value.oneCell']) (by unfold maxLen;omega) (by omega) hB'11.size (rfl) (by rw[←Ln hgl]) fun px22 cx22 W22 o22 hg22 hb22=>?_
    refine zK _ _ ?_
    refine xwm 6 ((↑i:Int)+1) (↑(i+1):Int) ?_
    have hEa'1:=((((((hEa.below (Za W12)).below hb14).below hb15).below n19.below).only (Ze.of_upd (T:=[43]) u20 n19.blk (by decide)) (by decide)).below n21.below).only (Ze.of_grown (T:=[30]) hg22 ho'2 (by decide)) (by decide)
    have ho9'1:=Zg (Zb (u20.own2 (Zb (Zd ho9 hs15) n19.below) n19.blk (by decide)) n21.below) hg22 ho'2 (by decide)
    have hB'12:=hB'11.trans hb22
    have k12_b1'4:=((u20.blk (k12_b1'3.below n19.below) (Ne.symm (Ne.symm d19_b1))).below n21.below).grown hg22 ho'2 (by decide)
    have k12_b6'3:=((u20.blk (k12_b6'2.below n19.below) (Ne.symm (Ne.symm d19_b6))).below n21.below).grown hg22 ho'2 (by decide)
    have hsl'3:=Zg (Zb (u20.own2 (Zb (Zb (Zb hsl'2 hb14) hb15) n19.below) n19.blk (by decide)) n21.below) hg22 ho'2 (by decide)
    exact ze 2 (hJ12 _ _ _ ⟨i+1,gs++[(g9,c9)],_,_,rfl,rfl,hB'12,k12_b1'4,k12_b6'3,hsl'3,o22,(Mx hEa'1 hgl ho9'1),by omega,by rw[List.length_append,hgl];rfl,My hok hbe⟩ (by omega))
   refine xa 0 [.slice none 0 0,.int .i64 0] 43 fun b23 W23 n23=>?_
   have k12_b1'5:=(k12_b1.below (Za W12)).below hb14
   have d23_b1:=n23.ne k12_b1'5
   have k12_b6'4:=(k12_b6.below (Za W12)).below hb14
   have d23_b6:=n23.ne k12_b6'4
   have hB'13:=bln (bln hB_12 (Za W12)) hb14
   have g23:=n23.ge hB'13
   have hB'14:=bln hB'13 n23.below
   refine yc (.o [] 9) (args:=#[.pointer (some ⟨bm,0,none⟩),.agg #[.int .i64 (↑((Xv l index).getD i sl0).1:Int),.int .i64 (↑((Xv l index).getD i sl0).2.1:Int),.int .i64 (↑((Xv l index).getD i sl0).2.2:Int)],.int .i64 index,.int .i64 (Vk n i)]) (.t w.heap.size [43]) (Cd B bm p k c l ((Xv l index).map (Jd index)) n i (Jd index ((Xv l index).getD i sl0)) _ (hI.below hB'14) hxi rfl (hrm (by omega)).2.2.2.1) ?_
   rintro e W24 hq24
   rcases hq24 with ⟨hbe,p9,c9,a9,d9,rfl,hb24,hf9⟩|⟨hbe,g9,c9,a9,d9,rfl,hb24,ho9⟩
   ·have hs24:=(bln hB'13 n23.below).size
    refine⟨(SF.of_below _ hb24),?_⟩
    have k23:=n23.blk.below hb24
    refine ysv (.o [10,11,12,14] 15) k23 [.slice a9 ((Hu l ((Xv l index).map (Jd index)) n i).1.length) d9,.int .i64 ((Hu l ((Xv l index).map (Jd index)) n i).2.1)] (.t w.heap.size [43]) fun W25 u25 k25=>⟨(Zi u25 k23 g23 (by decide)),?_⟩
    refine xb 6 1 k25 ?_
    refine xk 3 (show(((Hu l ((Xv l index).map (Jd index)) n i).2.1 != (0:Int)):Bool)=true from bne_iff_ne.2 hbe) ?_
    refine xd 1 (.t w.heap.size [43]) ?_
    have k25'1:=k25.below (Za W25)
    refine xlv (.o [1] 0) k25'1.rp ?_
    have k12_b1'6:=(u25.blk ((k12_b1'5.below n23.below).below hb24) (Ne.symm (Ne.symm d23_b1))).below (Za W25)
    have g1:=n1.ge (Below.refl w.heap.size _)
    refine ysv (.o [] 2) k12_b1'6 [.slice a9 ((Hu l ((Xv l index).map (Jd index)) n i).1.length) d9,.int .i64 ((Hu l ((Xv l index).map (Jd index)) n i).2.1)] (.t w.heap.size [43]) fun W26 u26 k26=>⟨(Zi u26 k12_b1'6 g1 (by decide)),?_⟩
    have hf9'3:=u26.own2 (Zb (u25.own2 (Zd hf9 hs24) k23 (by decide)) (Za W25)) k12_b1'6 (by decide)
    have hB'15:=u26.below (bln (u25.below (bln hB'14 hb24) g23) (Za W25)) g1
    refine xec 9 k26 (.tuple #[.slice none 0 0,.agg #[.slice a9 ((Hu l ((Xv l index).map (Jd index)) n i).1.length) d9,.int .i64 ((Hu l ((Xv l index).map (Jd index)) n i).2.1)]]) ?_
    rw[Gk hie hlen,Et (by omega) hok hbe]
    exact .inl ⟨hbe,none,0,a9,d9,rfl,hB'15,hf9'3⟩
   have hs24:=(bln hB'13 n23.below).size
   refine⟨(SF.of_below _ hb24),?_⟩
   have k23:=n23.blk.below hb24
   refine ysv (.o [10,11,12,14] 15) k23 [.slice a9 0 d9,.int .i64 0] (.t w.heap.size [43]) fun W27 u27 k27=>⟨(Zi u27 k23 g23 (by decide)),?_⟩
   refine xb 6 1 k27 ?_
   refine xbs 9 1 [.slice (some ⟨g9,0,none⟩) ((Vg l (↑(((Xv l index).map (Jd index)).getD i Ju).1.1:Int)).length) c9] 30 fun b28 W28 n28=>?_
   have hB'16:=u27.below (bln hB'14 hb24) g23
   have g28:=n28.ge hB'16
   have ho'3:=u27.own2 (Zb (Zb (Zb (Zb ho (Za W12)) hb14) n23.below) hb24) k23 (by decide)
   have r28_ho:=Zu ho'3 n28
   have ho'4:=Zb ho'3 n28.below
   have hB'17:=bln hB'16 n28.below
   refine xbi 0 fun _ _ _ _ zJ zQ zo zx zy zK=>Zp (m:=1) (news:=[.slice (some ⟨g9,0,none⟩) ((Vg l (↑(((Xv l index).map (Jd index)).getD i Ju).1.1:Int)).length) c9]) (.slice none 0 0) 1 24 (i+1) (((List.range (i+1)).map (Bt (gs++[(g9,c9)]) (Gs l ((Xv l index).map (Jd index)) n (i+1))))) zo Tryz.underlying91 (by kernel_rfl) rfl (by decide) zx ho'4 zy (n28.blk.sl 1 1 (by decide) (by decide)) rfl (by simp[Value.oneCell']) (by unfold maxLen;omega) (by omega) hB'17.size (rfl) (by rw[←Ln hgl]) fun px29 cx29 W29 o29 hg29 hb29=>?_
   refine zK _ _ ?_
   refine xwm 6 ((↑i:Int)+1) (↑(i+1):Int) ?_
   have hEa'2:=((((((hEa.below (Za W12)).below hb14).below n23.below).below hb24).only (Ze.of_upd (T:=[43]) u27 k23 (by decide)) (by decide)).below n28.below).only (Ze.of_grown (T:=[30]) hg29 ho'4 (by decide)) (by decide)
   have ho9'2:=Zg (Zb (u27.own2 (Zd ho9 hs24) k23 (by decide)) n28.below) hg29 ho'4 (by decide)
   have hB'18:=hB'17.trans hb29
   have k12_b1'7:=((u27.blk ((k12_b1'5.below n23.below).below hb24) (Ne.symm (Ne.symm d23_b1))).below n28.below).grown hg29 ho'4 (by decide)
   have k12_b6'5:=((u27.blk ((k12_b6'4.below n23.below).below hb24) (Ne.symm (Ne.symm d23_b6))).below n28.below).grown hg29 ho'4 (by decide)
   have hsl'4:=Zg (Zb (u27.own2 (Zb (Zb (Zb hsl'2 hb14) n23.below) hb24) k23 (by decide)) n28.below) hg29 ho'4 (by decide)
   exact ze 2 (hJ12 _ _ _ ⟨i+1,gs++[(g9,c9)],_,_,rfl,rfl,hB'18,k12_b1'7,k12_b6'5,hsl'4,o29,(Mx hEa'2 hgl ho9'2),by omega,by rw[List.length_append,hgl];rfl,My hok hbe⟩ (by omega))
  refine xa 0 [.slice none 0 0,.int .i64 0] 43 fun b30 W30 n30=>?_
  have k12_b1'8:=k12_b1.below (Za W12)
  have d30_b1:=n30.ne k12_b1'8
  have k12_b6'6:=k12_b6.below (Za W12)
  have d30_b6:=n30.ne k12_b6'6
  have hB'19:=bln hB_12 (Za W12)
  have g30:=n30.ge hB'19
  have hxi:=plcS_at (sl:=(Xv l index)) (at0:=index) (i:=i) (by omega)
  refine xr (.o [] 8) (args:=#[.int .i64 n,.int .i64 (↑i:Int)]) (Iq n i _ (by omega) hn (by have:=(hrm (by omega)).2.1;omega)) fun W31 hb31=>?_
  have hB'20:=bln (bln hB'19 n30.below) hb31
  refine yc (.o [] 9) (args:=#[.pointer (some ⟨bm,0,none⟩),.agg #[.int .i64 (↑((Xv l index).getD i sl0).1:Int),.int .i64 (↑((Xv l index).getD i sl0).2.1:Int),.int .i64 (↑((Xv l index).getD i sl0).2.2:Int)],.int .i64 index,.int .i64 (Vk n i)]) (.t w.heap.size [43]) (Cd B bm p k c l ((Xv l index).map (Jd index)) n i (Jd index ((Xv l index).getD i sl0)) _ (hI.below hB'20) hxi rfl (hrm (by omega)).2.2.2.1) ?_
  rintro e W32 hq32
  rcases hq32 with ⟨hbe,p9,c9,a9,d9,rfl,hb32,hf9⟩|⟨hbe,g9,c9,a9,d9,rfl,hb32,ho9⟩
  ·have hs32:=(bln (bln hB'19 n30.below) hb31).size
   refine⟨(SF.of_below _ hb32),?_⟩
   have k30:=(n30.blk.below hb31).below hb32
   refine ysv (.o [10,11,12,14] 15) k30 [.slice a9 ((Hu l ((Xv l index).map (Jd index)) n i).1.length) d9,.int .i64 ((Hu l ((Xv l index).map (Jd index)) n i).2.1)] (.t w.heap.size [43]) fun W33 u33 k33=>⟨(Zi u33 k30 g30 (by decide)),?_⟩
   refine xb 6 1 k33 ?_
   refine xk 3 (show(((Hu l ((Xv l index).map (Jd index)) n i).2.1 != (0:Int)):Bool)=true from bne_iff_ne.2 hbe) ?_
   refine xd 1 (.t w.heap.size [43]) ?_
   have k33'1:=k33.below (Za W33)
   refine xlv (.o [1] 0) k33'1.rp ?_
   have k12_b1'9:=(u33.blk (((k12_b1'8.below n30.below).below hb31).below hb32) (Ne.symm (Ne.symm d30_b1))).below (Za W33)
   have g1:=n1.ge (Below.refl w.heap.size _)
   refine ysv (.o [] 2) k12_b1'9 [.slice a9 ((Hu l ((Xv l index).map (Jd index)) n i).1.length) d9,.int .i64 ((Hu l ((Xv l index).map (Jd index)) n i).2.1)] (.t w.heap.size [43]) fun W34 u34 k34=>⟨(Zi u34 k12_b1'9 g1 (by decide)),?_⟩
   have hf9'4:=u34.own2 (Zb (u33.own2 (Zd hf9 hs32) k30 (by decide)) (Za W33)) k12_b1'9 (by decide)
   have hB'21:=u34.below (bln (u33.below (bln hB'20 hb32) g30) (Za W33)) g1
   refine xec 9 k34 (.tuple #[.slice none 0 0,.agg #[.slice a9 ((Hu l ((Xv l index).map (Jd index)) n i).1.length) d9,.int .i64 ((Hu l ((Xv l index).map (Jd index)) n i).2.1)]]) ?_
   rw[Gk hie hlen,Et (by omega) hok hbe]
   exact .inl ⟨hbe,none,0,a9,d9,rfl,hB'21,hf9'4⟩
  have hs32:=(bln (bln hB'19 n30.below) hb31).size
  refine⟨(SF.of_below _ hb32),?_⟩
  have k30:=(n30.blk.below hb31).below hb32
  refine ysv (.o [10,11,12,14] 15) k30 [.slice a9 0 d9,.int .i64 0] (.t w.heap.size [43]) fun W35 u35 k35=>⟨(Zi u35 k30 g30 (by decide)),?_⟩
  refine xb 6 1 k35 ?_
  refine xbs 9 1 [.slice (some ⟨g9,0,none⟩) ((Vg l (↑(((Xv l index).map (Jd index)).getD i Ju).1.1:Int)).length) c9] 30 fun b36 W36 n36=>?_
  have hB'22:=u35.below (bln hB'20 hb32) g30
  have g36:=n36.ge hB'22
  have ho'5:=u35.own2 (Zb (Zb (Zb (Zb ho (Za W12)) n30.below) hb31) hb32) k30 (by decide)
  have r36_ho:=Zu ho'5 n36
  have ho'6:=Zb ho'5 n36.below
  have hB'23:=bln hB'22 n36.below
  refine xbi 0 fun _ _ _ _ zJ zQ zo zx zy zK=>Zp (m:=1) (news:=[.slice (some ⟨g9,0,none⟩) ((Vg l (↑(((Xv l index).map (Jd index)).getD i Ju).1.1:Int)).length) c9]) (.slice none 0 0) 1 24 (i+1) (((List.range (i+1)).map (Bt (gs++[(g9,c9)]) (Gs l ((Xv l index).map (Jd index)) n (i+1))))) zo Tryz.underlying91 (by kernel_rfl) rfl (by decide) zx ho'6 zy (n36.blk.sl 1 1 (by decide) (by decide)) rfl (by simp[Value.oneCell']) (by unfold maxLen;omega) (by omega) hB'23.size (rfl) (by rw[←Ln hgl]) fun px37 cx37 W37 o37 hg37 hb37=>?_
  refine zK _ _ ?_
  refine xwm 6 ((↑i:Int)+1) (↑(i+1):Int) ?_
  have hEa'3:=((((((hEa.below (Za W12)).below n30.below).below hb31).below hb32).only (Ze.of_upd (T:=[43]) u35 k30 (by decide)) (by decide)).below n36.below).only (Ze.of_grown (T:=[30]) hg37 ho'6 (by decide)) (by decide)
  have ho9'3:=Zg (Zb (u35.own2 (Zd ho9 hs32) k30 (by decide)) n36.below) hg37 ho'6 (by decide)
  have hB'24:=hB'23.trans hb37
  have k12_b1'10:=((u35.blk (((k12_b1'8.below n30.below).below hb31).below hb32) (Ne.symm (Ne.symm d30_b1))).below n36.below).grown hg37 ho'6 (by decide)
  have k12_b6'7:=((u35.blk (((k12_b6'6.below n30.below).below hb31).below hb32) (Ne.symm (Ne.symm d30_b6))).below n36.below).grown hg37 ho'6 (by decide)
  have hsl'5:=Zg (Zb (u35.own2 (Zb (Zb (Zb hsl'2 n30.below) hb31) hb32) k30 (by decide)) n36.below) hg37 ho'6 (by decide)
  exact ze 2 (hJ12 _ _ _ ⟨i+1,gs++[(g9,c9)],_,_,rfl,rfl,hB'24,k12_b1'10,k12_b6'7,hsl'5,o37,(Mx hEa'3 hgl ho9'3),by omega,by rw[List.length_append,hgl];rfl,My hok hbe⟩ (by omega))
 have hiE:i=(Xv l index).length:=by omega
 have hr9:=ho
 have he9:=hEa
 rw[hiE] at hr9 he9 hok
 have hfo:=Zc1 (l:=l) (X:=((Xv l index).map (Jd index))) (n:=n) (by rw[hXl];exact hok) (by rw[hXl];exact hlen)
 rw[hXl] at hfo
 refine xc 11 (args:=#[.pointer (some ⟨bm,0,none⟩),.slice pq i cq,.int .i64 over,.int .i64 fuel]) (Zeb i B bm p k c l w.heap.size pq cq gs (Gs l ((Xv l index).map (Jd index)) n (Xv l index).length) over fuel _ (by rw[Qa];exact hiE.symm) (hI.below hB_12) (Zc3 hr9 he9) hfo (by rw[Qa];omega) hfu) ?_
 rintro e W38 hq38
 rcases hq38 with ⟨hbe,pr,cr,ar,dr,rfl,hb38,hf9⟩|⟨hbe,pr,cr,ar,dr,rfl,hb38,ho9⟩
 ·have k12_b1'11:=k12_b1.below hb38
  refine xsv 3 k12_b1'11 [.slice ar ((Nk l (Gs l ((Xv l index).map (Jd index)) n (Xv l index).length) over fuel).1.length) dr,.int .i64 ((Nk l (Gs l ((Xv l index).map (Jd index)) n (Xv l index).length) over fuel).2.1)] fun W39 u39 k39=>?_
  have g1:=n1.ge (Below.refl w.heap.size _)
  have hf9'5:=u39.own2 (Zd hf9 hB_12.size) k12_b1'11 (by decide)
  have hB'25:=u39.below (bln hB_12 hb38) g1
  refine xec 3 k39 (.tuple #[.slice pr 0 cr,.agg #[.slice ar ((Nk l (Gs l ((Xv l index).map (Jd index)) n (Xv l index).length) over fuel).1.length) dr,.int .i64 ((Nk l (Gs l ((Xv l index).map (Jd index)) n (Xv l index).length) over fuel).2.1)]]) ?_
  rw[Gk hie hlen,By (by rw[hXl];exact hok),hXl]
  exact .inl ⟨hbe,pr,cr,ar,dr,rfl,hB'25,hf9'5⟩
 have k12_b1'12:=k12_b1.below hb38
 refine xsv 3 k12_b1'12 [.slice ar 0 dr,.int .i64 0] fun W40 u40 k40=>?_
 have g1:=n1.ge (Below.refl w.heap.size _)
 have ho9'4:=u40.own2 (Zd ho9 hB_12.size) k12_b1'12 (by decide)
 have hB'26:=u40.below (bln hB_12 hb38) g1
 refine xec 3 k40 (.tuple #[.slice pr ((Nk l (Gs l ((Xv l index).map (Jd index)) n (Xv l index).length) over fuel).2.2.length) cr,.agg #[.slice ar 0 dr,.int .i64 0]]) ?_
 rw[Gk hie hlen,By (by rw[hXl];exact hok),hXl]
 exact .inr ⟨hbe,pr,cr,ar,dr,rfl,hB'26,ho9'4⟩
theorem told_O(bl:List Int)(er:Int)(v:Value)(w:World)(hlen:bl.length≤40)(hg:ErrT w)(hv:Ja w (bl.map some) (some er) v):Calls Tryz.prog 19 #[v] w (Vn (fun w' r=>FltV w' r bl er) w):=by
 have:=Aj (some er) (bl.map some) v w (by rw[List.length_map];omega) hg hv
 rwa [Zez,Zav] at this
theorem told_0(w:World)(hg:ErrT w):Calls Tryz.prog 19 #[.nilIface] w (Vn (fun w' r=>FltV w' r [] 0) w):=Aj none [] .nilIface w (by decide) hg rfl
theorem out_len{F:List UInt8}{index tree fuel:Int}:(Ym (Zj F index tree fuel)).1.length≤40:=by
 by_cases h:(Zj F index tree fuel).fs=[]
 ·rw[(Ub h).2.1];exact Nat.zero_le _
 ·rw[(Qy h).2.1];exact Nat.le_trans (scanW_len F index tree fuel _ (Om (List.length_pos_iff.2 h))) (by decide)
theorem one_len(l:List UInt8)(X:List Plc)(n:Int)(i:Nat):(Hu l X n i).1.length≤40:=by
 unfold Hu Zac
 repeat' split
 all_goals simp
theorem rest_len(l:List UInt8)(L:List (List Int))(over fuel:Int):(Nk l L over fuel).1.length≤40:=by
 unfold Nk
 split
 ·exact out_len
 ·split<;>simp
theorem all_len(l:List UInt8)(X:List Plc)(over n fuel:Int):(Zdf l X over n fuel).1.length≤40:=by
 unfold Zdf
 split
 ·exact one_len _ _ _ _
 ·exact rest_len _ _ _ _
theorem O_len(l:List UInt8)(index over n fuel:Int):(Uh l index over n fuel).1.length≤40:=by
 unfold Uh
 repeat' split
 all_goals first|exact out_len|exact all_len _ _ _ _ _|simp
theorem rout_B{O:List Int×Int×List Int}{f:FuncId}{args:Array Value}{w:World}(h:O.2.1≠0)(hc:Calls Tryz.prog f args w (Zbs O w)):Calls Tryz.prog f args w (Vn (fun w' r=>∃ p c a c2,r=.tuple #[.slice p 0 c,.agg #[.slice a O.1.length c2,.int .i64 O.2.1]]∧w'.ownsRow w.heap.size 3 1 (.slice a O.1.length c2) O.1.length (O.1.map (Value.int .i64))) w):=hc.mono (by
 rintro e W q
 rcases q with ⟨_,p,c,a,c2,rfl,hb,ho⟩|⟨h2,_⟩
 ·exact⟨_,rfl,hb,p,c,a,c2,rfl,ho⟩
 ·exact absurd h2 h)
theorem rout_G{O:List Int×Int×List Int}{f:FuncId}{args:Array Value}{w:World}(h:O.2.1=0)(hc:Calls Tryz.prog f args w (Zbs O w)):Calls Tryz.prog f args w (Vn (fun w' r=>∃ p c a c2,r=.tuple #[.slice p O.2.2.length c,.agg #[.slice a 0 c2,.int .i64 0]]∧w'.ownsRow w.heap.size 3 1 (.slice p O.2.2.length c) O.2.2.length (O.2.2.map (Value.int .i64))) w):=hc.mono (by
 rintro e W q
 rcases q with ⟨h2,_⟩|⟨_,p,c,a,c2,rfl,hb,ho⟩
 ·exact absurd h h2
 ·exact⟨_,rfl,hb,p,c,a,c2,rfl,ho⟩)
theorem Zal(a:Option Addr)(c:Nat)(l:List UInt8)(index over n fuel:Int)(w:World)(h:Bys w (.slice a l.length c) l)(hg:ErrT w) :
 Calls Tryz.prog 5 #[.slice a l.length c,.int .i64 index,.int .i64 over,.int .i64 n,.int .i64 fuel] w (Ret (.bool true) w):=by
 have hcap:=h.cap rfl
 obtain⟨f2,hf2,hf3⟩:∃ x,(if(200:Int)<fuel then(200:Int) else fuel)=x∧x≤200:=⟨_,rfl,by split<;>omega⟩
 refine zin 57 Tryz.func5 ?_
 refine xg 12 [17,18] (decide ((↑l.length:Int)>(12000:Int))) (fun hc1=>?_) (fun hc1=>?_)
 ·have hc1:=of_decide_eq_true hc1
  refine xr 8 (args:=#[]) (Oo _) fun W2 hb2=>?_
  exact xe 5 (.bool true) ⟨rfl,hb2⟩
 have hc1:=of_decide_eq_false hc1
 refine xid 5 (n>(1099511627776:Int)) (fun hc3=>?_) (fun hc3=>?_)
 ·refine xr 2 (args:=#[]) (Oo _) fun W4 hb4=>?_
  exact xe 5 (.bool true) ⟨rfl,hb4⟩
 refine xq 5 (congrArg (Value.int .i64) (show(if(200:Int)<fuel then(200:Int) else fuel:Int)=f2 from hf2)) ?_
 refine xc 6 (args:=#[.slice a l.length c]) (image_OfR a c l.length ((l.length/256)*256) l _ rfl (by omega) (h.below (Below.refl w.heap.size _)) (by omega) hcap) ?_
 rintro _ W5 ⟨_,rfl,hb5,bi,pi,ci,rfl,_,hI⟩
 refine xc 4 (args:=#[.pointer (some ⟨bi,0,none⟩),.int .i64 index,.int .i64 over,.int .i64 n,.int .i64 f2]) (chart_Meta _ bi pi _ ci (l.take ((l.length/256)*256)) index over n f2 _ hI (by omega) (by omega)) ?_
 rintro e W6 hq6
 rcases hq6 with ⟨hbe,ty9,v9,rfl,hb6,hv9⟩|⟨hbe,p9,c9,rfl,hb6,ho9⟩
 ·have hB:=bln hb5 hb6
  refine xc 10 (args:=#[.slice a l.length c]) (ref_OfM a c l.length (l.length/256) l _ rfl (by omega) (h.below hB) (by omega)) ?_
  rintro _ W7 ⟨_,rfl,hb7,bj,pj,cj,rfl,_,hJ⟩
  refine xc 4 (args:=#[.pointer (some ⟨bj,0,none⟩),.int .i64 index,.int .i64 over,.int .i64 n,.int .i64 f2]) (rout_B hbe (Ty _ bj pj _ cj (l.take ((l.length/256)*256)) index over n f2 _ hJ (by omega) (by omega))) ?_
  rintro _ W8 ⟨_,rfl,hb8,p8,c8,a8,d8,rfl,hr9⟩
  have hs8:=(bln hB hb7).size
  refine xa 3 [.slice none 0 0,.int .i64 0] 43 fun b9 W9 n9=>?_
  have hB'1:=bln (bln hB hb7) hb8
  have g9:=n9.ge hB'1
  refine xsv 1 n9.blk [.slice a8 ((Uh (l.take ((l.length/256)*256)) index over n f2).1.length) d8,.int .i64 ((Uh (l.take ((l.length/256)*256)) index over n f2).2.1)] fun W10 u10 k10=>?_
  refine xd 3 .z ?_
  refine xr (.o [0,1] 2) (args:=#[.slice none 0 0,.slice p8 0 c8]) (Mk none p8 0 0 c8 [] _ rfl (.inl ⟨_,_,rfl,rfl,rfl⟩) (.inl ⟨_,_,rfl,rfl,rfl⟩)) fun W11 hb11=>?_
  have k10'1:=(k10.below (Za W10)).below hb11
  refine xlv (.e [3,4] 6) k10'1.rp ?_
  have hB'2:=bln (bln (u10.below (bln hB'1 n9.below) g9) (Za W10)) hb11
  have hv9'1:=(((((hv9.below hb7).below hb8).below n9.below).upd u10 n9.blk (by decide)).below (Za W10)).below hb11
  refine yc (.o [] 5) (args:=#[.iface ty9 (v9)]) .z (told_O (Uh (l.take ((l.length/256)*256)) index over n f2).1 (Uh (l.take ((l.length/256)*256)) index over n f2).2.1 (.iface ty9 v9) _ (O_len _ _ _ _ _) (hg.below hB'2) hv9'1) ?_
  rintro _ W12 ⟨vt12,rfl,hb12,hq⟩
  refine⟨hb12,?_⟩
  have hr9'1:=Zb (Zb (Zb (u10.own2 (Zb (Zd hr9 hs8) n9.below) n9.blk (by decide)) (Za W10)) hb11) hb12
  refine xr (.o [] 7) (args:=#[vt12,.agg #[.slice a8 ((Uh (l.take ((l.length/256)*256)) index over n f2).1.length) d8,.int .i64 ((Uh (l.take ((l.length/256)*256)) index over n f2).2.1)]]) (Og (Uh (l.take ((l.length/256)*256)) index over n f2).1 (Uh (l.take ((l.length/256)*256)) index over n f2).2.1 vt12 _ _ hq ⟨_,rfl,Zf hr9'1⟩) fun W13 hb13=>?_
  refine xr (.o [8,9] 10) (args:=#[]) (Oo _) fun W14 hb14=>?_
  have hB'3:=bln (bln (bln hB'2 hb12) hb13) hb14
  exact xe (.r [11,12] 3) (.bool true) ⟨rfl,hB'3⟩
 have hB:=bln hb5 hb6
 refine xc 10 (args:=#[.slice a l.length c]) (ref_OfM a c l.length (l.length/256) l _ rfl (by omega) (h.below hB) (by omega)) ?_
 rintro _ W15 ⟨_,rfl,hb15,bj,pj,cj,rfl,_,hJ⟩
 refine xc 4 (args:=#[.pointer (some ⟨bj,0,none⟩),.int .i64 index,.int .i64 over,.int .i64 n,.int .i64 f2]) (rout_G hbe (Ty _ bj pj _ cj (l.take ((l.length/256)*256)) index over n f2 _ hJ (by omega) (by omega))) ?_
 rintro _ W16 ⟨_,rfl,hb16,p8,c8,a8,d8,rfl,hr9⟩
 have hs16:=(bln hB hb15).size
 refine xa 3 [.slice none 0 0,.int .i64 0] 43 fun b17 W17 n17=>?_
 have hB'4:=bln (bln hB hb15) hb16
 have g17:=n17.ge hB'4
 refine xsv 1 n17.blk [.slice a8 0 d8,.int .i64 0] fun W18 u18 k18=>?_
 refine xd 3 .z ?_
 have ho9'1:=Zb (u18.own2 (Zb (Zb (Zb (Zd ho9 hb5.size) hb15) hb16) n17.below) n17.blk (by decide)) (Za W18)
 have hr9'2:=Zb (u18.own2 (Zb (Zd hr9 hs16) n17.below) n17.blk (by decide)) (Za W18)
 refine xr (.o [0,1] 2) (args:=#[.slice p9 ((Uh (l.take ((l.length/256)*256)) index over n f2).2.2.length) c9,.slice p8 ((Uh (l.take ((l.length/256)*256)) index over n f2).2.2.length) c8]) (Mk p9 p8 (Uh (l.take ((l.length/256)*256)) index over n f2).2.2.length c9 c8 (Uh (l.take ((l.length/256)*256)) index over n f2).2.2 _ rfl (Zf ho9'1) (Zf hr9'2)) fun W19 hb19=>?_
 have k18'1:=(k18.below (Za W18)).below hb19
 refine xlv (.e [3,4] 6) k18'1.rp ?_
 have hB'5:=bln (bln (u18.below (bln hB'4 n17.below) g17) (Za W18)) hb19
 refine yc (.o [] 5) (args:=#[.nilIface]) .z (told_0 _ (hg.below hB'5)) ?_
 rintro _ W20 ⟨vt20,rfl,hb20,hq⟩
 refine⟨hb20,?_⟩
 refine xr (.o [] 7) (args:=#[vt20,.agg #[.slice a8 0 d8,.int .i64 0]]) (Og [] 0 vt20 _ _ hq ⟨_,rfl,(.inl ⟨_,_,rfl,rfl,rfl⟩)⟩) fun W21 hb21=>?_
 refine xr (.o [8,9] 10) (args:=#[]) (Oo _) fun W22 hb22=>?_
 have hB'6:=bln (bln (bln hB'5 hb20) hb21) hb22
 exact xe (.r [11,12] 3) (.bool true) ⟨rfl,hB'6⟩
end Go.Proofs.YthlakkdgcgkcdaaGreatDoor
namespace Go.Proofs.YthlakkdgcgkcdaaGreatDoor
set_option maxHeartbeats 8000000
set_option maxRecDepth 100000
open Go.ChangeShapes Go.WideShapes Go.ChangeAt Go.RowKit Go.Joins
set_option linter.unusedVariables false
theorem bytes_open{H:Type}{enc:TypeId×Value→H}{P:Program}{W:World}{r:Reach}{b0:Nat}{t e:TypeId}{v:Value}{d:DataW H}{p:List MemPlace}(ht:P.underlying t=some (.slice e))(he:P.underlying e=some (.int .u8))(hC:P.cellsOf e=1)
 (hv:Value.okWide P W r b0 t v) (h:DataW.Trod enc P W 0 (fun _=>true) true t v d p):∃ l,Bys W v l:=by
 obtain⟨a,len,cap,rfl⟩:=okWide_slice ht hv
 obtain⟨fuel,hf⟩:=h
 rcases open_ints ht he hC hf with ⟨hcs,_⟩|⟨x,l,c,zs,hcs,_,hl,hm,hz,_,hcell,hwz⟩
 ·simp[Value.cells] at hcs
  obtain⟨rfl,rfl,rfl⟩:=hcs
  exact⟨[],.inl ⟨_,_,rfl,rfl,rfl⟩⟩
 ·simp[Value.cells] at hcs
  obtain⟨rfl,rfl,rfl⟩:=hcs
  have hz':zs.length=cap:=by simpa using hz
  by_cases h0:len=0
  ·subst h0
   exact⟨[],.inl ⟨_,_,rfl,rfl,rfl⟩⟩
  ·obtain⟨b,off,spot⟩:=x
   have hc:=hcell 0 (by omega)
   have hspot:spot=none:=by simpa [Addr.add] using World.cell?_spot hc
   subst hspot
   have hlen:((zs.take len).map fun n=>UInt8.ofNat n.toNat).length=len:=by simp;omega
   refine⟨(zs.take len).map fun n=>UInt8.ofNat n.toNat,.inr ⟨b,off,cap,by rw[hlen],by omega,hm,fun j x hj=>?_⟩⟩
   have hjl:j<len:=by have:=(List.getElem?_eq_some_iff.1 hj).1;simp at this;omega
   have e1:zs[j]? = some zs[j]:=List.getElem?_eq_getElem (by omega)
   have hw:=hwz zs[j] (List.getElem_mem _)
   have hcj:=hcell j (by omega)
   have e2:zs.getD j 0=zs[j]:=by simp[List.getD,e1]
   rw[e2] at hcj
   have hx:x=.int .u8 zs[j]:=by
    rw[List.getElem?_map,List.getElem?_map,List.getElem?_take_of_lt hjl,e1] at hj
    simp only[Option.map_some,Option.some.injEq] at hj
    rw[←hj]
    have hb:0≤zs[j]∧zs[j]≤255:=by simpa [Lit.wf,IntKind.min,IntKind.max,IntKind.signed,IntKind.bits] using hw
    have h3:(zs[j].toNat%256:Nat)=zs[j].toNat:=Nat.mod_eq_of_lt (by omega)
    simp only[bv,UInt8.toNat_ofNat']
    rw[show(2 ^ 8:Nat)=256 from rfl,h3,Int.toNat_of_nonneg hb.1]
   subst hx
   by_cases hj0:j=0
   ·subst hj0;simpa [Addr.add] using hcj
   ·simpa [Addr.add,hj0] using hcj
end Go.Proofs.YthlakkdgcgkcdaaGreatDoor
