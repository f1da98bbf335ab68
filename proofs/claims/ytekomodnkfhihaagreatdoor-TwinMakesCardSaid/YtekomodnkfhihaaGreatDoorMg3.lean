/- What the rows' conditions on the four variables give a walk, and a world that meets them. -/
import Derived.Lib.LaidTab
import Derived.Maps.Own
import Derived.Maps.RangeRun
import Derived.Lib.AppendZerosOnto
import Derived.Test.YtekomodnkfhihaaGreatDoorMg2
namespace Go.Proofs.YtekomodnkfhihaaGreatDoor
set_option maxHeartbeats 8000000
set_option maxRecDepth 100000
open Go.ChangeShapes Go.WideShapes Go.ChangeAt Go.RowKit Go.Joins
set_option linter.unusedVariables false
abbrev twL3 : List (String × DataW Unit) := [("math/bits.deBruijn32tab", Rows.laid_math_bits_deBruijn32tab), ("math/bits.deBruijn64tab", Rows.laid_math_bits_deBruijn64tab), ("internal/strconv.uint64pow10", Rows.laid_internal_strconv_uint64pow10)]
abbrev twL4 : List (String × DataW Unit) := [("math/bits.deBruijn32tab", Rows.laid_math_bits_deBruijn32tab), ("math/bits.deBruijn64tab", Rows.laid_math_bits_deBruijn64tab), ("internal/strconv.uint64pow10", Rows.laid_internal_strconv_uint64pow10), ("errors.errorType", Rows.laid_errors_errorType)]
theorem Tryz.pw : Tryz.prog.globalNamed "internal/strconv.uint64pow10" = some 1 := by kernel_rfl
theorem Tryz.pwT:(Tryz.prog.globals[1]?).map (·.type)=some 387:=by kernel_rfl
theorem pow_data{H:Type}:(Rows.laid_internal_strconv_uint64pow10:DataW H)=Lib.tabData .u64 Lib.pow10Tab:=by
 unfold Rows.laid_internal_strconv_uint64pow10 Lib.tabData
 rfl
theorem itT_of{W:World}(h:laidMet Tryz.prog twL3 W):ItT W:=by
 obtain⟨ps,⟨_,_,_,_,_,_,_,_,_,_,⟨_,_,_,_,_,_,_,_,_,_,⟨g,t,cs,a1,p,q,hg,ht,a0,hd,_,_⟩,_⟩,_⟩,_⟩:=h
 obtain rfl:=Option.some.inj (Tryz.pw.symm.trans hg)
 obtain rfl:=Option.some.inj (Tryz.pwT.symm.trans ht)
 unfold ItT Lib.TabIs
 rw[a0]
 rw[pow_data] at hd
 rw[←Lib.cells_of_tab Tryz.underlying387 Tryz.underlying341 K0 K0 hd]
theorem itT4{W:World}(h:laidMetH Tryz.prog twL4 W):ItT W:=by
 have h' : laidMet Tryz.prog twL3 W ∧ handlesMet Tryz.prog [("errors.errorType", Rows.laid_errors_errorType)] W := h
 exact itT_of h'.1
theorem errT4{W:World}(h:laidMetH Tryz.prog twL4 W):Zhd W:=by
 have h' : laidMet Tryz.prog twL3 W ∧ handlesMet Tryz.prog [("errors.errorType", Rows.laid_errors_errorType)] W := h
 exact Oa ⟨laidMet_nil _ _,h'.2⟩
def tab32:Array Value:=#[.int .u8 0,.int .u8 1,.int .u8 28,.int .u8 2,.int .u8 29,.int .u8 14,.int .u8 24,.int .u8 3,.int .u8 30,.int .u8 22,.int .u8 20,.int .u8 15,.int .u8 25,.int .u8 17,.int .u8 4,.int .u8 8,.int .u8 31,.int .u8 27,.int .u8 13,.int .u8 23,.int .u8 21,.int .u8 19,.int .u8 16,.int .u8 7,.int .u8 26,.int .u8 12,.int .u8 18,.int .u8 6,.int .u8 11,.int .u8 5,.int .u8 10,.int .u8 9]
def tab64:Array Value:=#[.int .u8 0,.int .u8 1,.int .u8 56,.int .u8 2,.int .u8 57,.int .u8 49,.int .u8 28,.int .u8 3,.int .u8 61,.int .u8 58,.int .u8 42,.int .u8 50,.int .u8 38,.int .u8 29,.int .u8 17,.int .u8 4,.int .u8 62,.int .u8 47,.int .u8 59,.int .u8 36,.int .u8 45,.int .u8 43,.int .u8 51,.int .u8 22,.int .u8 53,.int .u8 39,.int .u8 33,.int .u8 30,.int .u8 24,.int .u8 18,.int .u8 12,.int .u8 5,.int .u8 63,.int .u8 55,.int .u8 48,.int .u8 27,.int .u8 60,.int .u8 41,.int .u8 37,.int .u8 16,.int .u8 46,.int .u8 35,.int .u8 44,.int .u8 21,.int .u8 52,.int .u8 32,.int .u8 23,.int .u8 11,.int .u8 54,.int .u8 26,.int .u8 40,.int .u8 15,.int .u8 34,.int .u8 20,.int .u8 31,.int .u8 10,.int .u8 25,.int .u8 14,.int .u8 19,.int .u8 9,.int .u8 13,.int .u8 8,.int .u8 7,.int .u8 6]
def tabPow:Array Value:=(Lib.pow10Tab.map fun z=>Value.int .u64 z).toArray
noncomputable def laidWorld4 (os:Os):World :=
 let put (cs:Array Value):Obj→Obj:=fun
  | .cells _ t frozen=>.cells cs t frozen
  | o=>o
 let w0:=laidWorld os
 { w0 with heap:=((w0.heap.modify 2 (put tab32)).modify 3 (put tab64)).modify 1 (put tabPow) }
theorem Rb(os:Os)(args:Array Value):laidMetH Tryz.prog twL4 ((laidWorld4 os).forCall (fun _ _=>0) ⟨#[],args,[]⟩).memory :=
 laidMetH_of_parts (laidMet_of_run' 8 K0 K0) K0
end Go.Proofs.YtekomodnkfhihaaGreatDoor
namespace Go.Proofs.YtekomodnkfhihaaGreatDoor
set_option maxHeartbeats 8000000
set_option maxRecDepth 100000
open Go.RowKit Go.Extern.Stop Go.Stop Go.Extern
set_option linter.unusedVariables false
attribute [local irreducible] wpList wpAnyH Code.wp Oper.wp Go
theorem Dn{B b:Nat}{l:Bl}(w:World)(h:Bld B b l w)(hl:l.length+1≤100000000)(hBw:B≤w.heap.size) :
 C0 78 #[P0 b,.int .u8 32] w (BldP B b (l++[32]) .nilIface w):=bld_Byte 32 w h hl hBw
theorem txt_next{M:List Mp}{k:Nat}(h:k<M.length):((((((txt (M.take k)++Lib.itoa (M.getD k mpD).1)++[32])++Lib.itoa (M.getD k mpD).2.1)++[32])++Lib.itoa (M.getD k mpD).2.2)++[32])=txt (M.take (k+1)):=by
 rw[txt_take h];simp only[Zdw,txtN,C6]
theorem txt_lens{M:List Mp}{k:Nat}(hR:∀ m∈M,MpR m)(h:k<M.length)(hl:M.length≤100000):(txt (M.take k)).length≤6600000∧InI (M.getD k mpD).1∧InI (M.getD k mpD).2.1∧InI (M.getD k mpD).2.2∧(Lib.itoa (M.getD k mpD).1).length≤21∧(Lib.itoa (M.getD k mpD).2.1).length≤21∧(Lib.itoa (M.getD k mpD).2.2).length≤21:=by
 have a:=txt_len (M:=M.take k) (fun m hm=>hR m (I4 hm))
 rw[D1] at a
 have e:M.getD k mpD=M[k]:=by simp[List.getD,h]
 obtain⟨h1,h2,h3⟩:=hR (M.getD k mpD) (by rw[e];exact E5 h)
 exact⟨by omega,h1,h2,h3,Lib.itoa_length_le _ h1.1 h1.2,Lib.itoa_length_le _ h2.1 h2.2,Lib.itoa_length_le _ h3.1 h3.2⟩
theorem Zkc(p:O0)(c:Nat)(M:List Mp)(w:World)(hI:ItT w)(h:Sts Rp w (.slice p M.length c) M)(hR:∀ m∈M,MpR m)(hf:M.length≤100000) :
 C0 30 #[.slice p M.length c] w (Ret (.string ⟨(txt M).toArray⟩) w):=by
 have e5:=Sl.len h
 refine zin 33 Tryz.func30 ?_
 refine xa 7 [.pointer none,S0] 155 fun b1 W1 n1=>?_
 have g1:=n1.ge (B4 w)
 refine zl 11 33 (fun zm d3 V=>∃ (k:Nat),d3=[(2,.string ⟨#[]⟩),(3,P0 b1),(8,.slice p M.length c),(9,V0 (M.length:Int)),(10,V0 (k:Int))]∧zm=M.length-((k:Int)).toNat∧B3 w V∧Bld w.heap.size b1 (txt (M.take k)) V∧k≤M.length) ⟨0,rfl,rfl,n1.below,Bld.zero g1 n1.blk,A3 _⟩ ?_
 rintro _ _ W2 ⟨k,rfl,rfl,a1,a0,hk⟩ J2 e0 r2
 refine xid 6 ((k:Int)<(M.length:Int)) (fun d7=>?_) (fun d7=>?_)
 ·obtain⟨q0,q1,q2,q3,q4,q5,q6⟩:=txt_lens (k:=k) hR M0 hf
  refine xx 6 _ M.length k 3 (Sts.cell h Xj mpD (k:=k) (i:=0) M0 rfl).1 ?_
  refine xlv 0 (Sts.rp (k:=k) (h.below a1) Xj mpD M0 Do) ?_
  refine xa 0 [V0 0,V0 0,V0 0] 63 fun b4 W4 n4=>?_
  have g4:=n4.ge a1
  refine xsv 0 n4.blk [V0 ((M.getD k mpD).1),V0 ((M.getD k mpD).2.1),V0 ((M.getD k mpD).2.2)] fun W5 u5 k5=>?_
  refine xb 5 0 k5 ?_
  refine xb 1 1 k5 ?_
  refine xb 1 2 k5 ?_
  refine xbs 0 3 [V0 ((M.getD k mpD).1),V0 ((M.getD k mpD).2.1),V0 ((M.getD k mpD).2.2)] 3 fun b6 W6 n6=>?_
  have b3:=u5.below (bln a1 n4.below) g4
  have g6:=n6.ge b3
  refine xu 5 4 ?_
  refine xb 14 0 n6.blk ?_
  have c2:=bln b3 n6.below
  refine xr 6 (args:=#[V0 ((M.getD k mpD).1)]) (Tq q1 _ (hI.below c2)) fun W7 c8=>?_
  have b5:=(((a0.below n4.below).only (Zd.of_upd (T:=[63]) u5 n4.blk Do) Do).below n6.below).below c8
  have c0:=bln c2 c8
  refine xc 0 (args:=#[P0 b1,.string ⟨(Lib.itoa (M.getD k mpD).1).toArray⟩]) (Zca (Lib.itoa (M.getD k mpD).1) _ b5 (by first|omega|(simp only[A5];omega)|(simp only[A5,List.length_singleton];omega)) c0.size) ?_
  rintro _ W8 ⟨rfl,d4,d2,a0⟩
  have a9:=c0.trans d4
  refine xc 3 (args:=#[P0 b1,.int .u8 32]) (Dn _ a0 (by first|omega|(simp only[A5];omega)|(simp only[A5,List.length_singleton];omega)) a9.size) ?_
  rintro _ W9 ⟨rfl,d5,d8,a0⟩
  have b8:=((n6.blk.below c8).only d2 Do).only d8 Do
  refine xb 22 1 b8 ?_
  have b2:=a9.trans d5
  refine xr 6 (args:=#[V0 ((M.getD k mpD).2.1)]) (Tq q2 _ (hI.below b2)) fun e2 a3=>?_
  have a7:=a0.below a3
  have a6:=bln b2 a3
  refine xc 0 (args:=#[P0 b1,.string ⟨(Lib.itoa (M.getD k mpD).2.1).toArray⟩]) (Zca (Lib.itoa (M.getD k mpD).2.1) _ a7 (by first|omega|(simp only[A5];omega)|(simp only[A5,List.length_singleton];omega)) a6.size) ?_
  rintro _ e6 ⟨rfl,c4,c7,a0⟩
  have b9:=a6.trans c4
  refine xc 3 (args:=#[P0 b1,.int .u8 32]) (Dn _ a0 (by first|omega|(simp only[A5];omega)|(simp only[A5,List.length_singleton];omega)) b9.size) ?_
  rintro _ e1 ⟨rfl,c5,c3,a0⟩
  have d0:=((b8.below a3).only c7 Do).only c3 Do
  refine xb 22 2 d0 ?_
  have a5:=b9.trans c5
  refine xr 6 (args:=#[V0 ((M.getD k mpD).2.2)]) (Tq q3 _ (hI.below a5)) fun e4 c1=>?_
  have a8:=a0.below c1
  have b0:=bln a5 c1
  refine xc 0 (args:=#[P0 b1,.string ⟨(Lib.itoa (M.getD k mpD).2.2).toArray⟩]) (Zca (Lib.itoa (M.getD k mpD).2.2) _ a8 (by first|omega|(simp only[A5];omega)|(simp only[A5,List.length_singleton];omega)) b0.size) ?_
  rintro _ e3 ⟨rfl,c9,d6,a0⟩
  have a2:=b0.trans c9
  refine xc 3 (args:=#[P0 b1,.int .u8 32]) (Dn _ a0 (by first|omega|(simp only[A5];omega)|(simp only[A5,List.length_singleton];omega)) a2.size) ?_
  rintro _ e7 ⟨rfl,d1,d9,a0⟩
  refine xwm 22 ((k:Int)+1) (↑(k+1):Int) ?_
  have a4:=a2.trans d1
  exact ze 2 (e0 _ _ _ ⟨k+1,rfl,rfl,a4,(txt_next (M:=M) (k:=k) M0▸a0),by omega⟩ M0)
 refine xc 7 (args:=#[P0 b1]) (bld_End _ a0 a1.size) ?_
 rintro _ e8 ⟨rfl,c6⟩
 have b7:=a1.trans c6
 exact xe 4 (.string ⟨(txt (M.take k)).toArray⟩) ⟨by rw[A1 M0],b7⟩
end Go.Proofs.YtekomodnkfhihaaGreatDoor
namespace Go.Proofs.YtekomodnkfhihaaGreatDoor
set_option maxHeartbeats 8000000
set_option maxRecDepth 100000
open Go.RowKit Go.Extern.Stop Go.Stop Go.Extern
open Go.ChangeMaps (setBlock heap_setBlock_same heap_setBlock_other)
set_option linter.unusedVariables false
attribute [local irreducible] wpList wpAnyH Code.wp Oper.wp Go
variable {P:Program} {w:World}
theorem Ob{r:Nat}{es:Array MapEntry}{c:Nat}(hb:w.heap[r]? = some (.map es c))(o:Obj):Upd w r (setBlock w r o):=⟨rfl,rfl,rfl,by simp[setBlock],fun k hk=>heap_setBlock_other hb _ hk⟩
/-! ### in a walk -/
inductive Zm
 | mm (t:TypeId)
 | lk (t:TypeId) (m k:Value)
 | mu (t:TypeId) (m k v:Value)
 | b1 (b:Builtin) (t:TypeId) (u:Value)
 | b2 (b:Builtin) (t t2:TypeId) (u v:Value)
noncomputable def zmf (n:Nat) (kv:List (Nat×Value)) (o:Oper):Option Zm:=match o.op with
 | .makeMap t none=>some (.mm t)
 | .lookup t x y false=>some (.lk t (zev n kv x) (zev n kv y))
 | .mapUpdate t x y z=>some (.mu t (zev n kv x) (zev n kv y) (zev n kv z))
 | .call c=>match c.callee with
  | .builtin b=>match c.args.toList,c.argTypes.toList with
   | [x],[t]=>some (.b1 b t (zev n kv x))
   | [x,y],[t,t2]=>some (.b2 b t t2 (zev n kv x) (zev n kv y))
   | _,_=>none
  | _=>none
 | _=>none
noncomputable def zm (s:Zs):Option Zm:=match zop s with
 | some o=>zmf s.n s.kv o
 | none=>none
section
variable {P:Program} {fn:Func} {R:Ending→World→Prop} {w:World} {s:Zs}
theorem op_skip{a:Act}{o:Oper}{K:Act→World→Prop}{Q:Exit→Act→World→Prop}{w':World}(hv:(execOp a.eval o).run P w=.ok .skip w')(k:K (a.put o.dst undef) w'):o.wp P a w K Q:=by
 simp only[Oper.wp,hv,Oper.upon];exact k
end
end Go.Proofs.YtekomodnkfhihaaGreatDoor
namespace Go.Proofs.YtekomodnkfhihaaGreatDoor
set_option maxHeartbeats 8000000
set_option maxRecDepth 100000
open Go.RowKit Go.Extern.Stop Go.Stop Go.Extern
open Go.ChangeMaps (setBlock heap_setBlock_same heap_setBlock_other)
set_option linter.unusedVariables false
attribute [local irreducible] wpList wpAnyH Code.wp Oper.wp Go
structure KeyK{α:Type}[DecidableEq α](P:Program)(kt:TypeId)(mk:α→Value)(un:Value→α):Prop where
 inv:∀ a,un (mk a)=a
 d:∃ D,P.underlying kt=some D∧∀ a b,Instr.sameNow D (mk a) (mk b)=some (decide (a=b))
 ok:∀ (b:Bool) (a:α) (w:World),(Instr.checkKey b 10000 kt (mk a)).run P w=.ok () w
section
variable {α:Type} {mk:α→Value} {un:Value→α}
def Zb0(mk:α→Value)(kv:List (α×Value)):List (Value×Value):=kv.map fun p=>(mk p.1,p.2)
def Wk(mk:α→Value)(W:World)(r:Nat)(kv:List (α×Value)):Prop :=
 ∃ es clock,W.heap[r]? = some (.map es clock)∧es.toList.map (fun e=>(e.key,e.val))=Zb0 mk kv∧(∀ x∈es.toList,x.born<clock)∧(es.toList.map (·.born)).Nodup
theorem Wk.lt{W:World}{r:Nat}{kv:List (α×Value)}(h:Wk mk W r kv):r<W.heap.size:=by
 obtain⟨es,a0,h1,_⟩:=h
 exact(Array.getElem?_eq_some_iff.1 h1).1
theorem Wk.kept{w W:World}{r:Nat}{kv:List (α×Value)}(h:Wk mk w r kv)(hb:W.heap[r]? = w.heap[r]?):Wk mk W r kv:=by
 obtain⟨es,a0,h1,h2⟩:=h
 exact⟨es,a0,hb.trans h1,h2⟩
theorem Wk.below{w W:World}{r:Nat}{kv:List (α×Value)}(h:Wk mk w r kv)(hb:B3 w W):Wk mk W r kv:=h.kept (hb.block r h.lt)
theorem Wk.ne_blk{w:World}{r b:Nat}{kv:List (α×Value)}{cs:List Value}{t:TypeId}(h:Wk mk w r kv)(k:Blk w b cs t):r≠b:=fun e=>by
 subst e
 obtain⟨es,a0,h1,_⟩:=h
 have:w.heap[r]? = some (.cells cs.toArray t (0,0)):=k
 rw[h1] at this;cases this
theorem Wk.ne_own{w:World}{r base size n:Nat}{kv:List (α×Value)}{e:TypeId}{v:Value}{xs:List Value}(h:Wk mk w r kv)(k:w.ownsRow base e size v n xs):some r≠v.ownBlock:=fun q=>by
 rcases k.2 with ⟨h2,_⟩|⟨g,a1,a2,hv,hg,hh,_⟩
 ·subst h2;simp[Value.ownBlock] at q
 ·subst hv
  simp only[Value.ownBlock,A0] at q
  subst q
  obtain⟨es,a0,h1,_⟩:=h
  rw[h1] at hh;cases hh
theorem Wk.grown{w W:World}{r base size n:Nat}{kv:List (α×Value)}{e:TypeId}{v:Value}{xs:List Value}(h:Wk mk w r kv)(hg:w.grownBy W v.ownBlock)(k:w.ownsRow base e size v n xs):Wk mk W r kv:=h.kept (hg.block r h.lt (h.ne_own k))
theorem Wk.updBlk{w W:World}{r b:Nat}{kv:List (α×Value)}{cs:List Value}{t:TypeId}(h:Wk mk w r kv)(u:Upd w b W)(k:Blk w b cs t):Wk mk W r kv:=h.kept (u.block r (h.ne_blk k))
theorem Wk.upd{w W:World}{r b:Nat}{kv:List (α×Value)}(h:Wk mk w r kv)(u:Upd w b W)(hn:r≠b):Wk mk W r kv:=h.kept (u.block r hn)
theorem own_obj{w W:World}{r base size n:Nat}{e:TypeId}{v:Value}{xs:List Value}(k:w.ownsRow base e size v n xs)(h:∀ cs t f,w.heap[r]? ≠ some (.cells cs t f))(u:Upd w r W):W.ownsRow base e size v n xs:=u.own3 k fun j hj q=>by
 subst q
 rcases k.2 with ⟨h2,_⟩|⟨g,a0,a1,hv,hg,hh,_⟩
 ·subst h2;simp[Value.ownBlock] at hj
 ·subst hv
  simp only[Value.ownBlock,A0] at hj
  subst hj
  exact h _ _ _ hh
theorem blk_obj{w W:World}{r b:Nat}{cs:List Value}{t:TypeId}(k:Blk w b cs t)(h:∀ cs t f,w.heap[r]? ≠ some (.cells cs t f))(u:Upd w r W):Blk W b cs t:=u.blk k (fun q=>by
 subst q
 exact h cs.toArray t (0,0) k)
theorem Wk.obj{w:World}{r:Nat}{kv:List (α×Value)}(h:Wk mk w r kv):∀ cs t f,w.heap[r]? ≠ some (.cells cs t f):=fun cs t f q=>by
 obtain⟨es,a0,h1,_⟩:=h
 rw[h1] at q;cases q
structure NewMV(mk:α→Value)(w:World)(r:Nat)(W:World):Prop where
 at_:r=w.heap.size
 below:Below w.heap.size w W
 map:Wk mk W r []
theorem NewMV.ge{w W A:World}{r:Nat}(h:NewMV mk w r W)(k:Below A.heap.size A w):A.heap.size≤r:=by have:=k.size;have:=h.at_;omega
theorem NewMV.mk'(mk:α→Value)(w:World):NewMV mk w w.heap.size (w.alloc (.map #[] 0)):=⟨rfl,blx _ _,#[],0,I9 w _,rfl,(fun _ h=>by cases h),List.Pairwise.nil⟩
def Wc[DecidableEq α]:List (α×Value)→α→Option Value
 | [],_=>none
 | p::r,k=>if k=p.1 then some p.2 else Wc r k
theorem Zg0[DecidableEq α]{kv:List (α×Value)}{k:α}(h:k∉kv.map Prod.fst):Wc kv k=none:=by
 induction kv with
 | nil=>rfl
 | cons p r ih =>
  simp only[F4,E9,not_or] at h
  unfold Wc
  rw[if_neg h.1];exact ih h.2
theorem Zi8[DecidableEq α]{kv:List (α×Value)}{k:α}(h:k∈kv.map Prod.fst):∃ v,Wc kv k=some v∧(k,v)∈kv:=by
 induction kv with
 | nil=>cases h
 | cons p r ih =>
  unfold Wc
  by_cases q:k=p.1
  ·rw[if_pos q];exact⟨p.2,rfl,by rw[q];exact C2⟩
  ·rw[if_neg q]
   obtain⟨v,h1,h2⟩:=ih (by simpa [q] using h)
   exact⟨v,h1,D8 _ h2⟩
theorem Ox[DecidableEq α]{D:TypeDesc}(hd:∀ a b:α,Instr.sameNow D (mk a) (mk b)=some (decide (a=b)))(k:α):∀ (es:List MapEntry) (kv:List (α×Value)) (i:Nat),es.map (fun e=>(e.key,e.val))=Zb0 mk kv→∃ j,Instr.findNow D (mk k) es i=some ((Wc kv k).map fun v=>(j,v))
 | [],kv,i,h=>by
  have:kv=[]:=by simpa [Zb0] using h.symm
  subst this;exact⟨0,rfl⟩
 | e::es,[],i,h=>by simp[Zb0] at h
 | e::es,p::kv,i,h=>by
  simp only[Zb0,F4,I1,C8] at h
  obtain⟨⟨h1,h2⟩,h3⟩:=h
  by_cases q:k=p.1
  ·refine⟨i,?_⟩
   simp[Instr.findNow,h1,h2,hd,Wc,q]
  ·obtain⟨j,ih⟩:=Ox hd k es kv (i+1) h3
   refine⟨j,?_⟩
   simp[Instr.findNow,h1,hd,Wc,q,ih]
theorem Ul[DecidableEq α]{P:Program}{kt:TypeId}(K:KeyK P kt mk un)(k:α){es:List MapEntry}{kv:List (α×Value)}(h:es.map (fun e=>(e.key,e.val))=Zb0 mk kv)(w:World) :
 ∃ j,(Instr.findKey kt (mk k) es).run P w=.ok ((Wc kv k).map fun v=>(j,v)) w:=by
 obtain⟨D,hD,hd⟩:=K.d
 obtain⟨j,hj⟩:=Ox hd k es kv 0 h
 refine⟨j,?_⟩
 simp only[Instr.findKey,B8,run_underlying hD,C9,hj]
 rfl
variable {P:Program} {w:World}
theorem Zle[DecidableEq α]{t kt et:TypeId}{r:Nat}{kv:List (α×Value)}(K:KeyK P kt mk un)(ht:P.underlying t=some (.map kt et))(h:Wk mk w r kv){k:α}{v:Value}(hv:Wc kv k=some v)(ok:Bool) :
 (Instr.lookup t (.map (some r)) (mk k) ok).run P w=.ok (if ok then .tuple #[v,.bool true] else v) w:=by
 obtain⟨es,a0,h1,h2,_⟩:=h
 obtain⟨j,hf⟩:=Ul K k h2 w
 rw[hv] at hf
 cases ok<;>simp[Instr.lookup,run_underlying ht,MapKept.run_getObj_map h1,K.ok,hf,Result.andThen]
theorem Zin[DecidableEq α]{t kt et:TypeId}{r:Nat}{kv:List (α×Value)}(K:KeyK P kt mk un)(ht:P.underlying t=some (.map kt et))(h:Wk mk w r kv){k:α}{z:Value}(hz:(zeroValue et).run P w=.ok z w)(hv:Wc kv k=none)(ok:Bool) :
 (Instr.lookup t (.map (some r)) (mk k) ok).run P w=.ok (if ok then .tuple #[z,.bool false] else z) w:=by
 obtain⟨es,a0,h1,h2,_⟩:=h
 obtain⟨j,hf⟩:=Ul K k h2 w
 rw[hv] at hf
 cases ok<;>simp[Instr.lookup,run_underlying ht,MapKept.run_getObj_map h1,K.ok,hf,hz,Result.andThen]
theorem Zaz[DecidableEq α]{t kt et:TypeId}{r:Nat}{kv:List (α×Value)}(K:KeyK P kt mk un)(ht:P.underlying t=some (.map kt et))(h:Wk mk w r kv){k:α}(v:Value)(hn:Wc kv k=none) :
 ∃ W,(Instr.mapUpdate t (.map (some r)) (mk k) v).run P w=.ok () W∧Upd w r W∧Wk mk W r (kv++[(k,v)]):=by
 obtain⟨es,a0,h1,h2,h3,h4⟩:=h
 obtain⟨j,hf⟩:=Ul K k h2 w
 rw[hn] at hf
 refine⟨setBlock w r (.map (es.push ⟨mk k,v,a0⟩) (a0+1)),?_,Ob h1 _,_,_,heap_setBlock_same h1 _,?_,?_,?_⟩
 ·simp[Instr.mapUpdate,run_underlying ht,MapKept.run_getObj_map h1,K.ok,hf,MapKept.run_setObj_map _ h1,Result.andThen,setBlock]
 ·rw[Array.toList_push,A9,h2];simp[Zb0]
 ·intro x hx
  rw[Array.toList_push,List.mem_append] at hx
  rcases hx with hx|hx
  ·exact Nat.lt_succ_of_lt (h3 x hx)
  ·obtain rfl:=E2.1 hx
   exact Nat.lt_succ_self a0
 ·rw[Array.toList_push,A9,List.nodup_append]
  refine⟨h4,by simp,fun a ha b hb q=>?_⟩
  obtain⟨x,hx,rfl⟩:=List.mem_map.1 ha
  simp at hb
  have:=h3 x hx
  omega
end
/-! ### in a walk -/
inductive Zmv
 | mm (t:TypeId)
 | lk (t:TypeId) (m k:Value) (ok:Bool)
 | mu (t:TypeId) (m k v:Value)
 | rg (t:TypeId) (m:Value)
 | nx (i:Value)
 | en (i:Value)
noncomputable def zmvf (n:Nat) (kv:List (Nat×Value)) (o:Oper):Option Zmv:=match o.op with
 | .makeMap t none=>some (.mm t)
 | .lookup t x y ok=>some (.lk t (zev n kv x) (zev n kv y) ok)
 | .mapUpdate t x y z=>some (.mu t (zev n kv x) (zev n kv y) (zev n kv z))
 | .range t x=>some (.rg t (zev n kv x))
 | .next x false=>some (.nx (zev n kv x))
 | .entry x=>some (.en (zev n kv x))
 | _=>none
noncomputable def zmv (s:Zs):Option Zmv:=match zop s with
 | some o=>zmvf s.n s.kv o
 | none=>none
def ZmvOk(a:Act)(o:Oper):Zmv→Prop
 | .mm t=>o.op=.makeMap t none
 | .lk t m k ok=>∃ x y,o.op=.lookup t x y ok∧a.eval x=m∧a.eval y=k
 | .mu t m k v=>∃ x y z,o.op=.mapUpdate t x y z∧a.eval x=m∧a.eval y=k∧a.eval z=v
 | .rg t m=>∃ x,o.op=.range t x∧a.eval x=m
 | .nx i=>∃ x,o.op=.next x false∧a.eval x=i
 | .en i=>∃ x,o.op=.entry x∧a.eval x=i
theorem Ss{n:Nat}{kv:List (Nat×Value)}{o:Oper}{k:Zmv}(h:zmvf n kv o=some k):ZmvOk (zact n kv) o k:=by
 unfold zmvf at h
 split at h
 ·rename_i a0;cases h;exact a0
 ·rename_i a0;cases h;exact⟨_,_,a0,by rw[Zy],by rw[Zy]⟩
 ·rename_i a0;cases h;exact⟨_,_,_,a0,by rw[Zy],by rw[Zy],by rw[Zy]⟩
 ·rename_i a0;cases h;exact⟨_,a0,by rw[Zy]⟩
 ·rename_i a0;cases h;exact⟨_,a0,by rw[Zy]⟩
 ·rename_i a0;cases h;exact⟨_,a0,by rw[Zy]⟩
 ·cases h
section
variable {P:Program} {fn:Func} {R:Ending→World→Prop} {w:World} {s:Zs} {α:Type} {mk:α→Value} {un:Value→α}
theorem xmmV(mk:α→Value)(q:Zq)(t:TypeId)(k:∀ r W,NewMV mk w r W→Go P fn R (znx (zq P q s) (.map (some r))) W)(h:zmv (zq P q s)=some (.mm t):=by kernel_rfl)(hz:Hg (zq P q s)=true:=by kernel_rfl):Go P fn R s w:=by
 obtain⟨o,ho,h⟩:=Qk h
 have a0:o.op=.makeMap t none:=Ss h
 exact Zx q s (zgo ho (Vz hz) fun K hK=>Hb (v:=.map (some w.heap.size)) (w':=w.alloc (.map #[] 0)) (by simp[execOp,a0,Instr.makeMap,newObj,Sem.run,Result.andThen]) (hK _ _ (Kb hz) (k _ _ (NewMV.mk' mk w))))
theorem xlkS[DecidableEq α](q:Zq){t kt et:TypeId}{r:Nat}{kv:List (α×Value)}(k:α)(ok:Bool){v:Value}(ht:P.underlying t=some (.map kt et))(K:KeyK P kt mk un)(hM:Wk mk w r kv)(hv:Wc kv k=some v)(g:Go P fn R (znx (zq P q s) (if ok then .tuple #[v,.bool true] else v)) w)
 (h:zmv (zq P q s)=some (.lk t (.map (some r)) (mk k) ok):=by kernel_rfl) (hz:Nj (zq P q s)=true:=by kernel_rfl):Go P fn R s w:=by
 obtain⟨o,ho,h⟩:=Qk h
 obtain⟨x,y,h1,h2,h3⟩:=Ss h
 exact Zx q s (Zas ho (fun V hV=>by
  have hr:=Zle (P:=P) K ht (hM.below (Gf hz hV)) hv ok
  simp only[execOp,h1,h2,h3,B8,hr,Result.andThen];rfl) g)
theorem xlkN[DecidableEq α](q:Zq){t kt et:TypeId}{r:Nat}{kv:List (α×Value)}(k:α)(ok:Bool){z:Value}(ht:P.underlying t=some (.map kt et))(K:KeyK P kt mk un)(hz0:∀ V,(zeroValue et).run P V=.ok z V)(hM:Wk mk w r kv)(hv:Wc kv k=none)(g:Go P fn R (znx (zq P q s) (if ok then .tuple #[z,.bool false] else z)) w)
 (h:zmv (zq P q s)=some (.lk t (.map (some r)) (mk k) ok):=by kernel_rfl) (hz:Nj (zq P q s)=true:=by kernel_rfl):Go P fn R s w:=by
 obtain⟨o,ho,h⟩:=Qk h
 obtain⟨x,y,h1,h2,h3⟩:=Ss h
 exact Zx q s (Zas ho (fun V hV=>by
  have hr:=Zin (P:=P) K ht (hM.below (Gf hz hV)) (hz0 V) hv ok
  simp only[execOp,h1,h2,h3,B8,hr,Result.andThen];rfl) g)
theorem xmuV[DecidableEq α](q:Zq){t kt et:TypeId}{r:Nat}{kv:List (α×Value)}(k:α)(v:Value)(ht:P.underlying t=some (.map kt et))(K:KeyK P kt mk un)(hM:Wk mk w r kv)(hn:Wc kv k=none)(g:∀ W,Upd w r W→Wk mk W r (kv++[(k,v)])→Go P fn R (znx (zq P q s) undef) W)
 (h:zmv (zq P q s)=some (.mu t (.map (some r)) (mk k) v):=by kernel_rfl) (hz:Hg (zq P q s)=true:=by kernel_rfl):Go P fn R s w:=by
 obtain⟨o,ho,h⟩:=Qk h
 obtain⟨x,y,z,h1,h2,h3,h4⟩:=Ss h
 obtain⟨W,hr,hu,hm⟩:=Zaz (P:=P) K ht hM v hn
 exact Zx q s (zgo ho (Vz hz) fun K hK=>op_skip (w':=W) (by simp[execOp,h1,h2,h3,h4,hr,Result.andThen]) (hK _ _ (Kb hz) (g W hu hm)))
end
end Go.Proofs.YtekomodnkfhihaaGreatDoor
namespace Go.Proofs.YtekomodnkfhihaaGreatDoor
set_option maxHeartbeats 8000000
set_option maxRecDepth 100000
open Go.RowKit Go.Extern.Stop Go.Stop Go.Extern
set_option linter.unusedVariables false
attribute [local irreducible] wpList wpAnyH Code.wp Oper.wp Go
theorem Yr(k:Nat):Builtin.zeroCells #[Value.int .u8 0] k=(List.replicate k (Value.int .u8 0)).toArray:=by
 apply Array.ext'
 unfold Builtin.zeroCells
 simp only[G8,E4,K4,F1,D5,Nat.mod_one]
 rw[Array.toList_map]
 simp only[Array.toList_range]
 apply G0
 intro i
 simp only[B9,I6]
 by_cases h:i<k
 ·rw[B7 h,if_pos h];rfl
 ·rw[if_neg h,C5 (by simpa using h)];rfl
theorem Ux{P:Program}(w:World)(t tn ty e:TypeId)(i:TypeInfo)(kq kn:IntKind)(ht:P.underlying t=some (.slice e))(htn:P.underlying tn=some (.int kn))(hi:P.info? e=some i)(hz:i.zero=some (.int .u8 0))(hs1:i.size=1)(hb1:i.bytes=1)
 (g n c k:Nat) (cur:Array Value) (hg:w.heap[g]? = some (.cells cur e (0,0))) (h0:0<k) (hroom:n+k≤c) (hfit:n+k≤cur.size) (hk:n+k≤1000000) :
 (Builtin.append_ #[t,tn] ty #[.slice (S1 g) n c,.int kq k]).run P w =
 .ok (.slice (S1 g) (n+k) c) (w.setRow g (cur.toList.take n++List.replicate k (Value.int .u8 0)++cur.toList.drop (n+k)).toArray):=by
 have a3:k≠0:=by omega
 have hw:IntKind.i64.wrap (k:Int)=k:=by rw[IntKind.wrap_i64];omega
 have a1:¬ (281474976710656<(k:Int)):=by omega
 have a0:¬ ((k:Int)<0):=by omega
 have a2:=run_storeCells_at P g n e (List.replicate k (.int .u8 0)) 0 cur w hg (by simpa using hfit) (by intro u hu;rw[(List.mem_replicate.1 hu).2];rfl)
 simp only[I0,A7] at a2
 simp[Builtin.append_,run_underlying ht,run_underlying htn,sizeOf,typeInfo,zeroValue,hi,hz,hs1,hb1,asInt,asIntOf,hw,a0,a1,a3,hroom,Addr.add_lit,show(Value.int IntKind.u8 0).cells=#[Value.int .u8 0] from rfl,Yr,a2]
theorem Tt{P:Program}{a:Act}{w:World}{K:Act→World→Prop}{Q:Exit→Act→World→Prop}{o:Oper}{s x:Operand}{t tn e:TypeId}{kq kn:IntKind}{base:Nat}{v:Value}{n:Nat}{xs:List Value}(k n':Nat)(xs':List Value)
 (ho:o.op=.call { callee:=.builtin .append,args:=#[s,x],argTypes:=#[t,tn] }) (ht:P.underlying t=some (.slice e)) (htn:P.underlying tn=some (.int kn)) (hi:(P.info? e).map (fun i=>(i.zero,i.size,i.bytes))=some (some (.int .u8 0),1,1))
 (hs:a.eval s=v) (hown:w.ownsRow base e 1 v n xs) (hx:a.eval x=.int kq (k:Int)) (h0:0<k) (hk:n+k≤1000000) (hbase:base≤w.heap.size) (hn:n+k=n') (hxs:xs++List.replicate k (.int .u8 0)=xs')
 (h:∀ b c' W,W.ownsRow base e 1 (.slice b n' c') n' xs'→w.grownBy W v.ownBlock→Below base w W→K (a.put o.dst (.slice b n' c')) W):o.wp P a w K Q:=by
 subst hn hxs
 cases hq:P.info? e with
 | none=>simp[hq] at hi
 | some i =>
  simp only[hq,C7,A0,C8] at hi
  obtain⟨hz,h1,h2⟩:=hi
  have a5:xs.length=n:=by simpa using hown.1
  have a0:(xs++List.replicate k (Value.int .u8 0)).length=(n+k)*1:=by simp[a5]
  rcases hown.2 with ⟨rfl,rfl⟩|⟨g,c,a1,rfl,b0,hg,b4,a2,a9,a3⟩
  ·obtain rfl:xs=[]:=G4 a5
   have hr:=Lib.run_append_nil_zeros (P:=P) w t tn o.type e i (.int .u8 0) kq kn ht htn hq hz k h0 M0 M0 (by rw[h2];omega)
   unfold Oper.wp execOp
   simp only[ho,resolve,invoke,builtin,B8,Ge,C9,Id,F4,I8,hs,hx,hr]
   have a6:=grownCap_ge w k 0 e
   have a2:grownCap w k 0 e≤maxLen:=grownCap_le_maxLen w k 0 e (by unfold maxLen;omega)
   simp only[F1,G9] at h
   refine h _ _ _ ⟨by simp,.inr ⟨w.heap.size,_,_,rfl,hbase,heap_alloc_new w.drew _,a6,a2,?_,?_⟩⟩ ⟨rfl,rfl,rfl,by simp,fun k hk _=>by first|exact heap_alloc_old w.drew _ k hk|exact heap_alloc_old w.drew _ hk⟩ (((Zb w).trans (show Below w.drew.heap.size w.drew _ from blx w.drew _)).mono hbase)
   ·rw[show(Value.int .u8 0).cells=#[Value.int .u8 0] from rfl,Yr,Yr];simp;omega
   ·rw[show(Value.int .u8 0).cells=#[Value.int .u8 0] from rfl,Yr,Yr]
    simp only[Array.toList_append,D5]
    exact List.take_left' (by simp)
  by_cases hroom:n+k≤c
  ·have b3:a1.size=c:=by simpa using a9
   have hr:=Ux (P:=P) w t tn o.type e i kq kn ht htn hq hz h1 h2 g n c k a1 hg h0 hroom M0 hk
   unfold Oper.wp execOp
   simp only[ho,resolve,invoke,builtin,B8,Ge,C9,Id,F4,I8,hs,hx,hr]
   have a8:w.grownBy (w.setRow g (a1.toList.take n++List.replicate k (Value.int .u8 0)++a1.toList.drop (n+k)).toArray) (Value.ownBlock (.slice (S1 g) n c)):=⟨rfl,rfl,rfl,by simp,fun k' _ b1=>setRow_other w g k' _ (fun e=>b1 (by simp[Value.ownBlock,e]))⟩
   refine h _ _ _ ⟨a0,.inr ⟨g,c,_,rfl,b0,setRow_heap w g a1 _ e _ hg,hroom,a2,?_,?_⟩⟩ a8 (Vx a8 hown (A6 _) hbase)
   ·simp only[G8,A5,D1,I5,K2,A7]
    omega
   ·have b2:a1.toList.take n=xs:=by simpa using a3
    rw[b2,←a0]
    exact List.take_left
  ·have a4:∀ j u,xs[j]? = some u→w.cell? ((⟨g,0,none⟩:Addr).add j)=some u:=hown.cells (g:=g) rfl
   have a7:=run_firstCells_some (P:=P) (w:=w.drew) i.size n ⟨g,0,none⟩ n c xs (by rw[a5,h1,D5]) (by simpa using a4)
   have hr:=Lib.run_append_grow_zeros (P:=P) w t tn o.type e i (.int .u8 0) kq kn ht htn hq hz (S1 g) n c xs a7 k h0 M0 M0 M0 (by rw[h2];omega) (by rw[h2];exact growslice_fits M0 M0)
   unfold Oper.wp execOp
   simp only[ho,resolve,invoke,builtin,B8,Ge,C9,Id,F4,I8,hs,hx,hr]
   have a6:=grownCap_ge w (n+k) c e
   have a2:grownCap w (n+k) c e≤maxLen:=grownCap_le_maxLen w (n+k) c e (by unfold maxLen;omega)
   refine h _ _ _ ⟨a0,.inr ⟨w.heap.size,_,_,rfl,hbase,heap_alloc_new w.drew _,a6,a2,?_,?_⟩⟩ ⟨rfl,rfl,rfl,by simp,fun k hk _=>by first|exact heap_alloc_old w.drew _ k hk|exact heap_alloc_old w.drew _ hk⟩ (((Zb w).trans (show Below w.drew.heap.size w.drew _ from blx w.drew _)).mono hbase)
   ·rw[show(Value.int .u8 0).cells=#[Value.int .u8 0] from rfl,Yr,Yr];simp[a5];omega
   ·rw[show(Value.int .u8 0).cells=#[Value.int .u8 0] from rfl,Yr,Yr]
    simp only[Array.toList_append,C6]
    rw[←C6,←a0]
    exact List.take_left
def Vy(kind no:Int)(li:Bl):Int:=if Ku kind no then(if li.length≤244 then 0 else 2) else 1
theorem Zfn{kind no:Int}(h:Ku kind no=true):1≤kind∧kind≤4∧0≤no∧no<14400:=of_decide_eq_true h
def SealP(kind no:Int)(li:Bl)(w:World)(e:Ending)(w':World):Prop :=
 (Vy kind no li≠0∧e=.returned (.tuple #[S0,V0 (Vy kind no li)])∧B3 w w') ∨
 (Vy kind no li=0∧Ku kind no=true∧li.length≤244∧∃ p c,e=.returned (.tuple #[.slice p 256 c,V0 0])∧B3 w w'∧w'.ownsRow w.heap.size 5 1 (.slice p 256 c) 256 ((Ja kind no li).map bv))
theorem Zh9(a b:Nat):Hv (a ^^^ b)=Hv a ^^^ Hv b:=by
 have e:∀ r,Hv r=(r/2) ^^^ (if r%2=1 then 2197175160 else 0):=fun r=>by unfold Hv;split<;>simp
 rw[e,e,e,Nat.xor_div_two]
 have hp:=Nat.xor_mod_two_eq_one (a:=a) (b:=b)
 by_cases h1:a%2=1<;>by_cases h2:b%2=1
 ·rw[if_neg (by rw[hp];simp[h1,h2]),if_pos h1,if_pos h2,Nat.xor_zero]
  rw[show a/2 ^^^ 2197175160 ^^^ (b/2 ^^^ 2197175160)=a/2 ^^^ b/2 ^^^ (2197175160 ^^^ 2197175160) by ac_rfl];simp
 ·rw[if_pos (by rw[hp];simp[h1,h2]),if_pos h1,if_neg h2,Nat.xor_zero];ac_rfl
 ·rw[if_pos (by rw[hp];simp[h1,h2]),if_neg h1,if_pos h2,Nat.xor_zero];ac_rfl
 ·rw[if_neg (by rw[hp];simp[h1,h2]),if_neg h1,if_neg h2,Nat.xor_zero,Nat.xor_zero,Nat.xor_zero]
theorem Ziu(n a b:Nat):Xz n (a ^^^ b)=Xz n a ^^^ Xz n b:=by
 induction n with
 | zero=>rfl
 | succ n ih=>rw[Xz,ih,Zh9];rfl
theorem Wu(q:Nat):Hv (2*q)=q:=by unfold Hv;rw[if_neg M0];omega
theorem stepN_16(q:Nat):Xz 4 (16*q)=q:=by
 show Hv (Hv (Hv (Hv (16*q))))=q
 rw[show 16*q=2*(2*(2*(2*q))) by omega,Wu,Wu,Wu,Wu]
theorem split16(r:Nat):r=(16*(r/16)) ^^^ (r%16):=by
 apply Nat.eq_of_testBit_eq
 intro i
 rw[Nat.testBit_xor,show 16*(r/16)=2 ^ 4*(r/2 ^ 4) from rfl,Nat.testBit_two_pow_mul,Nat.testBit_div_two_pow,show r%16=r%2 ^ 4 from rfl,Nat.testBit_mod_two_pow]
 by_cases h:4≤i
 ·rw[show i-4+4=i by omega,show decide (i≥4)=true from decide_eq_true h,show decide (i<4)=false from decide_eq_false M0];simp
 ·rw[show decide (i≥4)=false from decide_eq_false h,show decide (i<4)=true from decide_eq_true M0];simp
theorem Zjh(r:Nat):Xz 4 r=(r/16) ^^^ Pr (r%16):=by
 conv=>lhs;rw[split16 r]
 rw[Ziu,stepN_16];rfl
theorem Zkv(m n r:Nat):Xz (m+n) r=Xz m (Xz n r):=by
 induction m with
 | zero=>simp[Xz]
 | succ m ih=>rw[Nat.succ_add,Xz,ih];rfl
theorem Zh2(r:Nat)(x:UInt8):Tb r x=Xz 8 (r ^^^ x.toNat):=by
 show _=Xz (4+4) (r ^^^ x.toNat)
 rw[Zkv,Zjh,Zjh];rfl
theorem Zhi{r:Nat}(h:r%2=1):Hv r=(r/2) ^^^ 2197175160:=if_pos h
theorem step1_ev{r:Nat}(h:¬ r%2=1):Hv r=r/2:=if_neg h
theorem ref_Step(r:Nat)(w:World)(hr:r<4294967296) :
 C0 282 #[V0 (r:Int)] w (Ret (V0 (Xz 8 r:Int)) w):=by
 refine zin 18 Tryz.func282 ?_
 have hB:=Below.refl w.heap.size w
 refine zl 12 18 (fun zm a3 V=>∃ (j:Nat),a3=[(0,V0 (↑(Xz j r):Int)),(2,V0 0),(3,V0 (j:Int))]∧zm=8-((j:Int)).toNat∧B3 w V∧j≤8) ⟨0,rfl,rfl,hB,by decide⟩ ?_
 rintro _ _ W1 ⟨j,rfl,rfl,a0,hj⟩ J1 a1 r1
 refine xid 7 ((j:Int)<(8:Int)) (fun a4=>?_) (fun a4=>?_)
 ·refine xq 7 (congrArg V0 (show(Int.tmod (↑(Xz j r):Int) 2:Int)=(↑((Xz j r)%2):Int) from Nv (Xz j r) 2)) ?_
  refine xq 7 (congrArg V0 (show(IntKind.i64.wrap (Int.tdiv (↑(Xz j r):Int) 2):Int)=(↑((Xz j r)/2):Int) from Va (Xz j r) 2 (by have:=Cl (j:=j) hr;omega) Do)) ?_
  refine xie 8 (↑((Xz j r)%2):Int) (1:Int) (fun a2=>?_) (fun a2=>?_)
  ·refine xq 2 (congrArg V0 (show(IntKind.i64.wrap (↑(BitVec.ofInt 64 (↑((Xz j r)/2):Int) ^^^ BitVec.ofInt 64 (2197175160:Int)).toNat:Int):Int)=(↑(((Xz j r)/2) ^^^ 2197175160):Int) from Dd (a:=(Xz j r)/2) (b:=2197175160) (by have:=Cl (j:=j) hr;omega) Do)) ?_
   refine xwm 6 ((j:Int)+1) (↑(j+1):Int) ?_
   refine xv1 2 0 (show(V0 (↑(((Xz j r)/2) ^^^ 2197175160):Int):Value)=V0 (↑(Xz (j+1) r):Int) from by rw[show Xz (j+1) r=Hv (Xz j r) from rfl,Zhi M0]) ?_
   exact ze 0 (a1 _ _ _ ⟨j+1,rfl,rfl,a0,by omega⟩ M0)
  refine xwm 5 ((j:Int)+1) (↑(j+1):Int) ?_
  refine xv1 2 0 (show(V0 (↑((Xz j r)/2):Int):Value)=V0 (↑(Xz (j+1) r):Int) from by rw[show Xz (j+1) r=Hv (Xz j r) from rfl,step1_ev M0]) ?_
  exact ze 0 (a1 _ _ _ ⟨j+1,rfl,rfl,a0,by omega⟩ M0)
 refine xe 12 (V0 (↑(Xz j r):Int)) ?_
 obtain rfl:j=8:=by omega
 exact⟨rfl,a0⟩
theorem ref_More(a:O0)(c:Nat)(l:Bl)(w:World)(hl:l.length≤100000000)(h:Bys w (.slice a l.length c) l) :
 C0 265 #[V0 0,.slice a l.length c] w (Ret (V0 (Kl l:Int)) w):=by
 refine zin 31 Tryz.func265 ?_
 have hB:=Below.refl w.heap.size w
 refine zl 33 31 (fun zm a2 V=>∃ (i:Nat),a2=[(1,.slice a l.length c),(4,V0 0),(5,V0 (↑(Xc 4294967295 (l.take i)):Int)),(6,V0 (i:Int))]∧zm=l.length-((i:Int)).toNat∧B3 w V∧i≤l.length) ⟨0,rfl,rfl,hB,A3 _⟩ ?_
 rintro _ _ W1 ⟨i,rfl,rfl,a0,hi⟩ J1 a5 r1
 refine xid 9 ((i:Int)<(l.length:Int)) (fun a3=>?_) (fun a3=>?_)
 ·refine xx 8 _ l.length i 1 (Bys.elem h (k:=i) M0).1 ?_
  refine xl 0 ((Bys.elem (h.below a0) (k:=i) M0).2) ?_
  refine xq 0 (congrArg V0 (show(IntKind.i64.wrap (↑(l.getD i 0).toNat:Int):Int)=(↑(l.getD i 0).toNat:Int) from Cv (by have:=(l.getD i 0).toNat_lt;omega))) ?_
  refine xq 0 (congrArg V0 (show(IntKind.i64.wrap (↑(BitVec.ofInt 64 (↑(Xc 4294967295 (l.take i)):Int) ^^^ BitVec.ofInt 64 (↑(l.getD i 0).toNat:Int)).toNat:Int):Int)=(↑((Xc 4294967295 (l.take i)) ^^^ (l.getD i 0).toNat):Int) from Dd (Hx Do _) (Zex _))) ?_
  refine xr 0 (args:=#[V0 (↑((Xc 4294967295 (l.take i)) ^^^ (l.getD i 0).toNat):Int)]) (ref_Step ((Xc 4294967295 (l.take i)) ^^^ (l.getD i 0).toNat) _ (E3 (n:=32) (Hx Do _) (Zex _))) fun W3 a4=>?_
  refine xwm 6 ((i:Int)+1) (↑(i+1):Int) ?_
  refine xv1 2 5 (show(V0 (↑(Xz 8 ((Xc 4294967295 (l.take i)) ^^^ (l.getD i 0).toNat)):Int):Value)=V0 (↑(Xc 4294967295 (l.take (i+1))):Int) from by rw[Ed M0,Zh2]) ?_
  have a1:=bln a0 a4
  exact ze 0 (a5 _ _ _ ⟨i+1,rfl,rfl,a1,by omega⟩ M0)
 refine xq 8 (congrArg V0 (show(IntKind.i64.wrap (↑(BitVec.ofInt 64 (↑(Xc 4294967295 (l.take i)):Int) ^^^ BitVec.ofInt 64 (4294967295:Int)).toNat:Int):Int)=(↑((Xc 4294967295 (l.take i)) ^^^ 4294967295):Int) from Dd (b:=4294967295) (Hx Do _) Do)) ?_
 refine xe 4 (V0 (↑((Xc 4294967295 (l.take i)) ^^^ 4294967295):Int)) ?_
 obtain rfl:i=l.length:=by omega
 rw[K1]
 exact⟨rfl,a0⟩
theorem ref_Sum(a:O0)(c:Nat)(l:Bl)(w:World)(hl:l.length≤100000000)(h:Bys w (.slice a l.length c) l) :
 C0 231 #[.slice a l.length c] w (Ret (V0 (Kl l:Int)) w):=by
 refine zin 5 Tryz.func231 ?_
 refine xr 8 (args:=#[V0 0,.slice a l.length c]) (ref_More a c l _ hl (h.below (B4 w))) fun W1 a0=>?_
 exact xe 4 (V0 (↑(Kl l):Int)) ⟨rfl,a0⟩
theorem ref_SumN(a:O0)(n c:Nat)(l:Bl)(w:World)(hn:l.length=n)(hl:n≤100000000)(h:Bys w (.slice a n c) l):C0 231 #[.slice a n c] w (Ret (V0 (Kl l:Int)) w):=by
 subst hn;exact ref_Sum a c l w hl h
theorem leB_snoc(n:Int)(w:Nat):leB n (w+1)=leB n w++[Zu n w]:=by simp[leB,C1]
theorem Zii(m i:Nat):IntKind.u8.wrap (((m/256 ^ i)%256:Nat):Int)=((Zu (m:Int) i).toNat:Int):=by
 rw[Mg (F2 _)]
 unfold Zu
 simp only[C4,Nat.pow_zero,Nat.div_one]
 congr 2
 apply UInt8.toNat_inj.1
 simp[UInt8.toNat_ofNat']
theorem Zju(m w:Nat)(W:World)(hm:m<9223372036854775808)(hw:w≤8) :
 C0 108 #[V0 (m:Int),V0 (w:Int)] W (Qo (fun W' r=>∃ p c,r=.slice p w c∧W'.ownsRow W.heap.size 5 1 (.slice p w c) w ((leB (m:Int) w).map bv)) W):=by
 refine zin 21 Tryz.func108 ?_
 refine xv1 17 0 (show(V0 (m:Int):Value)=V0 ((m/256 ^ 0:Nat):Int) from by rw[Nat.pow_zero,Nat.div_one]) ?_
 have hB:=Below.refl W.heap.size W
 refine zl 0 21 (fun zm a5 V=>∃ (i:Nat) (p:O0) (c:Nat),a5=[(0,V0 (↑(m/256 ^ i):Int)),(1,V0 (w:Int)),(4,S0),(5,.slice p i c),(6,V0 (i:Int))]∧zm=w-((i:Int)).toNat∧B3 W V∧V.ownsRow W.heap.size 5 1 (.slice p i c) i ((leB (m:Int) i).map bv)∧i≤w) ⟨0,_,_,rfl,rfl,hB,A4 _ _ _ _,A3 _⟩ ?_
 rintro _ _ W1 ⟨i,p,c,rfl,rfl,a0,ho,hi⟩ J1 a8 r1
 refine xid 8 ((i:Int)<(w:Int)) (fun a7=>?_) (fun a7=>?_)
 ·refine xq 8 (congrArg V0 (show(Int.tmod (↑(m/256 ^ i):Int) 256:Int)=(↑((m/256 ^ i)%256):Int) from Nv (m/256 ^ i) 256)) ?_
  refine xq 0 (congrArg (Value.int .u8) (show(IntKind.u8.wrap (↑((m/256 ^ i)%256):Int):Int)=(↑(Zu (m:Int) i).toNat:Int) from Zii m i)) ?_
  refine xbs 0 1 [.int .u8 (↑(Zu (m:Int) i).toNat:Int)] 5 fun b3 W3 n3=>?_
  have g3:=n3.ge a0
  have a4:=Zg ho n3
  have a2:=Za ho n3.below
  have a1:=bln a0 n3.below
  refine xbi 0 fun _ _ _ _ zJ zQ zo zx zy zK=>Zr (m:=1) (news:=[.int .u8 (↑(Zu (m:Int) i).toNat:Int)]) (.int .u8 0) 1 1 (i+1) ((leB (m:Int) (i+1)).map bv) zo Tryz.underlying50 K0 rfl Do zx a2 zy (n3.blk.sl 1 1 Do Do) rfl (by simp[Value.oneCell']) (by unfold maxLen;omega) M0 a1.size (by rfl) (by rw[leB_snoc,A9];rfl) fun a9 b1 W4 o4 b0 a6=>?_
  refine zK _ _ ?_
  refine xq 5 (congrArg V0 (show(IntKind.i64.wrap (Int.tdiv (↑(m/256 ^ i):Int) 256):Int)=(↑((m/256 ^ i)/256):Int) from Va (m/256 ^ i) 256 (Is (K3 _ _) hm) Do)) ?_
  refine xwm 6 ((i:Int)+1) (↑(i+1):Int) ?_
  refine xv1 2 0 (show(V0 (↑((m/256 ^ i)/256):Int):Value)=V0 (↑(m/256 ^ (i+1)):Int) from by rw[Nat.pow_succ,←Nat.div_div_eq_div_mul]) ?_
  have a3:=a1.trans a6
  exact ze 0 (a8 _ _ _ ⟨i+1,_,_,rfl,rfl,a3,o4,by omega⟩ M0)
 refine xe 12 (.slice p i c) ?_
 obtain rfl:i=w:=by omega
 exact⟨_,rfl,a0,_,_,rfl,ho⟩
theorem Xf(n:Int)(w:Nat)(wi:Int)(W:World)(h0:0≤n)(hn:n<9223372036854775808)(hwi:wi=(w:Int))(hw:w≤8):C0 108 #[V0 n,V0 wi] W (Qo (fun W' r=>∃ p c,r=.slice p w c∧W'.ownsRow W.heap.size 5 1 (.slice p w c) w ((leB n w).map bv)) W):=by
 subst hwi
 obtain⟨m,rfl⟩:∃ m:Nat,n=m:=⟨n.toNat,by omega⟩
 exact Zju m w W M0 hw
theorem Zi3(w:World) :
 C0 232 #[V0 1] w (Ret (V0 (Hm 1:Int)) w):=by
 refine zin 15 Tryz.func232 ?_
 refine xbs 7 5 [V0 0,V0 160774,V0 121107,V0 240779,V0 160478] 3 fun b1 W1 n1=>?_
 refine xb 22 1 n1.blk ?_
 exact xe 4 (V0 160774) ⟨rfl,n1.below⟩
theorem Zk6(w:World) :
 C0 232 #[V0 2] w (Ret (V0 (Hm 2:Int)) w):=by
 refine zin 15 Tryz.func232 ?_
 refine xbs 7 5 [V0 0,V0 160774,V0 121107,V0 240779,V0 160478] 3 fun b1 W1 n1=>?_
 refine xb 22 2 n1.blk ?_
 exact xe 4 (V0 121107) ⟨rfl,n1.below⟩
theorem Zi7(w:World) :
 C0 232 #[V0 3] w (Ret (V0 (Hm 3:Int)) w):=by
 refine zin 15 Tryz.func232 ?_
 refine xbs 7 5 [V0 0,V0 160774,V0 121107,V0 240779,V0 160478] 3 fun b1 W1 n1=>?_
 refine xb 22 3 n1.blk ?_
 exact xe 4 (V0 240779) ⟨rfl,n1.below⟩
theorem Zj9(w:World) :
 C0 232 #[V0 4] w (Ret (V0 (Hm 4:Int)) w):=by
 refine zin 15 Tryz.func232 ?_
 refine xbs 7 5 [V0 0,V0 160774,V0 121107,V0 240779,V0 160478] 3 fun b1 W1 n1=>?_
 refine xb 22 4 n1.blk ?_
 exact xe 4 (V0 160478) ⟨rfl,n1.below⟩
theorem ref_Salt(kind:Int)(h1:1≤kind)(h2:kind≤4)(w:World):C0 232 #[V0 kind] w (Ret (V0 (Hm kind:Int)) w):=by
 obtain rfl|rfl|rfl|rfl:kind=1∨kind=2∨kind=3∨kind=4:=by omega
 ·exact Zi3 w
 ·exact Zk6 w
 ·exact Zi7 w
 ·exact Zj9 w
theorem Dr(kind no:Int)(w:World) :
 C0 230 #[V0 kind,V0 no] w (Ret (.bool (Ku kind no)) w):=by
 refine zin 19 Tryz.func230 ?_
 refine xg 10 [6,7] (decide (kind≥(1:Int))) (fun a1=>?_) (fun a1=>?_)
 ·have a1:=of_decide_eq_true a1
  refine xg 4 [9,10,11] (decide (kind≤(4:Int))) (fun a0=>?_) (fun a0=>?_)
  ·have a0:=of_decide_eq_true a0
   refine xg 4 [13,14,15] (decide (no≥(0:Int))) (fun a2=>?_) (fun a2=>?_)
   ·have a2:=of_decide_eq_true a2
    exact xe 7 (.bool (decide (no<(14400:Int)))) ⟨by rw[show Ku kind no=decide (no<14400) from decide_eq_decide.2 ⟨fun h=>h.2.2.2,fun h=>⟨by omega,by omega,by omega,h⟩⟩],(B4 w)⟩
   have a2:=of_decide_eq_false a2
   exact xe 7 (.bool false) ⟨by rw[show Ku kind no=false from decide_eq_false M0],(B4 w)⟩
  have a0:=of_decide_eq_false a0
  exact xe 11 (.bool false) ⟨by rw[show Ku kind no=false from decide_eq_false M0],(B4 w)⟩
 have a1:=of_decide_eq_false a1
 exact xe 15 (.bool false) ⟨by rw[show Ku kind no=false from decide_eq_false M0],(B4 w)⟩
theorem Zai(kind no:Int)(a:O0)(c:Nat)(li:Bl)(w:World)(hk:Ku kind no=false) :
 C0 183 #[V0 kind,V0 no,.slice a li.length c] w (Ret (.tuple #[S0,V0 1]) w):=by
 refine zin 42 Tryz.func183 ?_
 refine xr 11 (args:=#[V0 kind,V0 no]) (Dr kind no _) fun W1 a0=>?_
 refine xk 3 (show(!(Ku kind no):Bool)=true from by rw[hk];rfl) ?_
 exact xe 8 (.tuple #[S0,V0 1]) ⟨rfl,a0⟩
theorem Ag(kind no:Int)(a:O0)(c:Nat)(li:Bl)(w:World)(hk:Ku kind no=true)(hl:244<li.length) :
 C0 183 #[V0 kind,V0 no,.slice a li.length c] w (Ret (.tuple #[S0,V0 2]) w):=by
 refine zin 42 Tryz.func183 ?_
 refine xr 11 (args:=#[V0 kind,V0 no]) (Dr kind no _) fun W1 a0=>?_
 refine xk 3 (show(!(Ku kind no):Bool)=false from by rw[hk];rfl) ?_
 refine xk 10 (show(decide ((li.length:Int)>(244:Int)):Bool)=true from decide_eq_true M0) ?_
 exact xe 8 (.tuple #[S0,V0 2]) ⟨rfl,a0⟩
def Mv(kind no:Int)(li:Bl):Bl:=leB no 4++leB kind 2++[0,0]++li
theorem Zcd(kind no:Int)(li:Bl):(Mv kind no li).length=8+li.length:=by simp[Mv,Zj];omega
def Vh(kind no:Int)(li:Bl)(m:Nat):Bl:=Mv kind no li++List.replicate (m-(8+li.length)) 0
theorem Wn{kind no:Int}{li:Bl}{m:Nat}(h:8+li.length≤m):(Vh kind no li m).length=m:=by simp[Vh,Zcd];omega
theorem Zbn(kind no:Int)(li:Bl):Vh kind no li (8+li.length)=Mv kind no li:=by simp[Vh]
theorem Zbt{kind no:Int}{li:Bl}{m:Nat}(h:8+li.length≤m):Vh kind no li (m+1)=Vh kind no li m++[0]:=by
 unfold Vh
 rw[show m+1-(8+li.length)=(m-(8+li.length))+1 by omega,List.replicate_succ',←C6]
theorem Ot{kind no:Int}{li:Bl}(hl:li.length≤244):Vh kind no li 252=(Lj kind no li).take 252:=by
 have l1:=Uz hl
 have l2:=Ui (no:=no) hl
 have l3:=Ky (kind:=kind) (no:=no) hl
 apply Tc
 ·rw[Wn M0];simp[l3]
 ·intro j hj
  rw[Wn M0] at hj
  have e:((Lj kind no li).take 252).getD j 0=(Lj kind no li).getD j 0:=by simp only[List.getD];rw[E8,if_pos hj]
  rw[e]
  unfold Lj
  rw[Wv (by rw[Zj];omega),Zj]
  unfold Vh Mv
  simp only[List.getD,C6]
  rw[G6,Zj]
  by_cases h1:j<4
  ·rw[if_pos h1,if_neg M0]
   have:=Wv (l:=Sr li) (k:=0) (x:=leB no 4) (by rw[Zj];omega) j
   rw[if_pos (by rw[Zj];omega)] at this
   unfold Zfg
   simp only[List.getD] at this
   rw[this,Nat.sub_zero]
  ·rw[if_neg h1,G6,Zj]
   by_cases h2:j<6
   ·rw[if_pos M0,if_pos M0]
   ·rw[if_neg M0,if_neg M0]
    have:=Wv (l:=Sr li) (k:=0) (x:=leB no 4) (by rw[Zj];omega) j
    rw[if_neg (by rw[Zj];omega)] at this
    have h3:=Wv (l:=List.replicate 256 (0:UInt8)) (k:=8) (x:=li) (by rw[A7];omega) j
    unfold Zfg
    simp only[List.getD] at this h3
    rw[this]
    unfold Sr
    rw[h3,G6]
    have hz:=Io 256 j
    simp only[List.getD] at hz
    by_cases h4:j<8
    ·rw[if_pos (by simp;omega),if_neg M0,hz]
     obtain rfl|rfl:j=6∨j=7:=by omega
     ·rfl
     ·rfl
    ·rw[if_neg (by simp;omega),G6]
     simp only[E4,K4]
     by_cases h5:j<8+li.length
     ·rw[if_pos M0,if_pos M0,show j-4-2-(0+1+1)=j-8 by omega]
     ·rw[if_neg M0,if_neg M0,hz]
      have:=Io (252-(8+li.length)) (j-4-2-(0+1+1)-li.length)
      simpa only[List.getD] using this
theorem Zd9{kind no:Int}{li:Bl}(hl:li.length≤244):Vh kind no li 252++leB ((Kl (Vh kind no li 252) ^^^ Hm kind:Nat):Int) 4=Ja kind no li:=by
 have l3:=Ky (kind:=kind) (no:=no) hl
 rw[Ot hl]
 unfold Ja Km sumB
 rw[Zj,D7 M0,F6]
theorem Zcc(kind no:Int)(a:O0)(c:Nat)(li:Bl)(w:World)(h1:1≤kind)(h2:kind≤4)(h0:0≤no)(hno:no<14400)(hk:Ku kind no=true)(hl:li.length≤244)(h:Bys w (.slice a li.length c) li) :
 C0 183 #[V0 kind,V0 no,.slice a li.length c] w (Qo (fun w' r=>∃ p c,r=.tuple #[.slice p 256 c,V0 0]∧w'.ownsRow w.heap.size 5 1 (.slice p 256 c) 256 ((Ja kind no li).map bv)) w):=by
 refine zin 42 Tryz.func183 ?_
 refine xr 11 (args:=#[V0 kind,V0 no]) (Dr kind no _) fun W1 b6=>?_
 refine xk 3 (show(!(Ku kind no):Bool)=false from by rw[hk];rfl) ?_
 refine xk 10 (show(decide ((li.length:Int)>(244:Int)):Bool)=false from decide_eq_false M0) ?_
 refine xc 5 (args:=#[V0 no,V0 4]) (Xf no 4 4 _ (h0) M0 rfl Do) ?_
 rintro _ W2 ⟨_,rfl,d1,f7,f9,rfl,e4⟩
 refine xc 7 (args:=#[V0 kind,V0 2]) (Xf kind 2 2 _ M0 M0 rfl Do) ?_
 rintro _ W3 ⟨_,rfl,d0,f2,g6,rfl,d9⟩
 have d8:=(bln b6 d1).size
 have b0:=Za (Zf e4 b6.size) d0
 have a6:=Zf d9 d8
 have hB:=bln (bln b6 d1) d0
 refine xbi 0 fun _ _ _ _ zJ zQ zo zx zy zK=>Zr (m:=2) (news:=(leB kind 2).map bv) (.int .u8 0) 1 1 (6) ((leB no 4++leB kind 2).map bv) zo Tryz.underlying50 K0 rfl Do zx b0 zy (Ze a6) (by rw[At,Zj]) (Xw _) (by unfold maxLen;omega) M0 hB.size (by rfl) (by rw[A9]) fun p4 c4 W4 o4 f0 e8=>?_
 refine zK _ _ ?_
 refine xbs 6 2 [.int .u8 0,.int .u8 0] 5 fun b5 W5 n5=>?_
 have c9:=Zg o4 n5
 have b3:=Za o4 n5.below
 have a8:=bln (hB.trans e8) n5.below
 refine xbi 0 fun _ _ _ _ zJ zQ zo zx zy zK=>Zr (m:=2) (news:=[.int .u8 0,.int .u8 0]) (.int .u8 0) 1 1 (8) ((leB no 4++leB kind 2++[0,0]).map bv) zo Tryz.underlying50 K0 rfl Do zx b3 zy (n5.blk.sl 2 2 Do Do) rfl (by simp[Value.oneCell']) (by unfold maxLen;omega) M0 a8.size (by rfl) (by rw[A9 (l₂:=[0,0])];rfl) fun p6 c6 W6 o6 f3 e0=>?_
 refine zK _ _ ?_
 have a3:=a8.trans e0
 refine xbi 7 fun _ _ _ _ zJ zQ zo zx zy zK=>Zr (m:=li.length) (news:=li.map bv) (.int .u8 0) 1 1 (8+li.length) ((Vh kind no li (8+li.length)).map bv) zo Tryz.underlying50 K0 rfl Do zx o6 zy (h.below a3) (by simp) (Xw _) (by unfold maxLen;omega) M0 a3.size (by rfl) (by rw[Zbn,Mv,A9 (l₂:=li)]) fun p7 c7 W7 o7 g7 e6=>?_
 refine zK _ _ ?_
 have c1:=a3.trans e6
 refine zl 5 42 (fun zm d5 V=>∃ (m:Nat) (p:O0) (c5:Nat),d5=[(0,V0 kind),(6,S0),(7,V0 0),(8,.slice p m c5)]∧zm=252-m∧B3 w V∧V.ownsRow w.heap.size 5 1 (.slice p m c5) m ((Vh kind no li m).map bv)∧8+li.length≤m∧m≤252) ⟨_,_,_,rfl,rfl,c1,o7,A6 _,by omega⟩ ?_
 rintro _ _ W8 ⟨m,p,c5,rfl,rfl,a1,hm,c8,f4⟩ J8 e1 r8
 refine xid 8 ((m:Int)<(252:Int)) (fun d4=>?_) (fun d4=>?_)
 ·refine xbs 5 1 [.int .u8 0] 5 fun f6 f1 b1=>?_
  have c3:=Zg hm b1
  have b8:=Za hm b1.below
  have a5:=bln a1 b1.below
  refine xbi 0 fun _ _ _ _ zJ zQ zo zx zy zK=>Zr (m:=1) (news:=[.int .u8 0]) (.int .u8 0) 1 1 (m+1) ((Vh kind no li (m+1)).map bv) zo Tryz.underlying50 K0 rfl Do zx b8 zy (b1.blk.sl 1 1 Do Do) rfl (by simp[Value.oneCell']) (by unfold maxLen;omega) M0 a5.size (by rfl) (by rw[Zbt M0,A9];rfl) fun g0 f8 g2 d2 e5 b4=>?_
  refine zK _ _ ?_
  have b9:=a5.trans b4
  exact ze 3 (e1 _ _ _ ⟨m+1,_,_,rfl,rfl,b9,d2,by omega,by omega⟩ M0)
 have d3:m=252:=by omega
 refine xr 9 (args:=#[.slice p m c5]) (ref_SumN p m c5 (Vh kind no li m) _ (Wn c8) M0 (Ya (Ze hm) (Wn c8))) fun e9 a0=>?_
 refine xr 1 (args:=#[V0 kind]) (ref_Salt kind h1 h2 _) fun g8 a2=>?_
 refine xq 0 (congrArg V0 (show(IntKind.i64.wrap (↑(BitVec.ofInt 64 (↑(Kl (Vh kind no li m)):Int) ^^^ BitVec.ofInt 64 (↑(Hm kind):Int)).toNat:Int):Int)=(↑(Kl (Vh kind no li m) ^^^ Hm kind):Int) from Dd (Uj _) (Ca _))) ?_
 refine xc 0 (args:=#[V0 (↑(Kl (Vh kind no li m) ^^^ Hm kind):Int),V0 4]) (Xf ((Kl (Vh kind no li m) ^^^ Hm kind:Nat):Int) 4 4 _ (F2 _) (by have:=E3 (n:=32) (Uj (Vh kind no li m)) (Ca kind);omega) rfl Do) ?_
 rintro _ f5 ⟨_,rfl,a9,g5,g1,rfl,e7⟩
 have b7:=(bln (bln a1 a0) a2).size
 have b2:=Za (Za (Za hm a0) a2) a9
 have a7:=Zf e7 b7
 have a4:=bln (bln (bln a1 a0) a2) a9
 refine xbi 0 fun _ _ _ _ zJ zQ zo zx zy zK=>Zr (m:=4) (news:=(leB ((Kl (Vh kind no li m) ^^^ Hm kind:Nat):Int) 4).map bv) (.int .u8 0) 1 1 (256) ((Ja kind no li).map bv) zo Tryz.underlying50 K0 rfl Do zx b2 zy (Ze a7) (by rw[At,Zj]) (Xw _) (by unfold maxLen;omega) M0 a4.size M0 (by rw[d3,←Zd9 hl,A9]) fun d6 e2 g3 e3 d7 c2=>?_
 refine zK _ _ ?_
 have c0:=a4.trans c2
 exact xe 5 (.tuple #[.slice d6 256 e2,V0 0]) ⟨_,rfl,c0,_,_,rfl,e3⟩
theorem Zc9(kind no:Int)(a:O0)(c:Nat)(li:Bl)(w:World)(h:Bys w (.slice a li.length c) li) :
 C0 183 #[V0 kind,V0 no,.slice a li.length c] w (SealP kind no li w):=by
 cases hk:Ku kind no with
 | false =>
  refine(Zai kind no a c li w hk).mono ?_
  rintro e W ⟨rfl,hb⟩
  have he:Vy kind no li=1:=by simp[Vy,hk]
  exact .inl ⟨by rw[he];decide,by rw[he],hb⟩
 | true =>
  by_cases hl:li.length≤244
  ·obtain⟨h1,h2,h3,h4⟩:=Zfn hk
   refine(Zcc kind no a c li w h1 h2 h3 h4 hk hl h).mono ?_
   rintro e W ⟨_,rfl,hb,p,c2,rfl,ho⟩
   exact .inr ⟨by simp[Vy,hk,hl],hk,hl,p,c2,rfl,hb,ho⟩
  ·refine(Ag kind no a c li w hk M0).mono ?_
   rintro e W ⟨rfl,hb⟩
   have he:Vy kind no li=2:=by simp[Vy,hk,hl]
   exact .inl ⟨by rw[he];decide,by rw[he],hb⟩
end Go.Proofs.YtekomodnkfhihaaGreatDoor
namespace Go.Proofs.YtekomodnkfhihaaGreatDoor
set_option maxHeartbeats 8000000
set_option maxRecDepth 100000
open Go.RowKit Go.Extern.Stop Go.Stop Go.Extern
set_option linter.unusedVariables false
def FltV(w:World)(v:Value)(l:List Int)(c:Int):Prop:=∃ s,v=.agg #[s,V0 c]∧Ints w s l
theorem FltV.below{w w':World}{v:Value}{l:List Int}{c:Int}(h:FltV w v l c)(hb:B3 w w'):FltV w' v l c:=by
 obtain⟨s,rfl,hs⟩:=h
 exact⟨s,rfl,hs.below hb⟩
theorem Zdl{w:World}{B:Nat}{s:Value}{c:Int}{t:TypeId}(h:Blk w B [s,V0 c] t)(hs:∃ a n m,s=.slice a n m){tmps:Array Value}(e:tmps.getD 2 undef=P0 B) :
 (results Tryz.f17 tmps).run Tryz.prog w=.ok (.agg #[s,V0 c]) w:=by
 obtain⟨a,n,m,rfl⟩:=hs
 have c0:=h.cell (i:=0) rfl
 have c1:=h.cell (i:=1) rfl
 have e':tmps[2]?.getD undef=P0 B:=by simpa using e
 simp[results,Tryz.results17,go_sem,c0,c1,e']
theorem Zgq(t:Option Int)(l:List (Option Int))(v:Value)(w:World)(hlen:l.length≤1000000)(hg:Zhd w)(hv:Gl w l t v) :
 C0 17 #[v] w (Qo (fun w' r=>FltV w' r (Vq l) (Bb l t)) w):=by
 have hB:=blx w (.cells #[S0,V0 0] 44)
 have k0:=Blk.new w [S0,V0 0] 44
 rcases hv.nil_or with ⟨hz,rfl⟩|⟨hz,ty,x,rfl⟩
 ·obtain⟨rfl,rfl⟩:=Se hz
  go_enter Tryz.func17,Tryz.ntmps17
  go_wp2_with fail
  exact bodyPost_ret (Zdl k0 ⟨_,_,_,rfl⟩ rfl) rfl ⟨_,rfl,hB,_,rfl,.inl ⟨_,_,rfl,rfl,rfl⟩⟩
 ·go_enter Tryz.func17,Tryz.ntmps17
  have a4:=hv.below hB
  go_wp2_with fail
  refine(Oo t l _ _ hlen a4).mono ?_
  rintro e w1 ⟨r,rfl,a2,h1⟩
  have a0:=bln hB a2
  go_wp2_with fail
  refine(Zgo t l _ w1 (hg.below a0) (hv.below a0)).mono ?_
  rintro e w2 ⟨rfl,a1⟩
  have k2:=(k0.below a2).below a1
  obtain⟨a,m,rfl⟩:=(Ze h1).slice
  have d0:=k2.cell (i:=0) rfl
  have d1:=k2.cell (i:=1) rfl
  have f0:=k2.frozen 0
  have f1:=k2.frozen 1
  have a5:=bln a0 a1
  have a3:B3 w ((w2.setCell ⟨w.heap.size,0,none⟩ (.slice a (Vq l).length m)).setCell ⟨w.heap.size,1,none⟩ (V0 (Bb l t))):=(a5.setCell (A6 _) _).setCell (A6 _) _
  have h3:=ownsRow_setCell_below (ownsRow_setCell_below (Za h1 a1) (a:=⟨w.heap.size,0,none⟩) (by simp) (.slice a (Vq l).length m)) (a:=⟨w.heap.size,1,none⟩) (by simp) (V0 (Bb l t))
  go_wp2_with fail
  exact bodyPost_ret (Zdl ((k2.set 0 _).set 1 _) ⟨_,_,_,rfl⟩ rfl) rfl ⟨_,rfl,a3,_,rfl,Ze h3⟩
theorem Wi(l:List Int)(c:Int)(v1 v2:Value)(w:World)(h1:FltV w v1 l c)(h2:FltV w v2 l c) :
 C0 16 #[v1,v2] w (Ret (.bool true) w):=by
 obtain⟨s1,rfl,k1⟩:=h1
 obtain⟨s2,rfl,k2⟩:=h2
 obtain⟨a1,p1,rfl⟩:=k1.slice
 obtain⟨a2,p2,rfl⟩:=k2.slice
 have a5:=k1.len
 have hB:B3 w ((w.alloc (.cells #[.slice a1 l.length p1,V0 c] 44)).alloc (.cells #[.slice a2 l.length p2,V0 c] 44)):=bln (blx _ _) (blx _ _)
 have b1:Blk ((w.alloc (.cells #[.slice a1 l.length p1,V0 c] 44)).alloc (.cells #[.slice a2 l.length p2,V0 c] 44)) w.heap.size [.slice a1 l.length p1,V0 c] 44:=(Blk.new _ _ _).alloc _
 have b2:=Blk.new (w.alloc (.cells #[.slice a1 l.length p1,V0 c] 44)) [.slice a2 l.length p2,V0 c] 44
 simp only[World.size_alloc] at b2
 go_enter Tryz.func16,Tryz.ntmps16
 go_wp2_with fail
 obtain⟨W,hW⟩:∃ W,(w.alloc (.cells #[.slice a1 l.length p1,V0 c] 44)).alloc (.cells #[.slice a2 l.length p2,V0 c] 44)=W:=⟨_,rfl⟩
 change Blk ((w.alloc (.cells #[.slice a1 l.length p1,V0 c] 44)).alloc (.cells #[.slice a2 l.length p2,V0 c] 44)) _ _ _ at b2
 rw[hW] at hB b1 b2 ⊢
 have k1:=k1.below hB
 have k2:=k2.below hB
 clear hW
 go_loopw [5] (fun i wr=>∃ k:Nat,k≤l.length∧i=V0 k∧B3 W wr) (fun i _=>l.length-(intOf i).toNat)
 case atStart=>exact⟨0,by omega,rfl,Below.refl _ _⟩
 case round =>
  obtain⟨k,hk,rfl,a0⟩:=hrel
  have q1:=b1.below a0
  have q2:=b2.below a0
  have c1:=q1.cell (i:=0) rfl
  have c2:=q2.cell (i:=0) rfl
  by_cases hlt:k<l.length
  ·rcases Sl.at (k1.below a0) with h0|⟨g1,o1,rfl,a4⟩
   ·rw[List.map_eq_nil_iff] at h0;subst h0;exact absurd hlt (by simp)
   rcases Sl.at (k2.below a0) with h0|⟨g2,o2,rfl,a3⟩
   ·rw[List.map_eq_nil_iff] at h0;subst h0;exact absurd hlt (by simp)
   have e1:∀ z:Ext wr,z.val.cell? ⟨w.heap.size,0,none⟩=some (.slice (some ⟨g1,o1,none⟩) l.length p1):=fun z=>z.get c1
   have e2:∀ z:Ext wr,z.val.cell? ⟨w.heap.size+1,0,none⟩=some (.slice (some ⟨g2,o2,none⟩) l.length p2):=fun z=>z.get c2
   have e3:∀ z:Ext wr,z.val.cell? ⟨g1,o1+k,none⟩=some (V0 l[k]):=fun z=>z.get (a4 k _ (by simp[hlt]))
   have e4:∀ z:Ext wr,z.val.cell? ⟨g2,o2+k,none⟩=some (V0 l[k]):=fun z=>z.get (a3 k _ (by simp[hlt]))
   have i1:(0:Int)≤(k:Int):=by omega
   have i2:(k:Int)<(l.length:Int):=by omega
   clear a4 a3
   go_wp2_with fail
   refine Su K0 K0 ?_
   repeat (go_big_quiet_step (fail))
   refine wpQuiet_nil ?_
   intro wx
   go_wp2_with fail
   exact⟨⟨k+1,by omega,by go_num,bln a0 wx.below⟩,by simp[intOf];omega⟩
  ·go_wp2_with fail
   go_ret
   exact⟨rfl,bln hB a0⟩
end Go.Proofs.YtekomodnkfhihaaGreatDoor
namespace Go.Proofs.YtekomodnkfhihaaGreatDoor
set_option maxHeartbeats 8000000
set_option maxRecDepth 100000
open Go.RowKit Go.Extern.Stop Go.Stop Go.Extern
set_option linter.unusedVariables false
attribute [local irreducible] wpList wpAnyH Code.wp Oper.wp Go
def Ur(l:Bl)(k:Nat):List Bl:=(List.range k).map (Sv l)
theorem Gk(l:Bl)(k:Nat):(Ur l k).length=k:=by simp[Ur]
theorem Ze1(l:Bl)(k:Nat):Ur l (k+1)=Ur l k++[Sv l k]:=by simp[Ur,C1]
theorem Zir(l:Bl){k i:Nat}(h:i<k):(Ur l k).getD i []=Sv l i:=by simp[Ur,List.getD,B7 h]
theorem Zix{l x:Bl}{k j:Nat}(hx:x.length=256)(hl:k*256≤l.length)(hj:j<k):(Ur l k).set j x=Ur (Km l (j*256) x) k:=by
 apply G0
 intro i
 by_cases hi:i<k
 ·rw[List.getElem?_set]
  have e1:∀ l:Bl,(Ur l k)[i]? = some (Sv l i):=fun l=>by simp[Ur,B7 hi]
  rw[e1,e1]
  by_cases h:j=i
  ·subst h;rw[if_pos rfl,Gk,if_pos hi,blkB_put hx M0]
  ·rw[if_neg h,Ra hx M0 M0 M0]
 ·rw[C5 (by rw[List.length_set,Gk];omega),C5 (by rw[Gk];omega)]
theorem take_blk{l:Bl}{i:Nat}:l.take (i*256)++Sv l i=l.take ((i+1)*256):=by
 unfold Sv
 rw[D6,E0,List.take_add]
structure RefI(B bm:Nat)(p:Option Addr)(k c:Nat)(l:List UInt8)(w:World):Prop where
 blk:Blk w bm [.slice p k c] 111
 row:w.ownsRow B 9 1 (.slice p k c) k ((Ur l k).map sv)
 hk:k≤14400
 hl:l.length=k*256
theorem RefI.below{B bm:Nat}{p:O0}{k c:Nat}{l:Bl}{w W:World}(h:RefI B bm p k c l w)(hb:B3 w W):RefI B bm p k c l W:=⟨h.blk.below hb,Za h.row hb,h.hk,h.hl⟩
theorem RefI.only{B bm:Nat}{p:O0}{k c:Nat}{l:Bl}{w W:World}{T:List TypeId}(h:RefI B bm p k c l w)(hO:Zd T w W)(hT:T.contains 111=false∧T.contains 9=false):RefI B bm p k c l W:=⟨h.blk.only hO hT.1,Zi h.row hO hT.2,h.hk,h.hl⟩
theorem RefI.mono{B B' bm:Nat}{p:O0}{k c:Nat}{l:Bl}{w:World}(h:RefI B bm p k c l w)(hB:B'≤B):RefI B' bm p k c l w:=⟨h.blk,Zf h.row hB,h.hk,h.hl⟩
theorem RefI.base{B bm:Nat}{p:O0}{k c:Nat}{l:Bl}{w:World}(h:RefI B bm p k c l w)(hn:0<k):∃ g,p=some ⟨g,0,none⟩:=by
 rcases h.row.2 with ⟨_,h0⟩|⟨g,a0,a1,hv,_,_,hc,_⟩
 ·omega
 ·simp only[B6] at hv
  obtain⟨rfl,_,rfl⟩:=hv
  exact⟨g,rfl⟩
theorem Lx(B bm:Nat)(p:O0)(k c:Nat)(l:Bl)(w:World)(hI:RefI B bm p k c l w) :
 C0 22 #[P0 bm] w (Qo (fun w' r=>∃ p2 c2,r=.slice p2 (k*256) c2∧w'.ownsRow w.heap.size 5 1 (.slice p2 (k*256) c2) (k*256) (l.map bv)) w):=by
 have hk:=hI.blk
 have b2:=hI.hk
 have b3:=hI.hl
 have hr:=Ze hI.row
 refine zin 24 Tryz.func22 ?_
 refine xv1 17 3 (show(S0:Value)=.slice none (0*256) 0 from by rw[Nat.zero_mul]) ?_
 have hB:=Below.refl w.heap.size w
 refine zl 0 24 (fun zm a8 V=>∃ (i:Nat) (pb:O0) (cb:Nat),a8=[(0,P0 bm),(2,S0),(3,.slice pb (i*256) cb),(4,V0 (i:Int))]∧zm=k-((i:Int)).toNat∧B3 w V∧Blk V bm ([.slice p k c]) 111∧V.ownsRow w.heap.size 5 1 (.slice pb (i*256) cb) (i*256) ((l.take (i*256)).map bv)∧i≤k) ⟨0,_,_,rfl,rfl,hB,hk,by rw[Nat.zero_mul];exact A4 _ _ _ _,A3 _⟩ ?_
 rintro _ _ W1 ⟨i,pb,cb,rfl,rfl,a1,a0,a4,hi⟩ J1 b1 r1
 refine xb 7 0 a0 ?_
 refine xid 4 ((i:Int)<(k:Int)) (fun a9=>?_) (fun a9=>?_)
 ·refine xb 9 0 a0 ?_
  refine xx 1 _ k i 1 (Strs.elem hr (Gk l k) (k:=i) M0).1 ?_
  refine xl 0 ((Strs.elem (hr.below a1) (Gk l k) (k:=i) M0).2) ?_
  have a3:(Ur l k).getD i []=Sv l i:=Zir l M0
  have a6:((Ur l k).getD i []).length=256:=by rw[a3];exact Wm M0
  refine xbi 0 (t2:=9) fun _ _ _ _ zJ zQ zo zx zy zK=>Eo ((Ur l k).getD i []) ((i+1)*256) ((l.take ((i+1)*256)).map bv) zo Tryz.underlying50 Tryz.underlying9 K0 zx a4 zy M0 a1.size M0 (by rw[a3,←A9,take_blk]) ?_
  intro p3 c3 W3 o3 a7 b0
  refine zK _ _ ?_
  refine xwm 6 ((i:Int)+1) (↑(i+1):Int) ?_
  have a5:=a1.trans b0
  have a2:=a0.grown a7 a4 Do
  exact ze 2 (b1 _ _ _ ⟨i+1,_,_,rfl,rfl,a5,a2,o3,by omega⟩ M0)
 refine xe 12 (.slice pb (i*256) cb) ?_
 obtain rfl:i=k:=by omega
 rw[A1 M0] at a4
 exact⟨_,rfl,a1,_,_,rfl,a4⟩
theorem Bw(B bm:Nat)(p:O0)(k c:Nat)(l:Bl)(w:World)(hI:RefI B bm p k c l w)(no:Int)(x:Value)(ho:¬ (0≤no∧no<(k:Int))) :
 C0 185 #[P0 bm,V0 no,x] w (Ret (V0 3) w):=by
 have hk:=hI.blk
 have a1:=hI.hk
 have a2:=hI.hl
 refine zin 29 Tryz.func185 ?_
 refine xg 11 [8,9] (decide (no<(0:Int))) (fun a0=>?_) (fun a0=>?_)
 ·have a0:=of_decide_eq_true a0
  exact xe 18 (V0 3) ⟨rfl,(B4 w)⟩
 have a0:=of_decide_eq_false a0
 refine xb 4 0 hk ?_
 refine xk 5 (show(decide (no≥(k:Int)):Bool)=true from decide_eq_true M0) ?_
 exact xe 7 (V0 3) ⟨rfl,(B4 w)⟩
theorem Bs(B bm g Bx:Nat)(k c j:Nat)(cur:List Value)(a:O0)(cx:Nat)(lx:Bl)(w:World)(hk:Blk w bm [.slice (S1 g) k c] 111)(kg:Blk w g cur 9)(hne:bm≠g)(hcl:k≤cur.length)(hj:j<k)(hx:w.ownsRow Bx 5 1 (.slice a 256 cx) 256 (lx.map bv))(hlx:lx.length=256)(hBw:B≤w.heap.size)(hBg:B≤g) :
 C0 185 #[P0 bm,V0 (j:Int),.slice a 256 cx] w ((fun e w'=>e=.returned (V0 0)∧Below B w w'∧Zd [9] w w'∧Blk w' g (cur.set j (sv lx)) 9)):=by
 refine zin 29 Tryz.func185 ?_
 refine xgk 11 [8,9] (show(decide ((j:Int)<(0:Int)):Bool)=false from decide_eq_false M0) ?_
 refine xb 4 0 hk ?_
 refine xk 5 (show(decide ((j:Int)≥(k:Int)):Bool)=false from decide_eq_false M0) ?_
 refine xd 14 (.t B [9]) ?_
 have a2:=hk.below (Zb w)
 refine xbt (.e [0,1,2] 3) 0 B [9] a2 ?_
 have a1:=Za hx (Zb w)
 refine xcvt (.e [4,5] 6) (.t B [9]) (fun _ _ _ zo zx V hV=>Yt zo zx (Ya (Ze (Zi a1 hV.2 Do)) hlx) hlx Tryz.underlying50 Tryz.underlying5 Tryz.underlying9) ?_
 refine xxb (.e [] 7) g 0 k j 1 ?_
 have a0:=kg.below (Zb w)
 refine ysg (.o [] 8) a0 (0+j*1) (.string ⟨lx.toArray⟩) M0 (.t B [9]) fun W2 u2 k2=>⟨(Xb u2 a0 hBg Do),?_⟩
 replace k2:Blk W2 g (cur.set j (sv lx)) 9:=by rw[←(show cur.set (0+j*1) (.string ⟨lx.toArray⟩)=cur.set j (sv lx) from by rw[F1,D5];rfl)];exact k2
 have hB:=u2.below (blB (Below.refl B w) hBw (Zb w)) hBg
 have hO:=(show Zd [9] w _ from(Zd.of_below (Zb w))).trans (Zd.of_upd u2 a0 Do)
 exact xe 8 (V0 0) ⟨rfl,hB,hO,k2⟩
def WroteI(B bm:Nat)(p:O0)(k c:Nat)(l:Bl)(v:Value)(w:World)(e:Ending)(w':World):Prop :=
 e=.returned v∧Below B w w'∧Zd [9] w w'∧RefI B bm p k c l w'
theorem Ol(B bm Bx:Nat)(p:O0)(k c:Nat)(l:Bl)(j:Nat)(a:O0)(cx:Nat)(lx:Bl)(w:World)(hI:RefI B bm p k c l w)(hj:j<k)(hx:w.ownsRow Bx 5 1 (.slice a 256 cx) 256 (lx.map bv))(hlx:lx.length=256)(hBw:B≤w.heap.size) :
 C0 185 #[P0 bm,V0 (j:Int),.slice a 256 cx] w (WroteI B bm p k c (Km l (j*256) lx) (V0 0) w):=by
 obtain⟨g,rfl⟩:=hI.base M0
 have a0:=hI.row
 have a2:=Qa a0
 have a6:=Xd hI.blk a0 Do
 have a4:=hI.hk
 have a5:=hI.hl
 obtain⟨a9,h2⟩:=a0
 rcases h2 with ⟨h2,_⟩|⟨g',a8,a1,hv,hg,hh,hc,hm,a3,a7⟩
 ·cases h2
 ·simp only[B6,A0,Addr.mk.injEq] at hv
  obtain⟨⟨rfl,_⟩,_,rfl⟩:=hv
  have hb:Blk w g a1.toList 9:=by unfold Blk;simpa using hh
  refine(Bs B bm g Bx k c j a1.toList a cx lx w hI.blk hb a6 (by simp;omega) hj hx hlx hBw a2).mono ?_
  rintro e W ⟨rfl,hB,hO,k2⟩
  refine⟨rfl,hB,hO,hI.blk.only hO Do,⟨by rw[At,Gk,D5],.inr ⟨g,c,(a1.toList.set j (sv lx)).toArray,rfl,hg,k2,hc,hm,by simpa using a3,?_⟩⟩,a4,by rw[Kk M0,a5]⟩
  rw[←Zix hlx M0 hj,List.map_set,←a7]
  simp[List.take_set]
def Lo(no er:Int):List Int:=if er=0 then [] else [no]
theorem fltL_nz{no er:Int}(h:er≠0):Lo no er=[no]:=if_neg h
theorem Ze6(no:Int)(w:World) :
 C0 233 #[V0 no,.agg #[S0,V0 0]] w (Ret (.agg #[S0,V0 0]) w):=by
 refine zin 17 Tryz.func233 ?_
 refine xa 2 [S0,V0 0] 44 fun b1 W1 n1=>?_
 refine xa 0 [S0,V0 0] 44 fun b2 W2 n2=>?_
 have a1:=n2.ne n1.blk
 have a0:=n1.blk.below n2.below
 refine xb 6 1 a0 ?_
 refine xsv 7 n2.blk [S0,V0 0] fun W3 u3 k3=>?_
 have g2:=n2.ge n1.below
 have hB:=u3.below (bln n1.below n2.below) g2
 exact xec 4 k3 (.agg #[S0,V0 0]) ⟨rfl,hB⟩
theorem Zgn(no er:Int)(w:World)(he:er≠0) :
 C0 233 #[V0 no,.agg #[S0,V0 er]] w (Qo (fun w' r=>∃ a c,r=.agg #[.slice a 1 c,V0 er]∧w'.ownsRow w.heap.size 3 1 (.slice a 1 c) 1 [V0 no]) w):=by
 refine zin 17 Tryz.func233 ?_
 refine xa 2 [S0,V0 er] 44 fun b1 W1 n1=>?_
 refine xa 0 [S0,V0 0] 44 fun b2 W2 n2=>?_
 have h9:=n2.ne n1.blk
 have a0:=n1.blk.below n2.below
 refine xb 6 1 a0 ?_
 refine xk 3 (show((er==(0:Int)):Bool)=false from beq_false_of_ne he) ?_
 refine xd 3 (.t w.heap.size [3,44]) ?_
 refine xm3 (.b [0,2,5]) 1 3 6 ?_ ?_ ?_
 ·refine xbs 0 1 [V0 no] 3 fun b3 W3 n3=>?_
  refine xm2 0 3 6 ?_ ?_
  ·have a5:=(a0.below (Zb W2)).below n3.below
   refine xb 0 0 a5 ?_
   refine xm2 0 4 6 ?_ ?_
   ·have g3:=n3.ge (bln (bln n1.below n2.below) (Zb W2))
    have o4:=Zz (size:=1) (n:=1) n3.blk g3 rfl Do
    have hB:=bln (bln (bln n1.below n2.below) (Zb W2)) n3.below
    refine ybi 0 (.t w.heap.size [3,44]) fun _ _ _ _ zJ zQ zo zx zy zK=>Zr (m:=0) (news:=[]) (V0 0) 1 8 (1) ([V0 no]) zo Tryz.underlying27 K0 rfl Do zx o4 zy (.inl ⟨none,0,rfl,rfl,rfl⟩) rfl (by simp) (by unfold maxLen;omega) M0 hB.size (by rfl) (by rfl) fun h5 h3 W5 o5 g7 i0=>?_
    refine zK _ _ (Zt i0 g7 o4 Do) ?_
    have e7:=a5.grown g7 o4 Do
    refine xb (.o [] 6) 1 e7 ?_
    have k2:=((n2.blk.below (Zb W2)).below n3.below).grown g7 o4 Do
    have g2:=n2.ge n1.below
    refine ysv (.o [7] 8) k2 [.slice h5 1 h3,V0 er] (.t w.heap.size [3,44]) fun W6 u6 k6=>⟨(Xb u6 k2 g2 Do),?_⟩
    have f7:=u6.below (hB.trans i0) g2
    have g1:=u6.own2 o5 k2 Do
    exact xec 3 k6 (.agg #[.slice h5 1 h3,V0 er]) ⟨_,rfl,f7,_,_,rfl,g1⟩
   refine xb 0 1 a5 ?_
   have g3:=n3.ge (bln (bln n1.below n2.below) (Zb W2))
   have o7:=Zz (size:=1) (n:=1) n3.blk g3 rfl Do
   have hB:=bln (bln (bln n1.below n2.below) (Zb W2)) n3.below
   refine ybi (.o [] 4) (.t w.heap.size [3,44]) fun _ _ _ _ zJ zQ zo zx zy zK=>Zr (m:=0) (news:=[]) (V0 0) 1 8 (1) ([V0 no]) zo Tryz.underlying27 K0 rfl Do zx o7 zy (.inl ⟨none,0,rfl,rfl,rfl⟩) rfl (by simp) (by unfold maxLen;omega) M0 hB.size (by rfl) (by rfl) fun h6 h4 W8 o8 h8 h7=>?_
   refine zK _ _ (Zt h7 h8 o7 Do) ?_
   have k2:=((n2.blk.below (Zb W2)).below n3.below).grown h8 o7 Do
   have g2:=n2.ge n1.below
   refine ysv (.o [7] 8) k2 [.slice h6 1 h4,V0 er] (.t w.heap.size [3,44]) fun W9 u9 k9=>⟨(Xb u9 k2 g2 Do),?_⟩
   have f5:=u9.below (hB.trans h7) g2
   have f9:=u9.own2 o8 k2 Do
   exact xec 3 k9 (.agg #[.slice h6 1 h4,V0 er]) ⟨_,rfl,f5,_,_,rfl,f9⟩
  have c0:=(a0.below (Zb W2)).below n3.below
  refine xb 0 1 c0 ?_
  refine xb (.o [] 3) 0 c0 ?_
  have g3:=n3.ge (bln (bln n1.below n2.below) (Zb W2))
  have e5:=Zz (size:=1) (n:=1) n3.blk g3 rfl Do
  have hB:=bln (bln (bln n1.below n2.below) (Zb W2)) n3.below
  refine ybi (.o [] 4) (.t w.heap.size [3,44]) fun _ _ _ _ zJ zQ zo zx zy zK=>Zr (m:=0) (news:=[]) (V0 0) 1 8 (1) ([V0 no]) zo Tryz.underlying27 K0 rfl Do zx e5 zy (.inl ⟨none,0,rfl,rfl,rfl⟩) rfl (by simp) (by unfold maxLen;omega) M0 hB.size (by rfl) (by rfl) fun d6 b4 l3 i9 b6 c8=>?_
  refine zK _ _ (Zt c8 b6 e5 Do) ?_
  have k2:=((n2.blk.below (Zb W2)).below n3.below).grown b6 e5 Do
  have g2:=n2.ge n1.below
  refine ysv (.o [7] 8) k2 [.slice d6 1 b4,V0 er] (.t w.heap.size [3,44]) fun l2 e9 j1=>⟨(Xb e9 k2 g2 Do),?_⟩
  have h1:=e9.below (hB.trans c8) g2
  have d5:=e9.own2 i9 k2 Do
  exact xec 3 j1 (.agg #[.slice d6 1 b4,V0 er]) ⟨_,rfl,h1,_,_,rfl,d5⟩
 ·have a2:=a0.below (Zb W2)
  refine xb 0 0 a2 ?_
  refine xm2 0 1 6 ?_ ?_
  ·refine xbs 0 1 [V0 no] 3 fun l1 k1 a1=>?_
   refine xm2 0 4 6 ?_ ?_
   ·have f4:=a1.ge (bln (bln n1.below n2.below) (Zb W2))
    have e1:=Zz (size:=1) (n:=1) a1.blk f4 rfl Do
    have hB:=bln (bln (bln n1.below n2.below) (Zb W2)) a1.below
    refine ybi 0 (.t w.heap.size [3,44]) fun _ _ _ _ zJ zQ zo zx zy zK=>Zr (m:=0) (news:=[]) (V0 0) 1 8 (1) ([V0 no]) zo Tryz.underlying27 K0 rfl Do zx e1 zy (.inl ⟨none,0,rfl,rfl,rfl⟩) rfl (by simp) (by unfold maxLen;omega) M0 hB.size (by rfl) (by rfl) fun c1 d3 j9 j2 a4 d9=>?_
    refine zK _ _ (Zt d9 a4 e1 Do) ?_
    have g5:=(a2.below a1.below).grown a4 e1 Do
    refine xb (.o [] 6) 1 g5 ?_
    have k2:=((n2.blk.below (Zb W2)).below a1.below).grown a4 e1 Do
    have g2:=n2.ge n1.below
    refine ysv (.o [7] 8) k2 [.slice c1 1 d3,V0 er] (.t w.heap.size [3,44]) fun k0 g9 j0=>⟨(Xb g9 k2 g2 Do),?_⟩
    have f0:=g9.below (hB.trans d9) g2
    have c9:=g9.own2 j2 k2 Do
    exact xec 3 j0 (.agg #[.slice c1 1 d3,V0 er]) ⟨_,rfl,f0,_,_,rfl,c9⟩
   have h2:=a2.below a1.below
   refine xb 0 1 h2 ?_
   have f4:=a1.ge (bln (bln n1.below n2.below) (Zb W2))
   have f2:=Zz (size:=1) (n:=1) a1.blk f4 rfl Do
   have hB:=bln (bln (bln n1.below n2.below) (Zb W2)) a1.below
   refine ybi (.o [] 4) (.t w.heap.size [3,44]) fun _ _ _ _ zJ zQ zo zx zy zK=>Zr (m:=0) (news:=[]) (V0 0) 1 8 (1) ([V0 no]) zo Tryz.underlying27 K0 rfl Do zx f2 zy (.inl ⟨none,0,rfl,rfl,rfl⟩) rfl (by simp) (by unfold maxLen;omega) M0 hB.size (by rfl) (by rfl) fun a6 d4 l7 i3 b5 c7=>?_
   refine zK _ _ (Zt c7 b5 f2 Do) ?_
   have k2:=((n2.blk.below (Zb W2)).below a1.below).grown b5 f2 Do
   have g2:=n2.ge n1.below
   refine ysv (.o [7] 8) k2 [.slice a6 1 d4,V0 er] (.t w.heap.size [3,44]) fun l4 e3 j3=>⟨(Xb e3 k2 g2 Do),?_⟩
   have g8:=e3.below (hB.trans c7) g2
   have b7:=e3.own2 i3 k2 Do
   exact xec 3 j3 (.agg #[.slice a6 1 d4,V0 er]) ⟨_,rfl,g8,_,_,rfl,b7⟩
  refine xb 0 1 a2 ?_
  refine xbs (.o [] 1) 1 [V0 no] 3 fun j6 l5 e0=>?_
  have j4:=e0.ge (bln (bln n1.below n2.below) (Zb W2))
  have g0:=Zz (size:=1) (n:=1) e0.blk j4 rfl Do
  have hB:=bln (bln (bln n1.below n2.below) (Zb W2)) e0.below
  refine ybi (.o [] 4) (.t w.heap.size [3,44]) fun _ _ _ _ zJ zQ zo zx zy zK=>Zr (m:=0) (news:=[]) (V0 0) 1 8 (1) ([V0 no]) zo Tryz.underlying27 K0 rfl Do zx g0 zy (.inl ⟨none,0,rfl,rfl,rfl⟩) rfl (by simp) (by unfold maxLen;omega) M0 hB.size (by rfl) (by rfl) fun c5 d2 k7 j5 b9 a8=>?_
  refine zK _ _ (Zt a8 b9 g0 Do) ?_
  have k2:=((n2.blk.below (Zb W2)).below e0.below).grown b9 g0 Do
  have g2:=n2.ge n1.below
  refine ysv (.o [7] 8) k2 [.slice c5 1 d2,V0 er] (.t w.heap.size [3,44]) fun j8 g6 i7=>⟨(Xb g6 k2 g2 Do),?_⟩
  have e8:=g6.below (hB.trans a8) g2
  have d1:=g6.own2 j5 k2 Do
  exact xec 3 i7 (.agg #[.slice c5 1 d2,V0 er]) ⟨_,rfl,e8,_,_,rfl,d1⟩
 have a3:=a0.below (Zb W2)
 refine xb 0 1 a3 ?_
 refine xm2 0 1 3 ?_ ?_
 ·refine xbs 0 1 [V0 no] 3 fun k4 k5 c4=>?_
  have e4:=a3.below c4.below
  refine xb (.o [] 3) 0 e4 ?_
  have i6:=c4.ge (bln (bln n1.below n2.below) (Zb W2))
  have h0:=Zz (size:=1) (n:=1) c4.blk i6 rfl Do
  have hB:=bln (bln (bln n1.below n2.below) (Zb W2)) c4.below
  refine ybi (.o [] 4) (.t w.heap.size [3,44]) fun _ _ _ _ zJ zQ zo zx zy zK=>Zr (m:=0) (news:=[]) (V0 0) 1 8 (1) ([V0 no]) zo Tryz.underlying27 K0 rfl Do zx h0 zy (.inl ⟨none,0,rfl,rfl,rfl⟩) rfl (by simp) (by unfold maxLen;omega) M0 hB.size (by rfl) (by rfl) fun b0 b8 l0 i2 c2 d7=>?_
  refine zK _ _ (Zt d7 c2 h0 Do) ?_
  have k2:=((n2.blk.below (Zb W2)).below c4.below).grown c2 h0 Do
  have g2:=n2.ge n1.below
  refine ysv (.o [7] 8) k2 [.slice b0 1 b8,V0 er] (.t w.heap.size [3,44]) fun j7 f8 i4=>⟨(Xb f8 k2 g2 Do),?_⟩
  have f3:=f8.below (hB.trans d7) g2
  have c6:=f8.own2 i2 k2 Do
  exact xec 3 i4 (.agg #[.slice b0 1 b8,V0 er]) ⟨_,rfl,f3,_,_,rfl,c6⟩
 refine xb 0 0 a3 ?_
 refine xbs (.o [] 1) 1 [V0 no] 3 fun l6 k3 e2=>?_
 have i5:=e2.ge (bln (bln n1.below n2.below) (Zb W2))
 have f1:=Zz (size:=1) (n:=1) e2.blk i5 rfl Do
 have hB:=bln (bln (bln n1.below n2.below) (Zb W2)) e2.below
 refine ybi (.o [] 4) (.t w.heap.size [3,44]) fun _ _ _ _ zJ zQ zo zx zy zK=>Zr (m:=0) (news:=[]) (V0 0) 1 8 (1) ([V0 no]) zo Tryz.underlying27 K0 rfl Do zx f1 zy (.inl ⟨none,0,rfl,rfl,rfl⟩) rfl (by simp) (by unfold maxLen;omega) M0 hB.size (by rfl) (by rfl) fun d0 a9 k8 i8 c3 a7=>?_
 refine zK _ _ (Zt a7 c3 f1 Do) ?_
 have k2:=((n2.blk.below (Zb W2)).below e2.below).grown c3 f1 Do
 have g2:=n2.ge n1.below
 refine ysv (.o [7] 8) k2 [.slice d0 1 a9,V0 er] (.t w.heap.size [3,44]) fun l8 f6 i1=>⟨(Xb f6 k2 g2 Do),?_⟩
 have e6:=f6.below (hB.trans a7) g2
 have d8:=f6.own2 i8 k2 Do
 exact xec 3 i1 (.agg #[.slice d0 1 a9,V0 er]) ⟨_,rfl,e6,_,_,rfl,d8⟩
def FltO(no er:Int)(w:World)(e:Ending)(w':World):Prop:=∃ a c,e=.returned (.agg #[.slice a (Lo no er).length c,V0 er])∧B3 w w'∧w'.ownsRow w.heap.size 3 1 (.slice a (Lo no er).length c) (Lo no er).length ((Lo no er).map V0)
theorem Zlg(no er:Int)(w:World):C0 233 #[V0 no,.agg #[S0,V0 er]] w (FltO no er w):=by
 by_cases he:er=0
 ·subst he
  refine(Ze6 no w).mono ?_
  rintro e W ⟨rfl,hb⟩
  exact⟨none,0,rfl,hb,A4 _ _ _ _⟩
 ·refine(Zgn no er w he).mono ?_
  rintro e W ⟨_,rfl,hb,a,c,rfl,ho⟩
  rw[FltO,fltL_nz he]
  exact⟨a,c,rfl,hb,ho⟩
theorem St(no er:Int)(w:World) :
 C0 184 #[V0 no,V0 er] w (FltO no er w):=by
 refine zin 9 Tryz.func184 ?_
 refine xa 2 [S0,V0 0] 44 fun b1 W1 n1=>?_
 refine xc 7 (args:=#[V0 no,.agg #[S0,V0 er]]) (Zlg no er _) ?_
 rintro _ W2 ⟨a5,c5,rfl,a1,a2⟩
 have k1:=n1.blk.below a1
 refine xsv 0 k1 [.slice a5 ((Lo no er).length) c5,V0 er] fun W3 u3 k3=>?_
 have g1:=n1.ge (B4 w)
 have hB:=u3.below (bln n1.below a1) g1
 have a0:=u3.own2 (Zf a2 n1.below.size) k1 Do
 exact xec 3 k3 (.agg #[.slice a5 ((Lo no er).length) c5,V0 er]) ⟨_,_,rfl,hB,a0⟩
def wrE (kind no:Int)(k:Nat)(li:Bl):Int:=if Vy kind no li=0 then(if 0≤no∧no<(k:Int) then 0 else 3) else Vy kind no li
def wrL (kind no:Int)(k:Nat)(li l:Bl):Bl:=if wrE kind no k li=0 then Km l (no.toNat*256) (Ja kind no li) else l
def RefWr(B bm:Nat)(p:O0)(k c:Nat)(l:Bl)(no er:Int)(w:World)(e:Ending)(w':World):Prop :=
 ∃ a c2,e=.returned (.agg #[.slice a (Lo no er).length c2,V0 er])∧Below B w w'∧Zd [9] w w'∧RefI B bm p k c l w'∧w'.ownsRow w.heap.size 3 1 (.slice a (Lo no er).length c2) (Lo no er).length ((Lo no er).map V0)
theorem Zac(kind no:Int)(a:O0)(c:Nat)(li:Bl)(w:World)(h:Bys w (.slice a li.length c) li)(hs:Vy kind no li≠0) :
 C0 183 #[V0 kind,V0 no,.slice a li.length c] w (Ret (.tuple #[S0,V0 (Vy kind no li)]) w):=by
 refine(Zc9 kind no a c li w h).mono ?_
 rintro e W (⟨_,rfl,hb⟩|⟨h0,_⟩)
 ·exact⟨rfl,hb⟩
 ·exact absurd h0 hs
theorem Bf(kind no:Int)(a:O0)(c:Nat)(li:Bl)(w:World)(h:Bys w (.slice a li.length c) li)(hs:Vy kind no li=0) :
 C0 183 #[V0 kind,V0 no,.slice a li.length c] w (fun e w'=>li.length≤244∧∃ p c,e=.returned (.tuple #[.slice p 256 c,V0 0])∧B3 w w'∧w'.ownsRow w.heap.size 5 1 (.slice p 256 c) 256 ((Ja kind no li).map bv)):=by
 refine(Zc9 kind no a c li w h).mono ?_
 rintro e W (⟨h0,_⟩|⟨_,_,hl,p,c2,rfl,hb,ho⟩)
 ·exact absurd hs h0
 ·exact⟨hl,p,c2,rfl,hb,ho⟩
theorem Ej(B bm:Nat)(p:O0)(k c:Nat)(l:Bl)(no kind:Int)(a:O0)(ca:Nat)(li:Bl)(w:World)(hI:RefI B bm p k c l w)(hin:Bys w (.slice a li.length ca) li)(hBw:B≤w.heap.size)(hs:Vy kind no li≠0) :
 C0 116 #[P0 bm,V0 no,V0 kind,.slice a li.length ca] w (RefWr B bm p k c l no (Vy kind no li) w):=by
 refine zin 29 Tryz.func116 ?_
 refine xa 2 [S0,V0 0] 44 fun b1 W1 n1=>?_
 have a2:=hin.below n1.below
 refine xc 7 (args:=#[V0 kind,V0 no,.slice a li.length ca]) (Zac kind no a ca li _ a2 hs) ?_
 rintro _ W2 ⟨rfl,a0⟩
 refine xk 14 (show(((Vy kind no li) != (0:Int)):Bool)=true from bne_iff_ne.2 hs) ?_
 refine xc 4 (args:=#[V0 no,V0 (Vy kind no li)]) (St no (Vy kind no li) _) ?_
 rintro _ W3 ⟨a5,c5,rfl,a3,a7⟩
 have a6:=(blB (blB (Below.refl B w) hBw n1.below) hBw a0).size
 have k1:=(n1.blk.below a0).below a3
 refine xsv 0 k1 [.slice a5 ((Lo no (Vy kind no li)).length) c5,V0 (Vy kind no li)] fun W4 u4 k4=>?_
 have g1:=n1.ge0 (Below.refl B _)
 have hB:=u4.below (blB (blB (blB (Below.refl B w) hBw n1.below) hBw a0) hBw a3) (N0 hBw g1)
 have hO:=(Zd.upd_new (((show Zd [9] w _ from(Zd.of_below n1.below)).trans (Zd.of_below a0)).trans (Zd.of_below a3)) u4 g1)
 have a4:=(((hI.below n1.below).below a0).below a3).only (Zd.of_upd (T:=[44]) u4 k1 Do) Do
 have a1:=u4.own2 (Zf a7 a6) k1 Do
 exact xec 4 k4 (.agg #[.slice a5 ((Lo no (Vy kind no li)).length) c5,V0 (Vy kind no li)]) ⟨_,_,rfl,hB,hO,a4,a1⟩
theorem Eh(B bm:Nat)(p:O0)(k c:Nat)(l:Bl)(no kind:Int)(a:O0)(ca:Nat)(li:Bl)(w:World)(hI:RefI B bm p k c l w)(hin:Bys w (.slice a li.length ca) li)(hBw:B≤w.heap.size)(hs:Vy kind no li=0)(ho:¬ (0≤no∧no<(k:Int))) :
 C0 116 #[P0 bm,V0 no,V0 kind,.slice a li.length ca] w (RefWr B bm p k c l no 3 w):=by
 refine zin 29 Tryz.func116 ?_
 refine xa 2 [S0,V0 0] 44 fun b1 W1 n1=>?_
 have a3:=hin.below n1.below
 refine xc 7 (args:=#[V0 kind,V0 no,.slice a li.length ca]) (Bf kind no a ca li _ a3 hs) ?_
 rintro _ W2 ⟨b2,p2,c2,rfl,a0,h2⟩
 have b0:=(blB (Below.refl B w) hBw n1.below).size
 have a2:=(hI.below n1.below).below a0
 refine xr 23 (args:=#[P0 bm,V0 no,.slice p2 256 c2]) (Bw B bm p k c l _ a2 no _ ho) fun W3 a4=>?_
 refine xc 0 (args:=#[V0 no,V0 3]) (St no 3 _) ?_
 rintro _ W4 ⟨a5,c5,rfl,a6,a8⟩
 have a9:=(blB (blB (blB (Below.refl B w) hBw n1.below) hBw a0) hBw a4).size
 have k1:=((n1.blk.below a0).below a4).below a6
 refine xsv 0 k1 [.slice a5 ((Lo no 3).length) c5,V0 3] fun W5 u5 k5=>?_
 have g1:=n1.ge0 (Below.refl B _)
 have hB:=u5.below (blB (blB (blB (blB (Below.refl B w) hBw n1.below) hBw a0) hBw a4) hBw a6) (N0 hBw g1)
 have hO:=(Zd.upd_new ((((show Zd [9] w _ from(Zd.of_below n1.below)).trans (Zd.of_below a0)).trans (Zd.of_below a4)).trans (Zd.of_below a6)) u5 g1)
 have a7:=((a2.below a4).below a6).only (Zd.of_upd (T:=[44]) u5 k1 Do) Do
 have a1:=u5.own2 (Zf a8 a9) k1 Do
 exact xec 3 k5 (.agg #[.slice a5 ((Lo no 3).length) c5,V0 3]) ⟨_,_,rfl,hB,hO,a7,a1⟩
theorem Ph(B bm:Nat)(p:O0)(k c:Nat)(l:Bl)(j:Nat)(kind:Int)(a:O0)(ca:Nat)(li:Bl)(w:World)(hI:RefI B bm p k c l w)(hin:Bys w (.slice a li.length ca) li)(hBw:B≤w.heap.size)(hs:Vy kind j li=0)(hj:j<k) :
 C0 116 #[P0 bm,V0 (j:Int),V0 kind,.slice a li.length ca] w (RefWr B bm p k c (Km l (j*256) (Ja kind j li)) (j:Int) 0 w):=by
 refine zin 29 Tryz.func116 ?_
 refine xa 2 [S0,V0 0] 44 fun b1 W1 n1=>?_
 have a1:=hin.below n1.below
 refine xc 7 (args:=#[V0 kind,V0 (j:Int),.slice a li.length ca]) (Bf kind j a ca li _ a1 hs) ?_
 rintro _ W2 ⟨b5,p2,c2,rfl,a2,h2⟩
 have b4:=(blB (Below.refl B w) hBw n1.below).size
 have a6:=(hI.below n1.below).below a2
 have a4:=Zf h2 b4
 have hB:=blB (blB (Below.refl B w) hBw n1.below) hBw a2
 refine xc 23 (args:=#[P0 bm,V0 (j:Int),.slice p2 256 c2]) (Ol B bm _ p k c l j p2 c2 (Ja kind j li) _ a6 hj a4 (Du b5) (N0 hBw hB.size)) ?_
 rintro _ W3 ⟨rfl,b0,a9,hI⟩
 refine xc 0 (args:=#[V0 (j:Int),V0 0]) (St (j:Int) 0 _) ?_
 rintro _ W4 ⟨a5,c5,rfl,a3,b2⟩
 have b3:=(hB.trans b0).size
 have k1:=((n1.blk.below a2).only a9 Do).below a3
 refine xsv 0 k1 [.slice a5 ((Lo (j:Int) 0).length) c5,V0 0] fun W5 u5 k5=>?_
 have g1:=n1.ge0 (Below.refl B _)
 have a7:=u5.below (blB (hB.trans b0) hBw a3) (N0 hBw g1)
 have hO:=(Zd.upd_new ((((show Zd [9] w _ from(Zd.of_below n1.below)).trans (Zd.of_below a2)).trans a9).trans (Zd.of_below a3)) u5 g1)
 have a8:=(hI.below a3).only (Zd.of_upd (T:=[44]) u5 k1 Do) Do
 have a0:=u5.own2 (Zf b2 b3) k1 Do
 exact xec 3 k5 (.agg #[.slice a5 ((Lo (j:Int) 0).length) c5,V0 0]) ⟨_,_,rfl,a7,hO,a8,a0⟩
theorem Er(B bm:Nat)(p:O0)(k c:Nat)(l:Bl)(no kind:Int)(a:O0)(ca:Nat)(li:Bl)(w:World)(hI:RefI B bm p k c l w)(hin:Bys w (.slice a li.length ca) li)(hBw:B≤w.heap.size) :
 C0 116 #[P0 bm,V0 no,V0 kind,.slice a li.length ca] w (RefWr B bm p k c (wrL kind no k li l) no (wrE kind no k li) w):=by
 by_cases hs:Vy kind no li=0
 ·by_cases ho:0≤no∧no<(k:Int)
  ·have he:wrE kind no k li=0:=by unfold wrE;rw[if_pos hs,if_pos ho]
   obtain⟨j,rfl⟩:∃ j:Nat,no=j:=⟨no.toNat,by omega⟩
   rw[wrL,if_pos he,he]
   exact Ph B bm p k c l j kind a ca li w hI hin hBw hs M0
  ·have he:wrE kind no k li=3:=by unfold wrE;rw[if_pos hs,if_neg ho]
   rw[wrL,if_neg (by rw[he];decide),he]
   exact Eh B bm p k c l no kind a ca li w hI hin hBw hs ho
 ·have he:wrE kind no k li=Vy kind no li:=by unfold wrE;rw[if_neg hs]
  rw[wrL,if_neg (by rw[he];exact hs),he]
  exact Ej B bm p k c l no kind a ca li w hI hin hBw hs
theorem BysM.elem{w:World}{a:O0}{n c:Nat}{l:Bl}(h:Bys w (.slice a n c) l)(hl:l.length=n){k:Nat}(hk:k<n):a.isSome=true∧w.cell? (Xa a (k*1))=some (.int .u8 (↑(l.getD k 0).toNat:Int)):=by
 subst hl;exact Bys.elem h hk
def Nc(l:List Int)(n:Nat):List Int:=(List.range 960).map (atI l n)
theorem Bz(l:List Int)(n:Nat):(Nc l n).length=960:=by simp[Nc]
theorem padI_get(l:List Int)(n:Nat){k:Nat}(h:k<960):(Nc l n).getD k 0=atI l n k:=by simp[Nc,List.getD,B7 h]
theorem Zhw(l:List Int)(n:Nat):(List.range n).map (atI l 0)=List.replicate n 0:=by
 apply G5
 ·simp
 ·intro i h1 h2;simp[atI]
theorem Zic(l:List Int):Nc l 0=List.replicate 960 0:=Zhw l 960
theorem padN_set{l:List Int}{i n:Nat}(hi:i<n):(((List.range n).map (atI l i)).map V0).set i (V0 (l.getD i 0))=((List.range n).map (atI l (i+1))).map V0:=by
 rw[←List.map_set]
 congr 1
 apply G5
 ·simp
 ·intro k h1 h2
  rw[List.getElem_set]
  simp only[List.getElem_map,List.getElem_range,atI]
  by_cases e:i=k
  ·subst e;rw[if_pos rfl,if_pos M0]
  ·rw[if_neg e]
   by_cases h3:k<i
   ·rw[if_pos h3,if_pos M0]
   ·rw[if_neg h3,if_neg M0]
theorem padI_set{l:List Int}{i:Nat}(hi:i<960):((Nc l i).map V0).set i (V0 (l.getD i 0))=(Nc l (i+1)).map V0:=padN_set hi
theorem zeros960:Hn (Value.int .i64 0).cells.toList 960=(List.replicate 960 (0:Int)).map V0:=by
 rw[show(Value.int .i64 0).cells.toList=[Value.int .i64 0] from rfl,Hn,K6]
 generalize 960=n
 induction n with
 | zero=>rfl
 | succ n ih=>rw[H0,K7,ih,H0];rfl
def grpB(l:List Int)(k:Nat):Bl:=leB l.length 4++(List.range k).map (g4B l l.length)
theorem Zkq(l:List Int)(k:Nat):grpB l (k+1)=grpB l k++[g4B l l.length k]:=by simp[grpB,C1]
theorem g4_u8{x:Int}(h0:0≤x)(h1:x<256):IntKind.u8.wrap x=((UInt8.ofNat x.toNat).toNat:Int):=by
 rw[UInt8.toNat_ofNat',F0 M0,IntWalk.u8_in x M0];omega
theorem Zhg(a:O0)(c:Nat)(l:List Int)(w:World)(hS:Hp l)(hl:l.length≤960)(h:Sl w (.slice a l.length c) l.length (l.map V0)) :
 C0 227 #[.slice a l.length c] w (Qo (fun w' r=>∃ p c,r=.tuple #[.slice p 244 c,V0 0]∧w'.ownsRow w.heap.size 5 1 (.slice p 244 c) 244 ((Zfl l).map bv)) w):=by
 refine zin 74 Tryz.func227 ?_
 refine xk 14 (show(decide ((l.length:Int)>(960:Int)):Bool)=false from decide_eq_false M0) ?_
 refine xmk 4 fun _ _ _ _ zJ zQ zo zx zy zK=>Kf 960 (V0 0) 1 8 ((List.replicate 960 (0:Int)).map V0) zo zx zy Tryz.underlying27 K0 rfl M0 M0 (zeros960) fun b1 W1 n1=>?_
 refine zK _ _ ?_
 have o1:=Zz (size:=1) (n:=960) n1.blk (n1.ge (B4 w)) (by rw[At,A7]) (by unfold maxLen;omega)
 refine zl 10 74 (fun zm a9 V=>∃ (i:Nat),a9=[(0,.slice a l.length c),(4,.slice (S1 b1) 960 960),(5,V0 (i:Int))]∧zm=l.length-((i:Int)).toNat∧B3 w V∧V.ownsRow w.heap.size 3 1 (.slice (S1 b1) 960 960) 960 ((Nc l i).map V0)∧i≤l.length) ⟨0,rfl,rfl,n1.below,(by rw[Zic];exact o1),A3 _⟩ ?_
 rintro _ _ W2 ⟨i,rfl,rfl,a0,ho,hi⟩ J2 c5 r2
 refine xid 9 ((i:Int)<(l.length:Int)) (fun c2=>?_) (fun c2=>?_)
 ·refine xx 9 _ l.length i 1 (IntsN.elem h rfl (k:=i) M0).1 ?_
  refine xl 0 ((IntsN.elem (h.below a0) rfl (k:=i) M0).2) ?_
  refine xgk 2 [22,23] (show(decide ((l.getD i 0)<(0:Int)):Bool)=false from decide_eq_false (by have:=Gz hS i;omega)) ?_
  refine xx 2 _ l.length i 1 (IntsN.elem h rfl (k:=i) M0).1 ?_
  refine xl 0 ((IntsN.elem (h.below a0) rfl (k:=i) M0).2) ?_
  refine xk 4 (show(decide ((l.getD i 0)>(3:Int)):Bool)=false from decide_eq_false (by have:=Gz hS i;omega)) ?_
  refine xx 7 _ l.length i 1 (IntsN.elem h rfl (k:=i) M0).1 ?_
  refine xl 0 ((IntsN.elem (h.below a0) rfl (k:=i) M0).2) ?_
  refine xx 0 _ 960 i 1 (show(some (⟨b1,0,none⟩:Addr)).isSome=true from rfl) ?_
  refine xst 0 fun _ _ _ _ zJ zQ zo zx zy zK=>Xk (t:=3) (k:=i) (v:=V0 (l.getD i 0)) zo zx zy K0 rfl ho M0 fun W5 u5 o5=>?_
  rw[padI_set (l:=l) (i:=i) M0] at o5
  refine zK _ _ ?_
  refine xwm 5 ((i:Int)+1) (↑(i+1):Int) ?_
  have b4:=u5.below a0 (Qa ho)
  exact ze 2 (c5 _ _ _ ⟨i+1,rfl,rfl,b4,o5,by omega⟩ M0)
 refine xc 9 (args:=#[V0 (l.length:Int),V0 4]) (Xf (l.length:Int) 4 4 _ (F2 _) M0 rfl Do) ?_
 rintro _ W6 ⟨_,rfl,b8,p4,c4,rfl,h4⟩
 have c8:i=l.length:=by omega
 have b0:=Za ho b8
 have b2:=Zf h4 a0.size
 have b6:=bln a0 b8
 refine zl 10 74 (fun zm a9 V=>∃ (k m:Nat) (q:O0) (d:Nat),a9=[(4,.slice (S1 b1) 960 960),(6,.slice q m d),(7,V0 (↑(4*k):Int))]∧zm=960-((↑(4*k):Int)).toNat∧B3 w V∧V.ownsRow w.heap.size 3 1 (.slice (S1 b1) 960 960) 960 ((Nc l l.length).map V0)∧V.ownsRow w.heap.size 5 1 (.slice q m d) m ((grpB l k).map bv)∧k≤240∧m=4+k) ⟨0,4,_,_,rfl,rfl,b6,(by rw[←c8];exact b0),(by simpa [grpB] using b2),A3 _,rfl⟩ ?_
 rintro _ _ W7 ⟨k,m,q,d,rfl,rfl,a5,hq,hr,hk,hm⟩ J7 c7 r7
 have hp:∀ j,j<960→(Nc l l.length).getD j 0=atI l l.length j:=fun j hj=>padI_get l _ hj
 have d2:=Mh hS l.length (4*k)
 have d0:=Mh hS l.length (4*k+1)
 have d3:=Mh hS l.length (4*k+2)
 have d1:=Mh hS l.length (4*k+3)
 have h9:k<240→(Nc l l.length).getD (4*k) 0=atI l l.length (4*k)∧(Nc l l.length).getD (4*k+1) 0=atI l l.length (4*k+1)∧(Nc l l.length).getD (4*k+2) 0=atI l l.length (4*k+2)∧(Nc l l.length).getD (4*k+3) 0=atI l l.length (4*k+3):=fun q=>⟨hp _ M0,hp _ M0,hp _ M0,hp _ M0⟩
 refine xid 7 ((↑(4*k):Int)<(960:Int)) (fun c1=>?_) (fun c1=>?_)
 ·refine xd 4 (.t w.heap.size [5]) ?_
  refine xx (.e [0,1,2] 3) _ 960 (4*k) 1 (show(some (⟨b1,0,none⟩:Addr)).isSome=true from rfl) ?_
  have a1:=Za hq (Zb W7)
  refine xlt (.e [] 4) (.t w.heap.size [5]) (fun V hV=>(IntsN.elem (Ze (Zi a1 hV.2 Do)) (Bz l l.length) (k:=(4*k)) M0).2) ?_
  refine xwm (.e [5,6] 7) ((↑(4*k):Int)+1) (↑((4*k)+1):Int) ?_
  refine xx (.e [] 8) _ 960 ((4*k)+1) 1 (show(some (⟨b1,0,none⟩:Addr)).isSome=true from rfl) ?_
  refine xlt (.e [] 9) (.t w.heap.size [5]) (fun V hV=>(IntsN.elem (Ze (Zi a1 hV.2 Do)) (Bz l l.length) (k:=((4*k)+1)) M0).2) ?_
  refine xw (.e [] 10) (4*((Nc l l.length).getD ((4*k)+1) 0)) ?_
  refine xw (.e [] 11) (((Nc l l.length).getD (4*k) 0)+(4*((Nc l l.length).getD ((4*k)+1) 0))) ?_
  refine xwm (.e [12,13] 14) ((↑(4*k):Int)+2) (↑((4*k)+2):Int) ?_
  refine xx (.e [] 15) _ 960 ((4*k)+2) 1 (show(some (⟨b1,0,none⟩:Addr)).isSome=true from rfl) ?_
  refine xlt (.e [] 16) (.t w.heap.size [5]) (fun V hV=>(IntsN.elem (Ze (Zi a1 hV.2 Do)) (Bz l l.length) (k:=((4*k)+2)) M0).2) ?_
  refine xw (.e [] 17) (16*((Nc l l.length).getD ((4*k)+2) 0)) ?_
  refine xw (.e [] 18) (((Nc l l.length).getD (4*k) 0)+(4*((Nc l l.length).getD ((4*k)+1) 0))+(16*((Nc l l.length).getD ((4*k)+2) 0))) ?_
  refine xwm (.e [19,20] 21) ((↑(4*k):Int)+3) (↑((4*k)+3):Int) ?_
  refine xx (.e [] 22) _ 960 ((4*k)+3) 1 (show(some (⟨b1,0,none⟩:Addr)).isSome=true from rfl) ?_
  refine xlt (.e [] 23) (.t w.heap.size [5]) (fun V hV=>(IntsN.elem (Ze (Zi a1 hV.2 Do)) (Bz l l.length) (k:=((4*k)+3)) M0).2) ?_
  refine xw (.e [] 24) (64*((Nc l l.length).getD ((4*k)+3) 0)) ?_
  refine xw (.e [] 25) (((Nc l l.length).getD (4*k) 0)+(4*((Nc l l.length).getD ((4*k)+1) 0))+(16*((Nc l l.length).getD ((4*k)+2) 0))+(64*((Nc l l.length).getD ((4*k)+3) 0))) ?_
  refine xq (.e [] 26) (congrArg (Value.int .u8) (show(IntKind.u8.wrap (((Nc l l.length).getD (4*k) 0)+(4*((Nc l l.length).getD ((4*k)+1) 0))+(16*((Nc l l.length).getD ((4*k)+2) 0))+(64*((Nc l l.length).getD ((4*k)+3) 0))):Int)=(↑(g4B l l.length k).toNat:Int) from by obtain⟨q0,q1,q2,q3⟩:=h9 M0;rw[q0,q1,q2,q3];exact g4_u8 M0 M0)) ?_
  refine xbs (.o [] 27) 1 [.int .u8 (↑(g4B l l.length k).toNat:Int)] 5 fun b9 W9 n9=>?_
  have a7:=bln a5 (Zb W7)
  have g9:=n9.ge a7
  have a6:=Za hr (Zb W7)
  have b7:=Zg a6 n9
  have a2:=Za a6 n9.below
  have a4:=bln a7 n9.below
  refine ybi (.o [] 28) (.t w.heap.size [5]) fun _ _ _ _ zJ zQ zo zx zy zK=>Zr (m:=1) (news:=[.int .u8 (↑(g4B l l.length k).toNat:Int)]) (.int .u8 0) 1 1 (m+1) (((grpB l (k+1)).map bv)) zo Tryz.underlying50 K0 rfl Do zx a2 zy (n9.blk.sl 1 1 Do Do) rfl (by simp[Value.oneCell']) (by unfold maxLen;omega) M0 a4.size (by rfl) (by rw[Zkq,A9];rfl) fun c0 c3 c9 c6 a8 a3=>?_
  refine zK _ _ (Zt a3 a8 a2 Do) ?_
  refine xwm (.r [29] 5) ((↑(4*k):Int)+4) (↑((4*k)+4):Int) ?_
  refine xv1 2 7 (show(V0 (↑((4*k)+4):Int):Value)=V0 (↑(4*(k+1)):Int) from by congr 1) ?_
  have b3:=a4.trans a3
  have b5:=Zp (Za a1 n9.below) a8 a2 Do
  exact ze 0 (c7 _ _ _ ⟨k+1,m+1,_,_,rfl,rfl,b3,b5,c6,by omega,by omega⟩ M0)
 refine xe 13 (.tuple #[.slice q m d,V0 0]) ?_
 obtain rfl:k=240:=by omega
 subst hm
 exact⟨_,rfl,a5,_,_,rfl,hr⟩
end Go.Proofs.YtekomodnkfhihaaGreatDoor
namespace Go.Proofs.YtekomodnkfhihaaGreatDoor
set_option maxHeartbeats 8000000
set_option maxRecDepth 100000
open Go.RowKit
set_option linter.unusedVariables false
theorem Zbd{P:Program}{a:Act}{o:Oper}{t t2:TypeId}{x y:Operand}{l m:Bl}(ho:o.op=.binOp .add t x y t2)(hx:a.eval x=.string ⟨l.toArray⟩)(hy:a.eval y=.string ⟨m.toArray⟩)(hl:l.length+m.length≤1000000)(w:World):(execOp a.eval o).run P w=.ok (.value (.string ⟨(l++m).toArray⟩)) w:=by
 have e:(⟨l.toArray⟩:ByteArray)++⟨m.toArray⟩=⟨(l++m).toArray⟩:=by
  apply ByteArray.ext
  simp
 have g:binOp .add t (.string ⟨l.toArray⟩) (.string ⟨m.toArray⟩)=pure (.string ((⟨l.toArray⟩:ByteArray)++⟨m.toArray⟩)):=by
  have h:¬ (9223372036854775807:Int)<((⟨l.toArray⟩:ByteArray).size:Int)+((⟨m.toArray⟩:ByteArray).size:Int):=by simp[ByteArray.size];omega
  simp[binOp,Op.stringOp]
  intro q;exact absurd q h
 have q:eqGuard .add t x y (.string ⟨l.toArray⟩:Value) (.string ⟨m.toArray⟩:Value)=pure ():=rfl
 simp only[execOp,ho,hx,hy,g,e,q]
 simp
end Go.Proofs.YtekomodnkfhihaaGreatDoor
namespace Go.Proofs.YtekomodnkfhihaaGreatDoor
set_option maxHeartbeats 8000000
set_option maxRecDepth 100000
open Go.RowKit Go.Extern.Stop Go.Stop Go.Extern
set_option linter.unusedVariables false
attribute [local irreducible] wpList wpAnyH Code.wp Oper.wp Go
theorem Qt(n lo hi:Int)(w:World) :
 C0 173 #[V0 n,V0 lo,V0 hi] w (Ret (.bool (decide (lo≤n∧n≤hi))) w):=by
 refine zin 15 Tryz.func173 ?_
 refine xg 11 [9,10] (decide (n≥lo)) (fun a0=>?_) (fun a0=>?_)
 ·have a0:=of_decide_eq_true a0
  exact xe 8 (.bool (decide (n≤hi))) ⟨by rw[show decide (lo≤n∧n≤hi)=decide (n≤hi) from by simp;omega],(B4 w)⟩
 have a0:=of_decide_eq_false a0
 exact xe 8 (.bool false) ⟨by rw[show decide (lo≤n∧n≤hi)=false from decide_eq_false M0],(B4 w)⟩
def Fj(N:List Int)(ws:List Nat)(k:Nat):Bl:=(List.range k).flatMap fun i=>leB (N.getD i 0) (ws.getD i 0)
theorem Au(N:List Int)(ws:List Nat)(k:Nat):Fj N ws (k+1)=Fj N ws k++leB (N.getD k 0) (ws.getD k 0):=by simp[Fj,C1]
def Zgp(N:List Int)(ws:List Nat):Prop:=N.length≤100∧ws.length=N.length∧∀ i,i<N.length→0≤N.getD i 0∧N.getD i 0<9223372036854775808∧ws.getD i 0≤8
theorem Zcp{N:List Int}{ws:List Nat}(h:Zgp N ws):∀ k,k≤N.length→(Fj N ws k).length≤k*8
 | 0,_=>A3 _
 | k+1,hk=>by
  rw[Au,A5,Zj]
  have:=Zcp h k M0
  have:=(h.2.2 k M0).2.2
  omega
theorem Jk(N:List Int)(ws:List Nat)(gn gw:O0)(cn cw:Nat)(w:World)(hok:Zgp N ws)(hN:Sl w (.slice gn N.length cn) N.length (N.map V0))(hW:Sl w (.slice gw N.length cw) N.length (ws.map nv)) :
 C0 174 #[.slice gn N.length cn,.slice gw N.length cw] w (Ret (.string ⟨(Fj N ws N.length).toArray⟩) w):=by
 have b0:=hok.1
 have a4:=hok.2.1
 refine zin 26 Tryz.func174 ?_
 have hB:=Below.refl w.heap.size w
 refine zl 17 26 (fun zm a6 V=>∃ (i:Nat),a6=[(0,.slice gn N.length cn),(1,.slice gw N.length cw),(4,.string ⟨#[]⟩),(5,.string ⟨(Fj N ws i).toArray⟩),(6,V0 (i:Int))]∧zm=N.length-((i:Int)).toNat∧B3 w V∧i≤N.length) ⟨0,rfl,rfl,hB,A3 _⟩ ?_
 rintro _ _ W1 ⟨i,rfl,rfl,a1,hi⟩ J1 a8 r1
 have a9:=Zcp hok i hi
 have b1:i<N.length→ws.getD i 0≤8:=fun q=>(hok.2.2 i q).2.2
 refine xid 9 ((i:Int)<(N.length:Int)) (fun a7=>?_) (fun a7=>?_)
 ·refine xd 4 .z ?_
  refine xx (.e [0,1,2] 3) _ N.length i 1 (IntsN.elem hN rfl (k:=i) M0).1 ?_
  have a0:=bln a1 (Zb W1)
  refine xl (.e [] 4) ((IntsN.elem (hN.below a0) rfl (k:=i) M0).2) ?_
  refine xx (.e [5,6] 7) _ N.length i 1 (Jv hW a4 (k:=i) M0).1 ?_
  refine xl (.e [] 8) ((Jv (hW.below a0) a4 (k:=i) M0).2) ?_
  refine yc (.o [] 9) (args:=#[V0 (N.getD i 0),V0 (↑(ws.getD i 0):Int)]) .z (Xf (N.getD i 0) (ws.getD i 0) (↑(ws.getD i 0):Int) _ (hok.2.2 i M0).1 (hok.2.2 i M0).2.1 rfl (hok.2.2 i M0).2.2) ?_
  rintro _ W3 ⟨_,rfl,a5,p2,c2,rfl,h2⟩
  refine⟨a5,?_⟩
  have a2:=Zf h2 a0.size
  refine xcv (.e [] 10) (fun _ _ _ zo zx V hV=>Yt zo zx (Ya (Ze (Za a2 hV)) (Zj _ _)) (Zj _ _) Tryz.underlying50 Tryz.underlying5 Tryz.underlying9) ?_
  refine xbo (.e [] 11) (t:=9) (t2:=9) (fun _ _ _ _ zo zx zy V hV=>Zbd (l:=Fj N ws i) (m:=leB (N.getD i 0) (ws.getD i 0)) zo zx zy (by rw[Zj];omega) V) ?_
  refine xwm (.r [12] 5) ((i:Int)+1) (↑(i+1):Int) ?_
  refine xv1 2 5 (show(.string ⟨(Fj N ws i++leB (N.getD i 0) (ws.getD i 0)).toArray⟩:Value)=.string ⟨(Fj N ws (i+1)).toArray⟩ from by rw[Au]) ?_
  have a3:=bln a0 a5
  exact ze 0 (a8 _ _ _ ⟨i+1,rfl,rfl,a3,by omega⟩ M0)
 refine xe 12 (.string ⟨(Fj N ws i).toArray⟩) ?_
 obtain rfl:i=N.length:=by omega
 exact⟨rfl,a1⟩
def Ft(x y z:Int):Bool:=decide (1≤x∧x≤14399)&&decide (0≤y∧y≤960)&&decide (0≤z∧z≤960)
def SlotStrP(x y z:Int)(w:World)(e:Ending)(w':World):Prop :=
 (Ft x y z=false∧e=.returned (.string ⟨#[]⟩)∧B3 w w')∨(Ft x y z=true∧e=.returned (.string ⟨(Fj [x,y,z] [8,4,4] 3).toArray⟩)∧B3 w w')
theorem slotQ_ok{x y z:Int}(h:Ft x y z=true):Zgp [x,y,z] [8,4,4]:=by
 unfold Ft at h
 simp only[D3,decide_eq_true_iff] at h
 refine⟨show 3≤100 from by decide,rfl,fun i hi=>?_⟩
 have a0:i<3:=hi
 obtain rfl|rfl|rfl:i=0∨i=1∨i=2:=by omega
 all_goals simp[List.getD]
 all_goals omega
theorem Zgd(x y z:Int)(w:World) :
 C0 179 #[.agg #[V0 x,V0 y,V0 z]] w (SlotStrP x y z w):=by
 refine zin 28 Tryz.func179 ?_
 refine xa 2 [V0 x,V0 y,V0 z] 126 fun b1 W1 n1=>?_
 refine xb 7 0 n1.blk ?_
 refine xr 0 (args:=#[V0 x,V0 1,V0 14399]) (Qt x 1 14399 _) fun W2 a7=>?_
 refine xg 2 [6,7] (!(decide ((1:Int)≤x∧x≤14399))) (fun b8=>?_) (fun b8=>?_)
 ·have c3:(decide ((1:Int)≤x∧x≤14399))=false:=Qy b8
  have hB:=bln n1.below a7
  exact xe 21 (.string ⟨#[]⟩) (.inl ⟨by unfold Ft;first|(rw[c3];done)|(rw[c3];rfl),rfl,hB⟩)
 have a6:(decide ((1:Int)≤x∧x≤14399))=true:=Vd b8
 have a5:=n1.blk.below a7
 refine xb 1 1 a5 ?_
 refine xr 0 (args:=#[V0 y,V0 0,V0 960]) (Qt y 0 960 _) fun W6 b0=>?_
 refine xg 3 [11,12,13] (!(decide ((0:Int)≤y∧y≤960))) (fun b7=>?_) (fun b7=>?_)
 ·have b9:(decide ((0:Int)≤y∧y≤960))=false:=Qy b7
  have hB:=bln (bln n1.below a7) b0
  exact xe 15 (.string ⟨#[]⟩) (.inl ⟨by unfold Ft;first|(rw[a6,b9];done)|(rw[a6,b9];rfl),rfl,hB⟩)
 have b4:(decide ((0:Int)≤y∧y≤960))=true:=Vd b7
 have a8:=a5.below b0
 refine xb 1 2 a8 ?_
 refine xr 0 (args:=#[V0 z,V0 0,V0 960]) (Qt z 0 960 _) fun c4 a2=>?_
 refine xi 4 (!(decide ((0:Int)≤z∧z≤960))) (fun a1=>?_) (fun a1=>?_)
 ·have a3:(decide ((0:Int)≤z∧z≤960))=false:=Qy a1
  have hB:=bln (bln (bln n1.below a7) b0) a2
  exact xe 7 (.string ⟨#[]⟩) (.inl ⟨by unfold Ft;first|(rw[a6,b4,a3];done)|(rw[a6,b4,a3];rfl),rfl,hB⟩)
 have b3:(decide ((0:Int)≤z∧z≤960))=true:=Vd a1
 have a0:=a8.below a2
 refine xb 5 0 a0 ?_
 refine xb 1 1 a0 ?_
 refine xb 1 2 a0 ?_
 refine xbs 0 3 [V0 x,V0 y,V0 z] 3 fun c1 c5 b5=>?_
 refine xbs 0 3 [V0 8,V0 4,V0 4] 3 fun c2 c6 b2=>?_
 have a9:=b2.ne b5.blk
 have c0:Ft x y z=true:=by
  unfold Ft
  rw[a6,b4,b3];rfl
 have a4:=b5.blk.below b2.below
 refine xr 0 (args:=#[.slice (S1 c1) 3 3,.slice (S1 c2) 3 3]) (Jk [x,y,z] [8,4,4] (S1 c1) (S1 c2) 3 3 _ (slotQ_ok c0) (a4.sl 3 3 Do Do) (b2.blk.sl 3 3 Do Do)) fun c7 b6=>?_
 have hB:=bln (bln (bln (bln (bln (bln n1.below a7) b0) a2) b5.below) b2.below) b6
 exact xe 4 (.string ⟨(Fj [x,y,z] [8,4,4] 3).toArray⟩) (.inr ⟨c0,rfl,hB⟩)
theorem slot_txt(x y z:Int):Fj [x,y,z] [8,4,4] 3=leB x 8++leB y 4++leB z 4:=by simp[Fj,List.range,List.range.loop]
theorem cnt_txt(x:Int):Fj [x] [4] 1=leB x 4:=by simp[Fj,List.range,List.range.loop]
theorem cnt_ok{n:Int}(h:3≤n∧n≤2147483647):Zgp [n] [4]:=by
 refine⟨show 1≤100 from by decide,rfl,fun i hi=>?_⟩
 have a0:i<1:=hi
 obtain rfl:i=0:=by omega
 simp[List.getD]
 omega
theorem Be(n:Int)(w:World)(hn:3≤n∧n≤2147483647) :
 C0 226 #[V0 n] w (Ret (.string ⟨(leB n 4).toArray⟩) w):=by
 refine zin 10 Tryz.func226 ?_
 refine xr 9 (args:=#[V0 n,V0 3,V0 2147483647]) (Qt n 3 2147483647 _) fun W1 a2=>?_
 refine xk 3 (show(!(decide ((3:Int)≤n∧n≤(2147483647:Int))):Bool)=false from by rw[decide_eq_true hn];rfl) ?_
 refine xbs 5 1 [V0 n] 3 fun b2 W2 n2=>?_
 refine xbs 0 1 [V0 4] 3 fun b3 W3 n3=>?_
 have a1:=n3.ne n2.blk
 have a0:=n2.blk.below n3.below
 refine xr 0 (args:=#[.slice (S1 b2) 1 1,.slice (S1 b3) 1 1]) (Jk [n] [4] (S1 b2) (S1 b3) 1 1 _ (cnt_ok hn) (a0.sl 1 1 Do Do) (n3.blk.sl 1 1 Do Do)) fun W4 a3=>?_
 have hB:=bln (bln (bln a2 n2.below) n3.below) a3
 exact xe 4 (.string ⟨(Fj [n] [4] 1).toArray⟩) ⟨by rw[cnt_txt],hB⟩
theorem Pn(x y z:Int)(w:World)(h1:1≤x∧x≤14399)(h2:0≤y∧y≤960)(h3:0≤z∧z≤960):C0 179 #[.agg #[V0 x,V0 y,V0 z]] w (Ret (.string ⟨(leB x 8++leB y 4++leB z 4).toArray⟩) w):=by
 refine(Zgd x y z w).mono ?_
 rintro e W (⟨h,_,_⟩|⟨_,rfl,hb⟩)
 ·unfold Ft at h
  rw[decide_eq_true h1,decide_eq_true h2,decide_eq_true h3] at h
  exact absurd h Do
 ·exact⟨by rw[slot_txt],hb⟩
theorem Zgg(a:O0)(c:Nat)(l:List Int)(w:World)(hl:l.length≤960)(h:Sl w (.slice a l.length c) l.length (l.map V0)) :
 C0 228 #[.slice a l.length c] w (Ret (.tuple #[V0 (↑(Ye l):Int),V0 (↑(Xe l):Int)]) w):=by
 refine zin 35 Tryz.func228 ?_
 have hB:=Below.refl w.heap.size w
 refine zl 18 35 (fun zm a5 V=>∃ (i f:Nat),a5=[(0,.slice a l.length c),(2,V0 0),(3,V0 0),(4,V0 (f:Int)),(5,V0 (i:Int))]∧zm=l.length-((i:Int)).toNat∧B3 w V∧i≤l.length∧f=Zat l i) ⟨0,0,rfl,rfl,hB,A3 _,rfl⟩ ?_
 rintro _ _ W1 ⟨i,f,rfl,rfl,a0,hi,hf⟩ J1 a7 r1
 have a6:=fun(q:i<l.length)=>Rg q
 have b2:=Wl l i
 refine xid 9 ((i:Int)<(l.length:Int)) (fun b0=>?_) (fun b0=>?_)
 ·refine xx 8 _ l.length i 1 (Ints.elem h (k:=i) M0).1 ?_
  refine xl 0 ((Ints.elem (h.below a0) (k:=i) M0).2) ?_
  refine xie 3 (l.getD i 0) (0:Int) (fun a9=>?_) (fun a9=>?_)
  ·refine xwm 2 ((f:Int)+1) (↑(f+1):Int) ?_
   refine xwm 6 ((i:Int)+1) (↑(i+1):Int) ?_
   exact ze 2 (a7 _ _ _ ⟨i+1,f+1,rfl,rfl,a0,by omega,by rw[a6 M0,if_pos (by assumption),hf]⟩ M0)
  refine xwm 5 ((i:Int)+1) (↑(i+1):Int) ?_
  exact ze 2 (a7 _ _ _ ⟨i+1,f,rfl,rfl,a0,by omega,by rw[a6 M0,if_neg (by assumption)];exact hf⟩ M0)
 refine zl 12 35 (fun zm a5 V=>∃ (g:Nat),a5=[(0,.slice a l.length c),(2,V0 0),(3,V0 0),(4,V0 (f:Int)),(6,V0 (g:Int))]∧zm=l.length-((g:Int)).toNat∧B3 w V∧g≤l.length∧((∀ j,j<g→l.getD j 0≠0))) ⟨0,rfl,rfl,a0,A3 _,?_⟩ ?_
 ·exact fun j hj=>absurd hj M0
 rintro _ _ W4 ⟨g,rfl,rfl,a1,hg,hz⟩ J4 a8 r4
 refine xg 8 [23,24] (decide ((g:Int)<(l.length:Int))) (fun a3=>?_) (fun a3=>?_)
 ·have a3:=of_decide_eq_true a3
  refine xx 2 _ l.length g 1 (Ints.elem h (k:=g) M0).1 ?_
  refine xl 0 ((Ints.elem (h.below a1) (k:=g) M0).2) ?_
  refine xin 4 (l.getD g 0) (0:Int) (fun b1=>?_) (fun b1=>?_)
  ·refine xwm 5 ((g:Int)+1) (↑(g+1):Int) ?_
   exact ze 3 (a8 _ _ _ ⟨g+1,rfl,rfl,a1,by omega,fun j hj=>(C3 j g).elim (fun q=>hz j q) (fun q=>by obtain rfl:j=g:=M0;first|assumption|omega)⟩ M0)
  refine xe 14 (.tuple #[V0 (f:Int),V0 (g:Int)]) ?_
  obtain rfl:i=l.length:=by omega
  have a2:f=Ye l:=hf
  have a4:g=Xe l:=by first|(exact(Cz M0 M0 hz).symm)|(obtain rfl:g=l.length:=M0;exact(Pt hz).symm)
  subst a2 a4
  exact⟨rfl,a1⟩
 have a3:=of_decide_eq_false a3
 refine xe 23 (.tuple #[V0 (f:Int),V0 (g:Int)]) ?_
 obtain rfl:i=l.length:=by omega
 have a2:f=Ye l:=hf
 have a4:g=Xe l:=by first|(exact(Cz M0 M0 hz).symm)|(obtain rfl:g=l.length:=M0;exact(Pt hz).symm)
 subst a2 a4
 exact⟨rfl,a1⟩
def Zcg(v:Nat)(l:List Ent)(i:Nat):Prop:=Bv l i<(l.getD i Xt).1∧(l.getD i Xt).1≤281474976710655∧(l.getD i Xt).2.1.length=v
instance (v:Nat) (l:List Ent) (i:Nat):Decidable (Zcg v l i):=by unfold Zcg;infer_instance
def Po(v:Nat)(l:List Ent):Bool:=(List.range l.length).all fun i=>decide (Zcg v l i)
theorem Rk{v:Nat}{l:List Ent}(h:∀ i,i<l.length→Zcg v l i):Po v l=true:=by
 unfold Po;rw[If]
 intro i hi
 exact decide_eq_true (h i (D9.1 hi))
theorem Uw{v:Nat}{l:List Ent}(h:Po v l=true){i:Nat}(hi:i<l.length):Zcg v l i:=by
 unfold Po at h;rw[If] at h
 exact of_decide_eq_true (h i (D9.2 hi))
theorem Jl{v:Nat}{l:List Ent}{i:Nat}(hi:i<l.length)(h:¬ Zcg v l i):Po v l=false:=by
 cases hr:Po v l with
 | false=>rfl
 | true=>exact absurd (Uw hr hi) h
theorem Zj2{l:List Ent}{i:Nat}(h:0<i):Bv l i=(l.getD (i-1) Xt).1:=by
 cases i with
 | zero=>omega
 | succ i=>rfl
theorem Zfk{l:List Ent}{i:Nat}(h:i=0):Bv l i = -1:=by subst h;rfl
theorem Af{v:Nat}{l:List Ent}:∀ {i:Nat},(∀ j,j<i→Zcg v l j)→-1≤Bv l i
 | 0,_=>by simp[Bv]
 | i+1,h=>by
  have h1:=Af (i:=i) fun j hj=>h j M0
  have h2:=(h i M0).1
  simp only[Bv];omega
theorem entsB_ok{v:Nat}{l:List Ent}(h:Po v l=true):EntsOk v l where
 hk i hi:=by
  have h1:=Uw h hi
  have h2:=Af (v:=v) (l:=l) (i:=i) fun j hj=>Uw h M0
  exact⟨by have:=h1.1;omega,h1.2.1⟩
 hs j hj:=(Uw h hj).1
 hw i hi:=(Uw h hi).2.2
theorem Lq(w:World) :
 C0 170 #[V0 1,.bool true] w (Ret (V0 4) w):=by
 refine zin 19 Tryz.func170 ?_
 refine xbs 7 6 [V0 0,V0 4,V0 8,V0 24,V0 16,V0 4] 3 fun b1 W1 n1=>?_
 refine xb 32 1 n1.blk ?_
 exact xe 4 (V0 4) ⟨rfl,n1.below⟩
theorem Zgz(w:World) :
 C0 105 #[V0 1,.bool true] w (Ret (V0 18) w):=by
 refine zin 16 Tryz.func105 ?_
 refine xr 10 (args:=#[V0 1,.bool true]) (Lq _) fun W1 a0=>?_
 exact xe 18 (V0 18) ⟨rfl,a0⟩
theorem Bm(w:World) :
 C0 170 #[V0 2,.bool true] w (Ret (V0 8) w):=by
 refine zin 19 Tryz.func170 ?_
 refine xbs 7 6 [V0 0,V0 4,V0 8,V0 24,V0 16,V0 4] 3 fun b1 W1 n1=>?_
 refine xb 32 2 n1.blk ?_
 exact xe 4 (V0 8) ⟨rfl,n1.below⟩
theorem Zei(w:World) :
 C0 105 #[V0 2,.bool true] w (Ret (V0 12) w):=by
 refine zin 16 Tryz.func105 ?_
 refine xr 10 (args:=#[V0 2,.bool true]) (Bm _) fun W1 a0=>?_
 exact xe 25 (V0 12) ⟨rfl,a0⟩
theorem Bi(w:World) :
 C0 170 #[V0 3,.bool true] w (Ret (V0 24) w):=by
 refine zin 19 Tryz.func170 ?_
 refine xbs 7 6 [V0 0,V0 4,V0 8,V0 24,V0 16,V0 4] 3 fun b1 W1 n1=>?_
 refine xb 32 3 n1.blk ?_
 exact xe 4 (V0 24) ⟨rfl,n1.below⟩
theorem Zeh(w:World) :
 C0 105 #[V0 3,.bool true] w (Ret (V0 6) w):=by
 refine zin 16 Tryz.func105 ?_
 refine xr 10 (args:=#[V0 3,.bool true]) (Bi _) fun W1 a0=>?_
 exact xe 39 (V0 6) ⟨rfl,a0⟩
theorem Bh(w:World) :
 C0 170 #[V0 4,.bool true] w (Ret (V0 16) w):=by
 refine zin 19 Tryz.func170 ?_
 refine xbs 7 6 [V0 0,V0 4,V0 8,V0 24,V0 16,V0 4] 3 fun b1 W1 n1=>?_
 refine xb 32 4 n1.blk ?_
 exact xe 4 (V0 16) ⟨rfl,n1.below⟩
theorem Zes(w:World) :
 C0 105 #[V0 4,.bool true] w (Ret (V0 9) w):=by
 refine zin 16 Tryz.func105 ?_
 refine xr 10 (args:=#[V0 4,.bool true]) (Bh _) fun W1 a0=>?_
 exact xe 32 (V0 9) ⟨rfl,a0⟩
theorem Lu(w:World) :
 C0 170 #[V0 5,.bool true] w (Ret (V0 4) w):=by
 refine zin 19 Tryz.func170 ?_
 refine xbs 7 6 [V0 0,V0 4,V0 8,V0 24,V0 16,V0 4] 3 fun b1 W1 n1=>?_
 refine xb 32 5 n1.blk ?_
 exact xe 4 (V0 4) ⟨rfl,n1.below⟩
theorem Zgk(w:World) :
 C0 105 #[V0 5,.bool true] w (Ret (V0 18) w):=by
 refine zin 16 Tryz.func105 ?_
 refine xr 10 (args:=#[V0 5,.bool true]) (Lu _) fun W1 a0=>?_
 exact xe 18 (V0 18) ⟨rfl,a0⟩
theorem Nn(t:Int)(w:World)(h1:1≤t)(h2:t≤5) :
 C0 170 #[V0 t,.bool false] w (Ret (V0 4) w):=by
 refine zin 19 Tryz.func170 ?_
 refine xbs 7 6 [V0 0,V0 4,V0 8,V0 24,V0 16,V0 4] 3 fun b1 W1 n1=>?_
 refine xgk 9 [8,9] (show(decide (t<(1:Int)):Bool)=false from decide_eq_false M0) ?_
 refine xk 5 (show(decide (t>(5:Int)):Bool)=false from decide_eq_false M0) ?_
 exact xe 17 (V0 4) ⟨rfl,n1.below⟩
theorem Za3(t:Int)(w:World)(h1:1≤t)(h2:t≤5) :
 C0 105 #[V0 t,.bool false] w (Ret (V0 18) w):=by
 refine zin 16 Tryz.func105 ?_
 refine xr 10 (args:=#[V0 t,.bool false]) (Nn t _ h1 h2) fun W1 a0=>?_
 exact xe 18 (V0 18) ⟨rfl,a0⟩
theorem Tp(t:Int)(leaf:Bool)(w:World)(h:¬ (1≤t∧t≤5)) :
 C0 170 #[V0 t,.bool leaf] w (Ret (V0 0) w):=by
 refine zin 19 Tryz.func170 ?_
 refine xbs 7 6 [V0 0,V0 4,V0 8,V0 24,V0 16,V0 4] 3 fun b1 W1 n1=>?_
 refine xg 9 [8,9] (decide (t<(1:Int))) (fun a0=>?_) (fun a0=>?_)
 ·have a0:=of_decide_eq_true a0
  exact xe 13 (V0 0) ⟨rfl,n1.below⟩
 have a0:=of_decide_eq_false a0
 refine xk 5 (show(decide (t>(5:Int)):Bool)=true from decide_eq_true M0) ?_
 exact xe 7 (V0 0) ⟨rfl,n1.below⟩
theorem Zb2(t:Int)(leaf:Bool)(w:World)(h:¬ (1≤t∧t≤5)) :
 C0 105 #[V0 t,.bool leaf] w (Ret (V0 0) w):=by
 refine zin 16 Tryz.func105 ?_
 refine xr 10 (args:=#[V0 t,.bool leaf]) (Tp t leaf _ h) fun W1 a0=>?_
 exact xe 40 (V0 0) ⟨rfl,a0⟩
theorem Js(t:Int)(leaf:Bool)(v:Nat)(hv:Nb t leaf=v)(h1:1≤t)(h2:t≤5)(w:World):C0 170 #[V0 t,.bool leaf] w (Ret (V0 (v:Int)) w):=by
 subst hv
 cases leaf
 ·exact Nn t w h1 h2
 obtain rfl|rfl|rfl|rfl|rfl:t=1∨t=2∨t=3∨t=4∨t=5:=by omega
 ·exact Lq w
 ·exact Bm w
 ·exact Bi w
 ·exact Bh w
 ·exact Lu w
theorem Jn(t:Int)(leaf:Bool)(m:Nat)(hm:Vg t leaf=m)(h1:1≤t)(h2:t≤5)(w:World):C0 105 #[V0 t,.bool leaf] w (Ret (V0 (m:Int)) w):=by
 subst hm
 cases leaf
 ·exact Za3 t w h1 h2
 obtain rfl|rfl|rfl|rfl|rfl:t=1∨t=2∨t=3∨t=4∨t=5:=by omega
 ·exact Zgz w
 ·exact Zei w
 ·exact Zeh w
 ·exact Zes w
 ·exact Zgk w
theorem Zbf(t:Int)(leaf:Bool)(n m v:Nat)(K:List Int)(Vs:List Bl)(ak av:O0)(ck cv:Nat)(w:World)(N:NodeOk t leaf n m v K Vs)(hKs:Sl w (.slice ak n ck) n (K.map V0))(hVs:Sl w (.slice av n cv) n (Vs.map sv)) :
 C0 171 #[.agg #[V0 t,.bool leaf,.slice ak n ck,.slice av n cv]] w (Ret (.bool true) w):=by
 have b6:=N.ht1
 have b2:=N.ht2
 have c6:=N.hn
 have c0:=En t leaf
 rw[N.hv] at c0
 have c3:=Yu t leaf
 rw[N.hm] at c3
 have b3:=fitN t leaf
 rw[N.hm,N.hv] at b3
 have c4:=Sl.cap hKs
 refine zin 91 Tryz.func171 ?_
 refine xa 2 [V0 t,.bool leaf,.slice ak n ck,.slice av n cv] 191 fun b1 W1 n1=>?_
 refine xd 5 .z ?_
 have k1:=n1.blk.below (Zb W1)
 refine xb (.e [0] 1) 0 k1 ?_
 refine xb (.e [2] 3) 1 k1 ?_
 refine xr (.o [] 4) (args:=#[V0 t,.bool leaf]) (Js t leaf v N.hv b6 b2 _) fun W2 b8=>?_
 refine xgk (.b [5,6]) [9,10] (show(((v:Int)==(0:Int)):Bool)=false from by simp;omega) ?_
 have a7:=k1.below b8
 refine xb (.e [7] 8) 2 a7 ?_
 refine xb (.e [9,10] 11) 0 a7 ?_
 refine xb (.e [12] 13) 1 a7 ?_
 refine xr (.o [] 14) (args:=#[V0 t,.bool leaf]) (Jn t leaf m N.hm b6 b2 _) fun W4 b9=>?_
 refine xgk (.b [15,16,17]) [19,20,21] (show(decide ((n:Int)>(m:Int)):Bool)=false from decide_eq_false M0) ?_
 have b0:=a7.below b9
 refine xb (.e [18] 19) 3 b0 ?_
 refine xb (.e [20,21] 22) 2 b0 ?_
 refine xk (.r [23,24,25] 2) (show(((n:Int) != (n:Int)):Bool)=false from by simp) ?_
 have hB:=bln (bln (bln n1.below (Zb W1)) b8) b9
 refine zl 9 91 (fun zm c1 V=>∃ (i:Nat),c1=[(1,P0 b1),(3,V0 (i:Int))]∧zm=n-((i:Int)).toNat∧B3 w V∧Blk V b1 ([V0 t,.bool leaf,.slice ak n ck,.slice av n cv]) 191∧i≤n) ⟨0,rfl,rfl,hB,b0,A3 _⟩ ?_
 rintro _ _ W6 ⟨i,rfl,rfl,a8,a2,hi⟩ J6 b7 r6
 refine xb 5 2 a2 ?_
 refine xid 4 ((i:Int)<(n:Int)) (fun c2=>?_) (fun c2=>?_)
 ·refine xd 5 .z ?_
  have a0:=a2.below (Zb W6)
  refine xb (.e [0] 1) 2 a0 ?_
  refine xx (.e [2] 3) _ n i 1 (IntsN.elem hKs N.hK (k:=i) M0).1 ?_
  have a4:=bln a8 (Zb W6)
  refine xl (.e [] 4) ((IntsN.elem (hKs.below a4) N.hK (k:=i) M0).2) ?_
  refine xgk (.b [5,6]) [42,43] (show(decide ((K.getD i 0)<(0:Int)):Bool)=false from decide_eq_false (by have:=N.hk0 i M0;omega)) ?_
  refine xb (.e [7] 8) 2 a0 ?_
  refine xx (.e [9] 10) _ n i 1 (IntsN.elem hKs N.hK (k:=i) M0).1 ?_
  refine xl (.e [] 11) ((IntsN.elem (hKs.below a4) N.hK (k:=i) M0).2) ?_
  refine xgk (.b [12,13,14]) [49,50,51] (show(decide ((K.getD i 0)>(281474976710655:Int)):Bool)=false from decide_eq_false (by have:=N.hk0 i M0;omega)) ?_
  refine xb (.e [15] 16) 3 a0 ?_
  refine xx (.e [17] 18) _ n i 1 (Strs.elem hVs N.hV (k:=i) M0).1 ?_
  refine xl (.e [] 19) ((Strs.elem (hVs.below a4) N.hV (k:=i) M0).2) ?_
  refine xb (.e [20,21] 22) 0 a0 ?_
  refine xb (.e [23] 24) 1 a0 ?_
  refine xr (.o [] 25) (args:=#[V0 t,.bool leaf]) (Js t leaf v N.hv b6 b2 _) fun c5 a6=>?_
  refine xgk (.b [26,27,28]) [63,64,65] (show(((↑(Vs.getD i []).length:Int) != (v:Int)):Bool)=false from by rw[N.hw i M0];simp) ?_
  refine xg (.b [29,30,31]) [67,68] (decide ((i:Int)>(0:Int))) (fun a3=>?_) (fun a3=>?_)
  ·have a3:=of_decide_eq_true a3
   have a1:=a0.below a6
   refine xb (.e [32] 33) 2 a1 ?_
   refine xx (.e [34] 35) _ n i 1 (IntsN.elem hKs N.hK (k:=i) M0).1 ?_
   have a9:=bln a4 a6
   refine xl (.e [] 36) ((IntsN.elem (hKs.below a9) N.hK (k:=i) M0).2) ?_
   refine xb (.e [37] 38) 2 a1 ?_
   refine xwm (.e [39] 40) ((i:Int)-1) (↑(i-1):Int) ?_
   refine xx (.e [] 41) _ n (i-1) 1 (IntsN.elem hKs N.hK (k:=(i-1)) M0).1 ?_
   refine xl (.e [] 42) ((IntsN.elem (hKs.below a9) N.hK (k:=(i-1)) M0).2) ?_
   refine xk (.r [43,44,45] 2) (show(decide ((K.getD i 0)≤(K.getD (i-1) 0)):Bool)=false from decide_eq_false (by have h9:=N.hk1 (i-1) M0;rw[show i-1+1=i by omega] at h9;omega)) ?_
   refine xwm 5 ((i:Int)+1) (↑(i+1):Int) ?_
   exact ze 2 (b7 _ _ _ ⟨i+1,rfl,rfl,a9,a1,by omega⟩ M0)
  have a3:=of_decide_eq_false a3
  refine xwm (.r [32,33,34,35,36,37,38,39,40,41,42,43,44,45] 8) ((i:Int)+1) (↑(i+1):Int) ?_
  have b5:=bln a4 a6
  have a5:=a0.below a6
  exact ze 2 (b7 _ _ _ ⟨i+1,rfl,rfl,b5,a5,by omega⟩ M0)
 refine xb 8 1 a2 ?_
 refine xg 1 [84,85] leaf (fun b4=>?_) (fun b4=>?_)
 ·exact xe 9 (.bool true) ⟨rfl,a8⟩
 refine xb 1 2 a2 ?_
 exact xe 7 (.bool (decide ((n:Int)>(0:Int)))) ⟨by rw[show decide ((n:Int)>(0:Int))=true from decide_eq_true (by have:=N.hl (by assumption);omega)],a8⟩
theorem leB_1(n:Int):leB n 1=[Zu n 0]:=rfl
theorem leB_2(n:Int):leB n 2=[Zu n 0,Zu n 1]:=rfl
theorem Lc{n:Int}(h:n<256):Zu n 1=0:=by
 unfold Zu
 rw[show n.toNat/256 ^ 1=0 from Nat.div_eq_of_lt M0];rfl
theorem Di{t:Int}{leaf:Bool}{n m v:Nat}(h1:0≤t)(hn:n≤18)(hm:m≤18)(hv:v≤24):(Qi t leaf n m v).map bv =
 [.int .u8 (Bt leaf),.int .u8 (Zu t 0).toNat,.int .u8 (Zu (n:Int) 0).toNat,.int .u8 0,.int .u8 (Zu (v:Int) 0).toNat,.int .u8 0,.int .u8 (Zu (m:Int) 0).toNat,.int .u8 0,.int .u8 0,.int .u8 0,.int .u8 0,.int .u8 0]:=by
 unfold Qi
 rw[leB_1,leB_1,leB_2,leB_2,leB_2,Lc (n:=(n:Int)) M0,Lc (n:=(v:Int)) M0,Lc (n:=(m:Int)) M0]
 cases leaf<;>rfl
theorem Nu(t:Int)(leaf:Bool)(n m v:Nat)(K:List Int)(Vs:List Bl)(ak av:O0)(ck cv:Nat)(w:World)(N:NodeOk t leaf n m v K Vs)(hKs:Sl w (.slice ak n ck) n (K.map V0))(hVs:Sl w (.slice av n cv) n (Vs.map sv)) :
 C0 106 #[.agg #[V0 t,.bool leaf,.slice ak n ck,.slice av n cv]] w (Qo (fun w' r=>∃ p c,r=.tuple #[.slice p 244 c,V0 0]∧w'.ownsRow w.heap.size 5 1 (.slice p 244 c) 244 ((Jz m v (Qi t leaf n m v) K Vs n).map bv)) w):=by
 have k2:=N.ht1
 have k1:=N.ht2
 have k3:=N.hn
 have k9:=En t leaf
 rw[N.hv] at k9
 have l4:=Yu t leaf
 rw[N.hm] at l4
 have c8:=fitN t leaf
 rw[N.hm,N.hv] at c8
 have l9:=Sl.cap hKs
 refine zin 79 Tryz.func106 ?_
 refine xa 2 [V0 t,.bool leaf,.slice ak n ck,.slice av n cv] 191 fun b1 W1 n1=>?_
 refine xlv 7 n1.blk.rp ?_
 refine xr 0 (args:=#[.agg #[V0 t,.bool leaf,.slice ak n ck,.slice av n cv]]) (Zbf t leaf n m v K Vs ak av ck cv _ N (hKs.below n1.below) (hVs.below n1.below)) fun W2 f2=>?_
 have c9:=n1.blk.below f2
 refine xb 9 0 c9 ?_
 refine xb 1 1 c9 ?_
 refine xr 0 (args:=#[V0 t,.bool leaf]) (Js t leaf v N.hv k2 k1 _) fun W3 e3=>?_
 have d0:=c9.below e3
 refine xb 6 0 d0 ?_
 refine xb 1 1 d0 ?_
 refine xr 0 (args:=#[V0 t,.bool leaf]) (Jn t leaf m N.hm k2 k1 _) fun W4 d8=>?_
 have c6:=d0.below d8
 refine xb 6 0 c6 ?_
 refine xq 0 (congrArg (Value.int .u8) (show(IntKind.u8.wrap t:Int)=(↑(Zu t 0).toNat:Int) from Mg M0)) ?_
 refine xb 1 2 c6 ?_
 refine xq 1 (congrArg (Value.int .u8) (show(IntKind.u8.wrap (n:Int):Int)=(↑(Zu (n:Int) 0).toNat:Int) from Mg M0)) ?_
 refine xq 1 (congrArg (Value.int .u8) (show(IntKind.u8.wrap (v:Int):Int)=(↑(Zu (v:Int) 0).toNat:Int) from Mg M0)) ?_
 refine xq 1 (congrArg (Value.int .u8) (show(IntKind.u8.wrap (m:Int):Int)=(↑(Zu (m:Int) 0).toNat:Int) from Mg M0)) ?_
 refine xbs 0 12 [.int .u8 0,.int .u8 (↑(Zu t 0).toNat:Int),.int .u8 (↑(Zu (n:Int) 0).toNat:Int),.int .u8 0,.int .u8 (↑(Zu (v:Int) 0).toNat:Int),.int .u8 0,.int .u8 (↑(Zu (m:Int) 0).toNat:Int),.int .u8 0,.int .u8 0,.int .u8 0,.int .u8 0,.int .u8 0] 5 fun b5 W5 n5=>?_
 have c7:=c6.below n5.below
 refine xb 7 1 c7 ?_
 refine xi 2 leaf (fun l2=>?_) (fun l2=>?_)
 ·refine xs 3 n5.blk [.int .u8 1,.int .u8 (↑(Zu t 0).toNat:Int),.int .u8 (↑(Zu (n:Int) 0).toNat:Int),.int .u8 0,.int .u8 (↑(Zu (v:Int) 0).toNat:Int),.int .u8 0,.int .u8 (↑(Zu (m:Int) 0).toNat:Int),.int .u8 0,.int .u8 0,.int .u8 0,.int .u8 0,.int .u8 0] fun W7 u7 k7=>?_
  have g5:=n5.ge (bln (bln (bln n1.below f2) e3) d8)
  have j0:leaf=true:=by assumption
  have g9:=Di (t:=t) (leaf:=leaf) (n:=n) (m:=m) (v:=v) M0 M0 M0 M0
  have j9:World.ownsRow W7 w.heap.size 5 1 (.slice (S1 b5) 12 12) 12 (((Qi t leaf n m v)++Xn K n 0).map bv):=by
   rw[show Xn K n 0=[] from rfl,F6,g9,show Bt leaf=1 by rw[j0];rfl]
   exact Zz (size:=1) (n:=12) k7 g5 rfl Do
  have i7:=u7.below (bln (bln (bln (bln n1.below f2) e3) d8) n5.below) g5
  have f5:=u7.blkT c7 n5.blk Do
  refine zl 9 79 (fun zm a9 V=>∃ (i q:Nat) (p:O0) (c:Nat),a9=[(1,P0 b1),(2,S0),(3,V0 0),(5,V0 (m:Int)),(6,.slice p q c),(7,V0 (i:Int))]∧zm=m-((i:Int)).toNat∧B3 w V∧Blk V b1 ([V0 t,.bool leaf,.slice ak n ck,.slice av n cv]) 191∧V.ownsRow w.heap.size 5 1 (.slice p q c) q (((Qi t leaf n m v)++Xn K n i).map bv)∧i≤m∧q=12+i*8) ⟨0,12,(S1 b5),12,rfl,rfl,i7,f5,j9,A3 _,rfl⟩ ?_
  rintro _ _ W8 ⟨i,q,p,c,rfl,rfl,a7,a4,ho,hi,hq⟩ J8 k4 r8
  refine xid 8 ((i:Int)<(m:Int)) (fun k8=>?_) (fun k8=>?_)
  ·refine xb 8 2 a4 ?_
   refine xid 4 ((i:Int)<(n:Int)) (fun i0=>?_) (fun i0=>?_)
   ·refine xb 3 2 a4 ?_
    refine xx 1 _ n i 1 (IntsN.elem hKs N.hK (k:=i) M0).1 ?_
    refine xl 0 ((IntsN.elem (hKs.below a7) N.hK (k:=i) M0).2) ?_
    refine xc 0 (args:=#[V0 (K.getD i 0),V0 8]) (Xf (K.getD i 0) 8 8 _ (N.hk0 i M0).1 (by have:=(N.hk0 i M0).2;omega) rfl Do) ?_
    rintro _ q1 ⟨_,rfl,d2,pk,ck,rfl,j3⟩
    have f3:=Za ho d2
    have d6:=Zf j3 a7.size
    have e6:=bln a7 d2
    refine xbi 0 fun _ _ _ _ zJ zQ zo zx zy zK=>Zr (m:=8) (news:=(leB (K.getD i 0) 8).map bv) (.int .u8 0) 1 1 (q+8) (((Qi t leaf n m v)++Xn K n (i+1)).map bv) zo Tryz.underlying50 K0 rfl Do zx f3 zy (Ze d6) (by simp[Zj]) (Xw _) (by unfold maxLen;omega) M0 e6.size (by rfl) (by rw[Qe,if_pos M0];simp) fun p4 n6 p1 l8 g1 i2=>?_
    refine zK _ _ ?_
    refine xwm 6 ((i:Int)+1) (↑(i+1):Int) ?_
    have j8:=e6.trans i2
    have b9:=(a4.below d2).grown g1 f3 Do
    exact ze 2 (k4 _ _ _ ⟨i+1,_,_,_,rfl,rfl,j8,b9,l8,by omega,by omega⟩ M0)
   refine xbi 2 (t2:=3) fun _ _ _ _ zJ zQ zo zx zy zK=>Tt (kq:=.i64) 8 (q+8) (((Qi t leaf n m v)++Xn K n (i+1)).map bv) zo Tryz.underlying50 Tryz.underlying3 K0 zx ho zy M0 M0 a7.size (by rfl) (by rw[Qe,if_neg M0];simp[bv]) fun m9 o2 n4 m3 f9 h5=>?_
   refine zK _ _ ?_
   refine xwm 6 ((i:Int)+1) (↑(i+1):Int) ?_
   have g2:=a7.trans h5
   have c0:=a4.grown f9 ho Do
   exact ze 2 (k4 _ _ _ ⟨i+1,_,_,_,rfl,rfl,g2,c0,m3,by omega,by omega⟩ M0)
  have j7:i=m:=by omega
  have g3:World.ownsRow W8 w.heap.size 5 1 (.slice p q c) q (((Qi t leaf n m v)++Xn K n m++Yi Vs 0).map bv):=by
   have e9:Xn K n m=Xn K n i:=by rw[j7]
   rw[e9,show Yi Vs 0=[] from rfl,F6];exact ho
  refine zl 12 79 (fun zm a9 V=>∃ (j q:Nat) (p:O0) (c:Nat),a9=[(1,P0 b1),(2,S0),(3,V0 0),(6,.slice p q c),(8,V0 (j:Int))]∧zm=n-((j:Int)).toNat∧B3 w V∧Blk V b1 ([V0 t,.bool leaf,.slice ak n ck,.slice av n cv]) 191∧V.ownsRow w.heap.size 5 1 (.slice p q c) q (((Qi t leaf n m v)++Xn K n m++Yi Vs j).map bv)∧j≤n∧q=12+m*8+j*v) ⟨0,q,p,c,rfl,rfl,a7,a4,g3,A3 _,by omega⟩ ?_
  rintro _ _ l0 ⟨j,q,p,c,rfl,rfl,a6,a3,a8,hj,k6⟩ p0 g0 p3
  have m0:j<n→j*v+v≤m*v:=fun h=>by have h9:(j+1)*v≤m*v:=E7 v M0;rw[D6,E0] at h9;exact h9
  refine xb 5 3 a3 ?_
  refine xid 4 ((j:Int)<(n:Int)) (fun i4=>?_) (fun i4=>?_)
  ·refine xb 7 3 a3 ?_
   refine xx 1 _ n j 1 (Strs.elem hVs N.hV (k:=j) M0).1 ?_
   refine xl 0 ((Strs.elem (hVs.below a6) N.hV (k:=j) M0).2) ?_
   refine xbi 0 (t2:=9) fun _ _ _ _ zJ zQ zo zx zy zK=>Eo (Vs.getD j []) (q+v) (((Qi t leaf n m v)++Xn K n m++Yi Vs (j+1)).map bv) zo Tryz.underlying50 Tryz.underlying9 K0 zx a8 zy (by rw[N.hw j M0];omega) a6.size (by rw[N.hw j M0]) (by rw[Gx];simp) fun o7 o1 n3 l7 g7 j4=>?_
   refine zK _ _ ?_
   refine xwm 6 ((j:Int)+1) (↑(j+1):Int) ?_
   have j5:=a6.trans j4
   have b6:=a3.grown g7 a8 Do
   exact ze 2 (g0 _ _ _ ⟨j+1,_,_,_,rfl,rfl,j5,b6,l7,by omega,by rw[D6,E0];omega⟩ M0)
  have c4:j=n:=by omega
  have j6:World.ownsRow l0 w.heap.size 5 1 (.slice p q c) q (((Qi t leaf n m v)++Xn K n m++Yi Vs n++List.replicate 0 0).map bv):=by
   have e9:Yi Vs n=Yi Vs j:=by rw[c4]
   rw[List.replicate_zero,F6,e9];exact a8
  refine zl 7 79 (fun zm a9 V=>∃ (z q:Nat) (p:O0) (c:Nat),a9=[(2,S0),(3,V0 0),(6,.slice p q c)]∧zm=244-q∧B3 w V∧Blk V b1 ([V0 t,.bool leaf,.slice ak n ck,.slice av n cv]) 191∧V.ownsRow w.heap.size 5 1 (.slice p q c) q (((Qi t leaf n m v)++Xn K n m++Yi Vs n++List.replicate z 0).map bv)∧q=12+m*8+n*v+z∧q≤244) ⟨0,q,p,c,rfl,rfl,a6,a3,j6,by rw[←c4];omega,by have h9:n*v≤m*v:=E7 v M0;have h8:j*v=n*v:=congrArg (fun x=>x*v) c4;omega⟩ ?_
  rintro _ _ m6 ⟨z,q,p,c,rfl,rfl,c3,d1,ho,hz,m1⟩ p6 h4 q8
  refine xid 8 ((q:Int)<(244:Int)) (fun f7=>?_) (fun f7=>?_)
  ·refine xbs 5 1 [.int .u8 0] 5 fun n8 q3 d7=>?_
   have j1:=Zg ho d7
   have d4:=Za ho d7.below
   have e0:=bln c3 d7.below
   refine xbi 0 fun _ _ _ _ zJ zQ zo zx zy zK=>Zr (m:=1) (news:=[.int .u8 0]) (.int .u8 0) 1 1 (q+1) (((Qi t leaf n m v)++Xn K n m++Yi Vs n++List.replicate (z+1) 0).map bv) zo Tryz.underlying50 K0 rfl Do zx d4 zy (d7.blk.sl 1 1 Do Do) rfl (by simp[Value.oneCell']) (by unfold maxLen;omega) M0 e0.size (by rfl) (by rw[List.replicate_succ'];simp[bv]) fun o0 q4 q6 l5 h6 h7=>?_
   refine zK _ _ ?_
   have h1:=e0.trans h7
   have b0:=(d1.below d7.below).grown h6 d4 Do
   exact ze 3 (h4 _ _ _ ⟨z+1,_,_,_,rfl,rfl,h1,b0,l5,by omega,by omega⟩ M0)
  refine xe 13 (.tuple #[.slice p q c,V0 0]) ?_
  obtain rfl:q=244:=by omega
  rw[Mu (Up _ _ _ _ _) c8 k3 (fun j hj=>N.hw j hj)]
  exact⟨_,rfl,c3,_,_,rfl,by rw[show 232-m*8-n*v=z by omega];exact ho⟩
 have j0:leaf=false:=by assumption
 have g5:=n5.ge (bln (bln (bln n1.below f2) e3) d8)
 have g9:=Di (t:=t) (leaf:=leaf) (n:=n) (m:=m) (v:=v) M0 M0 M0 M0
 have j9:World.ownsRow W5 w.heap.size 5 1 (.slice (S1 b5) 12 12) 12 (((Qi t leaf n m v)++Xn K n 0).map bv):=by
  rw[show Xn K n 0=[] from rfl,F6,g9,show Bt leaf=0 by rw[j0];rfl]
  exact Zz (size:=1) (n:=12) n5.blk g5 rfl Do
 have f8:=bln (bln (bln (bln n1.below f2) e3) d8) n5.below
 refine zl 9 79 (fun zm a9 V=>∃ (i q:Nat) (p:O0) (c:Nat),a9=[(1,P0 b1),(2,S0),(3,V0 0),(5,V0 (m:Int)),(6,.slice p q c),(7,V0 (i:Int))]∧zm=m-((i:Int)).toNat∧B3 w V∧Blk V b1 ([V0 t,.bool leaf,.slice ak n ck,.slice av n cv]) 191∧V.ownsRow w.heap.size 5 1 (.slice p q c) q (((Qi t leaf n m v)++Xn K n i).map bv)∧i≤m∧q=12+i*8) ⟨0,12,(S1 b5),12,rfl,rfl,f8,c7,j9,A3 _,rfl⟩ ?_
 rintro _ _ m4 ⟨i,q,p,c,rfl,rfl,a1,a0,ho,hi,hq⟩ q9 e7 p2
 refine xid 8 ((i:Int)<(m:Int)) (fun i5=>?_) (fun i5=>?_)
 ·refine xb 8 2 a0 ?_
  refine xid 4 ((i:Int)<(n:Int)) (fun h3=>?_) (fun h3=>?_)
  ·refine xb 3 2 a0 ?_
   refine xx 1 _ n i 1 (IntsN.elem hKs N.hK (k:=i) M0).1 ?_
   refine xl 0 ((IntsN.elem (hKs.below a1) N.hK (k:=i) M0).2) ?_
   refine xc 0 (args:=#[V0 (K.getD i 0),V0 8]) (Xf (K.getD i 0) 8 8 _ (N.hk0 i M0).1 (by have:=(N.hk0 i M0).2;omega) rfl Do) ?_
   rintro _ n9 ⟨_,rfl,c5,pk,ck,rfl,j3⟩
   have e4:=Za ho c5
   have e8:=Zf j3 a1.size
   have e1:=bln a1 c5
   refine xbi 0 fun _ _ _ _ zJ zQ zo zx zy zK=>Zr (m:=8) (news:=(leB (K.getD i 0) 8).map bv) (.int .u8 0) 1 1 (q+8) (((Qi t leaf n m v)++Xn K n (i+1)).map bv) zo Tryz.underlying50 K0 rfl Do zx e4 zy (Ze e8) (by simp[Zj]) (Xw _) (by unfold maxLen;omega) M0 e1.size (by rfl) (by rw[Qe,if_pos M0];simp) fun o5 q7 p5 m5 f4 j2=>?_
   refine zK _ _ ?_
   refine xwm 6 ((i:Int)+1) (↑(i+1):Int) ?_
   have e2:=e1.trans j2
   have b8:=(a0.below c5).grown f4 e4 Do
   exact ze 2 (e7 _ _ _ ⟨i+1,_,_,_,rfl,rfl,e2,b8,m5,by omega,by omega⟩ M0)
  refine xbi 2 (t2:=3) fun _ _ _ _ zJ zQ zo zx zy zK=>Tt (kq:=.i64) 8 (q+8) (((Qi t leaf n m v)++Xn K n (i+1)).map bv) zo Tryz.underlying50 Tryz.underlying3 K0 zx ho zy M0 M0 a1.size (by rfl) (by rw[Qe,if_neg M0];simp[bv]) fun n7 p7 o8 l1 h2 k0=>?_
  refine zK _ _ ?_
  refine xwm 6 ((i:Int)+1) (↑(i+1):Int) ?_
  have d9:=a1.trans k0
  have b7:=a0.grown h2 ho Do
  exact ze 2 (e7 _ _ _ ⟨i+1,_,_,_,rfl,rfl,d9,b7,l1,by omega,by omega⟩ M0)
 have j7:i=m:=by omega
 have g3:World.ownsRow m4 w.heap.size 5 1 (.slice p q c) q (((Qi t leaf n m v)++Xn K n m++Yi Vs 0).map bv):=by
  have e9:Xn K n m=Xn K n i:=by rw[j7]
  rw[e9,show Yi Vs 0=[] from rfl,F6];exact ho
 refine zl 12 79 (fun zm a9 V=>∃ (j q:Nat) (p:O0) (c:Nat),a9=[(1,P0 b1),(2,S0),(3,V0 0),(6,.slice p q c),(8,V0 (j:Int))]∧zm=n-((j:Int)).toNat∧B3 w V∧Blk V b1 ([V0 t,.bool leaf,.slice ak n ck,.slice av n cv]) 191∧V.ownsRow w.heap.size 5 1 (.slice p q c) q (((Qi t leaf n m v)++Xn K n m++Yi Vs j).map bv)∧j≤n∧q=12+m*8+j*v) ⟨0,q,p,c,rfl,rfl,a1,a0,g3,A3 _,by omega⟩ ?_
 rintro _ _ l3 ⟨j,q,p,c,rfl,rfl,a5,a2,b3,hj,k5⟩ q5 h0 p9
 have m0:j<n→j*v+v≤m*v:=fun h=>by have h9:(j+1)*v≤m*v:=E7 v M0;rw[D6,E0] at h9;exact h9
 refine xb 5 3 a2 ?_
 refine xid 4 ((j:Int)<(n:Int)) (fun i6=>?_) (fun i6=>?_)
 ·refine xb 7 3 a2 ?_
  refine xx 1 _ n j 1 (Strs.elem hVs N.hV (k:=j) M0).1 ?_
  refine xl 0 ((Strs.elem (hVs.below a5) N.hV (k:=j) M0).2) ?_
  refine xbi 0 (t2:=9) fun _ _ _ _ zJ zQ zo zx zy zK=>Eo (Vs.getD j []) (q+v) (((Qi t leaf n m v)++Xn K n m++Yi Vs (j+1)).map bv) zo Tryz.underlying50 Tryz.underlying9 K0 zx b3 zy (by rw[N.hw j M0];omega) a5.size (by rw[N.hw j M0]) (by rw[Gx];simp) fun n0 p8 o9 l6 i8 i1=>?_
  refine zK _ _ ?_
  refine xwm 6 ((j:Int)+1) (↑(j+1):Int) ?_
  have f1:=a5.trans i1
  have b2:=a2.grown i8 b3 Do
  exact ze 2 (h0 _ _ _ ⟨j+1,_,_,_,rfl,rfl,f1,b2,l6,by omega,by rw[D6,E0];omega⟩ M0)
 have c4:j=n:=by omega
 have j6:World.ownsRow l3 w.heap.size 5 1 (.slice p q c) q (((Qi t leaf n m v)++Xn K n m++Yi Vs n++List.replicate 0 0).map bv):=by
  have e9:Yi Vs n=Yi Vs j:=by rw[c4]
  rw[List.replicate_zero,F6,e9];exact b3
 refine zl 7 79 (fun zm a9 V=>∃ (z q:Nat) (p:O0) (c:Nat),a9=[(2,S0),(3,V0 0),(6,.slice p q c)]∧zm=244-q∧B3 w V∧Blk V b1 ([V0 t,.bool leaf,.slice ak n ck,.slice av n cv]) 191∧V.ownsRow w.heap.size 5 1 (.slice p q c) q (((Qi t leaf n m v)++Xn K n m++Yi Vs n++List.replicate z 0).map bv)∧q=12+m*8+n*v+z∧q≤244) ⟨0,q,p,c,rfl,rfl,a5,a2,j6,by rw[←c4];omega,by have h9:n*v≤m*v:=E7 v M0;have h8:j*v=n*v:=congrArg (fun x=>x*v) c4;omega⟩ ?_
 rintro _ _ o6 ⟨z,q,p,c,rfl,rfl,c1,d3,ho,hz,m1⟩ m8 i3 o4
 refine xid 8 ((q:Int)<(244:Int)) (fun g6=>?_) (fun g6=>?_)
 ·refine xbs 5 1 [.int .u8 0] 5 fun n2 o3 e5=>?_
  have i9:=Zg ho e5
  have f0:=Za ho e5.below
  have c2:=bln c1 e5.below
  refine xbi 0 fun _ _ _ _ zJ zQ zo zx zy zK=>Zr (m:=1) (news:=[.int .u8 0]) (.int .u8 0) 1 1 (q+1) (((Qi t leaf n m v)++Xn K n m++Yi Vs n++List.replicate (z+1) 0).map bv) zo Tryz.underlying50 K0 rfl Do zx f0 zy (e5.blk.sl 1 1 Do Do) rfl (by simp[Value.oneCell']) (by unfold maxLen;omega) M0 c2.size (by rfl) (by rw[List.replicate_succ'];simp[bv]) fun q0 q2 m7 m2 g8 f6=>?_
  refine zK _ _ ?_
  have d5:=c2.trans f6
  have b4:=(d3.below e5.below).grown g8 f0 Do
  exact ze 3 (i3 _ _ _ ⟨z+1,_,_,_,rfl,rfl,d5,b4,m2,by omega,by omega⟩ M0)
 refine xe 13 (.tuple #[.slice p q c,V0 0]) ?_
 obtain rfl:q=244:=by omega
 rw[Mu (Up _ _ _ _ _) c8 k3 (fun j hj=>N.hw j hj)]
 exact⟨_,rfl,c1,_,_,rfl,by rw[show 232-m*8-n*v=z by omega];exact ho⟩
theorem Iy{n m:Nat}(hm:1≤m)(h:n≤m):ovN n m=1:=by
 unfold ovN
 have:(n+m-1)/m≤1:=by
  rw[H6 M0];omega
 omega
theorem ovN_step{n m:Nat}(hm:1≤m)(h:m<n):ovN n m=ovN (n-m) m+1:=by
 unfold ovN
 have e:n+m-1=(n-m+m-1)+m:=by omega
 rw[e,Nat.add_div_right _ M0]
 have:1≤(n-m+m-1)/m:=by
  rw[Nat.le_div_iff_mul_le M0];omega
 omega
theorem Zkz{n:Nat}{t:Int}(hn:n≤32768)(h1:1≤t)(h2:t≤5):ovN n (Vg t true)≤32768:=by
 have h6:6≤Vg t true:=by
  unfold Vg;repeat' split
  all_goals first|decide|simp_all
 unfold ovN
 have:(n+Vg t true-1)/Vg t true≤32768:=by
   rw[H6 M0]
   have:=E7 32768 h6
   omega
 omega
theorem Dl(n m:Nat)(w:World)(hn:n≤32768)(hm:1≤m)(hm2:m≤32768) :
 C0 186 #[V0 (n:Int),V0 (m:Int)] w (Qo (fun w' r=>∃ p c,r=.slice p (ovN n m) c) w):=by
 refine zin 30 Tryz.func186 ?_
 refine xgk 11 [7,8] (show(decide ((n:Int)<(0:Int)):Bool)=false from decide_eq_false M0) ?_
 refine xgk 4 [10,11,12] (show(decide ((n:Int)>(32768:Int)):Bool)=false from decide_eq_false M0) ?_
 refine xk 5 (show(decide ((m:Int)<(1:Int)):Bool)=false from decide_eq_false M0) ?_
 have hB:=Below.refl w.heap.size w
 refine zl 9 30 (fun zm b1 V=>∃ (j k:Nat) (p:O0) (c:Nat) (xs:List Value),b1=[(0,V0 (k:Int)),(1,V0 (m:Int)),(4,S0),(5,.slice p j c)]∧zm=((k:Int)).toNat+1∧B3 w V∧V.ownsRow w.heap.size 3 1 (.slice p j c) j xs∧j+ovN k m=ovN n m∧k≤n∧j+k≤n) ⟨0,n,none,0,[],rfl,rfl,hB,A4 _ _ _ _,F1 _,A6 _,by omega⟩ ?_
 rintro _ _ W3 ⟨j,k,p,c,xs,rfl,rfl,a0,ho,hj,hk,b8⟩ J3 b0 r3
 refine xid 8 ((k:Int)>(m:Int)) (fun b2=>?_) (fun b2=>?_)
 ·refine xbs 7 1 [V0 (m:Int)] 3 fun b5 W5 n5=>?_
  have a7:=Zg ho n5
  have a4:=Za ho n5.below
  have a1:=bln a0 n5.below
  refine xbi 0 fun _ _ _ _ zJ zQ zo zx zy zK=>Zr (m:=1) (news:=[V0 (m:Int)]) (V0 0) 1 8 (j+1) (xs++[V0 (m:Int)]) zo Tryz.underlying27 K0 rfl Do zx a4 zy (n5.blk.sl 1 1 Do Do) rfl (by simp[Value.oneCell']) (by unfold maxLen;omega) M0 a1.size (by rfl) (by rfl) fun p6 c6 W6 o6 b6 a9=>?_
  refine zK _ _ ?_
  refine xwm 6 ((k:Int)-(m:Int)) (↑(k-m):Int) ?_
  have a5:=a1.trans a9
  exact ze 3 (b0 _ _ _ ⟨j+1,(k-m),_,_,_,rfl,rfl,a5,o6,by have:=ovN_step hm (n:=k) M0;omega,by omega,by omega⟩ M0)
 refine xbs 9 1 [V0 (k:Int)] 3 fun b7 W7 n7=>?_
 have a8:=Zg ho n7
 have a3:=Za ho n7.below
 have a2:=bln a0 n7.below
 refine xbi 0 fun _ _ _ _ zJ zQ zo zx zy zK=>Zr (m:=1) (news:=[V0 (k:Int)]) (V0 0) 1 8 (j+1) (xs++[V0 (k:Int)]) zo Tryz.underlying27 K0 rfl Do zx a3 zy (n7.blk.sl 1 1 Do Do) rfl (by simp[Value.oneCell']) (by unfold maxLen;omega) M0 a2.size (by rfl) (by rfl) fun p8 c8 W8 o8 b4 b3=>?_
 refine zK _ _ ?_
 have a6:=a2.trans b3
 refine xe 4 (.slice p8 (j+1) c8) ?_
 have e:=Iy hm (n:=k) M0
 exact⟨_,rfl,a6,_,_,by rw[show ovN n m=j+1 by omega]⟩
theorem Zak(t:Int)(n:Nat)(w:World)(h1:1≤t)(h2:t≤5)(hn:n≤32768) :
 C0 118 #[V0 t,V0 (n:Int)] w (Qo (fun w' r=>∃ p c,r=.slice p (Qv t n).length c∧w'.ownsRow w.heap.size 3 1 (.slice p (Qv t n).length c) (Qv t n).length ((Qv t n).map nv)) w):=by
 have a9:=(Yu t true).1
 have d1:=(Yu t true).2
 have d4:=Dy n (Vg t true) a9
 have c4:=Qs n (Vg t true)
 refine zin 37 Tryz.func118 ?_
 refine xr 9 (args:=#[V0 t,.bool true]) (Jn t true _ rfl h1 h2 _) fun W1 b2=>?_
 refine xgk 2 [9,10] (show(((↑(Vg t true):Int)==(0:Int)):Bool)=false from by simp;omega) ?_
 refine xgk 4 [12,13,14] (show(decide ((n:Int)<(0:Int)):Bool)=false from decide_eq_false M0) ?_
 refine xk 5 (show(decide ((n:Int)>(32768:Int)):Bool)=false from decide_eq_false M0) ?_
 refine xr 6 (args:=#[V0 t,.bool true]) (Jn t true _ rfl h1 h2 _) fun W4 b5=>?_
 refine xc 0 (args:=#[V0 (n:Int),V0 (↑(Vg t true):Int)]) (Dl n (Vg t true) _ hn a9 M0) ?_
 rintro _ W5 ⟨_,rfl,b0,p1,c1,rfl⟩
 refine xbs 7 1 [V0 (↑(ovN n (Vg t true)):Int)] 3 fun b6 W6 n6=>?_
 have g6:=n6.ge (bln (bln b2 b5) b0)
 have hB:=bln (bln (bln b2 b5) b0) n6.below
 refine zl 5 37 (fun zm b8 V=>∃ (j x:Nat) (xs:List Nat) (p:O0) (c:Nat),b8=[(0,V0 t),(4,S0),(5,V0 (x:Int)),(6,.slice p (j+1) c)]∧zm=40000-(j+1)∧B3 w V∧V.ownsRow w.heap.size 3 1 (.slice p (j+1) c) (j+1) ((xs++[x]).map nv)∧xs.length=j∧1≤x∧x≤32768∧xs++Fz x=Qv t n∧j+x≤40000) ⟨0,(ovN n (Vg t true)),[],(S1 b6),1,rfl,rfl,hB,Zz (size:=1) (n:=1) n6.blk g6 rfl (by unfold maxLen;decide),rfl,c4,Zkz hn h1 h2,rfl,by omega⟩ ?_
 rintro _ _ W7 ⟨j,x,xs,p,c,rfl,rfl,a2,ho,b4,c6,b7,b3,hj⟩ J7 c5 r7
 refine xid 7 ((x:Int)>(1:Int)) (fun b9=>?_) (fun b9=>?_)
 ·refine xr 7 (args:=#[V0 t,.bool false]) (Jn t false 18 rfl h1 h2 _) fun W9 b1=>?_
  refine xc 0 (args:=#[V0 (x:Int),V0 18]) (Dl x 18 _ b7 Do Do) ?_
  rintro _ d0 ⟨_,rfl,a0,p2,c2,rfl⟩
  refine xbs 7 1 [V0 (↑(ovN x 18):Int)] 3 fun c9 d3 a4=>?_
  have a1:=Za (Za ho b1) a0
  have a7:=Zg a1 a4
  have a6:=Za a1 a4.below
  have a3:=bln (bln (bln a2 b1) a0) a4.below
  refine xbi 0 fun _ _ _ _ zJ zQ zo zx zy zK=>Zr (m:=1) (news:=[V0 (↑(ovN x 18):Int)]) (V0 0) 1 8 (j+1+1) (((xs++[x])++[ovN x 18]).map nv) zo Tryz.underlying27 K0 rfl Do zx a6 zy (a4.blk.sl 1 1 Do Do) rfl (by simp[Value.oneCell']) (by unfold maxLen;omega) M0 a3.size (by rfl) (by simp[nv]) fun d2 c8 c7 c3 c0 a5=>?_
  refine zK _ _ ?_
  have d5:=ov18 (x:=x) M0
  have a8:=a3.trans a5
  exact ze 3 (c5 _ _ _ ⟨j+1,(ovN x 18),xs++[x],_,_,rfl,rfl,a8,c3,by simp[b4],Qs _ _,by omega,by rw[←b3,Ke (x:=x) M0];simp,by omega⟩ M0)
 refine xe 12 (.slice p (j+1) c) ?_
 have e:Qv t n=xs++[x]:=by rw[←b3,Kq (x:=x) M0]
 have el:(Qv t n).length=j+1:=by rw[e];simp[b4]
 exact⟨_,rfl,a2,p,c,by rw[el],by rw[el,e];exact ho⟩
theorem Yj(t:Int)(n:Nat)(w:World)(h1:1≤t)(h2:t≤5)(hn:n≤32768) :
 C0 58 #[V0 t,V0 (n:Int)] w (Ret (V0 (Zw t n:Int)) w):=by
 refine zin 24 Tryz.func58 ?_
 refine xc 9 (args:=#[V0 t,V0 (n:Int)]) (Zak t n _ h1 h2 hn) ?_
 rintro _ W1 ⟨_,rfl,a3,p,c,rfl,ho⟩
 have a2:=A6 w.heap.size
 have a1:=Zf ho a2
 refine zl 15 24 (fun zm a5 V=>∃ (k:Nat),a5=[(4,V0 0),(5,.slice p ((Qv t n).length) c),(6,V0 (↑((Qv t n).take k).sum:Int)),(7,V0 (k:Int))]∧zm=(Qv t n).length-((k:Int)).toNat∧B3 w V∧V.ownsRow w.heap.size 3 1 (.slice p (Qv t n).length c) (Qv t n).length ((Qv t n).map nv)∧k≤(Qv t n).length) ⟨0,rfl,rfl,a3,a1,A3 _⟩ ?_
 rintro _ _ W2 ⟨k,rfl,rfl,a0,ho,hk⟩ J2 a6 r2
 have a8:=Zdr t n
 have a2:=Yp t n
 unfold Zw at a2
 have a9:=Zky (L:=Qv t n) (k+1)
 have a7:k<(Qv t n).length→((Qv t n).take (k+1)).sum=((Qv t n).take k).sum+(Qv t n).getD k 0:=Cm
 refine xid 9 ((k:Int)<(↑((Qv t n).length):Int)) (fun a4=>?_) (fun a4=>?_)
 ·refine xx 8 _ ((Qv t n).length) k 1 (Jv (Ze ho) rfl (k:=k) M0).1 ?_
  refine xl 0 ((Jv (Ze ho) rfl (k:=k) M0).2) ?_
  refine xwm 0 ((↑((Qv t n).take k).sum:Int)+(↑((Qv t n).getD k 0):Int)) (↑(((Qv t n).take k).sum+((Qv t n).getD k 0)):Int) ?_
  refine xwm 6 ((k:Int)+1) (↑(k+1):Int) ?_
  refine xv1 2 6 (show(V0 (↑(((Qv t n).take k).sum+((Qv t n).getD k 0)):Int):Value)=V0 (↑((Qv t n).take (k+1)).sum:Int) from by rw[Cm M0]) ?_
  exact ze 0 (a6 _ _ _ ⟨k+1,rfl,rfl,a0,ho,by omega⟩ M0)
 refine xe 12 (V0 (↑((Qv t n).take k).sum:Int)) ?_
 have e:k=(Qv t n).length:=by omega
 subst e
 rw[K1]
 exact⟨rfl,a0⟩
theorem ImgR.mono{B B' b:Nat}{p:O0}{n c:Nat}{l:Bl}{w:World}(h:ImgR B b p n c l w)(hB:B'≤B):ImgR B' b p n c l w:=⟨h.blk,Zf h.row hB,h.hn⟩
def WroteR(B b:Nat)(p:O0)(n c:Nat)(l:Bl)(w:World)(e:Ending)(w':World):Prop :=
 e=.returned .nilIface∧Below B w w'∧Zd [5] w w'∧ImgR B b p n c l w'
theorem On(B b:Nat)(p:O0)(n c k:Nat)(ki:Int)(l:Bl)(kind:Int)(a:O0)(ca m:Nat)(li:Bl)(w:World)(hki:ki=(k:Int))(hm:li.length=m)(hI:ImgR B b p n c l w)(hk:k<n/256)(h1:1≤kind)(h2:kind≤4)(hin:Bys w (.slice a m ca) li)(hl:m≤244)(hBw:B≤w.heap.size) :
 C0 47 #[P0 b,V0 ki,V0 kind,.slice a m ca] w (WroteR B b p n c (Km l (k*256) (Ja kind k li)) w):=by
 subst hki hm
 obtain⟨g,rfl,hc⟩:=hI.base M0
 refine(Et B b g n c k l kind a ca li w hI.blk hI.row hI.hn hc hk h1 h2 hin hl hBw).mono ?_
 rintro e W ⟨rfl,hb,hO,_,ho⟩
 exact⟨rfl,hb,hO,hI.blk.only hO Do,ho,hI.hn⟩
def erT (er:Int):Option Int:=if er=0 then none else some er
structure AlG(B ba b:Nat)(pa:Option Addr)(N ca k:Nat)(L:List Int)(w:World):Prop where
 blk:Blk w ba [.slice pa N ca,.int .i64 (k:Int),.pointer (some ⟨b,0,none⟩)] 169
 nums:w.ownsRow B 3 1 (.slice pa N ca) N (L.map (Value.int .i64))
 hL:L.length=N
 hB:B≤ba
 hN:N≤1000000
 hk:k≤N
theorem AlG.below{B ba b:Nat}{pa:O0}{N ca k:Nat}{L:List Int}{w W:World}(h:AlG B ba b pa N ca k L w)(hb:B3 w W):AlG B ba b pa N ca k L W:=⟨h.blk.below hb,Za h.nums hb,h.hL,h.hB,h.hN,h.hk⟩
theorem AlG.only{B ba b:Nat}{pa:O0}{N ca k:Nat}{L:List Int}{w W:World}{T:List TypeId}(h:AlG B ba b pa N ca k L w)(hO:Zd T w W)(hT:T.contains 169=false∧T.contains 3=false):AlG B ba b pa N ca k L W:=⟨h.blk.only hO hT.1,Zi h.nums hO hT.2,h.hL,h.hB,h.hN,h.hk⟩
theorem AlG.mono{B B' ba b:Nat}{pa:O0}{N ca k:Nat}{L:List Int}{w:World}(h:AlG B ba b pa N ca k L w)(hB:B'≤B):AlG B' ba b pa N ca k L w:=⟨h.blk,Zf h.nums hB,h.hL,N0 hB h.hB,h.hN,h.hk⟩
def Fv(K:Nat)(L:List Int):Bool:=L.all fun x=>decide (1≤x∧x<(K:Int))
def Zec(L:List Int):Bool:=(List.range (L.length-1)).all fun i=>decide (L.getD i 0<L.getD (i+1) 0)
def Bu(K:Nat)(L:List Int):Int:=if Fv K L then(if Zec L then 0 else 8) else 1
theorem Lf{K:Nat}{L:List Int}(h:∀ j,j<L.length→1≤L.getD j 0∧L.getD j 0<(K:Int)):Fv K L=true:=by
 unfold Fv
 rw[If]
 intro x hx
 obtain⟨j,hj,rfl⟩:=List.mem_iff_getElem.1 hx
 have:=h j hj
 simpa [List.getD,hj] using this
theorem Zj4{K:Nat}{L:List Int}(h:Fv K L=true){j:Nat}(hj:j<L.length):1≤L.getD j 0∧L.getD j 0<(K:Int):=by
 unfold Fv at h
 rw[If] at h
 have:=h L[j] (E5 hj)
 simpa [List.getD,hj] using this
theorem Ff{K:Nat}{L:List Int}{j:Nat}(hj:j<L.length)(h:¬ (1≤L.getD j 0∧L.getD j 0<(K:Int))):Fv K L=false:=by
 cases hg:Fv K L with
 | false=>rfl
 | true=>exact absurd (Zj4 hg hj) h
theorem Sj{L:List Int}(h:∀ j,j+1<L.length→L.getD j 0<L.getD (j+1) 0):Zec L=true:=by
 unfold Zec
 rw[If]
 intro j hj
 exact decide_eq_true (h j (by have:=D9.1 hj;omega))
theorem Za4{L:List Int}{j:Nat}(hj:j+1<L.length)(h:¬ L.getD j 0<L.getD (j+1) 0):Zec L=false:=by
 unfold Zec
 rw[List.all_eq_false]
 exact⟨j,D9.2 M0,by simpa using h⟩
theorem Cq(l:List Int):∀ u∈l.map V0,u.oneCell'=true:=by
 intro u hu
 obtain⟨x,_,rfl⟩:=List.mem_map.1 hu
 rfl
theorem Zg7(p:Addr)(N c:Nat)(xs:List Value)(w:World)(h:Sl w (.slice (some p) N c) N xs)(hl:xs.length=N)(h1:∀ u∈xs,u.oneCell'=true)(hn:N≤1000000) :
 C0 135 #[.slice (some p) N c] w (Qo (fun w' r=>∃ q c2,r=.slice q N c2∧w'.ownsRow w.heap.size 3 1 (.slice q N c2) N xs) w):=by
 refine zin 8 Tryz.func135 ?_
 refine xb0 17 3 fun b1 W1 n1=>?_
 have o1:=Zz (size:=1) (n:=0) n1.blk (n1.ge (B4 w)) rfl Do
 refine xbi 1 fun _ _ _ _ zJ zQ zo zx zy zK=>Zr (m:=N) (news:=xs) (V0 0) 1 8 (N) (xs) zo Tryz.underlying27 K0 rfl Do zx o1 zy (h.below n1.below) (by rw[hl,D5]) h1 (by unfold maxLen;omega) M0 n1.below.size M0 (by rfl) fun a1 a3 W2 o2 a4 a2=>?_
 refine zK _ _ ?_
 have a0:=n1.below.trans a2
 exact xe 4 (.slice a1 N a3) ⟨_,rfl,a0,_,_,rfl,o2⟩
theorem Fx(w:World) :
 C0 135 #[S0] w (Ret (S0) w):=by
 refine zin 8 Tryz.func135 ?_
 exact xe 20 (S0) ⟨rfl,(B4 w)⟩
theorem Zb9(a:O0)(N c:Nat)(xs:List Value)(w:World)(h:Sl w (.slice a N c) N xs)(hc:a=none→c=0)(hl:xs.length=N)(h1:∀ u∈xs,u.oneCell'=true)(hn:N≤1000000) :
 C0 135 #[.slice a N c] w (Qo (fun w' r=>∃ q c2,r=.slice q N c2∧w'.ownsRow w.heap.size 3 1 (.slice q N c2) N xs) w):=by
 cases a with
 | some p=>exact Zg7 p N c xs w h hl h1 hn
 | none =>
  have hN:N=0∧xs=[]:=by
   rcases h with ⟨a',c',h2,h3,h4⟩|⟨b',a1,a0,h2,_⟩
   ·simp only[B6] at h2;exact⟨h2.2.1,h4⟩
   ·cases h2
  obtain⟨rfl,rfl⟩:=hN
  obtain rfl:=hc rfl
  refine(Fx w).mono ?_
  rintro e W ⟨rfl,hb⟩
  exact⟨_,rfl,hb,none,0,rfl,A4 _ _ _ _⟩
theorem sl_cut{w:World}{b:O0}{n c:Nat}{xs:List Value}(h:Sl w (.slice b n c) n xs)(hl:xs.length=n)(k:Nat)(hk:k≤n):Sl w (.slice (Uf b k c 1) (n-k) (c-k)) (n-k) (xs.drop k):=by
 rcases h with ⟨a',c',h1,h2,h3⟩|⟨g,a0,a1,h1,h2,h3,h4⟩
 ·obtain rfl:k=0:=by omega
  subst h3 h2
  exact .inl ⟨Uf b 0 c 1,c-0,rfl,rfl,rfl⟩
 ·simp only[B6] at h1
  obtain⟨rfl,_,rfl⟩:=h1
  by_cases hz:n-k=0
  ·refine .inl ⟨Uf (some ⟨g,a0,none⟩) k c 1,c-k,by rw[hz],by omega,?_⟩
   exact D7 M0
  ·refine .inr ⟨g,a0+k*1,c-k,?_,by omega,by omega,fun j x hj=>?_⟩
   ·rw[Uf,if_neg M0];simp[Addr.add]
   ·rw[Eq] at hj
    have:=h4 (k+j) x hj
    rwa [D5,D4]
theorem sl_take{w:World}{b:O0}{n c:Nat}{xs:List Value}(h:Sl w (.slice b n c) n xs)(hl:xs.length=n)(m:Nat)(hm:m≤n):Sl w (.slice b m c) m (xs.take m):=Sl.head h hl m hm
def lyE (k N K:Nat)(L:List Int)(kind:Int)(li:Bl):Int:=if k<N then wrE kind (L.getD k 0) K li else 14
def lyB (k N K:Nat)(L:List Int)(kind:Int)(li:Bl):List Int:=if k<N then Lo (L.getD k 0) (wrE kind (L.getD k 0) K li) else []
def lyV (k N K:Nat)(L:List Int)(kind:Int)(li:Bl):Int:=if k<N∧wrE kind (L.getD k 0) K li=0 then L.getD k 0 else 0
def lyK (k N K:Nat)(L:List Int)(kind:Int)(li:Bl):Nat:=if k<N∧wrE kind (L.getD k 0) K li=0 then k+1 else k
def lyL (k N K:Nat)(L:List Int)(kind:Int)(li l:Bl):Bl:=if k<N then wrL kind (L.getD k 0) K li l else l
theorem aheadSl{w:World}{b:O0}{n c k i:Nat}{L:List Int}(h:Sl w (.slice b n c) n (L.map V0))(hl:L.length=n)(hk:k≤n):Sl w (.slice (Uf b k c 1) (min i (n-k)) (c-k)) (min i (n-k)) (((L.drop k).take i).map V0):=by
 have h1:=sl_cut h (by simpa using hl) k hk
 have h2:=sl_take h1 (by simp[hl]) (min i (n-k)) M0
 rw[←H7,←Gt] at h2
 have e:(L.drop k).take (min i (n-k))=(L.drop k).take i:=by
  rcases Nat.le_total i (n-k) with q|q
  ·rw[F7 q]
  ·rw[Nat.min_eq_right q,A1 (by simp[hl]),A1 (by simp[hl];omega)]
 rw[e] at h2
 exact h2
theorem aheadN{w:World}{B:Nat}{b:O0}{n c k:Nat}{xs:List Value}{e size:Nat}(h:w.ownsRow B e size (.slice b n c) n xs):Uf b k c 1=none→c-k=0:=by
 intro hn
 have hb:b=none:=by
  unfold Uf at hn
  split at hn
  ·exact hn
  ·simpa using hn
 subst hb
 rcases h.2 with ⟨h2,_⟩|⟨g,a0,a1,h2,_⟩
 ·simp only[B6] at h2;omega
 ·cases h2
theorem Zbm(B ba b:Nat)(p0:O0)(N ca k i:Nat)(L:List Int)(w:World)(hA:AlG B ba b p0 N ca k L w)(hi:i≤1000000) :
 C0 158 #[P0 ba,V0 (i:Int)] w (Qo (fun w' r=>∃ q c2,r=.slice q (min i (N-k)) c2∧w'.ownsRow w.heap.size 3 1 (.slice q (min i (N-k)) c2) (min i (N-k)) (((L.drop k).take i).map V0)) w):=by
 have hk:=hA.blk
 have a4:=hA.hk
 have hL:=hA.hL
 have hN:=hA.hN
 have a9:N≤ca:=by
  rcases F9 N with q|q
  ·omega
  ·exact Ao hA.nums q
 refine zin 23 Tryz.func158 ?_
 refine xr 9 (args:=#[P0 ba]) (Kz ba b _ _ _ hk) fun W1 a0=>?_
 refine xid 6 ((i:Int)<(1:Int)) (fun a8=>?_) (fun a8=>?_)
 ·refine xe 7 (S0) ?_
  obtain rfl:i=0:=by omega
  exact⟨_,rfl,a0,none,0,by rw[Nat.zero_min],by rw[Nat.zero_min,List.take_zero];exact A4 _ _ _ _⟩
 have a2:=hk.below a0
 refine xr 7 (args:=#[P0 ba]) (Sf ba p0 N ca k _ _ a2 a4) fun W3 a5=>?_
 refine xq 9 (congrArg V0 (show(if(↑(N-k):Int)<(i:Int) then(↑(N-k):Int) else(i:Int):Int)=(↑(min i (N-k)):Int) from Zcz i (N-k))) ?_
 refine xsH 0 (fun _ _ _ _ zo zx zy V=>Gd (k:=(min i (N-k))) (b:=(Uf p0 k ca 1)) (n:=(N-k)) (c:=(ca-k)) (i:=(↑(min i (N-k)):Int)) (ki:=.i64) zo zx zy rfl M0 Tryz.underlying27 K0 V) ?_
 have hB:=bln a0 a5
 refine xc 0 (args:=#[.slice (Uf p0 k ca 1) (min i (N-k)) (ca-k)]) (Zb9 (Uf p0 k ca 1) (min i (N-k)) (ca-k) (((L.drop k).take i).map V0) _ (aheadSl (Ze (Za hA.nums hB)) hL a4) (aheadN hA.nums) (by simp;omega) (Cq _) M0) ?_
 rintro _ W4 ⟨_,rfl,a7,pq,cq,rfl,hq⟩
 have a6:=(bln a0 a5).size
 have a3:=bln hB a7
 have a1:=Zf hq a6
 exact xe 4 (.slice pq (min i (N-k)) cq) ⟨_,rfl,a3,_,_,rfl,a1⟩
structure RAl(B bc bm:Nat)(pg:Option Addr)(N cg:Nat)(fa:Option Addr)(m fc k:Nat)(L:List Int)(w:World):Prop where
 blk:Blk w bc [.pointer (some ⟨bm,0,none⟩),.slice fa m fc,.int .i64 (k:Int)] 189
 nums:w.ownsRow B 3 1 (.slice pg N cg) N (L.map (Value.int .i64))
 hfree:0<m→fa=Uf pg k cg 1∧fc=cg-k
 hm:m+k=N
 hL:L.length=N
 hB:B≤bc
 hN:N≤1000000
theorem RAl.below{B bc bm:Nat}{pg:O0}{N cg:Nat}{fa:O0}{m fc k:Nat}{L:List Int}{w W:World}(h:RAl B bc bm pg N cg fa m fc k L w)(hb:B3 w W):RAl B bc bm pg N cg fa m fc k L W:=⟨h.blk.below hb,Za h.nums hb,h.hfree,h.hm,h.hL,h.hB,h.hN⟩
theorem RAl.only{B bc bm:Nat}{pg:O0}{N cg:Nat}{fa:O0}{m fc k:Nat}{L:List Int}{w W:World}{T:List TypeId}(h:RAl B bc bm pg N cg fa m fc k L w)(hO:Zd T w W)(hT:T.contains 189=false∧T.contains 3=false):RAl B bc bm pg N cg fa m fc k L W:=⟨h.blk.only hO hT.1,Zi h.nums hO hT.2,h.hfree,h.hm,h.hL,h.hB,h.hN⟩
theorem RAl.mono{B B' bc bm:Nat}{pg:O0}{N cg:Nat}{fa:O0}{m fc k:Nat}{L:List Int}{w:World}(h:RAl B bc bm pg N cg fa m fc k L w)(hB:B'≤B):RAl B' bc bm pg N cg fa m fc k L w:=⟨h.blk,Zf h.nums hB,h.hfree,h.hm,h.hL,N0 hB h.hB,h.hN⟩
theorem Df{w:World}{pg:O0}{N cg:Nat}{fa:O0}{m fc k:Nat}{L:List Int}(h:Sl w (.slice pg N cg) N (L.map V0))(hf:0<m→fa=Uf pg k cg 1∧fc=cg-k)(hm:m+k=N)(hL:L.length=N):Sl w (.slice fa m fc) m ((L.drop k).map V0):=by
 rcases F9 m with rfl|hp
 ·rw[D7 M0];exact .inl ⟨fa,fc,rfl,rfl,rfl⟩
 ·obtain⟨rfl,rfl⟩:=hf hp
  have:=sl_cut h (by simpa using hL) k M0
  rw[show N-k=m by omega,←H7] at this
  exact this
theorem Gb{w:World}{fa:O0}{m fc k:Nat}{L:List Int}(h:Sl w (.slice fa m fc) m ((L.drop k).map V0))(hL:L.length=m+k){i:Nat}(hi:i<m):fa.isSome=true∧w.cell? (Xa fa (i*1))=some (V0 (L.getD (k+i) 0)):=by
 have:=IntsN.elem h (by simp;omega) hi
 rwa [show(L.drop k).getD i 0=L.getD (k+i) 0 by simp[List.getD,Eq]] at this
theorem Zi1(g c:Nat):Uf (S1 g) 0 c 1=some ⟨g,0,none⟩:=by
 unfold Uf;split
 ·rfl
 ·simp[Addr.add]
theorem Zh5{w:World}{B N cg k:Nat}{pg:O0}{xs:List Value}{e size:Nat}(h:w.ownsRow B e size (.slice pg N cg) N xs)(hk:k+1<N):Uf (Uf pg k cg 1) 1 (cg-k) 1=Uf pg (k+1) cg 1∧cg-k-1=cg-(k+1):=by
 have hc:=Ao h M0
 obtain⟨g,rfl,_⟩:=Qf h M0
 refine⟨?_,by omega⟩
 unfold Uf
 rw[if_neg M0,if_neg M0,if_neg M0]
 by_cases h0:k=0
 ·subst h0;simp[Addr.add]
 ·simp[Addr.add,h0]
def Took16(B bc bm:Nat)(pg:O0)(N cg k:Nat)(L:List Int)(v:Value)(w:World)(e:Ending)(w':World):Prop :=
 ∃ fa m fc,e=.returned v∧Below B w w'∧Zd [189] w w'∧RAl B bc bm pg N cg fa m fc k L w'
theorem Mk(B bc bm:Nat)(pg:O0)(N cg:Nat)(fa:O0)(m fc k:Nat)(L:List Int)(w:World)(hA:RAl B bc bm pg N cg fa m fc k L w)(hBw:B≤w.heap.size)(h0:0<m) :
 C0 172 #[P0 bc] w (Took16 B bc bm pg N cg (k+1) L (.tuple #[V0 (L.getD (k+0) 0),.agg #[S0,V0 0]]) w):=by
 have hk:=hA.blk
 have hr:=hA.nums
 have hm:=hA.hm
 have hL:=hA.hL
 have hN:=hA.hN
 refine zin 35 Tryz.func172 ?_
 refine xa 3 [S0,V0 0] 44 fun b1 W1 n1=>?_
 have a0:=hk.below n1.below
 refine xb 8 1 a0 ?_
 refine xk 4 (show(((m:Int)==(0:Int)):Bool)=false from by simp;omega) ?_
 refine xb 7 1 a0 ?_
 have a1:=Za hr n1.below
 refine xx 0 _ m 0 1 (Gb (Df (Ze a1) hA.hfree hm hL) M0 (i:=0) M0).1 ?_
 refine xl 0 ((Gb (Df (Ze a1) hA.hfree hm hL) M0 (i:=0) M0).2) ?_
 refine xb 9 1 a0 ?_
 refine xsL 0 (fun _ _ _ _ zo zx zy V=>Py (k:=1) (b:=fa) (n:=m) (c:=fc) (i:=1) (ki:=.i64) 1 zo zx zy rfl M0 Tryz.underlying27 K0 V) ?_
 refine xs 2 a0 [P0 bm,.slice (Uf fa 1 fc 1) (m-1) (fc-1),V0 (k:Int)] fun W2 u2 k2=>?_
 refine xb 7 2 k2 ?_
 refine xwm 0 ((k:Int)+1) (↑(k+1):Int) ?_
 refine xs 2 k2 [P0 bm,.slice (Uf fa 1 fc 1) (m-1) (fc-1),V0 (↑(k+1):Int)] fun W3 u3 k3=>?_
 have k1:=u3.blkT (u2.blkT n1.blk a0 Do) k2 Do
 refine xsv 7 k1 [S0,V0 0] fun W4 u4 k4=>?_
 have g1:=n1.ge0 (Below.refl B _)
 have hB:=u4.below (u3.below (u2.below (blB (Below.refl B w) hBw n1.below) hA.hB) hA.hB) (N0 hBw g1)
 have hO:=(Zd.upd_new (((show Zd [189] w _ from(Zd.of_below n1.below)).trans (Zd.of_upd u2 a0 Do)).trans (Zd.of_upd u3 k2 Do)) u4 g1)
 have a3:=u4.blkT k3 k1 Do
 have a2:=u4.own2 (u3.own2 (u2.own2 a1 a0 Do) k2 Do) k1 Do
 exact xec 3 k4 (.tuple #[V0 (L.getD (k+0) 0),.agg #[S0,V0 0]]) ⟨_,_,_,rfl,hB,hO,a3,a2,fun hp=>by rw[(hA.hfree h0).1,(hA.hfree h0).2];exact Zh5 a2 M0,by omega,hL,hA.hB,hN⟩
theorem Zhu{w w':World}(h:Zd [189] w w'):Zd [189,9] w w':=h.mono fun t ht=>by simp at ht ⊢;exact ht.1
theorem Tx{w w':World}(h:Zd [9] w w'):Zd [189,9] w w':=h.mono fun t ht=>by simp at ht ⊢;exact ht.2
def RLayG(B bc bm:Nat)(pg:O0)(N cg k:Nat)(L:List Int)(p:O0)(K c:Nat)(l:Bl)(kind:Int)(li:Bl)(w:World)(e:Ending)(w':World):Prop :=
 ∃ a c2 fa m fc,e=.returned (.tuple #[V0 (lyV k N K L kind li),.agg #[.slice a (lyB k N K L kind li).length c2,V0 (lyE k N K L kind li)]])∧Below B w w'∧Zd [189,9] w w'∧RAl B bc bm pg N cg fa m fc (lyK k N K L kind li) L w'∧RefI B bm p K c (lyL k N K L kind li l) w' ∧
  w'.ownsRow B 3 1 (.slice a (lyB k N K L kind li).length c2) (lyB k N K L kind li).length ((lyB k N K L kind li).map V0)
theorem Av(B bc bm:Nat)(pg:O0)(N cg:Nat)(fa:O0)(m fc k:Nat)(L:List Int)(p:O0)(K c:Nat)(l:Bl)(kind:Int)(a:O0)(ci:Nat)(li:Bl)(w:World)(hA:RAl B bc bm pg N cg fa m fc k L w)(hI:RefI B bm p K c l w)(hin:∀ W,Below B w W→Zd [189,9] w W→Bys W (.slice a li.length ci) li)(hBw:B≤w.heap.size)(h0:m=0) :
 C0 107 #[P0 bc,V0 kind,.slice a li.length ci] w (Ret (.tuple #[V0 0,.agg #[S0,V0 14]]) w):=by
 have hk:=hA.blk
 refine zin 37 Tryz.func107 ?_
 refine xa 3 [S0,V0 0] 44 fun b1 W1 n1=>?_
 have a0:=hk.below n1.below
 refine xb 8 1 a0 ?_
 refine xk 4 (show(((m:Int)==(0:Int)):Bool)=true from by subst h0;rfl) ?_
 refine xsv 4 n1.blk [S0,V0 14] fun W2 u2 k2=>?_
 have g1:=n1.ge (B4 w)
 have hB:=u2.below n1.below g1
 exact xec 4 k2 (.tuple #[V0 0,.agg #[S0,V0 14]]) ⟨rfl,hB⟩
theorem Iz(B bc bm:Nat)(pg:O0)(N cg:Nat)(fa:O0)(m fc k:Nat)(L:List Int)(p:O0)(K c:Nat)(l:Bl)(kind:Int)(a:O0)(ci:Nat)(li:Bl)(w:World)(hA:RAl B bc bm pg N cg fa m fc k L w)(hI:RefI B bm p K c l w)(hin:∀ W,Below B w W→Zd [189,9] w W→Bys W (.slice a li.length ci) li)(hBw:B≤w.heap.size)(h0:0<m) :
 C0 107 #[P0 bc,V0 kind,.slice a li.length ci] w (RLayG B bc bm pg N cg k L p K c l kind li w):=by
 have hk:=hA.blk
 have hr:=hA.nums
 have hm:=hA.hm
 have hL:=hA.hL
 have hN:=hA.hN
 have a1:k<N:=by omega
 refine zin 37 Tryz.func107 ?_
 refine xa 3 [S0,V0 0] 44 fun b1 W1 n1=>?_
 have c4:=hk.below n1.below
 refine xb 8 1 c4 ?_
 refine xk 4 (show(((m:Int)==(0:Int)):Bool)=false from by simp;omega) ?_
 refine xd 3 (.t B [9,44]) ?_
 have a4:=c4.below (Zb W1)
 refine xbt (.e [0,1,2] 3) 0 B [9,44] a4 ?_
 refine xbt (.e [4,5,6] 7) 1 B [9,44] a4 ?_
 have a6:=Za (Za hr n1.below) (Zb W1)
 refine xx (.e [] 8) _ m 0 1 (Gb (Df (Ze a6) hA.hfree hm hL) M0 (i:=0) M0).1 ?_
 refine xlt (.e [] 9) (.t B [9,44]) (fun V hV=>(Gb (Df (Ze (Zi a6 hV.2 Do)) hA.hfree hm hL) M0 (i:=0) M0).2) ?_
 refine xm2 (.b [10,11]) 12 13 ?_ ?_
 ·have hB:=blB (blB (Below.refl B w) hBw n1.below) hBw (Zb W1)
  have d8:B≤(W1.drew).heap.size:=N0 hBw hB.size
  have d2:=(hI.below n1.below).below (Zb W1)
  have hO:=(show Zd [189,9] w _ from(Zd.of_below n1.below)).trans (Zd.of_below (Zb W1))
  refine yc 0 (args:=#[P0 bm,V0 (L.getD (k+0) 0),V0 kind,.slice a li.length ci]) (.t B [9,44]) (Er B bm p K c l (L.getD (k+0) 0) kind a ci li _ d2 (hin _ hB hO) (N0 hBw hB.size)) ?_
  rintro _ W2 ⟨a5,c5,rfl,c9,a9,hI,h5⟩
  refine⟨(Hd c9 a9),?_⟩
  replace h5:=Zf h5 d8
  refine xa (.o [] 13) [S0,V0 0] 44 fun b3 W3 n3=>?_
  have k1:=(n1.blk.below (Zb W1)).only a9 Do
  have b0:=n3.ne k1
  have g3:=n3.ge0 (hB.trans c9)
  refine ysv (.o [] 14) n3.blk [.slice a5 ((Lo (L.getD (k+0) 0) (wrE kind (L.getD (k+0) 0) K li)).length) c5,V0 (wrE kind (L.getD (k+0) 0) K li)] (.t B [9,44]) fun W4 u4 k4=>⟨(Xb u4 n3.blk (N0 hBw g3) Do),?_⟩
  refine xb 6 1 k4 ?_
  refine xin 3 (wrE kind (L.getD (k+0) 0) K li) (0:Int) (fun f2=>?_) (fun f2=>?_)
  ·have e5:wrE kind (L.getD k 0) K li≠0:=f2
   refine xd 1 (.t B [44]) ?_
   have d9:=k4.below (Zb W4)
   refine xlv (.o [1] 0) d9.rp ?_
   have a7:=(u4.blk (k1.below n3.below) b0).below (Zb W4)
   have g1:=n1.ge0 (Below.refl B _)
   refine ysv (.o [] 2) a7 [.slice a5 ((Lo (L.getD (k+0) 0) (wrE kind (L.getD (k+0) 0) K li)).length) c5,V0 (wrE kind (L.getD (k+0) 0) K li)] (.t B [44]) fun W6 u6 k6=>⟨(Xb u6 a7 (N0 hBw g1) Do),?_⟩
   have e3:=u6.below (blB (u4.below (blB (hB.trans c9) hBw n3.below) (N0 hBw g3)) hBw (Zb W4)) (N0 hBw g1)
   have e4:=(Zd.upd_new ((Zd.upd_new ((hO.trans (Tx a9)).trans (Zd.of_below n3.below)) u4 g3).trans (Zd.of_below (Zb W4))) u6 g1)
   have d0:=u6.blkT ((u4.blkT ((a4.only a9 Do).below n3.below) n3.blk Do).below (Zb W4)) a7 Do
   have f7:=u6.own2 (Za (u4.own2 (Za (Zi a6 a9 Do) n3.below) n3.blk Do) (Zb W4)) a7 Do
   have g2:=(((hI.below n3.below).only (Zd.of_upd (T:=[44]) u4 n3.blk Do) Do).below (Zb W4)).only (Zd.of_upd (T:=[44]) u6 a7 Do) Do
   have f4:=u6.own2 (Za (u4.own2 (Za h5 n3.below) n3.blk Do) (Zb W4)) a7 Do
   refine xec 4 k6 (.tuple #[V0 0,.agg #[.slice a5 ((Lo (L.getD (k+0) 0) (wrE kind (L.getD (k+0) 0) K li)).length) c5,V0 (wrE kind (L.getD (k+0) 0) K li)]]) ?_
   have h2:¬ (k<N∧wrE kind (L.getD k 0) K li=0):=fun h=>e5 h.2
   exact⟨a5,c5,_,_,_,by rw[lyV,if_neg h2,lyE,if_pos a1,lyB,if_pos a1];rfl,e3,e4,by rw[lyK,if_neg h2];exact⟨d0,f7,hA.hfree,hm,hL,hA.hB,hN⟩,by rw[lyL,if_pos a1];exact g2,by rw[lyB,if_pos a1];exact f4⟩
  have d1:wrE kind (L.getD k 0) K li=0:=f2
  have f5:=u4.blkT ((a4.only a9 Do).below n3.below) n3.blk Do
  have f9:=u4.own2 (Za (Zi a6 a9 Do) n3.below) n3.blk Do
  have c7:=u4.below (blB (hB.trans c9) hBw n3.below) (N0 hBw g3)
  refine xc 5 (args:=#[P0 bc]) (Mk B bc bm pg N cg fa m fc k L _ ⟨f5,f9,hA.hfree,hm,hL,hA.hB,hN⟩ (N0 hBw c7.size) M0) ?_
  rintro _ W7 ⟨h1,m2,g7,rfl,h4,e2,e7⟩
  have b8:=(u4.blk (k1.below n3.below) b0).only e2 Do
  refine xsv 3 b8 [S0,V0 0] fun W8 u8 k8=>?_
  have g1:=n1.ge0 (Below.refl B _)
  have f1:=u8.below (c7.trans h4) (N0 hBw g1)
  have f0:=(Zd.upd_new ((Zd.upd_new ((hO.trans (Tx a9)).trans (Zd.of_below n3.below)) u4 g3).trans (Zhu e2)) u8 g1)
  have c3:=e7.only (Zd.of_upd (T:=[44]) u8 b8 Do) Do
  have e1:=(((hI.below n3.below).only (Zd.of_upd (T:=[44]) u4 n3.blk Do) Do).only e2 Do).only (Zd.of_upd (T:=[44]) u8 b8 Do) Do
  refine xec 3 k8 (.tuple #[V0 (L.getD (k+0) 0),.agg #[S0,V0 0]]) ?_
  have h2:k<N∧wrE kind (L.getD k 0) K li=0:=⟨a1,d1⟩
  have h3:Lo (L.getD k 0) (wrE kind (L.getD k 0) K li)=[]:=by rw[h2.2];rfl
  exact⟨none,0,_,_,_,by rw[lyV,if_pos h2,lyE,if_pos a1,lyB,if_pos a1,h3,h2.2];rfl,f1,f0,by rw[lyK,if_pos h2];exact c3,by rw[lyL,if_pos a1];exact e1,by rw[lyB,if_pos a1,h3];exact A4 _ _ _ _⟩
 refine xa 0 [S0,V0 0] 44 fun b9 W9 n9=>?_
 have k1:=n1.blk.below (Zb W1)
 have a8:=n9.ne k1
 have hB:=blB (blB (blB (Below.refl B w) hBw n1.below) hBw (Zb W1)) hBw n9.below
 have d8:B≤(W9).heap.size:=N0 hBw hB.size
 have d6:=((hI.below n1.below).below (Zb W1)).below n9.below
 have hO:=((show Zd [189,9] w _ from(Zd.of_below n1.below)).trans (Zd.of_below (Zb W1))).trans (Zd.of_below n9.below)
 refine yc (.o [] 12) (args:=#[P0 bm,V0 (L.getD (k+0) 0),V0 kind,.slice a li.length ci]) (.t B [9,44]) (Er B bm p K c l (L.getD (k+0) 0) kind a ci li _ d6 (hin _ hB hO) (N0 hBw hB.size)) ?_
 rintro _ h6 ⟨a5,c5,rfl,b4,a0,hI,h5⟩
 refine⟨(Hd b4 a0),?_⟩
 replace h5:=Zf h5 d8
 have k9:=n9.blk.only a0 Do
 have g9:=n9.ge0 (blB (blB (Below.refl B w) hBw n1.below) hBw (Zb W1))
 refine ysv (.o [] 14) k9 [.slice a5 ((Lo (L.getD (k+0) 0) (wrE kind (L.getD (k+0) 0) K li)).length) c5,V0 (wrE kind (L.getD (k+0) 0) K li)] (.t B [9,44]) fun b2 a2 g5=>⟨(Xb a2 k9 (N0 hBw g9) Do),?_⟩
 refine xb 6 1 g5 ?_
 refine xin 3 (wrE kind (L.getD (k+0) 0) K li) (0:Int) (fun b6=>?_) (fun b6=>?_)
 ·have e5:wrE kind (L.getD k 0) K li≠0:=b6
  refine xd 1 (.t B [44]) ?_
  have c1:=g5.below (Zb b2)
  refine xlv (.o [1] 0) c1.rp ?_
  have a3:=(a2.blk ((k1.below n9.below).only a0 Do) a8).below (Zb b2)
  have g1:=n1.ge0 (Below.refl B _)
  refine ysv (.o [] 2) a3 [.slice a5 ((Lo (L.getD (k+0) 0) (wrE kind (L.getD (k+0) 0) K li)).length) c5,V0 (wrE kind (L.getD (k+0) 0) K li)] (.t B [44]) fun h9 c0 g8=>⟨(Xb c0 a3 (N0 hBw g1) Do),?_⟩
  have d4:=c0.below (blB (a2.below (hB.trans b4) (N0 hBw g9)) hBw (Zb b2)) (N0 hBw g1)
  have g0:=(Zd.upd_new ((Zd.upd_new (hO.trans (Tx a0)) a2 g9).trans (Zd.of_below (Zb b2))) c0 g1)
  have e9:=c0.blkT ((a2.blkT ((a4.below n9.below).only a0 Do) k9 Do).below (Zb b2)) a3 Do
  have e8:=c0.own2 (Za (a2.own2 (Zi (Za a6 n9.below) a0 Do) k9 Do) (Zb b2)) a3 Do
  have e6:=((hI.only (Zd.of_upd (T:=[44]) a2 k9 Do) Do).below (Zb b2)).only (Zd.of_upd (T:=[44]) c0 a3 Do) Do
  have d5:=c0.own2 (Za (a2.own2 h5 k9 Do) (Zb b2)) a3 Do
  refine xec 4 g8 (.tuple #[V0 0,.agg #[.slice a5 ((Lo (L.getD (k+0) 0) (wrE kind (L.getD (k+0) 0) K li)).length) c5,V0 (wrE kind (L.getD (k+0) 0) K li)]]) ?_
  have h2:¬ (k<N∧wrE kind (L.getD k 0) K li=0):=fun h=>e5 h.2
  exact⟨a5,c5,_,_,_,by rw[lyV,if_neg h2,lyE,if_pos a1,lyB,if_pos a1];rfl,d4,g0,by rw[lyK,if_neg h2];exact⟨e9,e8,hA.hfree,hm,hL,hA.hB,hN⟩,by rw[lyL,if_pos a1];exact e6,by rw[lyB,if_pos a1];exact d5⟩
 have d1:wrE kind (L.getD k 0) K li=0:=b6
 have d7:=a2.blkT ((a4.below n9.below).only a0 Do) k9 Do
 have f8:=a2.own2 (Zi (Za a6 n9.below) a0 Do) k9 Do
 have c2:=a2.below (hB.trans b4) (N0 hBw g9)
 refine xc 5 (args:=#[P0 bc]) (Mk B bc bm pg N cg fa m fc k L _ ⟨d7,f8,hA.hfree,hm,hL,hA.hB,hN⟩ (N0 hBw c2.size) M0) ?_
 rintro _ h7 ⟨h1,m2,g7,rfl,f6,b7,e7⟩
 have b5:=(a2.blk ((k1.below n9.below).only a0 Do) a8).only b7 Do
 refine xsv 3 b5 [S0,V0 0] fun h8 c8 g6=>?_
 have g1:=n1.ge0 (Below.refl B _)
 have d3:=c8.below (c2.trans f6) (N0 hBw g1)
 have f3:=(Zd.upd_new ((Zd.upd_new (hO.trans (Tx a0)) a2 g9).trans (Zhu b7)) c8 g1)
 have c6:=e7.only (Zd.of_upd (T:=[44]) c8 b5 Do) Do
 have e0:=((hI.only (Zd.of_upd (T:=[44]) a2 k9 Do) Do).only b7 Do).only (Zd.of_upd (T:=[44]) c8 b5 Do) Do
 refine xec 3 g6 (.tuple #[V0 (L.getD (k+0) 0),.agg #[S0,V0 0]]) ?_
 have h2:k<N∧wrE kind (L.getD k 0) K li=0:=⟨a1,d1⟩
 have h3:Lo (L.getD k 0) (wrE kind (L.getD k 0) K li)=[]:=by rw[h2.2];rfl
 exact⟨none,0,_,_,_,by rw[lyV,if_pos h2,lyE,if_pos a1,lyB,if_pos a1,h3,h2.2];rfl,d3,f3,by rw[lyK,if_pos h2];exact c6,by rw[lyL,if_pos a1];exact e0,by rw[lyB,if_pos a1,h3];exact A4 _ _ _ _⟩
theorem Zjy(B bc bm:Nat)(pg:O0)(N cg:Nat)(fa:O0)(m fc k:Nat)(L:List Int)(p:O0)(K c:Nat)(l:Bl)(kind:Int)(a:O0)(ci:Nat)(li:Bl)(w:World)(hA:RAl B bc bm pg N cg fa m fc k L w)(hI:RefI B bm p K c l w)(hin:∀ W,Below B w W→Zd [189,9] w W→Bys W (.slice a li.length ci) li)(hBw:B≤w.heap.size) :
 C0 107 #[P0 bc,V0 kind,.slice a li.length ci] w (RLayG B bc bm pg N cg k L p K c l kind li w):=by
 have hm:=hA.hm
 rcases F9 m with h0|h0
 ·refine(Av B bc bm pg N cg fa m fc k L p K c l kind a ci li w hA hI hin hBw h0).mono ?_
  rintro e W ⟨rfl,hb⟩
  have hk:¬ k<N:=by omega
  have h2:¬ (k<N∧wrE kind (L.getD k 0) K li=0):=fun h=>hk h.1
  exact⟨none,0,_,_,_,by rw[lyV,if_neg h2,lyE,if_neg hk,lyB,if_neg hk];rfl,hb.mono hBw,Zd.of_below hb,by rw[lyK,if_neg h2];exact hA.below hb,by rw[lyL,if_neg hk];exact hI.below hb,by rw[lyB,if_neg hk];exact A4 _ _ _ _⟩
 ·exact Iz B bc bm pg N cg fa m fc k L p K c l kind a ci li w hA hI hin hBw h0
theorem Zip(B bc bm:Nat)(pg:O0)(N cg:Nat)(fa:O0)(m fc k j:Nat)(L:List Int)(w:World)(hA:RAl B bc bm pg N cg fa m fc k L w)(hj:j≤1000000) :
 C0 180 #[P0 bc,V0 (j:Int)] w (Qo (fun w' r=>∃ q c2,r=.slice q (min j (N-k)) c2∧w'.ownsRow w.heap.size 3 1 (.slice q (min j (N-k)) c2) (min j (N-k)) (((L.drop k).take j).map V0)) w):=by
 have hk:=hA.blk
 have hm:=hA.hm
 have hL:=hA.hL
 have hN:=hA.hN
 have hf:=Df (Ze hA.nums) hA.hfree hA.hm hA.hL
 refine zin 32 Tryz.func180 ?_
 have hB:=Below.refl w.heap.size w
 refine zl 17 32 (fun zm b2 V=>∃ (i:Nat) (pq:O0) (cq:Nat),b2=[(0,P0 bc),(1,V0 (j:Int)),(4,S0),(5,.slice pq i cq),(6,V0 (i:Int))]∧zm=j-((i:Int)).toNat∧B3 w V∧Blk V bc ([P0 bm,.slice fa m fc,V0 (k:Int)]) 189∧V.ownsRow w.heap.size 3 1 (.slice pq i cq) i (((L.drop k).take i).map V0)∧i≤min j m) ⟨0,_,_,rfl,rfl,hB,hk,A4 _ _ _ _,A3 _⟩ ?_
 rintro _ _ W1 ⟨i,pq,cq,rfl,rfl,a1,a0,hq,hi⟩ J1 b3 r1
 refine xg 7 [9,10] (decide ((i:Int)<(j:Int))) (fun a5=>?_) (fun a5=>?_)
 ·have a5:=of_decide_eq_true a5
  refine xb 4 1 a0 ?_
  refine xid 5 ((i:Int)<(m:Int)) (fun b0=>?_) (fun b0=>?_)
  ·refine xb 9 1 a0 ?_
   refine xx 1 _ m i 1 (Gb hf M0 (i:=i) M0).1 ?_
   refine xl 0 ((Gb (hf.below a1) M0 (i:=i) M0).2) ?_
   refine xbs 0 1 [V0 (L.getD (k+i) 0)] 3 fun b4 W4 n4=>?_
   have a8:=Zg hq n4
   have a3:=Za hq n4.below
   have a4:=bln a1 n4.below
   refine xbi 0 fun _ _ _ _ zJ zQ zo zx zy zK=>Zr (m:=1) (news:=[V0 (L.getD (k+i) 0)]) (V0 0) 1 8 (i+1) (((L.drop k).take (i+1)).map V0) zo Tryz.underlying27 K0 rfl Do zx a3 zy (n4.blk.sl 1 1 Do Do) rfl (by simp[Value.oneCell']) (by unfold maxLen;omega) M0 a4.size (by rfl) (by rw[A8 (by simp;omega),A9];simp[List.getD,B5 (show k+i<L.length by omega)]) fun p5 c5 W5 o5 b1 a9=>?_
   refine zK _ _ ?_
   refine xwm 6 ((i:Int)+1) (↑(i+1):Int) ?_
   have a7:=a4.trans a9
   have a2:=(a0.below n4.below).grown b1 a3 Do
   exact ze 2 (b3 _ _ _ ⟨i+1,_,_,rfl,rfl,a7,a2,o5,by omega⟩ M0)
  refine xe 12 (.slice pq i cq) ?_
  have a6:i=min j m:=by omega
  have e1:min j (N-k)=i:=by omega
  have e2:(L.drop k).take j=(L.drop k).take i:=by
   rcases Nat.le_total j m with q|q
   ·rw[a6,F7 q]
   ·rw[A1 (by simp;omega),A1 (by simp;omega)]
  rw[e1,e2]
  exact⟨_,rfl,a1,_,_,rfl,hq⟩
 have a5:=of_decide_eq_false a5
 refine xe 23 (.slice pq i cq) ?_
 have a6:i=min j m:=by omega
 have e1:min j (N-k)=i:=by omega
 have e2:(L.drop k).take j=(L.drop k).take i:=by
  rcases Nat.le_total j m with q|q
  ·rw[a6,F7 q]
  ·rw[A1 (by simp;omega),A1 (by simp;omega)]
 rw[e1,e2]
 exact⟨_,rfl,a1,_,_,rfl,hq⟩
theorem Zb6(a b:O0)(ca cb:Nat)(L:List Int)(w:World)(ha:Sl w (.slice a L.length ca) L.length (L.map V0))(hb:Sl w (.slice b L.length cb) L.length (L.map V0))(hL:L.length≤1000000) :
 C0 18 #[.slice a L.length ca,.slice b L.length cb] w (Ret (.bool true) w):=by
 refine zin 26 Tryz.func18 ?_
 refine xk 15 (show(((L.length:Int) != (L.length:Int)):Bool)=false from by simp) ?_
 have hB:=Below.refl w.heap.size w
 refine zl 9 26 (fun zm a2 V=>∃ (i:Nat),a2=[(0,.slice a L.length ca),(1,.slice b L.length cb),(5,V0 (i:Int))]∧zm=L.length-((i:Int)).toNat∧B3 w V∧i≤L.length) ⟨0,rfl,rfl,hB,A3 _⟩ ?_
 rintro _ _ W1 ⟨i,rfl,rfl,a1,hi⟩ J1 a4 r1
 refine xid 9 ((i:Int)<(L.length:Int)) (fun a3=>?_) (fun a3=>?_)
 ·refine xd 5 .z ?_
  refine xx (.e [0,1] 2) _ L.length i 1 (Ints.elem ha (k:=i) M0).1 ?_
  have a0:=bln a1 (Zb W1)
  refine xl (.e [] 3) ((Ints.elem (ha.below a0) (k:=i) M0).2) ?_
  refine xx (.e [4,5] 6) _ L.length i 1 (Ints.elem hb (k:=i) M0).1 ?_
  refine xl (.e [] 7) ((Ints.elem (hb.below a0) (k:=i) M0).2) ?_
  refine xk (.r [8] 2) (show(((L.getD i 0) != (L.getD i 0)):Bool)=false from by simp) ?_
  refine xwm 5 ((i:Int)+1) (↑(i+1):Int) ?_
  exact ze 2 (a4 _ _ _ ⟨i+1,rfl,rfl,a0,by omega⟩ M0)
 exact xe 11 (.bool true) ⟨rfl,a1⟩
end Go.Proofs.YtekomodnkfhihaaGreatDoor
