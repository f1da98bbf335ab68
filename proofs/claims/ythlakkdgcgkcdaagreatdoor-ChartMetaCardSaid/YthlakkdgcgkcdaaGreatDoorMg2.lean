/- crc.Sum of one slice, and package seal: Salt, known, sum and Seal. -/
import Derived.Deep.MidRow
import Derived.Lib.BufferWrite
import Derived.RangeFuncNested
import Derived.RangeFuncBound
import Derived.RangeFuncCalls
import Derived.RangeFuncLeaves
import Derived.Shelf.Abstract
import Derived.Shelf.RegionOpen
import Derived.OwnWalkIn
import Derived.TacticsInMore
import Derived.LoopNIn
import Derived.LoopIn
import Derived.Sort.BigQuietIn
import Derived.Lib.AppendStr
import Derived.Test.YthlakkdgcgkcdaaGreatDoorMg1
namespace Go.Proofs.YthlakkdgcgkcdaaGreatDoor
set_option maxHeartbeats 8000000
set_option maxRecDepth 100000
open Go.RowKit Go.Extern.Stop Go.Stop Go.Extern
set_option linter.unusedVariables false
attribute [local irreducible] wpList wpAnyH Code.wp Oper.wp Go
def Gu(l:List UInt8):Nat:=Xf 4294967295 l ^^^ 4294967295
theorem Uv(l:List UInt8):Gu l<4294967296:=Nat.xor_lt_two_pow (n:=32) (Wg (by decide) l) (by decide)
theorem Jr{n:Nat}(h:n<9223372036854775808):IntKind.i64.wrap (n:Int)=(n:Int):=IntWalk.i64_in _ (by omega)
theorem Fj{a b:Nat}(ha:a<4294967296)(hb:b<4294967296):IntKind.i64.wrap (↑(BitVec.ofInt 64 (a:Int) ^^^ BitVec.ofInt 64 (b:Int)).toNat:Int)=((a ^^^ b:Nat):Int):=by
 rw[BitVec.ofInt_natCast,BitVec.ofInt_natCast,BitVec.toNat_xor,BitVec.toNat_ofNat,BitVec.toNat_ofNat,Nat.mod_eq_of_lt (by omega),Nat.mod_eq_of_lt (by omega)]
 have:=Nat.xor_lt_two_pow (n:=32) ha hb
 exact Jr (by omega)
theorem crc_Sum1(g:Nat)(a:Option Addr)(c:Nat)(l:List UInt8)(w:World)(hk:Blk w g [.slice a l.length c] 22)(h:Bys w (.slice a l.length c) l)(hl:l.length≤100000000) :
 Calls Tryz.prog 196 #[.slice (some ⟨g,0,none⟩) 1 1] w (Ret (.int .i64 (Gu l:Int)) w):=by
 refine zin 19 Tryz.func196 ?_
 refine xu 19 3 ?_
 refine xb 14 0 hk ?_
 refine xr 6 (args:=#[.int .u32 4294967295,.slice a l.length c]) (crc_run 4294967295 (by decide) a c l _ (h.below (Below.refl w.heap.size _)) hl) fun W1 hb1=>?_
 refine xq 24 (congrArg (Value.int .u32) (show(IntKind.u32.wrap (↑(BitVec.ofInt 32 (↑(Xf 4294967295 l):Int) ^^^ BitVec.ofInt 32 (4294967295:Int)).toNat:Int):Int)=(↑(Gu l):Int) from Se (b:=4294967295) (Wg (by decide) l) (by decide))) ?_
 refine xq 0 (congrArg (Value.int .i64) (show(IntKind.i64.wrap (↑(Gu l):Int):Int)=(↑(Gu l):Int) from Jr (by have:=Uv l;omega))) ?_
 exact xe 4 (.int .i64 (↑(Gu l):Int)) ⟨rfl,hb1⟩
theorem crc_Sum1N(g:Nat)(a:Option Addr)(n c:Nat)(l:List UInt8)(w:World)(hn:l.length=n)(hk:Blk w g [.slice a n c] 22)(h:Bys w (.slice a n c) l)(hl:n≤100000000) :
 Calls Tryz.prog 196 #[.slice (some ⟨g,0,none⟩) 1 1] w (Ret (.int .i64 (Gu l:Int)) w):=by
 subst hn;exact crc_Sum1 g a c l w hk h hl
def Ng(kind:Int):Nat:=if kind=1 then 160774 else if kind=2 then 121107 else if kind=3 then 240779 else if kind=4 then 160478 else 0
theorem Lu(kind:Int):Ng kind<4294967296:=by unfold Ng;(repeat' split)<;>omega
theorem seal_Salt(kind:Int)(w:World) :
 Calls Tryz.prog 197 #[.int .i64 kind] w (Ret (.int .i64 (Ng kind:Int)) w):=by
 refine zin 12 Tryz.func197 ?_
 refine xie 18 kind (1:Int) (fun hc1=>?_) (fun hc1=>?_)
 ·exact xe 8 (.int .i64 160774) ⟨by simp_all [Ng],(Below.refl w.heap.size _)⟩
 refine xie 6 kind (2:Int) (fun hc2=>?_) (fun hc2=>?_)
 ·exact xe 8 (.int .i64 121107) ⟨by simp_all [Ng],(Below.refl w.heap.size _)⟩
 refine xie 6 kind (3:Int) (fun hc3=>?_) (fun hc3=>?_)
 ·exact xe 8 (.int .i64 240779) ⟨by simp_all [Ng],(Below.refl w.heap.size _)⟩
 refine xie 6 kind (4:Int) (fun hc4=>?_) (fun hc4=>?_)
 ·exact xe 8 (.int .i64 160478) ⟨by simp_all [Ng],(Below.refl w.heap.size _)⟩
 exact xe 9 (.int .i64 0) ⟨by simp_all [Ng],(Below.refl w.heap.size _)⟩
theorem seal_known(kind no:Int)(h1:1≤kind)(h2:kind≤4)(h3:0≤no)(h4:no<14400)(w:World) :
 Calls Tryz.prog 160 #[.int .i64 kind,.int .i64 no] w (Ret (.bool true) w):=by
 refine zin 19 Tryz.func160 ?_
 refine xgk 10 [6,7] (show(decide (kind≥(1:Int)):Bool)=true from decide_eq_true h1) ?_
 refine xgk 4 [9,10,11] (show(decide (kind≤(4:Int)):Bool)=true from decide_eq_true h2) ?_
 refine xgk 4 [13,14,15] (show(decide (no≥(0:Int)):Bool)=true from decide_eq_true h3) ?_
 exact xe 7 (.bool (decide (no<(14400:Int)))) ⟨by rw[decide_eq_true h4],(Below.refl w.heap.size _)⟩
theorem Bys.take{w:World}{a:Option Addr}{n c:Nat}{l:List UInt8}(h:Bys w (.slice a n c) l)(hn:l.length=n)(m:Nat)(hm:m≤n):Bys w (.slice a m c) (l.take m):=by
 have hlen:(l.take m).length=m:=by simp;omega
 rcases h with ⟨a',c',h1,h2,h3⟩|⟨b,off,cap,h1,h2,h3,h4⟩
 ·obtain rfl:m=0:=by omega
  simp only[Value.slice.injEq] at h1
  exact .inl ⟨a,c,rfl,by simp,by simp⟩
 ·simp only[Value.slice.injEq] at h1
  obtain⟨rfl,_,rfl⟩:=h1
  refine .inr ⟨b,off,c,by rw[hlen],by omega,h3,fun j x hj=>h4 j x ?_⟩
  have hjm:j<m:=by have:=(List.getElem?_eq_some_iff.1 hj).1;simp at this;omega
  rwa [List.map_take,List.getElem?_take_of_lt hjm] at hj
def Ci(l:List UInt8)(kind:Int):Nat:=Gu (l.take 252) ^^^ Ng kind
theorem sumB_lt(l:List UInt8)(kind:Int):Ci l kind<4294967296:=Nat.xor_lt_two_pow (n:=32) (Uv _) (Lu _)
theorem Zgu(kind:Int)(a:Option Addr)(c:Nat)(l:List UInt8)(w:World)(hn:l.length=256)(hc:256≤c)(h:Bys w (.slice a 256 c) l) :
 Calls Tryz.prog 164 #[.slice a 256 c,.int .i64 kind] w (Ret (.int .i64 (Ci l kind:Int)) w):=by
 refine zin 12 Tryz.func164 ?_
 refine xsH 8 (fun _ _ _ _ zo zx zy V=>Yz (k:=252) (b:=a) (n:=256) (c:=c) (i:=252) (ki:=.i64) zo zx zy rfl (by omega) Tryz.underlying22 (by kernel_rfl) V) ?_
 refine xbs 0 1 [.slice a 252 c] 22 fun b1 W1 n1=>?_
 refine xr 0 (args:=#[.slice (some ⟨b1,0,none⟩) 1 1]) (crc_Sum1N b1 a 252 c (l.take 252) _ (by simp;omega) n1.blk ((h.take hn 252 (by decide)).below n1.below) (by decide)) fun W2 hb2=>?_
 refine xr 1 (args:=#[.int .i64 kind]) (seal_Salt kind _) fun W3 hb3=>?_
 refine xq 0 (congrArg (Value.int .i64) (show(IntKind.i64.wrap (↑(BitVec.ofInt 64 (↑(Gu (l.take 252)):Int) ^^^ BitVec.ofInt 64 (↑(Ng kind):Int)).toNat:Int):Int)=(↑(Ci l kind):Int) from Fj (Uv _) (Lu _))) ?_
 have hB'1:=bln (bln n1.below hb2) hb3
 exact xe 4 (.int .i64 (↑(Ci l kind):Int)) ⟨rfl,hB'1⟩
theorem Qf{l:List UInt8}{k:Nat}{x:List UInt8}(h:k+x.length≤l.length):(Kf l k x).length=l.length:=by simp[Kf];omega
theorem Zgi(n:Nat):Hn (Value.int .u8 0).cells.toList n=(List.replicate n (0:UInt8)).map bv:=by
 rw[show(Value.int .u8 0).cells.toList=[Value.int .u8 0] from rfl,Hn,List.map_replicate]
 induction n with
 | zero=>rfl
 | succ n ih=>rw[List.replicate_succ,List.flatten_cons,ih,List.replicate_succ];rfl
theorem Qk{w:World}{v:Value}{n:Nat}{l:List UInt8}(h:Sl w v n (l.map bv))(hn:l.length=n):Bys w v l:=by subst hn;exact h
theorem own_cap{w:World}{base n c size:Nat}{e:TypeId}{p:Option Addr}{xs:List Value}(h:w.ownsRow base e size (.slice p n c) n xs)(hn:0<n):n≤c:=by
 rcases h.2 with ⟨_,h0⟩|⟨g,cap,cur,hv,_,_,hc,_⟩
 ·omega
 ·simp only[Value.slice.injEq] at hv;omega
theorem putN{m:Nat}{l:List UInt8}{k:Nat}{x:List UInt8}{w:World}{e:Ending}{w':World}(hm:l.length=m)(hk:k+x.length≤m)(h:Vn (fun w' r=>∃ v,r=.tuple #[v,.int .i64 0]∧Mf w.heap.size w' v (Kf l k x)) w e w') :
 Vn (fun w' r=>∃ p c,r=.tuple #[.slice p m c,.int .i64 0]∧w'.ownsRow w.heap.size 5 1 (.slice p m c) m ((Kf l k x).map bv)) w e w':=by
 obtain⟨r,h1,h2,v,h3,h4⟩:=h
 unfold Mf at h4
 rw[Qf (by omega),hm] at h4
 obtain⟨p,c,rfl⟩:=(Zf h4).slice
 exact⟨r,h1,h2,p,c,h3,h4⟩
theorem Put_4N(a:Option Addr)(m c k:Nat)(ki:Int)(l:List UInt8)(n:Int)(w:World)(hm:l.length=m)(hki:ki=(k:Int))(h:Bys w (.slice a m c) l)(hl:m≤100000)(hk:k+4≤m)(h0:0≤n)(hb:n<4294967296) :
 Calls Tryz.prog 201 #[.slice a m c,.int .i64 ki,.int .i64 4,.int .i64 n] w (Vn (fun w' r=>∃ p c,r=.tuple #[.slice p m c,.int .i64 0]∧w'.ownsRow w.heap.size 5 1 (.slice p m c) m ((Kf l k (leB n 4)).map bv)) w):=by
 subst hki
 refine(show Calls _ _ #[.slice a m c,.int .i64 (k:Int),.int .i64 4,.int .i64 n] w _ from ?_)
 have:=Put_4 a c k l n w (by rw[hm];exact h) (by omega) (by omega) h0 hb
 rw[hm] at this
 exact this.mono fun e w' q=>putN hm (by rw[Zo];omega) q
theorem Put_2N(a:Option Addr)(m c k:Nat)(ki:Int)(l:List UInt8)(n:Int)(w:World)(hm:l.length=m)(hki:ki=(k:Int))(h:Bys w (.slice a m c) l)(hl:m≤100000)(hk:k+2≤m)(h0:0≤n)(hb:n<65536) :
 Calls Tryz.prog 201 #[.slice a m c,.int .i64 ki,.int .i64 2,.int .i64 n] w (Vn (fun w' r=>∃ p c,r=.tuple #[.slice p m c,.int .i64 0]∧w'.ownsRow w.heap.size 5 1 (.slice p m c) m ((Kf l k (leB n 2)).map bv)) w):=by
 subst hki
 have:=Put_2 a c k l n w (by rw[hm];exact h) (by omega) (by omega) h0 hb
 rw[hm] at this
 exact this.mono fun e w' q=>putN hm (by rw[Zo];omega) q
def Zbe(li:List UInt8):List UInt8:=Kf (List.replicate 256 0) 8 li
def Zdx(no:Int)(li:List UInt8):List UInt8:=Kf (Zbe li) 0 (leB no 4)
def Nh(kind no:Int)(li:List UInt8):List UInt8:=Kf (Zdx no li) 4 (leB kind 2)
def Yp(kind no:Int)(li:List UInt8):List UInt8:=Kf (Nh kind no li) 252 (leB (Ci (Nh kind no li) kind) 4)
theorem Uo{li:List UInt8}(h:li.length≤244):(Zbe li).length=256:=by rw[Zbe,Qf (by rw[List.length_replicate];omega),List.length_replicate]
theorem Up{no:Int}{li:List UInt8}(h:li.length≤244):(Zdx no li).length=256:=by rw[Zdx,Qf (by rw[Zo,Uo h];omega),Uo h]
theorem Hd{kind no:Int}{li:List UInt8}(h:li.length≤244):(Nh kind no li).length=256:=by rw[Nh,Qf (by rw[Zo,Up h];omega),Up h]
theorem Kx{kind no:Int}{li:List UInt8}(h:li.length≤244):(Yp kind no li).length=256:=by rw[Yp,Qf (by rw[Zo,Hd h];omega),Hd h]
theorem seal_Seal(kind no:Int)(h1:1≤kind)(h2:kind≤4)(h3:0≤no)(h4:no<14400)(a:Option Addr)(c:Nat)(li:List UInt8)(w:World)(hl:li.length≤244)(h:Bys w (.slice a li.length c) li) :
 Calls Tryz.prog 181 #[.int .i64 kind,.int .i64 no,.slice a li.length c] w (Vn (fun w' r=>∃ p c,r=.tuple #[.slice p 256 c,.int .i64 0]∧w'.ownsRow w.heap.size 5 1 (.slice p 256 c) 256 ((Yp kind no li).map bv)) w):=by
 refine zin 54 Tryz.func181 ?_
 refine xr 11 (args:=#[.int .i64 kind,.int .i64 no]) (seal_known kind no h1 h2 h3 h4 _) fun W1 hb1=>?_
 refine xk 14 (show(decide ((↑li.length:Int)>(244:Int)):Bool)=false from decide_eq_false (by omega)) ?_
 refine xmk 4 fun _ _ _ _ zJ zQ zo zx zy zK=>Gb 256 (.int .u8 0) 1 1 ((List.replicate 256 (0:UInt8)).map bv) zo zx zy Tryz.underlying22 (by kernel_rfl) rfl (by omega) (by omega) (Zgi 256) fun b2 W2 n2=>?_
 refine zK _ _ ?_
 have o2:=Zw (size:=1) (n:=256) n2.blk (n2.ge hb1) (by simp) (by unfold maxLen;omega)
 have hB:=bln hb1 n2.below
 refine xbi 8 (t2:=22) fun _ _ _ _ zJ zQ zo zx zy zK=>Mg (dLen:=248) (dCap:=248) (off:=8) li.length (li.map bv) ((Zbe li).map bv) zo Tryz.underlying22 (by kernel_rfl) zx zy (h.below hB) o2 (by simp) (by omega) (by omega) (Vd li) hB.size (by simp[Zbe,Kf,List.map_drop]) fun W3 o3 hg3 hb3=>?_
 refine zK _ _ ?_
 refine xbs 9 2 [.int .i64 0,.int .i64 4,.int .i64 no,.int .i64 4,.int .i64 2,.int .i64 kind] 305 fun b4 W4 n4=>?_
 have hB'1:=hB.trans hb3
 have g4:=n4.ge hB'1
 refine xu 5 4 ?_
 refine xlv 14 (n4.blk.rpp 0 3) ?_
 refine xa 0 [.int .i64 0,.int .i64 0,.int .i64 0] 305 fun b5 W5 n5=>?_
 have d5_b4:=n5.ne n4.blk
 have hB'2:=bln hB'1 n4.below
 have g5:=n5.ge hB'2
 refine xsv 0 n5.blk [.int .i64 0,.int .i64 4,.int .i64 no] fun W6 u6 k6=>?_
 refine xb 5 0 k6 ?_
 refine xb 1 1 k6 ?_
 refine xb 1 2 k6 ?_
 have o3'1:=u6.own2 (Zb (Zb o3 n4.below) n5.below) n5.blk (by decide)
 refine xc 0 (args:=#[.slice (some ⟨b2,0,none⟩) 256 256,.int .i64 0,.int .i64 4,.int .i64 no]) (Put_4N (some ⟨b2,0,none⟩) 256 256 0 0 (Zbe li) (no) _ (Uo hl) rfl (Qk (Zf o3'1) (Uo hl)) (by decide) (by decide) (h3) (by omega)) ?_
 rintro _ W7 ⟨_,rfl,hb7,p1,c1,rfl,o1⟩
 have hs7:=(u6.below (bln hB'2 n5.below) g5).size
 have k4'1:=(u6.blk (n4.blk.below n5.below) (Ne.symm (Ne.symm d5_b4))).below hb7
 refine xlv 26 (k4'1.rpp 3 3) ?_
 refine xa 0 [.int .i64 0,.int .i64 0,.int .i64 0] 305 fun b8 W8 n8=>?_
 have d8_b4:=n8.ne k4'1
 have k6'1:=k6.below hb7
 have d8_b5:=n8.ne k6'1
 have hB'3:=bln (u6.below (bln hB'2 n5.below) g5) hb7
 have g8:=n8.ge hB'3
 refine xsv 0 n8.blk [.int .i64 4,.int .i64 2,.int .i64 kind] fun W9 u9 k9=>?_
 refine xb 5 0 k9 ?_
 refine xb 1 1 k9 ?_
 refine xb 1 2 k9 ?_
 have o1'1:=u9.own2 (Zb (Zd o1 hs7) n8.below) n8.blk (by decide)
 refine xc 0 (args:=#[.slice p1 256 c1,.int .i64 4,.int .i64 2,.int .i64 kind]) (Put_2N p1 256 c1 4 4 (Zdx no li) (kind) _ (Up hl) rfl (Qk (Zf o1'1) (Up hl)) (by decide) (by decide) (by omega) (by omega)) ?_
 rintro _ W10 ⟨_,rfl,hb10,p2,c2,rfl,o2⟩
 have hs10:=(u9.below (bln hB'3 n8.below) g8).size
 have o2'1:=Zd o2 hs10
 refine xr 29 (args:=#[.slice p2 256 c2,.int .i64 kind]) (Zgu kind p2 c2 (Nh kind no li) _ (Hd hl) (own_cap o2'1 (by decide)) (Qk (Zf o2'1) (Hd hl))) fun W11 hb11=>?_
 have o2'2:=Zb o2'1 hb11
 refine xc 0 (args:=#[.slice p2 256 c2,.int .i64 252,.int .i64 4,.int .i64 (↑(Ci (Nh kind no li) kind):Int)]) (Put_4N p2 256 c2 252 252 (Nh kind no li) ((Ci (Nh kind no li) kind:Int)) _ (Hd hl) rfl (Qk (Zf o2'2) (Hd hl)) (by decide) (by decide) (Int.natCast_nonneg _) (by have:=sumB_lt (Nh kind no li) kind;omega)) ?_
 have o3'2:=Zb o3'1 hb7
 rintro _ W12 ⟨_,rfl,hb12,p3,c3,rfl,o3⟩
 have hs12:=(bln (bln (u9.below (bln hB'3 n8.below) g8) hb10) hb11).size
 have hB'4:=bln (bln (bln (u9.below (bln hB'3 n8.below) g8) hb10) hb11) hb12
 have o3'3:=Zd o3 hs12
 exact xe 14 (.tuple #[.slice p3 256 c3,.int .i64 0]) ⟨_,rfl,hB'4,_,_,rfl,o3'3⟩
end Go.Proofs.YthlakkdgcgkcdaaGreatDoor
namespace Go.Proofs.YthlakkdgcgkcdaaGreatDoor
set_option maxHeartbeats 8000000
set_option maxRecDepth 100000
open Go.RowKit
set_option linter.unusedVariables false
section
variable {P:Program} {Q:Exit→Act→World→Prop} {a:Act} {w:World} {K:Act→World→Prop}
theorem run_slice3{o:Oper}{t e:TypeId}{x y y2 y3:Operand}{b off n k h c:Nat}{i j j2:Int}{ki kj kj2:IntKind}(size off' d:Nat)(ho:o.op=.slice t x (some y) (some y2) (some y3))(hx:a.eval x=.slice (some ⟨b,off,none⟩) n c)(hy:a.eval y=.int ki i)(hi:i=(k:Int))(hy2:a.eval y2=.int kj j)(hj:j=(h:Int))(hy3:a.eval y3=.int kj2 j2)(hj2:j2=(h:Int))
 (hk:k<h) (hc:h≤c) (hoff:off+k*size=off') (hd:h-k=d) (ht:P.underlying t=some (.slice e)) (hs:(P.info? e).map (·.size)=some size) (w:World):(execOp a.eval o).run P w=.ok (.value (.slice (some ⟨b,off',none⟩) d d)) w:=by
 cases hq:P.info? e with
 | none=>simp[hq] at hs
 | some q =>
  have hj:q.size=size:=by simpa [hq] using hs
  subst hi hj hj2 hoff hd
  have h1:(0:Int)≤(k:Int):=by omega
  have h2:(0:Int)≤(h:Int):=by omega
  have h3:(k:Int)≤(h:Int):=by omega
  have h4:(h:Int)≤(c:Int):=by omega
  have h5:¬ h=k:=by omega
  simp_all [execOp,Instr.sliceAt,Instr.slice,Instr.sliceBounds,Instr.sliceBound,asIntOf,run_underlying ht,sizeOf,typeInfo,Addr.add_mid]
def Qm(b:Option Addr)(k c size:Nat):Option Addr:=if c=k then b else b.map (·.add (k*size))
theorem Yg{o:Oper}{t e:TypeId}{x y:Operand}{b:Option Addr}{n k c:Nat}{i:Int}{ki:IntKind}(size:Nat)(ho:o.op=.slice t x (some y) none none)(hx:a.eval x=.slice b n c)(hy:a.eval y=.int ki i)(hi:i=(k:Int))(hk:k≤n)
 (ht:P.underlying t=some (.slice e)) (hs:(P.info? e).map (·.size)=some size) (w:World):(execOp a.eval o).run P w=.ok (.value (.slice (Qm b k c size) (n-k) (c-k))) w:=by
 cases hq:P.info? e with
 | none=>simp[hq] at hs
 | some j =>
  have hj:j.size=size:=by simpa [hq] using hs
  subst hi
  have h1:(0:Int)≤(k:Int):=by omega
  have h2:(k:Int)≤(n:Int):=by omega
  by_cases h3:c=k
  ·simp[execOp,ho,hx,hy,Instr.sliceAt,Instr.slice,Instr.sliceBounds,Instr.sliceBound,asIntOf,run_underlying ht,sizeOf,typeInfo,hq,hk,h3,Qm]
  ·simp[execOp,ho,hx,hy,Instr.sliceAt,Instr.slice,Instr.sliceBounds,Instr.sliceBound,asIntOf,run_underlying ht,sizeOf,typeInfo,hq,hj,hk,h3,Qm]
end
end Go.Proofs.YthlakkdgcgkcdaaGreatDoor
namespace Go.Proofs.YthlakkdgcgkcdaaGreatDoor
set_option maxHeartbeats 8000000
set_option maxRecDepth 100000
open Go.RowKit Go.Extern.Stop Go.Stop Go.Extern
set_option linter.unusedVariables false
theorem errno_eq{P:Program}(w:World){ti tn:TypeId}{ms:Array (String×TypeId)}{i:TypeInfo}{k:IntKind}(a b:Int)
 (hi:P.underlying ti=some (.interface ms)) (hn:P.underlying tn=some (.int k)) (hinfo:P.info? tn=some i) (hcomp:i.comparable=true) :
 (binOp .eql ti (.iface tn (.int k a)) (.iface tn (.int k b))).run P w=.ok (.bool (a==b)) w:=by
 have h:∀ d:Nat,(Op.equalIn (d+2) ti (.iface tn (.int k a)) (.iface tn (.int k b))).run P w=.ok (a==b) w:=fun d=>by simp[Op.equalIn,run_underlying hi,run_underlying hn,typeInfo,hinfo,hcomp]
 simp only[binOp]
 simp[Op.equal,Op.maxDepth,h 9998]
theorem Tryz.eqN(a b:Int)(w:World):(binOp .eql 39 (.iface 51 (.int .i64 a)) (.iface 51 (.int .i64 b))).run Tryz.prog w=.ok (.bool (a==b)) w:=by
 obtain⟨i,h1,h2⟩:=Option.map_eq_some_iff.1 (show(Tryz.prog.info? 51).map (·.comparable)=some true by kernel_rfl)
 exact errno_eq w a b Tryz.underlying39 Tryz.underlying51 h1 h2
theorem Tryz.methComparable (h : Value) (w : World) : (Go.method 452 258 (.agg #[h]) "Comparable").run Tryz.prog w = .ok (244, .agg #[h]) w := by kernel_rfl
theorem Tryz.comparableN(w:World):(callFunc 244 #[.agg #[.pointer (some ⟨1,51,none⟩)]]).run Tryz.prog w=.ok (Next.value (.bool true)) w:=by kernel_rfl
theorem errors_isN(c d:Int)(w:World):Calls Tryz.prog 195 #[.iface 51 (.int .i64 c),.iface 51 (.int .i64 d),.bool true] w (Ret (.bool (c==d)) w):=by
 have y1:=Tryz.eqN
 have y2:=Tryz.noIsN
 have y3:=Tryz.noUnwrapN
 have y4:=Tryz.noUnwrapsN
 go_enter Tryz.func195,Tryz.ntmps195
 go_wp2_with fail
 go_loopw [0] (fun v wr=>v=.iface 51 (.int .i64 c)∧wr=w) (fun _ _=>0)
 case atStart=>exact⟨rfl,rfl⟩
 case round =>
  obtain⟨rfl,rfl⟩:=hrel
  by_cases h:c=d
  ·have h':(c==d)=true:=by simpa using h
   have HH:=Lib.hid h;clear h
   go_wp2_with fail
   go_ret
   exact⟨by rw[h'];rfl,Below.refl _ _⟩
  ·have h':(c==d)=false:=by simpa using h
   have HH:=Lib.hid h;clear h
   go_wp2_with fail
   go_ret
   exact⟨by rw[h'];rfl,Below.refl _ _⟩
theorem Ia(c d:Int)(w:World):Calls Tryz.prog 158 #[.iface 51 (.int .i64 c),.iface 51 (.int .i64 d)] w (Ret (.bool (c==d)) w):=by
 have h66:=@run_callFunc_extern Tryz.prog 154 _ ReflectliteType.typeOf Tryz.func154 (by kernel_rfl) (by kernel_rfl) (by kernel_rfl) (by kernel_rfl)
 have y1:=Tryz.typeOfN
 have y2:=Tryz.methComparable
 have y3:=Tryz.comparableN
 go_enter Tryz.func158,Tryz.ntmps158
 go_wp2_with fail
 refine(errors_isN c d _).mono ?_
 rintro e w' ⟨rfl,hb⟩
 go_wp2_with fail
 go_ret
 exact⟨rfl,hb⟩
theorem Yo(no c:Int)(w:World):Calls Tryz.prog 113 #[.int .i64 no,.iface 51 (.int .i64 c)] w (Vn (fun w' r=>Ja w' (if c=0 then [] else [some no]) (if c=0 then none else some c) r) w):=by
 by_cases h:c=0
 ·subst h
  go_enter Tryz.func113,Tryz.ntmps113
  go_wp2_with fail
  refine(Ia 0 0 _).mono ?_
  rintro e w1 ⟨rfl,hb⟩
  rw[show((0:Int)==0)=true from rfl]
  go_wp2_with fail
  go_ret
  exact⟨_,rfl,hb,rfl⟩
 ·have h':(c==0)=false:=by simpa using h
  simp only[h,if_false]
  have HC:=Lib.hid h;clear h
  go_enter Tryz.func113,Tryz.ntmps113
  go_wp2_with fail
  refine(Ia c 0 _).mono ?_
  rintro e w1 ⟨rfl,hb⟩
  rw[h']
  go_wp2_with fail
  refine(Qv no (some c) [] _ w1 rfl).mono ?_
  rintro e w2 ⟨r,rfl,hb2,h2⟩
  go_wp2_with fail
  go_ret
  exact⟨_,rfl,bln hb hb2,h2⟩
theorem Blk.range{w:World}{b:Nat}{cs:List Value}{t:TypeId}(h:Blk w b cs t):w.rangeAt b 0 cs:=fun j v hj=>by rw[Nat.zero_add];exact h.cell hj
theorem Blk.there{w:World}{b:Nat}{cs:List Value}{t:TypeId}(h:Blk w b cs t){n:Nat}(hn:n=cs.length):w.there b 0 n:=fun j hj=>by
 rw[Nat.zero_add]
 exact⟨by rw[h.cell (List.getElem?_eq_getElem (by omega))];rfl,h.frozen j⟩
end Go.Proofs.YthlakkdgcgkcdaaGreatDoor
namespace Go.Proofs.YthlakkdgcgkcdaaGreatDoor
set_option maxHeartbeats 8000000
set_option maxRecDepth 100000
open Go.RowKit Go.Extern.Stop Go.Stop Go.Extern
set_option linter.unusedVariables false
attribute [local irreducible] wpList wpAnyH Code.wp Oper.wp Go
theorem Zd2(n k:Nat)(hn:n<9223372036854775808)(hk:0<k):IntKind.i64.wrap (Int.tdiv (n:Int) (k:Int))=((n/k:Nat):Int):=by
 rw[Int.tdiv_eq_ediv_of_nonneg (Int.natCast_nonneg _),←Int.natCast_ediv]
 exact Jr (Nat.lt_of_le_of_lt (Nat.div_le_self _ _) hn)
theorem Zfv(a b:Nat):(if(b:Int)<(a:Int) then(b:Int) else(a:Int))=((min a b:Nat):Int):=by split<;>omega
theorem Gy(b:Nat)(p:Option Addr)(n c:Nat)(w:World)(hk:Blk w b [.slice p n c] 56)(hn:n≤100000000) :
 Calls Tryz.prog 78 #[.pointer (some ⟨b,0,none⟩)] w (Ret (.int .i64 ((n/256:Nat):Int)) w):=by
 refine zin 11 Tryz.func78 ?_
 refine xb 20 0 hk ?_
 refine xq 1 (congrArg (Value.int .i64) (show(IntKind.i64.wrap (Int.tdiv (↑n:Int) 256):Int)=(↑(n/256):Int) from Zd2 n 256 (by omega) (by decide))) ?_
 exact xe 4 (.int .i64 (↑(n/256):Int)) ⟨rfl,(Below.refl w.heap.size _)⟩
theorem Zgd(a:Option Addr)(c:Nat)(l:List UInt8)(w:World)(h:Bys w (.slice a l.length c) l)(hl:l.length≤100000000)(hc:l.length≤c) :
 Calls Tryz.prog 7 #[.slice a l.length c] w (Vn (fun w' r=>∃ b p c,r=.pointer (some ⟨b,0,none⟩)∧w.heap.size≤b∧Blk w' b [.slice p (min (l.length/256) 14400*256) c] 56∧w'.ownsRow w.heap.size 5 1 (.slice p (min (l.length/256) 14400*256) c) (min (l.length/256) 14400*256) ((l.take (min (l.length/256) 14400*256)).map bv)) w):=by
 refine zin 15 Tryz.func7 ?_
 refine xq 9 (congrArg (Value.int .i64) (show(IntKind.i64.wrap (Int.tdiv (↑l.length:Int) 256):Int)=(↑(l.length/256):Int) from Zd2 l.length 256 (by omega) (by decide))) ?_
 refine xq 0 (congrArg (Value.int .i64) (show(if(14400:Int)<(↑(l.length/256):Int) then(14400:Int) else(↑(l.length/256):Int):Int)=(↑(min (l.length/256) 14400):Int) from Zfv (l.length/256) 14400)) ?_
 refine xwm 7 ((↑(min (l.length/256) 14400):Int)*256) (↑((min (l.length/256) 14400)*256):Int) ?_
 refine xsH 0 (fun _ _ _ _ zo zx zy V=>Yz (k:=((min (l.length/256) 14400)*256)) (b:=a) (n:=l.length) (c:=c) (i:=(↑((min (l.length/256) 14400)*256):Int)) (ki:=.i64) zo zx zy rfl (by omega) Tryz.underlying22 (by kernel_rfl) V) ?_
 refine xc 0 (args:=#[.slice a ((min (l.length/256) 14400)*256) c]) (Vl a (min (l.length/256) 14400*256) c (l.take (min (l.length/256) 14400*256)) _ (by simp;omega) ((h.take rfl _ (by omega)).below (Below.refl w.heap.size _)) (by omega)) ?_
 rintro _ W1 ⟨_,rfl,hb1,ho⟩
 have hs1:=Nat.le_refl w.heap.size
 have ho'1:=Zd ho hs1
 unfold Mf at ho'1
 rw[show(l.take (min (l.length/256) 14400*256)).length=min (l.length/256) 14400*256 by simp;omega] at ho'1
 obtain⟨pd,cd,rfl⟩:=(Zf ho'1).slice
 refine xa 1 [.slice pd (min (l.length/256) 14400*256) cd] 56 fun b2 W2 n2=>?_
 have hB:=bln hb1 n2.below
 have g2:=n2.ge hb1
 have ho'2:=Zb ho'1 n2.below
 exact xe 4 (.pointer (some ⟨b2,0,none⟩)) ⟨_,rfl,hB,_,_,_,rfl,g2,n2.blk,ho'2⟩
theorem Rx(b g:Nat)(n c k:Nat)(w:World)(hk:Blk w b [.slice (some ⟨g,0,none⟩) n c] 56)(hn:n≤100000000)(hc:n≤c)(hkn:k<n/256) :
 Calls Tryz.prog 157 #[.pointer (some ⟨b,0,none⟩),.int .i64 (↑k:Int)] w (Ret (.tuple #[.slice (some ⟨g,k*256,none⟩) 256 256,.int .i64 0]) w):=by
 refine zin 33 Tryz.func157 ?_
 refine xgk 21 [13,14] (show(decide ((↑k:Int)<(0:Int)):Bool)=false from decide_eq_false (by omega)) ?_
 refine xr 2 (args:=#[.pointer (some ⟨b,0,none⟩)]) (Gy b _ n c _ (hk.below (Below.refl w.heap.size _)) hn) fun W2 hb2=>?_
 refine xk 5 (show(decide ((↑k:Int)≥(↑(n/256):Int)):Bool)=false from decide_eq_false (by omega)) ?_
 refine xwm 6 ((↑k:Int)*256) (↑(k*256):Int) ?_
 refine xwm 1 ((↑k:Int)+1) (↑(k+1):Int) ?_
 refine xwm 0 ((↑(k+1):Int)*256) (↑((k+1)*256):Int) ?_
 have hk'1:=hk.below hb2
 refine xb 9 0 hk'1 ?_
 refine xs3 3 (fun _ _ _ _ _ _ zo zx zy zz zm V=>run_slice3 (k:=(k*256)) (h:=((k+1)*256)) (b:=g) (off:=0) (n:=n) (c:=c) (i:=(↑(k*256):Int)) (ki:=.i64) (j:=(↑((k+1)*256):Int)) (kj:=.i64) (j2:=(↑((k+1)*256):Int)) (kj2:=.i64) 1 (k*256) 256 zo zx zy rfl zz rfl zm rfl (by omega) (by omega) (by omega) (by omega) Tryz.underlying22 (by kernel_rfl) V) ?_
 exact xe 5 (.tuple #[.slice (some ⟨g,(k*256),none⟩) 256 256,.int .i64 0]) ⟨rfl,hb2⟩
def WroteB(B g n c:Nat)(l:List UInt8)(v:Value)(w:World)(e:Ending)(w':World):Prop :=
 e=.returned v∧Below B w w'∧Ze [5] w w'∧Fr [g] w w'∧w'.ownsRow B 5 1 (.slice (some ⟨g,0,none⟩) n c) n (l.map bv)
theorem Zee(B b g:Nat)(n c k:Nat)(l:List UInt8)(a:Option Addr)(cx:Nat)(lx:List UInt8)(w:World)(hk:Blk w b [.slice (some ⟨g,0,none⟩) n c] 56)(ho:w.ownsRow B 5 1 (.slice (some ⟨g,0,none⟩) n c) n (l.map bv))(hn:n≤100000000)(hc:n≤c)(hkn:k<n/256)(hx:Bys w (.slice a 256 cx) lx)(hlx:lx.length=256)(hBw:B≤w.heap.size) :
 Calls Tryz.prog 182 #[.pointer (some ⟨b,0,none⟩),.int .i64 (↑k:Int),.slice a 256 cx] w (WroteB B g n c (Kf l (k*256) lx) (.int .i64 0) w):=by
 replace hx:Sl w (.slice a 256 cx) 256 (lx.map bv):=by
  have:=hx
  unfold Bys at this
  rwa [hlx] at this
 refine zin 24 Tryz.func182 ?_
 refine xr 9 (args:=#[.pointer (some ⟨b,0,none⟩),.int .i64 (↑k:Int)]) (Rx b g n c k _ hk hn hc hkn) fun W1 hb1=>?_
 have ho'1:=Zb ho hb1
 have hx'1:=hx.below hb1
 have hB:=blB (Below.refl B w) hBw hb1
 refine xbi 32 (t2:=22) fun _ _ _ _ zJ zQ zo zx zy zK=>Mg (dLen:=256) (dCap:=256) (off:=(k*256)) 256 (lx.map bv) ((Kf l (k*256) lx).map bv) zo Tryz.underlying22 (by kernel_rfl) zx zy hx'1 ho'1 (by simpa using hlx) (by omega) (by omega) (Vd _) (Nat.le_trans hBw hB.size) (by simp[Kf,hlx,List.map_take,List.map_drop]) fun W2 o2 hg2 hb2=>?_
 refine zK _ _ ?_
 have hB'1:=hB.trans hb2
 have hO:=(show Ze [5] w _ from(Ze.of_below hb1)).trans (Ze.of_grown hg2 ho'1 (by decide))
 have hX:=(show Fr [g] w _ from(Fr.of_below hb1)).trans (Fr.of_grown hg2 (by simp))
 exact xe 8 (.int .i64 0) ⟨rfl,hB'1,hO,hX,o2⟩
theorem Zeh(B b g:Nat)(n c k:Nat)(l:List UInt8)(kind:Int)(a:Option Addr)(ca:Nat)(li:List UInt8)(w:World)(hk:Blk w b [.slice (some ⟨g,0,none⟩) n c] 56)(ho:w.ownsRow B 5 1 (.slice (some ⟨g,0,none⟩) n c) n (l.map bv))(hn:n≤3686400)(hc:n≤c)(hkn:k<n/256)(h1:1≤kind)(h2:kind≤4)(hin:Bys w (.slice a li.length ca) li)(hl:li.length≤244)(hBw:B≤w.heap.size) :
 Calls Tryz.prog 133 #[.pointer (some ⟨b,0,none⟩),.int .i64 (↑k:Int),.int .i64 kind,.slice a li.length ca] w (WroteB B g n c (Kf l (k*256) (Yp kind k li)) .nilIface w):=by
 refine zin 28 Tryz.func133 ?_
 refine xc 10 (args:=#[.int .i64 kind,.int .i64 (↑k:Int),.slice a li.length ca]) (seal_Seal kind k h1 h2 (by omega) (by omega) a ca li _ hl hin) ?_
 rintro _ W1 ⟨_,rfl,hb1,p,c2,rfl,o⟩
 have hs1:=Nat.le_refl w.heap.size
 have hk'1:=hk.below hb1
 have ho'1:=Zb ho hb1
 have o'1:=Zd o hs1
 have hB:=blB (Below.refl B w) hBw hb1
 refine xc 19 (args:=#[.pointer (some ⟨b,0,none⟩),.int .i64 (↑k:Int),.slice p 256 c2]) (Zee B b g n c k l p c2 (Yp kind k li) _ hk'1 ho'1 (by omega) hc hkn (Qk (Zf o'1) (Kx hl)) (Kx hl) (Nat.le_trans hBw hB.size)) ?_
 rintro _ W2 ⟨rfl,hb2,hO2,hX2,ho2⟩
 refine xc 8 (args:=#[.int .i64 (↑k:Int),.iface 51 (.int .i64 0)]) (Yo k 0 _) ?_
 rintro _ W3 ⟨r,rfl,hb3,hr⟩
 obtain rfl:r=.nilIface:=hr
 have hB'1:=blB (hB.trans hb2) hBw hb3
 have hO:=((show Ze [5] w _ from(Ze.of_below hb1)).trans hO2).trans (Ze.of_below hb3)
 have hX:=((show Fr [g] w _ from(Fr.of_below hb1)).trans (hX2.mono (by simp))).trans (Fr.of_below hb3)
 have ho2'1:=Zb ho2 hb3
 exact xe 4 .nilIface ⟨rfl,hB'1,hO,hX,ho2'1⟩
def rngJ(f j:Nat):List Int:=(List.range j).map fun i=>((f+i:Nat):Int)
theorem rngJ_succ(f j:Nat):rngJ f (j+1)=rngJ f j++[((f+j:Nat):Int)]:=by simp[rngJ,List.range_succ]
theorem rngJ_get{f N k:Nat}(h:k<N):(rngJ f N).getD k 0=((f+k:Nat):Int):=by simp[rngJ,List.getD,List.getElem?_range h]
theorem rngJ_len(f j:Nat):(rngJ f j).length=j:=by simp[rngJ]
structure Al(B ba b g n c:Nat)(pa:Option Addr)(ca f N k:Nat)(l:List UInt8)(w:World):Prop where
 blkA:Blk w ba [.slice pa N ca,.int .i64 (k:Int),.pointer (some ⟨b,0,none⟩)] 120
 blkI:Blk w b [.slice (some ⟨g,0,none⟩) n c] 56
 data:w.ownsRow B 5 1 (.slice (some ⟨g,0,none⟩) n c) n (l.map bv)
 nums:w.ownsRow B 3 1 (.slice pa N ca) N ((rngJ f N).map (Value.int .i64))
structure AlC(B ba n c ca f N:Nat):Prop where
 hn:n≤3686400
 hc:n≤c
 hca:N≤ca
 hf:f+N≤n/256
 hB:B≤ba
theorem alloc_New(b:Nat)(p0:Option Addr)(n c f:Nat)(w:World)(hk:Blk w b [.slice p0 n c] 56)(hn:n≤3686400)(h1:1≤f)(h2:f≤n/256) :
 Calls Tryz.prog 47 #[.pointer (some ⟨b,0,none⟩),.int .i64 (↑f:Int)] w (Vn (fun w' r=>∃ ba p c2,r=.tuple #[.pointer (some ⟨ba,0,none⟩),.nilIface]∧w.heap.size≤ba∧Blk w' ba [.slice p (n/256-f) c2,.int .i64 0,.pointer (some ⟨b,0,none⟩)] 120∧w'.ownsRow w.heap.size 3 1 (.slice p (n/256-f) c2) (n/256-f) ((rngJ f (n/256-f)).map (Value.int .i64))) w):=by
 refine zin 37 Tryz.func47 ?_
 refine xgk 16 [12,13,14] (show(decide ((↑f:Int)<(1:Int)):Bool)=false from decide_eq_false (by omega)) ?_
 refine xr 2 (args:=#[.pointer (some ⟨b,0,none⟩)]) (Gy b p0 n c _ hk (by omega)) fun W2 hb2=>?_
 refine xk 4 (show(decide ((↑f:Int)>(↑(n/256):Int)):Bool)=false from decide_eq_false (by omega)) ?_
 have hk'1:=hk.below hb2
 refine zl 15 37 (fun zm zkv V=>∃ (j:Nat) (p:Option Addr) (c2:Nat),zkv=[(0,.pointer (some ⟨b,0,none⟩)),(4,.pointer none),(5,.nilIface),(6,.slice p j c2),(7,.int .i64 (↑(f+j):Int))]∧zm=n/256-((↑(f+j):Int)).toNat∧Below w.heap.size w V∧Blk V b ([.slice p0 n c]) 56∧V.ownsRow w.heap.size 3 1 (.slice p j c2) j ((rngJ f j).map (Value.int .i64))∧f+j≤n/256) ⟨0,_,_,rfl,rfl,hb2,hk'1,World.ownsRow_nil _ _ _ _,by omega⟩ ?_
 rintro _ _ W3 ⟨j,p,c2,rfl,rfl,hB_3,k3_b,ho,hj⟩ J3 hJ3 r3
 refine xr 5 (args:=#[.pointer (some ⟨b,0,none⟩)]) (Gy b p0 n c _ k3_b (by omega)) fun W4 hb4=>?_
 refine xid 3 ((↑(f+j):Int)<(↑(n/256):Int)) (fun hc5=>?_) (fun hc5=>?_)
 ·refine xbs 7 1 [.int .i64 (↑(f+j):Int)] 3 fun b6 W6 n6=>?_
  have hB'1:=bln hB_3 hb4
  have g6:=n6.ge hB'1
  have ho'1:=Zb ho hb4
  have r6_ho:=Zu ho'1 n6
  have ho'2:=Zb ho'1 n6.below
  have hB'2:=bln hB'1 n6.below
  refine xbi 0 fun _ _ _ _ zJ zQ zo zx zy zK=>Zp (m:=1) (news:=[.int .i64 (↑(f+j):Int)]) (.int .i64 0) 1 8 (j+1) ((rngJ f (j+1)).map (Value.int .i64)) zo Tryz.underlying30 (by kernel_rfl) rfl (by decide) zx ho'2 zy (n6.blk.sl 1 1 (by decide) (by decide)) rfl (by simp[Value.oneCell']) (by unfold maxLen;omega) (by omega) hB'2.size (by rfl) (by rw[rngJ_succ];simp) fun px7 cx7 W7 o7 hg7 hb7=>?_
  refine zK _ _ ?_
  refine xwm 6 ((↑(f+j):Int)+1) (↑((f+j)+1):Int) ?_
  have hB'3:=hB'2.trans hb7
  have k3_b'1:=((k3_b.below hb4).below n6.below).grown hg7 ho'2 (by decide)
  exact ze 2 (hJ3 _ _ _ ⟨j+1,_,_,rfl,rfl,hB'3,k3_b'1,o7,by omega⟩ (by omega))
 refine xa 11 [.slice p j c2,.int .i64 0,.pointer (some ⟨b,0,none⟩)] 120 fun b8 W8 n8=>?_
 have hB'4:=bln hB_3 hb4
 have g8:=n8.ge hB'4
 have hB'5:=bln hB'4 n8.below
 have ho'3:=Zb (Zb ho hb4) n8.below
 refine xe 5 (.tuple #[.pointer (some ⟨b8,0,none⟩),.nilIface]) ?_
 obtain rfl:j=n/256-f:=by omega
 exact⟨_,rfl,hB'5,_,_,_,rfl,g8,n8.blk,ho'3⟩
theorem Wy(ba b:Nat)(v x:Value)(w:World)(hk:Blk w ba [v,x,.pointer (some ⟨b,0,none⟩)] 120) :
 Calls Tryz.prog 55 #[.pointer (some ⟨ba,0,none⟩)] w (Ret (.bool false) w):=by
 refine zin 12 Tryz.func55 ?_
 refine xb 13 2 hk ?_
 exact xe 6 (.bool false) ⟨rfl,(Below.refl w.heap.size _)⟩
theorem alloc_left(ba:Nat)(p:Option Addr)(N c k:Nat)(m:Value)(w:World)(hk:Blk w ba [.slice p N c,.int .i64 (k:Int),m] 120)(h1:k≤N) :
 Calls Tryz.prog 82 #[.pointer (some ⟨ba,0,none⟩)] w (Ret (.slice (Qm p k c 1) (N-k) (c-k)) w):=by
 refine zin 12 Tryz.func82 ?_
 refine xd 6 .z ?_
 have hk'1:=hk.below (Za w)
 refine xb (.e [0,1,2] 3) 0 hk'1 ?_
 refine xb (.e [4,5,6] 7) 1 hk'1 ?_
 refine xsL (.e [] 8) (fun _ _ _ _ zo zx zy V=>Yg (k:=k) (b:=p) (n:=N) (c:=c) (i:=(↑k:Int)) (ki:=.i64) 1 zo zx zy rfl (by omega) Tryz.underlying30 (by kernel_rfl) V) ?_
 have hB:=(Za w)
 exact xe (.r [9] 3) (.slice (Qm p k c 1) (N-k) (c-k)) ⟨rfl,hB⟩
theorem Iy(ba b:Nat)(p:Option Addr)(N c k:Nat)(w:World)(hk:Blk w ba [.slice p N c,.int .i64 (k:Int),.pointer (some ⟨b,0,none⟩)] 120)(h1:k≤N) :
 Calls Tryz.prog 49 #[.pointer (some ⟨ba,0,none⟩)] w (Ret (.int .i64 ((N-k:Nat):Int)) w):=by
 refine zin 10 Tryz.func49 ?_
 refine xr 9 (args:=#[.pointer (some ⟨ba,0,none⟩)]) (Wy ba b _ _ _ hk) fun W1 hb1=>?_
 have hk'1:=hk.below hb1
 refine xr 10 (args:=#[.pointer (some ⟨ba,0,none⟩)]) (alloc_left ba p N c k _ _ hk'1 h1) fun W2 hb2=>?_
 have hB:=bln hb1 hb2
 exact xe 5 (.int .i64 (↑(N-k):Int)) ⟨rfl,hB⟩
def Took(B ba:Nat)(p:Option Addr)(N c k:Nat)(m:Value)(L:List Int)(v:Value)(w:World)(e:Ending)(w':World):Prop :=
 e=.returned v∧Below B w w'∧Ze [120] w w'∧Fr [ba] w w'∧Blk w' ba [.slice p N c,.int .i64 ((k+1:Nat):Int),m] 120∧w'.ownsRow B 3 1 (.slice p N c) N (L.map (Value.int .i64))
theorem IntsN.elem{w:World}{b:Option Addr}{n c:Nat}{l:List Int}(h:Sl w (.slice b n c) n (l.map (Value.int .i64)))(hl:l.length=n){k:Nat}(hk:k<n):b.isSome=true∧w.cell? (Xh b (k*1))=some (.int .i64 (l.getD k 0)):=by
 subst hl;exact Ints.elem h hk
theorem alloc_take(B ba:Nat)(p:Option Addr)(N c k:Nat)(L:List Int)(hL:L.length=N)(m:Value)(w:World)(hk:Blk w ba [.slice p N c,.int .i64 (k:Int),m] 120)(ho:w.ownsRow B 3 1 (.slice p N c) N (L.map (Value.int .i64)))(hB0:B≤ba)(hBw:B≤w.heap.size)(hN:N≤1000000)(hkN:k<N) :
 Calls Tryz.prog 180 #[.pointer (some ⟨ba,0,none⟩)] w (Took B ba p N c k m L (.tuple #[.int .i64 (L.getD k 0),.bool true]) w):=by
 refine zin 32 Tryz.func180 ?_
 refine xd 8 .z ?_
 have hk'1:=hk.below (Za w)
 refine xb (.e [0,1,2] 3) 1 hk'1 ?_
 refine xb (.e [4,5,6] 7) 0 hk'1 ?_
 refine xk (.r [8,9] 2) (show(decide ((↑k:Int)≥(↑N:Int)):Bool)=false from decide_eq_false (by omega)) ?_
 refine xb 7 1 hk'1 ?_
 refine xwm 0 ((↑k:Int)+1) (↑(k+1):Int) ?_
 refine xs 2 hk'1 [.slice p N c,.int .i64 (↑(k+1):Int),m] fun W1 u1 k1=>?_
 refine xd 3 .z ?_
 have k1'1:=k1.below (Za W1)
 refine xb (.e [0,1,2] 3) 0 k1'1 ?_
 refine xb (.e [4,5,6] 7) 1 k1'1 ?_
 refine xwm (.e [] 8) ((↑(k+1):Int)-1) (↑k:Int) ?_
 have ho'1:=Zb (u1.own2 (Zb ho (Za w)) hk'1 (by decide)) (Za W1)
 refine xx (.e [] 9) _ N k 1 (IntsN.elem (Zf ho'1) hL (k:=k) (by omega)).1 ?_
 refine xl (.e [] 10) ((IntsN.elem (Zf ho'1) hL (k:=k) (by omega)).2) ?_
 have hB:=blB (u1.below (blB (Below.refl B w) hBw (Za w)) hB0) hBw (Za W1)
 have hO:=((show Ze [120] w _ from(Ze.of_below (Za w))).trans (Ze.of_upd u1 hk'1 (by decide))).trans (Ze.of_below (Za W1))
 have hX:=((show Fr [ba] w _ from(Fr.of_below (Za w))).trans (Fr.of_upd u1 (by simp))).trans (Fr.of_below (Za W1))
 exact xe (.r [11,12] 3) (.tuple #[.int .i64 (L.getD k 0),.bool true]) ⟨rfl,hB,hO,hX,k1'1,ho'1⟩
theorem alloc_Next(B ba:Nat)(p:Option Addr)(N c k:Nat)(L:List Int)(hL:L.length=N)(b q:Nat)(hq:L.getD k 0=(q:Int))(w:World)(hk:Blk w ba [.slice p N c,.int .i64 (k:Int),.pointer (some ⟨b,0,none⟩)] 120)(ho:w.ownsRow B 3 1 (.slice p N c) N (L.map (Value.int .i64)))(hB0:B≤ba)(hBw:B≤w.heap.size)(hN:N≤1000000)(hkN:k<N) :
 Calls Tryz.prog 132 #[.pointer (some ⟨ba,0,none⟩)] w (Took B ba p N c k (.pointer (some ⟨b,0,none⟩)) L (.tuple #[.int .i64 (q:Int),.nilIface]) w):=by
 refine zin 20 Tryz.func132 ?_
 refine xr 10 (args:=#[.pointer (some ⟨ba,0,none⟩)]) (Wy ba b _ _ _ hk) fun W1 hb1=>?_
 have hk'1:=hk.below hb1
 have ho'1:=Zb ho hb1
 have hB:=blB (Below.refl B w) hBw hb1
 refine xc 10 (args:=#[.pointer (some ⟨ba,0,none⟩)]) (alloc_take B ba p N c k L hL _ _ hk'1 ho'1 hB0 (Nat.le_trans hBw hB.size) hN hkN) ?_
 rintro _ W2 ⟨rfl,hb2,hO2,hX2,kA,ho⟩
 rw[hq]
 have hB'1:=hB.trans hb2
 have hO:=(show Ze [120] w _ from(Ze.of_below hb1)).trans hO2
 have hX:=(show Fr [ba] w _ from(Fr.of_below hb1)).trans (hX2.mono (by simp))
 exact xe 25 (.tuple #[.int .i64 (↑q:Int),.nilIface]) ⟨rfl,hB'1,hO,hX,kA,ho⟩
def Laid(B ba b g n c:Nat)(pa:Option Addr)(ca f N k:Nat)(l:List UInt8)(kind:Int)(li:List UInt8)(w:World)(e:Ending)(w':World):Prop :=
 e=.returned (.tuple #[.int .i64 ((f+k:Nat):Int),.nilIface])∧Below B w w'∧Ze [120,5] w w'∧Fr [ba,g] w w'∧Al B ba b g n c pa ca f N (k+1) (Kf l ((f+k)*256) (Yp kind ((f+k:Nat):Int) li)) w'
theorem Ze.mono{T T':List TypeId}{w w':World}(h:Ze T w w')(hT:∀ t,T'.contains t=false→T.contains t=false):Ze T' w w':=fun k cs t fr hk ht=>h k cs t fr hk (hT t ht)
theorem only_aa{w w':World}(h:Ze [120] w w'):Ze [120,5] w w':=h.mono fun t ht=>by simp at ht ⊢;exact ht.1
theorem only_ab{w w':World}(h:Ze [5] w w'):Ze [120,5] w w':=h.mono fun t ht=>by simp at ht ⊢;exact ht.2
theorem alloc_Lay(B ba b g n c:Nat)(p:Option Addr)(ca f N k:Nat)(l:List UInt8)(kind:Int)(a:Option Addr)(ci:Nat)(li:List UInt8)(w:World)(hC:AlC B ba n c ca f N)(hA:Al B ba b g n c p ca f N k l w)(hkN:k<N)(h1:1≤kind)(h2:kind≤4)(hin:∀ W,Below B w W→Ze [120] w W→Bys W (.slice a li.length ci) li)(hl:li.length≤244)(hBw:B≤w.heap.size) :
 Calls Tryz.prog 85 #[.pointer (some ⟨ba,0,none⟩),.int .i64 kind,.slice a li.length ci] w (Laid B ba b g n c p ca f N k l kind li w):=by
 obtain⟨hk,hi,hd,ho⟩:=hA
 refine zin 35 Tryz.func85 ?_
 refine xc 9 (args:=#[.pointer (some ⟨ba,0,none⟩)]) (alloc_Next B ba p N ca k (rngJ f N) (rngJ_len f N) b (f+k) (rngJ_get hkN) _ hk ho hC.hB (Nat.le_trans hBw (Below.refl B _).size) (by have:=hC.hf;have:=hC.hn;omega) hkN) ?_
 rintro _ W1 ⟨rfl,hb1,hO1,hX1,kA,ho⟩
 replace hin:=hin _ hb1 hO1
 refine xb 23 2 kA ?_
 have hi'1:=hi.only hO1 (by decide)
 have hd'1:=Zl hd hO1 (by decide)
 refine xc 3 (args:=#[.pointer (some ⟨b,0,none⟩),.int .i64 (↑(f+k):Int),.int .i64 kind,.slice a li.length ci]) (Zeh B b g n c (f+k) l kind a ci li _ hi'1 hd'1 hC.hn hC.hc (by have:=hC.hf;omega) h1 h2 hin hl (Nat.le_trans hBw hb1.size)) ?_
 rintro _ W2 ⟨rfl,hb2,hO2,hX2,hd⟩
 have hB'1:=hb1.trans hb2
 have hO:=(show Ze [120,5] w _ from(only_aa hO1)).trans (only_ab hO2)
 have hX:=(show Fr [ba,g] w _ from(hX1.mono (by simp))).trans (hX2.mono (by simp))
 have kA'1:=kA.only hO2 (by decide)
 have hi'2:=hi'1.only hO2 (by decide)
 have ho'1:=Zl ho hO2 (by decide)
 exact xe 20 (.tuple #[.int .i64 (↑(f+k):Int),.nilIface]) ⟨rfl,hB'1,hO,hX,kA'1,hi'2,hd,ho'1⟩
theorem Dj(w:World) :
 Calls Tryz.prog 135 #[.int .i64 1,.bool true] w (Ret (.int .i64 4) w):=by
 refine zin 31 Tryz.func135 ?_
 exact xe 94 (.int .i64 4) ⟨rfl,(Below.refl w.heap.size _)⟩
theorem node_Max1l(w:World) :
 Calls Tryz.prog 127 #[.int .i64 1,.bool true] w (Ret (.int .i64 18) w):=by
 refine zin 16 Tryz.func127 ?_
 refine xr 9 (args:=#[.int .i64 1,.bool true]) (Dj _) fun W1 hb1=>?_
 exact xe 24 (.int .i64 18) ⟨rfl,hb1⟩
theorem Du(w:World) :
 Calls Tryz.prog 135 #[.int .i64 1,.bool false] w (Ret (.int .i64 4) w):=by
 refine zin 31 Tryz.func135 ?_
 exact xe 41 (.int .i64 4) ⟨rfl,(Below.refl w.heap.size _)⟩
theorem node_Max1i(w:World) :
 Calls Tryz.prog 127 #[.int .i64 1,.bool false] w (Ret (.int .i64 18) w):=by
 refine zin 16 Tryz.func127 ?_
 refine xr 9 (args:=#[.int .i64 1,.bool false]) (Du _) fun W1 hb1=>?_
 exact xe 24 (.int .i64 18) ⟨rfl,hb1⟩
theorem Dw(w:World) :
 Calls Tryz.prog 135 #[.int .i64 2,.bool true] w (Ret (.int .i64 8) w):=by
 refine zin 31 Tryz.func135 ?_
 exact xe 101 (.int .i64 8) ⟨rfl,(Below.refl w.heap.size _)⟩
theorem node_Max2l(w:World) :
 Calls Tryz.prog 127 #[.int .i64 2,.bool true] w (Ret (.int .i64 12) w):=by
 refine zin 16 Tryz.func127 ?_
 refine xr 9 (args:=#[.int .i64 2,.bool true]) (Dw _) fun W1 hb1=>?_
 exact xe 24 (.int .i64 12) ⟨rfl,hb1⟩
theorem Cs(w:World) :
 Calls Tryz.prog 135 #[.int .i64 2,.bool false] w (Ret (.int .i64 4) w):=by
 refine zin 31 Tryz.func135 ?_
 exact xe 41 (.int .i64 4) ⟨rfl,(Below.refl w.heap.size _)⟩
theorem node_Max2i(w:World) :
 Calls Tryz.prog 127 #[.int .i64 2,.bool false] w (Ret (.int .i64 18) w):=by
 refine zin 16 Tryz.func127 ?_
 refine xr 9 (args:=#[.int .i64 2,.bool false]) (Cs _) fun W1 hb1=>?_
 exact xe 24 (.int .i64 18) ⟨rfl,hb1⟩
theorem Dn(w:World) :
 Calls Tryz.prog 135 #[.int .i64 3,.bool true] w (Ret (.int .i64 24) w):=by
 refine zin 31 Tryz.func135 ?_
 exact xe 93 (.int .i64 24) ⟨rfl,(Below.refl w.heap.size _)⟩
theorem node_Max3l(w:World) :
 Calls Tryz.prog 127 #[.int .i64 3,.bool true] w (Ret (.int .i64 6) w):=by
 refine zin 16 Tryz.func127 ?_
 refine xr 9 (args:=#[.int .i64 3,.bool true]) (Dn _) fun W1 hb1=>?_
 exact xe 24 (.int .i64 6) ⟨rfl,hb1⟩
theorem Ct(w:World) :
 Calls Tryz.prog 135 #[.int .i64 3,.bool false] w (Ret (.int .i64 4) w):=by
 refine zin 31 Tryz.func135 ?_
 exact xe 41 (.int .i64 4) ⟨rfl,(Below.refl w.heap.size _)⟩
theorem node_Max3i(w:World) :
 Calls Tryz.prog 127 #[.int .i64 3,.bool false] w (Ret (.int .i64 18) w):=by
 refine zin 16 Tryz.func127 ?_
 refine xr 9 (args:=#[.int .i64 3,.bool false]) (Ct _) fun W1 hb1=>?_
 exact xe 24 (.int .i64 18) ⟨rfl,hb1⟩
theorem Df(w:World) :
 Calls Tryz.prog 135 #[.int .i64 4,.bool true] w (Ret (.int .i64 16) w):=by
 refine zin 31 Tryz.func135 ?_
 exact xe 98 (.int .i64 16) ⟨rfl,(Below.refl w.heap.size _)⟩
theorem node_Max4l(w:World) :
 Calls Tryz.prog 127 #[.int .i64 4,.bool true] w (Ret (.int .i64 9) w):=by
 refine zin 16 Tryz.func127 ?_
 refine xr 9 (args:=#[.int .i64 4,.bool true]) (Df _) fun W1 hb1=>?_
 exact xe 24 (.int .i64 9) ⟨rfl,hb1⟩
theorem Dg(w:World) :
 Calls Tryz.prog 135 #[.int .i64 4,.bool false] w (Ret (.int .i64 4) w):=by
 refine zin 31 Tryz.func135 ?_
 exact xe 41 (.int .i64 4) ⟨rfl,(Below.refl w.heap.size _)⟩
theorem Zhl(w:World) :
 Calls Tryz.prog 127 #[.int .i64 4,.bool false] w (Ret (.int .i64 18) w):=by
 refine zin 16 Tryz.func127 ?_
 refine xr 9 (args:=#[.int .i64 4,.bool false]) (Dg _) fun W1 hb1=>?_
 exact xe 24 (.int .i64 18) ⟨rfl,hb1⟩
theorem Di(w:World) :
 Calls Tryz.prog 135 #[.int .i64 5,.bool true] w (Ret (.int .i64 4) w):=by
 refine zin 31 Tryz.func135 ?_
 exact xe 94 (.int .i64 4) ⟨rfl,(Below.refl w.heap.size _)⟩
theorem node_Max5l(w:World) :
 Calls Tryz.prog 127 #[.int .i64 5,.bool true] w (Ret (.int .i64 18) w):=by
 refine zin 16 Tryz.func127 ?_
 refine xr 9 (args:=#[.int .i64 5,.bool true]) (Di _) fun W1 hb1=>?_
 exact xe 24 (.int .i64 18) ⟨rfl,hb1⟩
theorem Dd(w:World) :
 Calls Tryz.prog 135 #[.int .i64 5,.bool false] w (Ret (.int .i64 4) w):=by
 refine zin 31 Tryz.func135 ?_
 exact xe 41 (.int .i64 4) ⟨rfl,(Below.refl w.heap.size _)⟩
theorem node_Max5i(w:World) :
 Calls Tryz.prog 127 #[.int .i64 5,.bool false] w (Ret (.int .i64 18) w):=by
 refine zin 16 Tryz.func127 ?_
 refine xr 9 (args:=#[.int .i64 5,.bool false]) (Dd _) fun W1 hb1=>?_
 exact xe 24 (.int .i64 18) ⟨rfl,hb1⟩
def Uk(t:Int)(leaf:Bool):Nat:=if leaf=false then 4 else if t=2 then 8 else if t=3 then 24 else if t=4 then 16 else 4
def Ki(t:Int)(leaf:Bool):Nat:=if leaf=false then 18 else if t=2 then 12 else if t=3 then 6 else if t=4 then 9 else 18
theorem Tq(t:Int)(leaf:Bool)(h1:1≤t)(h2:t≤5)(w:World):Calls Tryz.prog 135 #[.int .i64 t,.bool leaf] w (Ret (.int .i64 (Uk t leaf:Int)) w):=by
 obtain rfl|rfl|rfl|rfl|rfl:t=1∨t=2∨t=3∨t=4∨t=5:=by omega
 all_goals cases leaf
 ·exact Du w
 ·exact Dj w
 ·exact Cs w
 ·exact Dw w
 ·exact Ct w
 ·exact Dn w
 ·exact Dg w
 ·exact Df w
 ·exact Dd w
 ·exact Di w
theorem Ej(t:Int)(leaf:Bool)(h1:1≤t)(h2:t≤5)(w:World):Calls Tryz.prog 127 #[.int .i64 t,.bool leaf] w (Ret (.int .i64 (Ki t leaf:Int)) w):=by
 obtain rfl|rfl|rfl|rfl|rfl:t=1∨t=2∨t=3∨t=4∨t=5:=by omega
 all_goals cases leaf
 ·exact node_Max1i w
 ·exact node_Max1l w
 ·exact node_Max2i w
 ·exact node_Max2l w
 ·exact node_Max3i w
 ·exact node_Max3l w
 ·exact Zhl w
 ·exact node_Max4l w
 ·exact node_Max5i w
 ·exact node_Max5l w
theorem Qg(t:Int)(leaf:Bool):1≤Ki t leaf∧Ki t leaf≤18:=by
 unfold Ki;repeat' split
 all_goals decide
theorem run_quo{P:Program}{a:Act}{o:Oper}{t:TypeId}{x y:Operand}{t2:TypeId}{p q r:Int}{k:IntKind}(ho:o.op=.binOp .quo t x y t2)(hx:a.eval x=.int k p)(hy:a.eval y=.int k q)(hq:q≠0)(hr:k.wrap (Int.tdiv p q)=r)(w:World) :
 (execOp a.eval o).run P w=.ok (.value (.int k r)) w:=by
 subst hr
 have hb:(binOp .quo t (.int k p) (.int k q)).run P w=.ok (.int k (k.wrap (p.tdiv q))) w:=by
  simp[binOp,Op.intDiv,hq]
 have hg:(eqGuard .quo t x y (.int k p) (.int k q)).run P w=.ok () w:=rfl
 simp only[execOp,ho,hx,hy,Sem.run_bind,hg,Result.andThen_ok,hb]
 rfl
def ovN (n m:Nat):Nat:=max 1 ((n+m-1)/m)
theorem max_cast(a b:Nat):(if(b:Int)>(a:Int) then(b:Int) else(a:Int))=((max a b:Nat):Int):=by split<;>omega
theorem Qd(n m:Nat):1≤ovN n m:=by unfold ovN;omega
theorem Zck(n m:Nat)(hm:1≤m):ovN n m≤n+1:=by
 have:(n+m-1)/m≤n:=by
  rw[Nat.div_le_iff_le_mul_add_pred (by omega)]
  have:=Nat.le_mul_of_pos_left n hm
  omega
 unfold ovN;omega
theorem ov18{x:Nat}(h:2≤x):ovN x 18≤x/2:=by unfold ovN;omega
theorem Si(n m:Nat)(w:World)(hn:n≤1000000)(hm:1≤m)(hm2:m≤1000000) :
 Calls Tryz.prog 128 #[.int .i64 (↑n:Int),.int .i64 (↑m:Int)] w (Ret (.int .i64 (ovN n m:Int)) w):=by
 refine zin 12 Tryz.func128 ?_
 refine xwm 9 ((↑n:Int)+(↑m:Int)) (↑(n+m):Int) ?_
 refine xwm 0 ((↑(n+m):Int)-1) (↑((n+m)-1):Int) ?_
 refine xbo 1 (t:=3) (t2:=3) (fun _ _ _ _ zo zx zy V hV=>run_quo (r:=(↑((n+m-1)/m):Int)) zo zx zy (by omega) (Zd2 (n+m-1) m (by omega) (by omega)) V) ?_
 refine xq 0 (congrArg (Value.int .i64) (show(if(↑((n+m-1)/m):Int)>(1:Int) then(↑((n+m-1)/m):Int) else(1:Int):Int)=(↑(ovN n m):Int) from max_cast 1 ((n+m-1)/m))) ?_
 exact xe 4 (.int .i64 (↑(ovN n m):Int)) ⟨rfl,(Below.refl w.heap.size _)⟩
def lenOf:Value→Nat
 | .slice _ n _=>n
 | _=>0
def nv (n:Nat):Value:=.int .i64 (n:Int)
def Gp(x:Nat):List Nat:=if h:x≤1 then [x] else x::Gp (ovN x 18)
termination_by x
decreasing_by have:=ov18 (x:=x) (by omega);omega
theorem Jt{x:Nat}(h:x≤1):Gp x=[x]:=by rw[Gp];simp[h]
theorem Kj{x:Nat}(h:¬ x≤1):Gp x=x::Gp (ovN x 18):=by rw[Gp];simp[h]
theorem Zf7{x:Nat}(h:1≤x):(Gp x).sum≤2*x:=by
 induction x using Nat.strongRecOn with
 | _ x ih =>
  by_cases h1:x≤1
  ·rw[Jt h1];simp;omega
  ·rw[Kj h1,List.sum_cons]
   have h2:=ov18 (x:=x) (by omega)
   have:=ih (ovN x 18) (by omega) (Qd _ _)
   omega
theorem levs_len{x:Nat}(h:1≤x):(Gp x).length≤x:=by
 induction x using Nat.strongRecOn with
 | _ x ih =>
  by_cases h1:x≤1
  ·rw[Jt h1];simpa using h
  ·rw[Kj h1,List.length_cons]
   have h2:=ov18 (x:=x) (by omega)
   have:=ih (ovN x 18) (by omega) (Qd _ _)
   omega
theorem Zt{w:World}{b:Option Addr}{n c:Nat}{l:List Nat}(h:Sl w (.slice b n c) n (l.map nv))(hl:l.length=n){k:Nat}(hk:k<n):b.isSome=true∧w.cell? (Xh b (k*1))=some (.int .i64 ((l.getD k 0:Nat):Int)):=by
 have e:l.map nv=(l.map fun x:Nat=>(x:Int)).map (Value.int .i64):=by simp[nv]
 rw[e] at h
 have:=IntsN.elem h (by simpa using hl) hk
 rw[show(l.map fun x:Nat=>(x:Int)).getD k 0=((l.getD k 0:Nat):Int) by simp[List.getD,List.getElem?_eq_getElem (show k<l.length by omega)]] at this
 exact this
theorem Zbl{xs:List Nat}{x j:Nat}(h:xs.length=j):(xs++[x]).getD j 0=x:=by subst h;simp[List.getD]
theorem Zay{L:List Nat}{k:Nat}(h:k<L.length):(L.take (k+1)).sum=(L.take k).sum+L.getD k 0:=by
 rw[List.take_add_one,List.sum_append];simp[List.getD,List.getElem?_eq_getElem h]
theorem take_le{L:List Nat}(k:Nat):(L.take k).sum≤L.sum:=by
 conv=>rhs;rw[←List.take_append_drop k L,List.sum_append]
 omega
def Hi(t:Int)(n:Nat):List Nat:=Gp (ovN n (Ki t true))
def Qt(t:Int)(n:Nat):Nat:=(Hi t n).sum
theorem levL_len(t:Int)(n:Nat):(Hi t n).length≤n+1:=by
 have:=levs_len (Qd n (Ki t true));have:=Zck n (Ki t true) (Qg t true).1;unfold Hi;omega
theorem Zat(t:Int)(n:Nat):Qt t n≤2*n+2:=by
 have:=Zf7 (Qd n (Ki t true));have:=Zck n (Ki t true) (Qg t true).1;unfold Qt Hi;omega
theorem Ze8(t:Int)(n:Nat)(w:World)(h1:1≤t)(h2:t≤5)(hn:n≤32768) :
 Calls Tryz.prog 83 #[.int .i64 t,.int .i64 (↑n:Int)] w (Vn (fun w' r=>∃ p c,r=.slice p (Hi t n).length c∧w'.ownsRow w.heap.size 3 1 (.slice p (Hi t n).length c) (Hi t n).length ((Hi t n).map nv)) w):=by
 have hm1:=(Qg t true).1
 have hm2:=(Qg t true).2
 have hov:=Zck n (Ki t true) hm1
 have hop:=Qd n (Ki t true)
 refine zin 45 Tryz.func83 ?_
 refine xr 8 (args:=#[.int .i64 t,.bool true]) (Ej t true h1 h2 _) fun W1 hb1=>?_
 refine xr 1 (args:=#[.int .i64 t,.bool false]) (Ej t false h1 h2 _) fun W2 hb2=>?_
 refine xgk 10 [13,14] (show(((↑(Ki t true):Int)==(0:Int)):Bool)=false from by simp;omega) ?_
 refine xgk 4 [16,17,18] (show(decide ((↑n:Int)<(0:Int)):Bool)=false from decide_eq_false (by omega)) ?_
 refine xk 5 (show(decide ((↑n:Int)>(32768:Int)):Bool)=false from decide_eq_false (by omega)) ?_
 refine xr 6 (args:=#[.int .i64 (↑n:Int),.int .i64 (↑(Ki t true):Int)]) (Si n (Ki t true) _ (by omega) hm1 (by omega)) fun W5 hb5=>?_
 refine xbs 0 1 [.int .i64 (↑(ovN n (Ki t true)):Int)] 3 fun b6 W6 n6=>?_
 have g6:=n6.ge (bln (bln hb1 hb2) hb5)
 have hB:=bln (bln (bln hb1 hb2) hb5) n6.below
 refine zl 5 45 (fun zm zkv V=>∃ (j x:Nat) (xs:List Nat) (p:Option Addr) (c:Nat),zkv=[(4,.slice none 0 0),(6,.int .i64 18),(7,.slice p (j+1) c)]∧zm=40000-(j+1)∧Below w.heap.size w V∧V.ownsRow w.heap.size 3 1 (.slice p (j+1) c) (j+1) ((xs++[x]).map nv)∧xs.length=j∧1≤x∧x≤32769∧xs++Gp x=Hi t n∧j+x≤40000) ⟨0,(ovN n (Ki t true)),[],_,_,rfl,rfl,hB,Zw (size:=1) (n:=1) n6.blk g6 rfl (by unfold maxLen;decide),rfl,hop,by omega,rfl,by omega⟩ ?_
 rintro _ _ W7 ⟨j,x,xs,p,c,rfl,rfl,hB_7,ho,hxl,hx1,hx2,hxs,hj⟩ J7 hJ7 r7
 refine xwm 6 ((↑(j+1):Int)-1) (↑j:Int) ?_
 refine xx 0 _ (j+1) j 1 (Zt (Zf ho) (by simp[hxl]) (k:=j) (by omega)).1 ?_
 refine xl 0 (by have:=(Zt (Zf ho) (by simp[hxl]) (k:=j) (by omega)).2;rwa [Zbl hxl] at this) ?_
 refine xid 3 ((↑x:Int)>(1:Int)) (fun hc8=>?_) (fun hc8=>?_)
 ·refine xwm 8 ((↑(j+1):Int)-1) (↑j:Int) ?_
  refine xx 0 _ (j+1) j 1 (Zt (Zf ho) (by simp[hxl]) (k:=j) (by omega)).1 ?_
  refine xl 0 (by have:=(Zt (Zf ho) (by simp[hxl]) (k:=j) (by omega)).2;rwa [Zbl hxl] at this) ?_
  refine xr 1 (args:=#[.int .i64 (↑x:Int),.int .i64 18]) (Si x 18 _ (by omega) (by decide) (by decide)) fun W9 hb9=>?_
  refine xbs 0 1 [.int .i64 (↑(ovN x 18):Int)] 3 fun b10 W10 n10=>?_
  have hB'1:=bln hB_7 hb9
  have g10:=n10.ge hB'1
  have ho'1:=Zb ho hb9
  have r10_ho:=Zu ho'1 n10
  have ho'2:=Zb ho'1 n10.below
  have hB'2:=bln hB'1 n10.below
  refine xbi 0 fun _ _ _ _ zJ zQ zo zx zy zK=>Zp (m:=1) (news:=[.int .i64 (↑(ovN x 18):Int)]) (.int .i64 0) 1 8 (j+1+1) (((xs++[x])++[ovN x 18]).map nv) zo Tryz.underlying30 (by kernel_rfl) rfl (by decide) zx ho'2 zy (n10.blk.sl 1 1 (by decide) (by decide)) rfl (by simp[Value.oneCell']) (by unfold maxLen;omega) (by omega) hB'2.size (by rfl) (by simp[nv]) fun px11 cx11 W11 o11 hg11 hb11=>?_
  refine zK _ _ ?_
  have h18:=ov18 (x:=x) (by omega)
  have hB'3:=hB'2.trans hb11
  exact ze 3 (hJ7 _ _ _ ⟨j+1,(ovN x 18),xs++[x],_,_,rfl,rfl,hB'3,o11,by simp[hxl],Qd _ _,by omega,by rw[←hxs,Kj (x:=x) (by omega)];simp,by omega⟩ (by omega))
 refine xe 12 (.slice p (j+1) c) ?_
 have e:Hi t n=xs++[x]:=by rw[←hxs,Jt (x:=x) (by omega)]
 have el:(Hi t n).length=j+1:=by rw[e];simp[hxl]
 exact⟨_,rfl,hB_7,p,c,by rw[el],by rw[el,e];exact ho⟩
theorem Pw(t:Int)(n:Nat)(w:World)(h1:1≤t)(h2:t≤5)(hn:n≤32768) :
 Calls Tryz.prog 50 #[.int .i64 t,.int .i64 (↑n:Int)] w (Ret (.int .i64 (Qt t n:Int)) w):=by
 refine zin 21 Tryz.func50 ?_
 refine xc 15 (args:=#[.int .i64 t,.int .i64 (↑n:Int)]) (Ze8 t n _ h1 h2 hn) ?_
 rintro _ W1 ⟨_,rfl,hb1,p,c,rfl,ho⟩
 have hs1:=Nat.le_refl w.heap.size
 have ho'1:=Zd ho hs1
 refine zl 5 21 (fun zm zkv V=>∃ (k:Nat),zkv=[(4,.int .i64 0),(5,.int .i64 (↑((Hi t n).take k).sum:Int)),(10,.slice p ((Hi t n).length) c),(11,.int .i64 (↑((Hi t n).length):Int)),(12,.int .i64 (↑k:Int))]∧zm=(Hi t n).length-((↑k:Int)).toNat∧Below w.heap.size w V∧V.ownsRow w.heap.size 3 1 (.slice p (Hi t n).length c) (Hi t n).length ((Hi t n).map nv)∧k≤(Hi t n).length) ⟨0,rfl,rfl,hb1,ho'1,Nat.zero_le _⟩ ?_
 rintro _ _ W2 ⟨k,rfl,rfl,hB_2,ho,hk⟩ J2 hJ2 r2
 have hl1:=levL_len t n
 have hs1:=Zat t n
 unfold Qt at hs1
 have hs2:=take_le (L:=Hi t n) (k+1)
 have hs3:k<(Hi t n).length→((Hi t n).take (k+1)).sum=((Hi t n).take k).sum+(Hi t n).getD k 0:=Zay
 refine xid 6 ((↑k:Int)<(↑((Hi t n).length):Int)) (fun hc3=>?_) (fun hc3=>?_)
 ·refine xx 6 _ ((Hi t n).length) k 1 (Zt (Zf ho) rfl (k:=k) (by omega)).1 ?_
  refine xl 0 ((Zt (Zf ho) rfl (k:=k) (by omega)).2) ?_
  refine xwm 6 ((↑((Hi t n).take k).sum:Int)+(↑((Hi t n).getD k 0):Int)) (↑(((Hi t n).take k).sum+((Hi t n).getD k 0)):Int) ?_
  refine xwm 5 ((↑k:Int)+1) (↑(k+1):Int) ?_
  refine xv1 2 5 (show(.int .i64 (↑(((Hi t n).take k).sum+((Hi t n).getD k 0)):Int):Value)=.int .i64 (↑((Hi t n).take (k+1)).sum:Int) from by rw[Zay (by omega)]) ?_
  exact ze 0 (hJ2 _ _ _ ⟨k+1,rfl,rfl,hB_2,ho,by omega⟩ (by omega))
 refine xe 12 (.int .i64 (↑((Hi t n).take k).sum:Int)) ?_
 have e:k=(Hi t n).length:=by omega
 subst e
 rw[List.take_length]
 exact⟨rfl,hB_2⟩
def Qc(n m i:Nat):Nat:=min m (n-i*m)
theorem Zbb{n m i:Nat}(hm:1≤m)(h:i<ovN n m):i*m≤n:=by
 unfold ovN at h
 rcases Nat.eq_zero_or_pos i with rfl|hi
 ·omega
 ·have h1:i+1≤(n+m-1)/m:=by omega
  have h2:=(Nat.le_div_iff_mul_le (by omega)).1 h1
  rw[Nat.add_mul] at h2
  omega
def Za2(n m k:Nat):List Value:=(List.range (ovN n m)).map fun i=>.int .i64 (if i<k then(Qc n m i:Int) else 0)
def sizL(n m:Nat):List Nat:=(List.range (ovN n m)).map (Qc n m)
theorem sizK_zero(n m:Nat):Hn (Value.int .i64 0).cells.toList (ovN n m)=Za2 n m 0:=by
 rw[show(Value.int .i64 0).cells.toList=[Value.int .i64 0] from rfl,Hn,Za2]
 simp[List.map_const']
theorem sizK_all(n m:Nat):Za2 n m (ovN n m)=(sizL n m).map nv:=by
 unfold Za2 sizL nv
 rw[List.map_map]
 apply List.map_congr_left
 intro i hi
 rw[List.mem_range] at hi
 simp[hi]
theorem sizK_set{n m k:Nat}(h:k<ovN n m):(Za2 n m k).set k (.int .i64 (Qc n m k:Int))=Za2 n m (k+1):=by
 apply List.ext_getElem?
 intro i
 by_cases hi:i<ovN n m
 ·by_cases e:k=i
  ·subst e
   rw[List.getElem?_set_self (by simpa [Za2] using h)]
   simp[Za2,List.getElem?_range h]
  ·rw[List.getElem?_set_ne e]
   simp only[Za2,List.getElem?_map,List.getElem?_range hi,Option.map_some]
   by_cases e2:i<k
   ·simp[e2,show i<k+1 by omega]
   ·simp[e2,show ¬ i<k+1 by omega]
 ·rw[List.getElem?_eq_none (by simp[Za2];omega),List.getElem?_eq_none (by simp[Za2];omega)]
theorem sizL_len(n m:Nat):(sizL n m).length=ovN n m:=by simp[sizL]
theorem tall_Sizes(n m:Nat)(w:World)(hn:n≤32768)(hm:1≤m)(hm2:m≤32768) :
 Calls Tryz.prog 136 #[.int .i64 (↑n:Int),.int .i64 (↑m:Int)] w (Vn (fun w' r=>∃ p c,r=.slice p (ovN n m) c∧w'.ownsRow w.heap.size 3 1 (.slice p (ovN n m) c) (ovN n m) ((sizL n m).map nv)) w):=by
 have hov:=Zck n m hm
 refine zin 40 Tryz.func136 ?_
 refine xgk 11 [8,9] (show(decide ((↑n:Int)<(0:Int)):Bool)=false from decide_eq_false (by omega)) ?_
 refine xgk 4 [11,12,13] (show(decide ((↑n:Int)>(32768:Int)):Bool)=false from decide_eq_false (by omega)) ?_
 refine xk 5 (show(decide ((↑m:Int)<(1:Int)):Bool)=false from decide_eq_false (by omega)) ?_
 refine xq 5 (congrArg (Value.int .i64) (show(if(32768:Int)<(↑m:Int) then(32768:Int) else(↑m:Int):Int)=(↑m:Int) from if_neg (by omega))) ?_
 refine xr 7 (args:=#[.int .i64 (↑n:Int),.int .i64 (↑m:Int)]) (Si n m _ (by omega) hm (by omega)) fun W3 hb3=>?_
 refine xmk 0 fun _ _ _ _ zJ zQ zo zx zy zK=>Gb (ovN n m) (.int .i64 0) 1 8 (Za2 n m 0) zo zx zy Tryz.underlying30 (by kernel_rfl) rfl (by omega) (by omega) (sizK_zero n m) fun b4 W4 n4=>?_
 refine zK _ _ ?_
 have hB:=bln hb3 n4.below
 refine zl 12 40 (fun zm zkv V=>∃ (k:Nat),zkv=[(0,.int .i64 (↑n:Int)),(1,.int .i64 (↑m:Int)),(4,.slice none 0 0),(5,.slice (some ⟨b4,0,none⟩) (ovN n m) (ovN n m)),(24,.int .i64 (↑(ovN n m):Int)),(25,.int .i64 (↑k:Int))]∧zm=ovN n m-((↑k:Int)).toNat∧Below w.heap.size w V∧Blk V b4 (Za2 n m k) 3∧k≤ovN n m) ⟨0,rfl,rfl,hB,n4.blk,Nat.zero_le _⟩ ?_
 rintro _ _ W5 ⟨k,rfl,rfl,hB_5,k5_b4,hk⟩ J5 hJ5 r5
 have hkm:k<ovN n m→k*m≤n:=Zbb hm
 refine xid 6 ((↑k:Int)<(↑(ovN n m):Int)) (fun hc6=>?_) (fun hc6=>?_)
 ·refine xwm 17 ((↑k:Int)*(↑m:Int)) (↑(k*m):Int) ?_
  refine xwm 0 ((↑n:Int)-(↑(k*m):Int)) (↑(n-(k*m)):Int) ?_
  refine xxb 1 b4 0 (ovN n m) k 1 ?_
  refine xsg 0 k5_b4 (0+k*1) (.int .i64 (if(↑(n-(k*m)):Int)<(↑m:Int) then(↑(n-(k*m)):Int) else(↑m:Int))) (by simp[Za2];omega) fun W7 u7 k7=>?_
  replace k7:Blk W7 b4 (Za2 n m (k+1)) 3:=by rw[←(show(Za2 n m k).set (0+k*1) (.int .i64 (if(↑(n-(k*m)):Int)<(↑m:Int) then(↑(n-(k*m)):Int) else(↑m:Int)))=Za2 n m (k+1) from by rw[show 0+k*1=k by omega,show(if(↑(n-(k*m)):Int)<(↑m:Int) then(↑(n-(k*m)):Int) else(↑m:Int))=(↑(Qc n m k):Int) from Zfv m (n-k*m)];exact sizK_set (by omega))];exact k7
  have g4:=n4.ge hb3
  refine xwm 4 ((↑k:Int)+1) (↑(k+1):Int) ?_
  have hB'1:=u7.below hB_5 g4
  exact ze 2 (hJ5 _ _ _ ⟨k+1,rfl,rfl,hB'1,k7,by omega⟩ (by omega))
 have g4:=n4.ge hb3
 refine xe 12 (.slice (some ⟨b4,0,none⟩) (ovN n m) (ovN n m)) ?_
 have e:k=ovN n m:=by omega
 subst e
 have ho:=Zw (size:=1) (n:=ovN n m) k5_b4 g4 (by simp[Za2]) (by unfold maxLen;omega)
 rw[sizK_all] at ho
 exact⟨_,rfl,hB_5,_,_,rfl,ho⟩
end Go.Proofs.YthlakkdgcgkcdaaGreatDoor
namespace Go.Proofs.YthlakkdgcgkcdaaGreatDoor
set_option maxHeartbeats 8000000
set_option maxRecDepth 100000
open Go.RowKit Go.Extern.Stop Go.Stop Go.Extern
set_option linter.unusedVariables false
section
variable {P:Program} {Q:Exit→Act→World→Prop} {a:Act} {w:World} {K:Act→World→Prop}
theorem op_copyS{o:Oper}{d x:Operand}{dT sT e:TypeId}{base g off n cap dLen dCap:Nat}{xs:List Value}(l:List UInt8)(xs':List Value)(ho:o.op=.call { callee:=.builtin .copy,args:=#[d,x],argTypes:=#[dT,sT] })(hu:P.underlying dT=some (.slice e))(hsz:(P.info? e).map (·.size)=some 1)
 (hd:a.eval d=.slice (some ⟨g,off,none⟩) dLen dCap) (hs:a.eval x=.string ⟨l.toArray⟩) (hown:w.ownsRow base e 1 (.slice (some ⟨g,0,none⟩) n cap) n xs) (hm:l.length≤dLen) (hfit:off+l.length≤n)
 (hbase:base≤w.heap.size) (hxs:xs.take off++l.map bv++xs.drop (off+l.length)=xs')
 (h:∀ W,W.ownsRow base e 1 (.slice (some ⟨g,0,none⟩) n cap) n xs'→w.grownBy W (Value.slice (some ⟨g,0,none⟩) n cap).ownBlock→Below base w W→K (a.put o.dst (.int .i64 (l.length:Int))) W):o.wp P a w K Q:=by
 obtain⟨hl,hr⟩:=hown
 rcases hr with ⟨hv,_⟩|⟨g2,cap2,cur,hv,hge,hh,hnc,hcm,hcs,htk⟩
 ·cases hv
 simp only[Value.slice.injEq,Option.some.injEq,Addr.mk.injEq] at hv
 obtain⟨⟨rfl,_,_⟩,_,rfl⟩:=hv
 have hlen:xs.length=n:=by simpa using hl
 have hcur:cur.toList.length=cap:=by simpa using hcs
 have hml:(l.map bv).length=l.length:=by simp
 have key:∀ W,W.heap[g]? = some (.cells (cur.toList.take off++l.map bv++cur.toList.drop (off+l.length)).toArray e (0,0))→w.grownBy W (some g)→K (a.put o.dst (.int .i64 (l.length:Int))) W:=by
  intro W hW hg
  refine h W ⟨?_,.inr ⟨g,cap,_,rfl,hge,hW,hnc,hcm,?_,?_⟩⟩ hg (Ga (v:=.slice (some ⟨g,0,none⟩) n cap) hg ⟨hl,.inr ⟨g,cap,cur,rfl,hge,hh,hnc,hcm,hcs,htk⟩⟩ (Nat.le_refl _) hbase)
  ·rw[←hxs];simp;omega
  ·simp only[List.size_toArray,List.length_append,List.length_take,List.length_drop,hcur,Nat.mul_one,hml];omega
  ·have hA:(cur.toList.take off++l.map bv).length=off+l.length:=by simp only[List.length_append,List.length_take,hcur,hml];omega
   rw[←hxs,←htk]
   simp only[Nat.mul_one]
   rw[List.take_append,List.take_of_length_le (by rw[hA];omega),hA,List.take_take,Nat.min_eq_left (by omega:off≤n),List.drop_take]
 have hsize:(⟨l.toArray⟩:ByteArray).size=l.length:=by show l.toArray.size=l.length;simp
 have hrun:=Go.Lib.run_copy_row_string (P:=P) w dT sT o.type e g off dLen dCap ⟨l.toArray⟩ cur e hu hsz hh (by rw[hsize];exact hm) (by rw[hsize,hcs];omega)
 rw[hsize] at hrun
 have hbc:Go.Lib.byteCells (⟨l.toArray⟩:ByteArray).data.toList=l.map bv:=rfl
 rw[hbc] at hrun
 have h2:(execOp a.eval o).run P w=.ok (.value (.int .i64 (l.length:Int))) (w.setRow g (cur.toList.take off++l.map bv++cur.toList.drop (off+l.length)).toArray):=by
  simp[execOp,ho,resolve,invoke,builtin,hd,hs,hrun,Result.andThen,goInt]
 exact Gg h2 (key _ (setRow_heap w g _ _ e _ hh) ⟨rfl,rfl,rfl,by simp,fun k _ hk=>setRow_other w g k _ (fun e=>hk (by rw[e]))⟩)
theorem Sl.head{b:Option Addr}{n c:Nat}{xs:List Value}(h:Sl w (.slice b n c) n xs)(hn:xs.length=n)(m:Nat)(hm:m≤n):Sl w (.slice b m c) m (xs.take m):=by
 rcases h with ⟨a',c',h1,h2,h3⟩|⟨b',off,cap,h1,h2,h3,h4⟩
 ·obtain rfl:m=0:=by omega
  simp only[Value.slice.injEq] at h1
  exact .inl ⟨b,c,rfl,rfl,by simp⟩
 ·simp only[Value.slice.injEq] at h1
  obtain⟨rfl,_,rfl⟩:=h1
  refine .inr ⟨b',off,c,rfl,by omega,h3,fun j x hj=>h4 j x ?_⟩
  have hjm:j<m:=by have:=(List.getElem?_eq_some_iff.1 hj).1;simp at this;omega
  rwa [List.getElem?_take_of_lt hjm] at hj
def sv (l:List UInt8):Value:=.string ⟨l.toArray⟩
theorem Strs.elem{b:Option Addr}{n c:Nat}{V:List (List UInt8)}(h:Sl w (.slice b n c) n (V.map sv))(hl:V.length=n){k:Nat}(hk:k<n):b.isSome=true∧w.cell? (Xh b (k*1))=some (.string ⟨(V.getD k []).toArray⟩):=by
 rcases h with ⟨a',c',h1,h2,h3⟩|⟨b',off,cap,h1,h2,h3,h4⟩
 ·omega
 ·simp only[Value.slice.injEq] at h1
  obtain⟨rfl,_,rfl⟩:=h1
  refine⟨rfl,?_⟩
  have:=h4 k (sv (V.getD k [])) (by simp[List.getD,List.getElem?_eq_getElem (show k<V.length by omega)])
  rw[Nat.mul_one]
  show w.cell? ((⟨b',off,none⟩:Addr).add k)=_
  rw[Addr.add_mid]
  exact this
end
end Go.Proofs.YthlakkdgcgkcdaaGreatDoor
namespace Go.Proofs.YthlakkdgcgkcdaaGreatDoor
set_option maxHeartbeats 8000000
set_option maxRecDepth 100000
open Go.RowKit Go.Extern.Stop Go.Stop Go.Extern
set_option linter.unusedVariables false
attribute [local irreducible] wpList wpAnyH Code.wp Oper.wp Go
theorem Sl.cap{w:World}{b:Option Addr}{n c:Nat}{xs:List Value}(h:Sl w (.slice b n c) n xs):n≤c:=by
 rcases h with ⟨a',c',h1,h2,_⟩|⟨b',off,cap,h1,h2,_,_⟩
 ·omega
 ·simp only[Value.slice.injEq] at h1;omega
def Wu(b:Bool):Int:=if b then 1 else 0
theorem Zau(b:Bool):0≤Wu b∧Wu b<256:=by cases b<;>decide
structure NodeOk(t:Int)(leaf:Bool)(n m v:Nat)(K:List Int)(Vs:List (List UInt8)):Prop where
 ht1:1≤t
 ht2:t≤5
 hm:Ki t leaf=m
 hv:Uk t leaf=v
 hK:K.length=n
 hV:Vs.length=n
 hn:n≤m
 hl:leaf=false→1≤n
 hk0:∀ i,i<n→0≤K.getD i 0∧K.getD i 0≤281474976710655
 hk1:∀ j,j+1<n→K.getD j 0<K.getD (j+1) 0
 hw:∀ i,i<n→(Vs.getD i []).length=v
theorem Rn(t:Int)(leaf:Bool):4≤Uk t leaf∧Uk t leaf≤24:=by
 unfold Uk
 repeat' split
 all_goals decide
theorem fitN(t:Int)(leaf:Bool):12+Ki t leaf*8+Ki t leaf*Uk t leaf≤244:=by
 unfold Uk Ki
 repeat' split
 all_goals decide
theorem Zbn{K:List Int}{i j:Nat}(h:j<i):(K.take i).getD j 0=K.getD j 0:=by simp[List.getD,List.getElem?_take_of_lt h]
theorem Fo(t:Int)(leaf:Bool)(m:Nat)(hm:Ki t leaf=m)(h1:1≤t)(h2:t≤5)(w:World):Calls Tryz.prog 127 #[.int .i64 t,.bool leaf] w (Ret (.int .i64 (m:Int)) w):=by
 subst hm;exact Ej t leaf h1 h2 w
theorem Ny(t:Int)(leaf:Bool)(v:Nat)(hv:Uk t leaf=v)(h1:1≤t)(h2:t≤5)(w:World):Calls Tryz.prog 135 #[.int .i64 t,.bool leaf] w (Ret (.int .i64 (v:Int)) w):=by
 subst hv;exact Tq t leaf h1 h2 w
theorem node_flag(leaf:Bool)(w:World) :
 Calls Tryz.prog 184 #[.bool leaf] w (Ret (.int .i64 (Wu leaf)) w):=by
 refine zin 4 Tryz.func184 ?_
 refine xi 11 leaf (fun hc1=>?_) (fun hc1=>?_)
 ·exact xe 7 (.int .i64 1) ⟨by simp_all [Wu],(Below.refl w.heap.size _)⟩
 exact xe 8 (.int .i64 0) ⟨by simp_all [Wu],(Below.refl w.heap.size _)⟩
theorem Zhb(a:Option Addr)(i c:Nat)(L:List Int)(k:Int)(w:World)(hL:L.length=i)(h:Sl w (.slice a i c) i (L.map (Value.int .i64)))(h1:0≤k)(h2:k≤281474976710655)(h3:∀ j,i=j+1→L.getD j 0<k)(hi:i≤1000) :
 Calls Tryz.prog 202 #[.slice a i c,.int .i64 k] w (Ret (.int .i64 0) w):=by
 refine zin 26 Tryz.func202 ?_
 refine xgk 12 [7,8] (show(decide (k<(0:Int)):Bool)=false from decide_eq_false (by omega)) ?_
 refine xk 6 (show(decide (k>(281474976710655:Int)):Bool)=false from decide_eq_false (by omega)) ?_
 refine xg 6 [15,16] (decide ((↑i:Int)>(0:Int))) (fun hc2=>?_) (fun hc2=>?_)
 ·have hc2:=of_decide_eq_true hc2
  refine xwm 3 ((↑i:Int)-1) (↑(i-1):Int) ?_
  refine xx 0 _ i (i-1) 1 (IntsN.elem h hL (k:=(i-1)) (by omega)).1 ?_
  refine xl 0 ((IntsN.elem h hL (k:=(i-1)) (by omega)).2) ?_
  refine xk 6 (show(decide ((L.getD (i-1) 0)≥k):Bool)=false from decide_eq_false (by have:=h3 (i-1) (by omega);omega)) ?_
  exact xe 9 (.int .i64 0) ⟨rfl,(Below.refl w.heap.size _)⟩
 have hc2:=of_decide_eq_false hc2
 exact xe 22 (.int .i64 0) ⟨rfl,(Below.refl w.heap.size _)⟩
theorem node_Right(t:Int)(leaf:Bool)(n m v:Nat)(K:List Int)(Vs:List (List UInt8))(ak av:Option Addr)(ck cv:Nat)(w:World)(N:NodeOk t leaf n m v K Vs)(hKs:Sl w (.slice ak n ck) n (K.map (Value.int .i64)))(hVs:Sl w (.slice av n cv) n (Vs.map sv)) :
 Calls Tryz.prog 183 #[.agg #[.int .i64 t,.bool leaf,.slice ak n ck,.slice av n cv]] w (Ret (.bool true) w):=by
 have ht1:=N.ht1
 have ht2:=N.ht2
 have hnm:=N.hn
 have hwb:=Rn t leaf
 rw[N.hv] at hwb
 have hmb:=Qg t leaf
 rw[N.hm] at hmb
 have hfit:=fitN t leaf
 rw[N.hm,N.hv] at hfit
 have hcap:=Sl.cap hKs
 refine zin 70 Tryz.func183 ?_
 refine xa 2 [.int .i64 t,.bool leaf,.slice ak n ck,.slice av n cv] 188 fun b1 W1 n1=>?_
 refine xb 6 0 n1.blk ?_
 refine xb 1 1 n1.blk ?_
 refine xr 0 (args:=#[.int .i64 t,.bool leaf]) (Ny t leaf v N.hv ht1 ht2 _) fun W2 hb2=>?_
 refine xd 5 .z ?_
 refine xgk (.b [0,1,2]) [12,13] (show(((↑v:Int)==(0:Int)):Bool)=false from by simp;omega) ?_
 have k1'1:=(n1.blk.below hb2).below (Za W2)
 refine xb (.e [3] 4) 2 k1'1 ?_
 refine xb (.e [5,6] 7) 0 k1'1 ?_
 refine xb (.e [8] 9) 1 k1'1 ?_
 refine xr (.o [] 10) (args:=#[.int .i64 t,.bool leaf]) (Fo t leaf m N.hm ht1 ht2 _) fun W4 hb4=>?_
 refine xgk (.b [11,12,13]) [22,23,24] (show(decide ((↑n:Int)>(↑m:Int)):Bool)=false from decide_eq_false (by omega)) ?_
 have k1'2:=k1'1.below hb4
 refine xb (.e [14] 15) 3 k1'2 ?_
 refine xb (.e [16,17] 18) 2 k1'2 ?_
 refine xgk (.b [19,20,21,22]) [31,32,33] (show(((↑n:Int) != (↑n:Int)):Bool)=false from by simp) ?_
 refine xb (.e [23] 24) 1 k1'2 ?_
 refine xg (.b [25,26]) [36,37] (!leaf) (fun hc7=>?_) (fun hc7=>?_)
 ·refine xb (.e [27] 28) 2 k1'2 ?_
  refine xk (.r [29,30,31,32] 2) (show(((↑n:Int)==(0:Int)):Bool)=false from by have:=N.hl (by simp_all);simp;omega) ?_
  refine xb 6 2 k1'2 ?_
  have hB:=bln (bln (bln n1.below hb2) (Za W2)) hb4
  refine zl 5 70 (fun zm zkv V=>∃ (i:Nat),zkv=[(1,.pointer (some ⟨b1,0,none⟩)),(3,.int .i64 (↑v:Int)),(45,.slice ak n ck),(46,.int .i64 (↑n:Int)),(47,.int .i64 (↑i:Int))]∧zm=n-((↑i:Int)).toNat∧Below w.heap.size w V∧Blk V b1 ([.int .i64 t,.bool leaf,.slice ak n ck,.slice av n cv]) 188∧i≤n) ⟨0,rfl,rfl,hB,k1'2,Nat.zero_le _⟩ ?_
  rintro _ _ W8 ⟨i,rfl,rfl,hB_8,k8_b1,hi⟩ J8 hJ8 r8
  refine xid 6 ((↑i:Int)<(↑n:Int)) (fun hc9=>?_) (fun hc9=>?_)
  ·refine xx 7 _ n i 1 (IntsN.elem hKs N.hK (k:=i) (by omega)).1 ?_
   refine xl 0 ((IntsN.elem (hKs.below hB_8) N.hK (k:=i) (by omega)).2) ?_
   refine xb 7 2 k8_b1 ?_
   refine xsH 1 (fun _ _ _ _ zo zx zy V=>Yz (k:=i) (b:=ak) (n:=n) (c:=ck) (i:=(↑i:Int)) (ki:=.i64) zo zx zy rfl (by omega) Tryz.underlying30 (by kernel_rfl) V) ?_
   refine xr 1 (args:=#[.slice ak i ck,.int .i64 (K.getD i 0)]) (Zhb ak i ck (K.take i) (K.getD i 0) _ (by rw[List.length_take,N.hK];omega) (by rw[List.map_take];exact(hKs.below hB_8).head (by simpa using N.hK) i (by omega)) (N.hk0 i (by omega)).1 (N.hk0 i (by omega)).2 (fun j e=>by subst e;rw[Zbn (by omega)];exact N.hk1 j (by omega)) (by omega)) fun W10 hb10=>?_
   have k8_b1'1:=k8_b1.below hb10
   refine xb 3 3 k8_b1'1 ?_
   refine xx 1 _ n i 1 (Strs.elem hVs N.hV (k:=i) (by omega)).1 ?_
   have hB'1:=bln hB_8 hb10
   refine xl 0 ((Strs.elem (hVs.below hB'1) N.hV (k:=i) (by omega)).2) ?_
   refine xk 6 (show(((↑(Vs.getD i []).length:Int) != (↑v:Int)):Bool)=false from by rw[N.hw i (by omega)];simp) ?_
   refine xw 4 ((↑i:Int)+1) ?_
   exact ze 2 (hJ8 _ _ _ ⟨i+1,rfl,rfl,hB'1,k8_b1'1,by omega⟩ (by omega))
  exact xe 11 (.bool true) ⟨rfl,hB_8⟩
 refine xb (.r [27,28,29,30,31,32] 9) 2 k1'2 ?_
 have hB:=bln (bln (bln n1.below hb2) (Za W2)) hb4
 refine zl 5 70 (fun zm zkv V=>∃ (i:Nat),zkv=[(1,.pointer (some ⟨b1,0,none⟩)),(3,.int .i64 (↑v:Int)),(45,.slice ak n ck),(46,.int .i64 (↑n:Int)),(47,.int .i64 (↑i:Int))]∧zm=n-((↑i:Int)).toNat∧Below w.heap.size w V∧Blk V b1 ([.int .i64 t,.bool leaf,.slice ak n ck,.slice av n cv]) 188∧i≤n) ⟨0,rfl,rfl,hB,k1'2,Nat.zero_le _⟩ ?_
 rintro _ _ W11 ⟨i,rfl,rfl,hB_11,k11_b1,hi⟩ J11 hJ11 r11
 refine xid 6 ((↑i:Int)<(↑n:Int)) (fun hc12=>?_) (fun hc12=>?_)
 ·refine xx 7 _ n i 1 (IntsN.elem hKs N.hK (k:=i) (by omega)).1 ?_
  refine xl 0 ((IntsN.elem (hKs.below hB_11) N.hK (k:=i) (by omega)).2) ?_
  refine xb 7 2 k11_b1 ?_
  refine xsH 1 (fun _ _ _ _ zo zx zy V=>Yz (k:=i) (b:=ak) (n:=n) (c:=ck) (i:=(↑i:Int)) (ki:=.i64) zo zx zy rfl (by omega) Tryz.underlying30 (by kernel_rfl) V) ?_
  refine xr 1 (args:=#[.slice ak i ck,.int .i64 (K.getD i 0)]) (Zhb ak i ck (K.take i) (K.getD i 0) _ (by rw[List.length_take,N.hK];omega) (by rw[List.map_take];exact(hKs.below hB_11).head (by simpa using N.hK) i (by omega)) (N.hk0 i (by omega)).1 (N.hk0 i (by omega)).2 (fun j e=>by subst e;rw[Zbn (by omega)];exact N.hk1 j (by omega)) (by omega)) fun W13 hb13=>?_
  have k11_b1'1:=k11_b1.below hb13
  refine xb 3 3 k11_b1'1 ?_
  refine xx 1 _ n i 1 (Strs.elem hVs N.hV (k:=i) (by omega)).1 ?_
  have hB'2:=bln hB_11 hb13
  refine xl 0 ((Strs.elem (hVs.below hB'2) N.hV (k:=i) (by omega)).2) ?_
  refine xk 6 (show(((↑(Vs.getD i []).length:Int) != (↑v:Int)):Bool)=false from by rw[N.hw i (by omega)];simp) ?_
  refine xw 4 ((↑i:Int)+1) ?_
  exact ze 2 (hJ11 _ _ _ ⟨i+1,rfl,rfl,hB'2,k11_b1'1,by omega⟩ (by omega))
 exact xe 11 (.bool true) ⟨rfl,hB_11⟩
theorem So(g:Nat)(n:Int)(h0:0≤n)(hb:n<4294967296)(w:World)(hk:Blk w g [.int .i64 4,.int .i64 n] 236) :
 Calls Tryz.prog 131 #[.slice (some ⟨g,0,none⟩) 1 1] w (Vn (fun w' r=>∃ p c,r=.tuple #[.slice p 4 c,.int .i64 0]∧w'.ownsRow w.heap.size 5 1 (.slice p 4 c) 4 ((leB n 4).map bv)) w):=by
 refine zin 32 Tryz.func131 ?_
 refine xu 20 2 ?_
 refine xlv 14 hk.rp ?_
 refine xa 0 [.int .i64 0,.int .i64 0] 236 fun b1 W1 n1=>?_
 have d1_g:=n1.ne hk
 refine xsv 0 n1.blk [.int .i64 4,.int .i64 n] fun W2 u2 k2=>?_
 have g1:=n1.ge (Below.refl w.heap.size _)
 refine xb 6 0 k2 ?_
 refine xr 0 (args:=#[.int .i64 4]) (Zd0 _) fun W3 hb3=>?_
 have k2'1:=k2.below hb3
 refine xb 10 1 k2'1 ?_
 refine xb 1 0 k2'1 ?_
 refine xr 0 (args:=#[.int .i64 n,.int .i64 4]) (fits_4 (n) (h0) (hb) _) fun W4 hb4=>?_
 have k2'2:=k2'1.below hb4
 refine xb 9 1 k2'2 ?_
 refine xb 1 0 k2'2 ?_
 refine xc 0 (args:=#[.int .i64 n,.int .i64 4]) (Zdo (n) (h0) _) ?_
 rintro _ W5 ⟨_,rfl,hb5,h2_0⟩
 have hs5:=(bln (bln (u2.below n1.below g1) hb3) hb4).size
 have h2_0'1:=Zd h2_0 hs5
 unfold Mf at h2_0'1
 rw[Zo] at h2_0'1
 obtain⟨p2_0,c2_0,rfl⟩:=(Zf h2_0'1).slice
 have o6:=World.ownsRow_nil W5 w.heap.size 5 1
 have hB:=bln (bln (bln (u2.below n1.below g1) hb3) hb4) hb5
 refine xbi 0 fun _ _ _ _ zJ zQ zo zx zy zK=>Zp (m:=4) (news:=(leB (n) 4).map bv) (.int .u8 0) 1 1 (4) ((leB (n) 4).map bv) zo Tryz.underlying22 (by kernel_rfl) rfl (by decide) zx o6 zy (Zf h2_0'1) (by simp[Zo]) (Vd _) (by unfold maxLen;omega) (by omega) hB.size (by rfl) (by simp) fun px7 cx7 W7 o7 hg7 hb7=>?_
 refine zK _ _ ?_
 have hB'1:=hB.trans hb7
 exact xe 29 (.tuple #[.slice px7 4 cx7,.int .i64 0]) ⟨_,rfl,hB'1,_,_,rfl,o7⟩
theorem Pack_8(g:Nat)(n:Int)(h0:0≤n)(w:World)(hk:Blk w g [.int .i64 8,.int .i64 n] 236) :
 Calls Tryz.prog 131 #[.slice (some ⟨g,0,none⟩) 1 1] w (Vn (fun w' r=>∃ p c,r=.tuple #[.slice p 8 c,.int .i64 0]∧w'.ownsRow w.heap.size 5 1 (.slice p 8 c) 8 ((leB n 8).map bv)) w):=by
 refine zin 32 Tryz.func131 ?_
 refine xu 20 2 ?_
 refine xlv 14 hk.rp ?_
 refine xa 0 [.int .i64 0,.int .i64 0] 236 fun b1 W1 n1=>?_
 have d1_g:=n1.ne hk
 refine xsv 0 n1.blk [.int .i64 8,.int .i64 n] fun W2 u2 k2=>?_
 have g1:=n1.ge (Below.refl w.heap.size _)
 refine xb 6 0 k2 ?_
 refine xr 0 (args:=#[.int .i64 8]) (known_8 _) fun W3 hb3=>?_
 have k2'1:=k2.below hb3
 refine xb 10 1 k2'1 ?_
 refine xb 1 0 k2'1 ?_
 refine xr 0 (args:=#[.int .i64 n,.int .i64 8]) (fits_8 (n) (h0) _) fun W4 hb4=>?_
 have k2'2:=k2'1.below hb4
 refine xb 9 1 k2'2 ?_
 refine xb 1 0 k2'2 ?_
 refine xc 0 (args:=#[.int .i64 n,.int .i64 8]) (bytes_8 (n) (h0) _) ?_
 rintro _ W5 ⟨_,rfl,hb5,h2_0⟩
 have hs5:=(bln (bln (u2.below n1.below g1) hb3) hb4).size
 have h2_0'1:=Zd h2_0 hs5
 unfold Mf at h2_0'1
 rw[Zo] at h2_0'1
 obtain⟨p2_0,c2_0,rfl⟩:=(Zf h2_0'1).slice
 have o6:=World.ownsRow_nil W5 w.heap.size 5 1
 have hB:=bln (bln (bln (u2.below n1.below g1) hb3) hb4) hb5
 refine xbi 0 fun _ _ _ _ zJ zQ zo zx zy zK=>Zp (m:=8) (news:=(leB (n) 8).map bv) (.int .u8 0) 1 1 (8) ((leB (n) 8).map bv) zo Tryz.underlying22 (by kernel_rfl) rfl (by decide) zx o6 zy (Zf h2_0'1) (by simp[Zo]) (Vd _) (by unfold maxLen;omega) (by omega) hB.size (by rfl) (by simp) fun px7 cx7 W7 o7 hg7 hb7=>?_
 refine zK _ _ ?_
 have hB'1:=hB.trans hb7
 exact xe 29 (.tuple #[.slice px7 8 cx7,.int .i64 0]) ⟨_,rfl,hB'1,_,_,rfl,o7⟩
theorem Pack_node(g:Nat)(f t k v m:Int)(hf:0≤f)(hf2:f<256)(ht:0≤t)(ht2:t<256)(hk1:0≤k)(hk2:k<65536)(hv:0≤v)(hv2:v<65536)(hm:0≤m)(hm2:m<65536)(w:World)(hk:Blk w g [.int .i64 1,.int .i64 f,.int .i64 1,.int .i64 t,.int .i64 2,.int .i64 k,.int .i64 2,.int .i64 v,.int .i64 2,.int .i64 m,.int .i64 4,.int .i64 0] 236) :
 Calls Tryz.prog 131 #[.slice (some ⟨g,0,none⟩) 6 6] w (Vn (fun w' r=>∃ p c,r=.tuple #[.slice p 12 c,.int .i64 0]∧w'.ownsRow w.heap.size 5 1 (.slice p 12 c) 12 ((leB f 1++leB t 1++leB k 2++leB v 2++leB m 2++leB 0 4).map bv)) w):=by
 refine zin 32 Tryz.func131 ?_
 refine xu 20 7 ?_
 refine xlv 14 (hk.rpp 0 2) ?_
 refine xa 0 [.int .i64 0,.int .i64 0] 236 fun b1 W1 n1=>?_
 have d1_g:=n1.ne hk
 refine xsv 0 n1.blk [.int .i64 1,.int .i64 f] fun W2 u2 k2=>?_
 have g1:=n1.ge (Below.refl w.heap.size _)
 refine xb 6 0 k2 ?_
 refine xr 0 (args:=#[.int .i64 1]) (Zet _) fun W3 hb3=>?_
 have k2'1:=k2.below hb3
 refine xb 10 1 k2'1 ?_
 refine xb 1 0 k2'1 ?_
 refine xr 0 (args:=#[.int .i64 f,.int .i64 1]) (fits_1 (f) (hf) (hf2) _) fun W4 hb4=>?_
 have k2'2:=k2'1.below hb4
 refine xb 9 1 k2'2 ?_
 refine xb 1 0 k2'2 ?_
 refine xc 0 (args:=#[.int .i64 f,.int .i64 1]) (bytes_1 (f) (hf) _) ?_
 rintro _ W5 ⟨_,rfl,hb5,h2_0⟩
 have hs5:=(bln (bln (u2.below n1.below g1) hb3) hb4).size
 have h2_0'1:=Zd h2_0 hs5
 unfold Mf at h2_0'1
 rw[Zo] at h2_0'1
 obtain⟨p2_0,c2_0,rfl⟩:=(Zf h2_0'1).slice
 have o6:=World.ownsRow_nil W5 w.heap.size 5 1
 have hB:=bln (bln (bln (u2.below n1.below g1) hb3) hb4) hb5
 refine xbi 0 fun _ _ _ _ zJ zQ zo zx zy zK=>Zp (m:=1) (news:=(leB (f) 1).map bv) (.int .u8 0) 1 1 (1) ((leB (f) 1).map bv) zo Tryz.underlying22 (by kernel_rfl) rfl (by decide) zx o6 zy (Zf h2_0'1) (by simp[Zo]) (Vd _) (by unfold maxLen;omega) (by omega) hB.size (by rfl) (by simp) fun px7 cx7 W7 o7 hg7 hb7=>?_
 refine zK _ _ ?_
 have hk'1:=((((u2.blk (hk.below n1.below) (Ne.symm (Ne.symm d1_g))).below hb3).below hb4).below hb5).grown hg7 o6 (by decide)
 refine xlv 23 (hk'1.rpp 2 2) ?_
 refine xa 0 [.int .i64 0,.int .i64 0] 236 fun b8 W8 n8=>?_
 have d8_g:=n8.ne hk'1
 have k2'3:=(k2'2.below hb5).grown hg7 o6 (by decide)
 have d8_b1:=n8.ne k2'3
 have hB'1:=hB.trans hb7
 have g8:=n8.ge hB'1
 refine xsv 0 n8.blk [.int .i64 1,.int .i64 t] fun W9 u9 k9=>?_
 refine xb 6 0 k9 ?_
 refine xr 0 (args:=#[.int .i64 1]) (Zet _) fun W10 hb10=>?_
 have k9'1:=k9.below hb10
 refine xb 10 1 k9'1 ?_
 refine xb 1 0 k9'1 ?_
 refine xr 0 (args:=#[.int .i64 t,.int .i64 1]) (fits_1 (t) (ht) (ht2) _) fun W11 hb11=>?_
 have k9'2:=k9'1.below hb11
 refine xb 9 1 k9'2 ?_
 refine xb 1 0 k9'2 ?_
 refine xc 0 (args:=#[.int .i64 t,.int .i64 1]) (bytes_1 (t) (ht) _) ?_
 rintro _ W12 ⟨_,rfl,hb12,h2_1⟩
 have hs12:=(bln (bln (u9.below (bln hB'1 n8.below) g8) hb10) hb11).size
 have h2_1'1:=Zd h2_1 hs12
 unfold Mf at h2_1'1
 rw[Zo] at h2_1'1
 obtain⟨p2_1,c2_1,rfl⟩:=(Zf h2_1'1).slice
 have o7'1:=Zb (Zb (Zb (u9.own2 (Zb o7 n8.below) n8.blk (by decide)) hb10) hb11) hb12
 have hB'2:=bln (bln (bln (u9.below (bln hB'1 n8.below) g8) hb10) hb11) hb12
 refine xbi 0 fun _ _ _ _ zJ zQ zo zx zy zK=>Zp (m:=1) (news:=(leB (t) 1).map bv) (.int .u8 0) 1 1 (2) ((leB (f) 1++leB (t) 1).map bv) zo Tryz.underlying22 (by kernel_rfl) rfl (by decide) zx o7'1 zy (Zf h2_1'1) (by simp[Zo]) (Vd _) (by unfold maxLen;omega) (by omega) hB'2.size (by rfl) (by simp) fun px13 cx13 W13 o13 hg13 hb13=>?_
 refine zK _ _ ?_
 have hk'2:=((((u9.blk (hk'1.below n8.below) (Ne.symm (Ne.symm d8_g))).below hb10).below hb11).below hb12).grown hg13 o7'1 (by decide)
 refine xlv 23 (hk'2.rpp 4 2) ?_
 refine xa 0 [.int .i64 0,.int .i64 0] 236 fun b14 W14 n14=>?_
 have d14_g:=n14.ne hk'2
 have k2'4:=((((u9.blk (k2'3.below n8.below) (Ne.symm (Ne.symm d8_b1))).below hb10).below hb11).below hb12).grown hg13 o7'1 (by decide)
 have d14_b1:=n14.ne k2'4
 have k9'3:=(k9'2.below hb12).grown hg13 o7'1 (by decide)
 have d14_b8:=n14.ne k9'3
 have hB'3:=hB'2.trans hb13
 have g14:=n14.ge hB'3
 refine xsv 0 n14.blk [.int .i64 2,.int .i64 k] fun W15 u15 k15=>?_
 refine xb 6 0 k15 ?_
 refine xr 0 (args:=#[.int .i64 2]) (Zao _) fun W16 hb16=>?_
 have k15'1:=k15.below hb16
 refine xb 10 1 k15'1 ?_
 refine xb 1 0 k15'1 ?_
 refine xr 0 (args:=#[.int .i64 k,.int .i64 2]) (Zfn (k) (hk1) (hk2) _) fun W17 hb17=>?_
 have k15'2:=k15'1.below hb17
 refine xb 9 1 k15'2 ?_
 refine xb 1 0 k15'2 ?_
 refine xc 0 (args:=#[.int .i64 k,.int .i64 2]) (Zap (k) (hk1) _) ?_
 rintro _ W18 ⟨_,rfl,hb18,h2_2⟩
 have hs18:=(bln (bln (u15.below (bln hB'3 n14.below) g14) hb16) hb17).size
 have h2_2'1:=Zd h2_2 hs18
 unfold Mf at h2_2'1
 rw[Zo] at h2_2'1
 obtain⟨p2_2,c2_2,rfl⟩:=(Zf h2_2'1).slice
 have o13'1:=Zb (Zb (Zb (u15.own2 (Zb o13 n14.below) n14.blk (by decide)) hb16) hb17) hb18
 have hB'4:=bln (bln (bln (u15.below (bln hB'3 n14.below) g14) hb16) hb17) hb18
 refine xbi 0 fun _ _ _ _ zJ zQ zo zx zy zK=>Zp (m:=2) (news:=(leB (k) 2).map bv) (.int .u8 0) 1 1 (4) ((leB (f) 1++leB (t) 1++leB (k) 2).map bv) zo Tryz.underlying22 (by kernel_rfl) rfl (by decide) zx o13'1 zy (Zf h2_2'1) (by simp[Zo]) (Vd _) (by unfold maxLen;omega) (by omega) hB'4.size (by rfl) (by simp) fun px19 cx19 W19 o19 hg19 hb19=>?_
 refine zK _ _ ?_
 have hk'3:=((((u15.blk (hk'2.below n14.below) (Ne.symm (Ne.symm d14_g))).below hb16).below hb17).below hb18).grown hg19 o13'1 (by decide)
 refine xlv 23 (hk'3.rpp 6 2) ?_
 refine xa 0 [.int .i64 0,.int .i64 0] 236 fun b20 W20 n20=>?_
 have d20_g:=n20.ne hk'3
 have k2'5:=((((u15.blk (k2'4.below n14.below) (Ne.symm (Ne.symm d14_b1))).below hb16).below hb17).below hb18).grown hg19 o13'1 (by decide)
 have d20_b1:=n20.ne k2'5
 have k9'4:=((((u15.blk (k9'3.below n14.below) (Ne.symm (Ne.symm d14_b8))).below hb16).below hb17).below hb18).grown hg19 o13'1 (by decide)
 have d20_b8:=n20.ne k9'4
 have k15'3:=(k15'2.below hb18).grown hg19 o13'1 (by decide)
 have d20_b14:=n20.ne k15'3
 have hB'5:=hB'4.trans hb19
 have g20:=n20.ge hB'5
 refine xsv 0 n20.blk [.int .i64 2,.int .i64 v] fun W21 u21 k21=>?_
 refine xb 6 0 k21 ?_
 refine xr 0 (args:=#[.int .i64 2]) (Zao _) fun W22 hb22=>?_
 have k21'1:=k21.below hb22
 refine xb 10 1 k21'1 ?_
 refine xb 1 0 k21'1 ?_
 refine xr 0 (args:=#[.int .i64 v,.int .i64 2]) (Zfn (v) (hv) (hv2) _) fun W23 hb23=>?_
 have k21'2:=k21'1.below hb23
 refine xb 9 1 k21'2 ?_
 refine xb 1 0 k21'2 ?_
 refine xc 0 (args:=#[.int .i64 v,.int .i64 2]) (Zap (v) (hv) _) ?_
 rintro _ W24 ⟨_,rfl,hb24,h2_3⟩
 have hs24:=(bln (bln (u21.below (bln hB'5 n20.below) g20) hb22) hb23).size
 have h2_3'1:=Zd h2_3 hs24
 unfold Mf at h2_3'1
 rw[Zo] at h2_3'1
 obtain⟨p2_3,c2_3,rfl⟩:=(Zf h2_3'1).slice
 have o19'1:=Zb (Zb (Zb (u21.own2 (Zb o19 n20.below) n20.blk (by decide)) hb22) hb23) hb24
 have hB'6:=bln (bln (bln (u21.below (bln hB'5 n20.below) g20) hb22) hb23) hb24
 refine xbi 0 fun _ _ _ _ zJ zQ zo zx zy zK=>Zp (m:=2) (news:=(leB (v) 2).map bv) (.int .u8 0) 1 1 (6) ((leB (f) 1++leB (t) 1++leB (k) 2++leB (v) 2).map bv) zo Tryz.underlying22 (by kernel_rfl) rfl (by decide) zx o19'1 zy (Zf h2_3'1) (by simp[Zo]) (Vd _) (by unfold maxLen;omega) (by omega) hB'6.size (by rfl) (by simp) fun px25 cx25 W25 o25 hg25 hb25=>?_
 refine zK _ _ ?_
 have hk'4:=((((u21.blk (hk'3.below n20.below) (Ne.symm (Ne.symm d20_g))).below hb22).below hb23).below hb24).grown hg25 o19'1 (by decide)
 refine xlv 23 (hk'4.rpp 8 2) ?_
 refine xa 0 [.int .i64 0,.int .i64 0] 236 fun b26 W26 n26=>?_
 have d26_g:=n26.ne hk'4
 have k2'6:=((((u21.blk (k2'5.below n20.below) (Ne.symm (Ne.symm d20_b1))).below hb22).below hb23).below hb24).grown hg25 o19'1 (by decide)
 have d26_b1:=n26.ne k2'6
 have k9'5:=((((u21.blk (k9'4.below n20.below) (Ne.symm (Ne.symm d20_b8))).below hb22).below hb23).below hb24).grown hg25 o19'1 (by decide)
 have d26_b8:=n26.ne k9'5
 have k15'4:=((((u21.blk (k15'3.below n20.below) (Ne.symm (Ne.symm d20_b14))).below hb22).below hb23).below hb24).grown hg25 o19'1 (by decide)
 have d26_b14:=n26.ne k15'4
 have k21'3:=(k21'2.below hb24).grown hg25 o19'1 (by decide)
 have d26_b20:=n26.ne k21'3
 have hB'7:=hB'6.trans hb25
 have g26:=n26.ge hB'7
 refine xsv 0 n26.blk [.int .i64 2,.int .i64 m] fun W27 u27 k27=>?_
 refine xb 6 0 k27 ?_
 refine xr 0 (args:=#[.int .i64 2]) (Zao _) fun W28 hb28=>?_
 have k27'1:=k27.below hb28
 refine xb 10 1 k27'1 ?_
 refine xb 1 0 k27'1 ?_
 refine xr 0 (args:=#[.int .i64 m,.int .i64 2]) (Zfn (m) (hm) (hm2) _) fun W29 hb29=>?_
 have k27'2:=k27'1.below hb29
 refine xb 9 1 k27'2 ?_
 refine xb 1 0 k27'2 ?_
 refine xc 0 (args:=#[.int .i64 m,.int .i64 2]) (Zap (m) (hm) _) ?_
 rintro _ W30 ⟨_,rfl,hb30,h2_4⟩
 have hs30:=(bln (bln (u27.below (bln hB'7 n26.below) g26) hb28) hb29).size
 have h2_4'1:=Zd h2_4 hs30
 unfold Mf at h2_4'1
 rw[Zo] at h2_4'1
 obtain⟨p2_4,c2_4,rfl⟩:=(Zf h2_4'1).slice
 have o25'1:=Zb (Zb (Zb (u27.own2 (Zb o25 n26.below) n26.blk (by decide)) hb28) hb29) hb30
 have hB'8:=bln (bln (bln (u27.below (bln hB'7 n26.below) g26) hb28) hb29) hb30
 refine xbi 0 fun _ _ _ _ zJ zQ zo zx zy zK=>Zp (m:=2) (news:=(leB (m) 2).map bv) (.int .u8 0) 1 1 (8) ((leB (f) 1++leB (t) 1++leB (k) 2++leB (v) 2++leB (m) 2).map bv) zo Tryz.underlying22 (by kernel_rfl) rfl (by decide) zx o25'1 zy (Zf h2_4'1) (by simp[Zo]) (Vd _) (by unfold maxLen;omega) (by omega) hB'8.size (by rfl) (by simp) fun px31 cx31 W31 o31 hg31 hb31=>?_
 refine zK _ _ ?_
 have hk'5:=((((u27.blk (hk'4.below n26.below) (Ne.symm (Ne.symm d26_g))).below hb28).below hb29).below hb30).grown hg31 o25'1 (by decide)
 refine xlv 23 (hk'5.rpp 10 2) ?_
 refine xa 0 [.int .i64 0,.int .i64 0] 236 fun b32 W32 n32=>?_
 have d32_g:=n32.ne hk'5
 have k2'7:=((((u27.blk (k2'6.below n26.below) (Ne.symm (Ne.symm d26_b1))).below hb28).below hb29).below hb30).grown hg31 o25'1 (by decide)
 have d32_b1:=n32.ne k2'7
 have k9'6:=((((u27.blk (k9'5.below n26.below) (Ne.symm (Ne.symm d26_b8))).below hb28).below hb29).below hb30).grown hg31 o25'1 (by decide)
 have d32_b8:=n32.ne k9'6
 have k15'5:=((((u27.blk (k15'4.below n26.below) (Ne.symm (Ne.symm d26_b14))).below hb28).below hb29).below hb30).grown hg31 o25'1 (by decide)
 have d32_b14:=n32.ne k15'5
 have k21'4:=((((u27.blk (k21'3.below n26.below) (Ne.symm (Ne.symm d26_b20))).below hb28).below hb29).below hb30).grown hg31 o25'1 (by decide)
 have d32_b20:=n32.ne k21'4
 have k27'3:=(k27'2.below hb30).grown hg31 o25'1 (by decide)
 have d32_b26:=n32.ne k27'3
 have hB'9:=hB'8.trans hb31
 have g32:=n32.ge hB'9
 refine xsv 0 n32.blk [.int .i64 4,.int .i64 0] fun W33 u33 k33=>?_
 refine xb 6 0 k33 ?_
 refine xr 0 (args:=#[.int .i64 4]) (Zd0 _) fun W34 hb34=>?_
 have k33'1:=k33.below hb34
 refine xb 10 1 k33'1 ?_
 refine xb 1 0 k33'1 ?_
 refine xr 0 (args:=#[.int .i64 0,.int .i64 4]) (fits_4 (0) (by decide) (by decide) _) fun W35 hb35=>?_
 have k33'2:=k33'1.below hb35
 refine xb 9 1 k33'2 ?_
 refine xb 1 0 k33'2 ?_
 refine xc 0 (args:=#[.int .i64 0,.int .i64 4]) (Zdo (0) (by decide) _) ?_
 rintro _ W36 ⟨_,rfl,hb36,h2_5⟩
 have hs36:=(bln (bln (u33.below (bln hB'9 n32.below) g32) hb34) hb35).size
 have h2_5'1:=Zd h2_5 hs36
 unfold Mf at h2_5'1
 rw[Zo] at h2_5'1
 obtain⟨p2_5,c2_5,rfl⟩:=(Zf h2_5'1).slice
 have o31'1:=Zb (Zb (Zb (u33.own2 (Zb o31 n32.below) n32.blk (by decide)) hb34) hb35) hb36
 have hB'10:=bln (bln (bln (u33.below (bln hB'9 n32.below) g32) hb34) hb35) hb36
 refine xbi 0 fun _ _ _ _ zJ zQ zo zx zy zK=>Zp (m:=4) (news:=(leB (0) 4).map bv) (.int .u8 0) 1 1 (12) ((leB (f) 1++leB (t) 1++leB (k) 2++leB (v) 2++leB (m) 2++leB (0) 4).map bv) zo Tryz.underlying22 (by kernel_rfl) rfl (by decide) zx o31'1 zy (Zf h2_5'1) (by simp[Zo]) (Vd _) (by unfold maxLen;omega) (by omega) hB'10.size (by rfl) (by simp) fun px37 cx37 W37 o37 hg37 hb37=>?_
 refine zK _ _ ?_
 have hB'11:=hB'10.trans hb37
 exact xe 29 (.tuple #[.slice px37 12 cx37,.int .i64 0]) ⟨_,rfl,hB'11,_,_,rfl,o37⟩
def Jg(t:Int)(leaf:Bool)(n m v:Nat):List UInt8:=leB (Wu leaf) 1++leB t 1++leB (n:Int) 2++leB (v:Int) 2++leB (m:Int) 2++leB 0 4
theorem Ku(t:Int)(leaf:Bool)(n m v:Nat):(Jg t leaf n m v).length=12:=by simp[Jg,Zo]
def Gq(m v:Nat)(H:List UInt8)(K:List Int)(Vs:List (List UInt8)):Nat→List UInt8
 | 0=>Kf (List.replicate 244 0) 0 H
 | i+1=>Kf (Kf (Gq m v H K Vs i) (12+i*8) (leB (K.getD i 0) 8)) (12+m*8+i*v) (Vs.getD i [])
theorem Su{m v:Nat}{H:List UInt8}{K:List Int}{Vs:List (List UInt8)}(hH:H.length=12)(hf:12+m*8+m*v≤244):∀ {i:Nat},i≤m→(∀ j,j<i→(Vs.getD j []).length=v)→(Gq m v H K Vs i).length=244
 | 0,_,_=>by rw[Gq,Qf (by rw[List.length_replicate];omega),List.length_replicate]
 | i+1,hi,hV=>by
  have ih:=Su (K:=K) hH hf (i:=i) (by omega) (fun j hj=>hV j (by omega))
  have h1:=hV i (by omega)
  have h2:(i+1)*v≤m*v:=Nat.mul_le_mul_right v hi
  rw[Nat.add_mul,Nat.one_mul] at h2
  have h3:(Kf (Gq m v H K Vs i) (12+i*8) (leB (K.getD i 0) 8)).length=244:=by rw[Qf (by rw[Zo,ih];omega),ih]
  rw[Gq,Qf (by rw[h1,h3];omega),h3]
theorem node_Put(t:Int)(leaf:Bool)(n m v:Nat)(K:List Int)(Vs:List (List UInt8))(ak av:Option Addr)(ck cv:Nat)(w:World)(N:NodeOk t leaf n m v K Vs)(hKs:Sl w (.slice ak n ck) n (K.map (Value.int .i64)))(hVs:Sl w (.slice av n cv) n (Vs.map sv)) :
 Calls Tryz.prog 137 #[.agg #[.int .i64 t,.bool leaf,.slice ak n ck,.slice av n cv]] w (Vn (fun w' r=>∃ p c,r=.tuple #[.slice p 244 c,.int .i64 0]∧w'.ownsRow w.heap.size 5 1 (.slice p 244 c) 244 ((Gq m v (Jg t leaf n m v) K Vs n).map bv)) w):=by
 have ht1:=N.ht1
 have ht2:=N.ht2
 have hnm:=N.hn
 have hwb:=Rn t leaf
 rw[N.hv] at hwb
 have hmb:=Qg t leaf
 rw[N.hm] at hmb
 have hfit:=fitN t leaf
 rw[N.hm,N.hv] at hfit
 have hcap:=Sl.cap hKs
 refine zin 90 Tryz.func137 ?_
 refine xa 2 [.int .i64 t,.bool leaf,.slice ak n ck,.slice av n cv] 188 fun b1 W1 n1=>?_
 refine xlv 7 n1.blk.rp ?_
 refine xr 0 (args:=#[.agg #[.int .i64 t,.bool leaf,.slice ak n ck,.slice av n cv]]) (node_Right t leaf n m v K Vs ak av ck cv _ N (hKs.below n1.below) (hVs.below n1.below)) fun W2 hb2=>?_
 refine xd 7 .z ?_
 have k1'1:=(n1.blk.below hb2).below (Za W2)
 refine xb (.e [0] 1) 0 k1'1 ?_
 refine xb (.e [2] 3) 1 k1'1 ?_
 refine xb (.e [5] 6) 0 k1'1 ?_
 refine xb (.e [7] 8) 1 k1'1 ?_
 refine xr (.o [] 4) (args:=#[.int .i64 t,.bool leaf]) (Ny t leaf v N.hv ht1 ht2 _) fun W3 hb3=>?_
 refine xr (.o [] 9) (args:=#[.int .i64 t,.bool leaf]) (Fo t leaf m N.hm ht1 ht2 _) fun W4 hb4=>?_
 refine xd (.r [10,11] 3) .z ?_
 have k1'2:=((k1'1.below hb3).below hb4).below (Za W4)
 refine xb (.e [0] 1) 1 k1'2 ?_
 refine xb (.e [4] 5) 0 k1'2 ?_
 refine xb (.e [6,7] 8) 2 k1'2 ?_
 refine xr (.o [9,10,11,12,13,14,15] 2) (args:=#[.bool leaf]) (node_flag leaf _) fun W5 hb5=>?_
 refine xbs (.o [3] 16) 6 [.int .i64 1,.int .i64 (Wu leaf),.int .i64 1,.int .i64 t,.int .i64 2,.int .i64 (↑n:Int),.int .i64 2,.int .i64 (↑v:Int),.int .i64 2,.int .i64 (↑m:Int),.int .i64 4,.int .i64 0] 236 fun b6 W6 n6=>?_
 have hB'1:=bln (bln (bln (bln (bln (bln n1.below hb2) (Za W2)) hb3) hb4) (Za W4)) hb5
 have g6:=n6.ge hB'1
 refine yc (.o [] 17) (args:=#[.slice (some ⟨b6,0,none⟩) 6 6]) .z (Pack_node b6 (Wu leaf) t (n:Int) (v:Int) (m:Int) (Zau leaf).1 (Zau leaf).2 (by omega) (by omega) (by omega) (by omega) (by omega) (by omega) (by omega) (by omega) _ n6.blk) ?_
 rintro _ W7 ⟨_,rfl,hb7,p2,c2,rfl,h2⟩
 have hs7:=(bln hB'1 n6.below).size
 refine⟨hb7,?_⟩
 refine xmk (.r [18,19,20,21,22] 4) fun _ _ _ _ zJ zQ zo zx zy zK=>Gb 244 (.int .u8 0) 1 1 ((List.replicate 244 (0:UInt8)).map bv) zo zx zy Tryz.underlying22 (by kernel_rfl) rfl (by omega) (by omega) (Zgi 244) fun b8 W8 n8=>?_
 have hB'2:=bln (bln hB'1 n6.below) hb7
 have g8:=n8.ge hB'2
 have h2'1:=Zd h2 hs7
 have r8_h2:=Zu h2'1 n8
 refine zK _ _ ?_
 have o8:=Zw (size:=1) (n:=244) n8.blk g8 (by rw[List.length_map,List.length_replicate]) (by unfold maxLen;omega)
 have h2'2:=Zb h2'1 n8.below
 have hB'3:=bln hB'2 n8.below
 refine xbi 7 (t2:=22) fun _ _ _ _ zJ zQ zo zx zy zK=>Mg (dLen:=244) (dCap:=244) (off:=0) 12 ((Jg t leaf n m v).map bv) ((Gq m v (Jg t leaf n m v) K Vs 0).map bv) zo Tryz.underlying22 (by kernel_rfl) zx zy (Zf h2'2) o8 (by simp[Ku]) (by omega) (by omega) (Vd _) hB'3.size (by simp[Gq,Kf,Ku]) fun W9 o9 hg9 hb9=>?_
 refine zK _ _ ?_
 have k1'3:=((((k1'2.below hb5).below n6.below).below hb7).below n8.below).grown hg9 o8 (by decide)
 refine xb 6 2 k1'3 ?_
 have hB'4:=hB'3.trans hb9
 have k6'1:=((n6.blk.below hb7).below n8.below).grown hg9 o8 (by decide)
 refine zl 5 90 (fun zm zkv V=>∃ (i:Nat),zkv=[(1,.pointer (some ⟨b1,0,none⟩)),(2,.slice none 0 0),(3,.int .i64 0),(4,.int .i64 (↑v:Int)),(5,.int .i64 (↑m:Int)),(8,.slice (some ⟨b8,0,none⟩) 244 244),(52,.slice ak n ck),(53,.int .i64 (↑n:Int)),(54,.int .i64 (↑i:Int))]∧zm=n-((↑i:Int)).toNat∧Below w.heap.size w V∧Blk V b1 ([.int .i64 t,.bool leaf,.slice ak n ck,.slice av n cv]) 188∧Blk V b6 ([.int .i64 1,.int .i64 (Wu leaf),.int .i64 1,.int .i64 t,.int .i64 2,.int .i64 (↑n:Int),.int .i64 2,.int .i64 (↑v:Int),.int .i64 2,.int .i64 (↑m:Int),.int .i64 4,.int .i64 0]) 236∧V.ownsRow w.heap.size 5 1 (.slice (some ⟨b8,0,none⟩) 244 244) 244 ((Gq m v (Jg t leaf n m v) K Vs i).map bv)∧i≤n) ⟨0,rfl,rfl,hB'4,k1'3,k6'1,o9,Nat.zero_le _⟩ ?_
 rintro _ _ W10 ⟨i,rfl,rfl,hB_10,k10_b1,k10_b6,ho,hi⟩ J10 hJ10 r10
 have hb9:i<n→i*v+v≤m*v:=fun h=>by have h9:(i+1)*v≤m*v:=Nat.mul_le_mul_right v (by omega);rw[Nat.add_mul,Nat.one_mul] at h9;exact h9
 refine xid 6 ((↑i:Int)<(↑n:Int)) (fun hc11=>?_) (fun hc11=>?_)
 ·refine xx 7 _ n i 1 (IntsN.elem hKs N.hK (k:=i) (by omega)).1 ?_
  refine xl 0 ((IntsN.elem (hKs.below hB_10) N.hK (k:=i) (by omega)).2) ?_
  refine xbs 8 1 [.int .i64 8,.int .i64 (K.getD i 0)] 236 fun b12 W12 n12=>?_
  have d12_b6:=n12.ne k10_b6
  have g12:=n12.ge hB_10
  refine xc 0 (args:=#[.slice (some ⟨b12,0,none⟩) 1 1]) (Pack_8 b12 (K.getD i 0) (N.hk0 i (by omega)).1 _ n12.blk) ?_
  rintro _ W13 ⟨_,rfl,hb13,p3,c3,rfl,h3⟩
  have hs13:=(bln hB_10 n12.below).size
  refine xwm 11 ((↑i:Int)*8) (↑(i*8):Int) ?_
  refine xwm 0 (12+(↑(i*8):Int)) (↑(12+(i*8)):Int) ?_
  refine xsL 0 (fun _ _ _ _ zo zx zy V=>Pt (k:=(12+(i*8))) (b:=b8) (off:=0) (n:=244) (c:=244) (i:=(↑(12+(i*8)):Int)) (ki:=.i64) 1 zo zx zy rfl (by omega) (by omega) Tryz.underlying22 (by kernel_rfl) V) ?_
  have ho'1:=Zb (Zb ho n12.below) hb13
  have h3'1:=Zd h3 hs13
  have hB'5:=bln (bln hB_10 n12.below) hb13
  refine xbi 1 (t2:=22) fun _ _ _ _ zJ zQ zo zx zy zK=>Mg (dLen:=(244-(12+(i*8)))) (dCap:=(244-(12+(i*8)))) (off:=(0+(12+(i*8))*1)) 8 ((leB (K.getD i 0) 8).map bv) ((Kf (Gq m v (Jg t leaf n m v) K Vs i) (12+i*8) (leB (K.getD i 0) 8)).map bv) zo Tryz.underlying22 (by kernel_rfl) zx zy (Zf h3'1) ho'1 (by simp[Zo]) (by omega) (by omega) (Vd _) hB'5.size (by simp[Kf,Zo,List.map_take,List.map_drop]) fun W14 o14 hg14 hb14=>?_
  refine zK _ _ ?_
  refine xd 2 (.t w.heap.size [5]) ?_
  refine xwm (.e [0,1] 2) ((↑m:Int)*8) (↑(m*8):Int) ?_
  refine xwm (.e [] 3) (12+(↑(m*8):Int)) (↑(12+(m*8)):Int) ?_
  refine xwm (.e [4,5] 6) ((↑i:Int)*(↑v:Int)) (↑(i*v):Int) ?_
  refine xwm (.e [] 7) ((↑(12+(m*8)):Int)+(↑(i*v):Int)) (↑((12+(m*8))+(i*v)):Int) ?_
  refine xsL (.e [] 8) (fun _ _ _ _ zo zx zy V=>Pt (k:=((12+(m*8))+(i*v))) (b:=b8) (off:=0) (n:=244) (c:=244) (i:=(↑((12+(m*8))+(i*v)):Int)) (ki:=.i64) 1 zo zx zy rfl (by omega) (by omega) Tryz.underlying22 (by kernel_rfl) V) ?_
  have k10_b1'1:=(((k10_b1.below n12.below).below hb13).grown hg14 ho'1 (by decide)).below (Za W14)
  refine xbt (.e [9] 10) 3 w.heap.size [5] k10_b1'1 ?_
  refine xx (.e [11] 12) _ n i 1 (Strs.elem hVs N.hV (k:=i) (by omega)).1 ?_
  have hB'6:=bln (hB'5.trans hb14) (Za W14)
  refine xlt (.e [] 13) (.t w.heap.size [5]) (fun V hV=>(Strs.elem (hVs.below (Ky hB'6 hV (Nat.le_refl _))) N.hV (k:=i) (by omega)).2) ?_
  have o14'1:=Zb o14 (Za W14)
  refine ybi (.o [] 14) (t2:=9) (.t w.heap.size [5]) fun _ _ _ _ zJ zQ zo zx zy zK=>op_copyS (dLen:=(244-((12+(m*8))+(i*v)))) (dCap:=(244-((12+(m*8))+(i*v)))) (off:=(0+((12+(m*8))+(i*v))*1)) (Vs.getD i []) ((Gq m v (Jg t leaf n m v) K Vs (i+1)).map bv) zo Tryz.underlying22 (by kernel_rfl) zx zy o14'1 (by rw[N.hw i (by omega)];omega) (by rw[N.hw i (by omega)];omega) hB'6.size (by simp[Gq,Kf,List.map_take,List.map_drop]) fun W15 o15 hg15 hb15=>?_
  refine zK _ _ (Zr hb15 hg15 o14'1 (by decide)) ?_
  refine xwm 4 ((↑i:Int)+1) (↑(i+1):Int) ?_
  have hB'7:=hB'6.trans hb15
  have k10_b1'2:=k10_b1'1.grown hg15 o14'1 (by decide)
  have k10_b6'1:=((((k10_b6.below n12.below).below hb13).grown hg14 ho'1 (by decide)).below (Za W14)).grown hg15 o14'1 (by decide)
  exact ze 2 (hJ10 _ _ _ ⟨i+1,rfl,rfl,hB'7,k10_b1'2,k10_b6'1,o15,by omega⟩ (by omega))
 refine xe 13 (.tuple #[.slice (some ⟨b8,0,none⟩) 244 244,.int .i64 0]) ?_
 have e:i=n:=by omega
 subst e
 exact⟨_,rfl,hB_10,_,_,rfl,ho⟩
theorem Ml(ba b:Nat)(v x:Value)(w:World)(hk:Blk w ba [v,x,.pointer (some ⟨b,0,none⟩)] 120) :
 Calls Tryz.prog 28 #[.pointer (some ⟨ba,0,none⟩)] w (Ret (.pointer (some ⟨b,0,none⟩)) w):=by
 refine zin 9 Tryz.func28 ?_
 refine xr 9 (args:=#[.pointer (some ⟨ba,0,none⟩)]) (Wy ba b _ _ _ hk) fun W1 hb1=>?_
 have hk'1:=hk.below hb1
 refine xb 10 2 hk'1 ?_
 exact xe 4 (.pointer (some ⟨b,0,none⟩)) ⟨rfl,hb1⟩
abbrev Ent:=Int×List UInt8×Int
def Xp:Ent:=(0,[],0)
def Ko(x:Ent):List Value:=[.int .i64 x.1,.string ⟨x.2.1.toArray⟩,.int .i64 x.2.2]
theorem Yb(x:Ent):(Ko x).length=3:=rfl
def lastK(l:List Ent):Nat→Int
 | 0=>-1
 | i+1=>(l.getD i Xp).1
structure EntsOk(v:Nat)(l:List Ent):Prop where
 hk:∀ i,i<l.length→0≤(l.getD i Xp).1∧(l.getD i Xp).1≤281474976710655
 hs:∀ j,j+1<l.length→(l.getD j Xp).1<(l.getD (j+1) Xp).1
 hw:∀ i,i<l.length→(l.getD i Xp).2.1.length=v
theorem EntsOk.last{v:Nat}{l:List Ent}(E:EntsOk v l){i:Nat}(h:i<l.length):lastK l i<(l.getD i Xp).1:=by
 cases i with
 | zero=>have:=(E.hk 0 h).1;simp only[lastK];omega
 | succ j=>exact E.hs j h
theorem Jm(x:Nat):x≤(Gp x).sum:=by
 by_cases h:x≤1
 ·rw[Jt h];simp
 ·rw[Kj h];simp
theorem Zfy(t:Int)(n:Nat):1≤Qt t n:=by
 have h1:=Jm (ovN n (Ki t true));have h2:=Qd n (Ki t true);unfold Qt Hi;omega
theorem Zfc(t:Int)(v:Nat)(a:Option Addr)(c:Nat)(l:List Ent)(w:World)(ht1:1≤t)(ht2:t≤5)(hv:Uk t true=v)(E:EntsOk v l)(h:Sts Ko w (.slice a l.length c) l)(hn:l.length≤32768) :
 Calls Tryz.prog 88 #[.int .i64 t,.slice a l.length c] w (Ret (.bool true) w):=by
 have hwb:=Rn t true
 rw[hv] at hwb
 have hnp:=Zfy t l.length
 refine zin 45 Tryz.func88 ?_
 refine xr 8 (args:=#[.int .i64 t,.bool true]) (Ny t true v hv ht1 ht2 _) fun W1 hb1=>?_
 refine xgk 9 [12,13] (show(((↑v:Int)==(0:Int)):Bool)=false from by simp;omega) ?_
 refine xr 3 (args:=#[.int .i64 t,.int .i64 (↑l.length:Int)]) (Pw t l.length _ ht1 ht2 hn) fun W3 hb3=>?_
 refine xk 4 (show(((↑(Qt t l.length):Int)==(0:Int)):Bool)=false from by simp;omega) ?_
 have hB:=bln hb1 hb3
 refine zl 16 45 (fun zm zkv V=>∃ (i:Nat),zkv=[(5,.int .i64 (↑v:Int)),(6,.int .i64 (lastK l i)),(20,.slice a l.length c),(21,.int .i64 (↑l.length:Int)),(22,.int .i64 (↑i:Int))]∧zm=l.length-((↑i:Int)).toNat∧Below w.heap.size w V∧i≤l.length) ⟨0,rfl,rfl,hB,Nat.zero_le _⟩ ?_
 rintro _ _ W4 ⟨i,rfl,rfl,hB_4,hi⟩ J4 hJ4 r4
 refine xid 6 ((↑i:Int)<(↑l.length:Int)) (fun hc5=>?_) (fun hc5=>?_)
 ·refine xx 6 _ l.length i 3 (Sts.cell h Yb Xp (k:=i) (i:=0) (by omega) rfl).1 ?_
  refine xlv 0 (Sts.rp (k:=i) (h.below hB_4) Yb Xp (by omega) (by decide)) ?_
  refine xa 0 [.int .i64 0,.string ⟨#[]⟩,.int .i64 0] 77 fun b6 W6 n6=>?_
  have g6:=n6.ge hB_4
  refine xsv 0 n6.blk [.int .i64 ((l.getD i Xp).1),.string ⟨((l.getD i Xp).2.1).toArray⟩,.int .i64 ((l.getD i Xp).2.2)] fun W7 u7 k7=>?_
  refine xb 6 0 k7 ?_
  refine xgk 3 [29,30] (show(decide ((l.getD i Xp).1≤(lastK l i)):Bool)=false from decide_eq_false (by have:=E.last (i:=i) (by omega);omega)) ?_
  refine xb 1 0 k7 ?_
  refine xgk 3 [33,34,35] (show(decide ((l.getD i Xp).1>(281474976710655:Int)):Bool)=false from decide_eq_false (by have:=(E.hk i (by omega)).2;omega)) ?_
  refine xb 1 1 k7 ?_
  refine xk 6 (show(((↑((l.getD i Xp).2.1).length:Int) != (↑v:Int)):Bool)=false from by rw[E.hw i (by omega)];simp) ?_
  refine xb 4 0 k7 ?_
  refine xw 5 ((↑i:Int)+1) ?_
  have hB'1:=u7.below (bln hB_4 n6.below) g6
  exact ze 2 (hJ4 _ _ _ ⟨i+1,rfl,rfl,hB'1,by omega⟩ (by omega))
 exact xe 11 (.bool true) ⟨rfl,hB_4⟩
theorem Qi{P:Program}{a:Act}{o:Oper}{src dst e:TypeId}{x:Operand}{b:Option Addr}{n c:Nat}{l:List UInt8}{w:World}(ho:o.op=.convert src dst x)(hx:a.eval x=.slice b n c)(h:Bys w (.slice b n c) l)(hl:l.length=n)
 (hs:P.underlying src=some (.slice e)) (he:P.underlying e=some (.int .u8)) (hd:P.underlying dst=some .string):(execOp a.eval o).run P w=.ok (.value (.string ⟨l.toArray⟩)) w:=by
 have hr:(convert src dst (.slice b n c)).run P w=.ok (.string ⟨l.toArray⟩) w:=by
  subst hl
  rcases Sl.at h with hn|⟨g,off,rfl,hc⟩
  ·obtain rfl:l=[]:=by simpa using hn
   cases b with
   | none=>rw[run_convert_bytes_string w src dst e none _ c hs he hd];rfl
   | some p=>exact run_convert_bytes_back w src dst e p c [] hs he hd (fun j hj=>by simp at hj)
  ·exact run_convert_bytes_back w src dst e _ c l hs he hd (fun j hj=>by rw[Addr.add_mid];exact hc j _ (by simp[List.getElem?_eq_getElem hj,bv]))
 simp only[execOp,ho,hx,Sem.run_bind,hr];rfl
theorem Al.below{B ba b g n c:Nat}{pa:Option Addr}{ca f N k:Nat}{l:List UInt8}{w W:World}(h:Al B ba b g n c pa ca f N k l w)(hb:Below w.heap.size w W):Al B ba b g n c pa ca f N k l W:=⟨h.blkA.below hb,h.blkI.below hb,Zb h.data hb,Zb h.nums hb⟩
theorem Hf{w:World}{base n c size:Nat}{e:TypeId}{p:Option Addr}{xs:List Value}(h:w.ownsRow base e size (.slice p n c) n xs)(hn:0<n):∃ g,p=some ⟨g,0,none⟩∧n≤c:=by
 rcases h.2 with ⟨_,h0⟩|⟨g,cap,cur,hv,_,_,hc,_⟩
 ·omega
 ·simp only[Value.slice.injEq] at hv;exact⟨g,hv.1,by omega⟩
theorem Bys.cap{w:World}{a:Option Addr}{n c:Nat}{l:List UInt8}(h:Bys w (.slice a n c) l)(hl:l.length=n):n≤c:=by
 rcases h with ⟨a',c',h1,h2,_⟩|⟨b,off,cap,h1,h2,_,_⟩
 ·omega
 ·simp only[Value.slice.injEq] at h1;omega
theorem image_OfN(a:Option Addr)(c n m:Nat)(l:List UInt8)(w:World)(hn:l.length=n)(hm:min (n/256) 14400*256=m)(h:Bys w (.slice a n c) l)(hl:n≤100000000)(hc:n≤c) :
 Calls Tryz.prog 7 #[.slice a n c] w (Vn (fun w' r=>∃ b p c,r=.pointer (some ⟨b,0,none⟩)∧w.heap.size≤b∧Blk w' b [.slice p m c] 56∧w'.ownsRow w.heap.size 5 1 (.slice p m c) m ((l.take m).map bv)) w):=by
 subst hn hm;exact Zgd a c l w h hl hc
theorem alloc_NewN(b:Nat)(p0:Option Addr)(n c f N:Nat)(fi:Int)(hfi:fi=(f:Int))(hN:n/256-f=N)(w:World)(hk:Blk w b [.slice p0 n c] 56)(hn:n≤3686400)(h1:1≤f)(h2:f≤n/256) :
 Calls Tryz.prog 47 #[.pointer (some ⟨b,0,none⟩),.int .i64 fi] w (Vn (fun w' r=>∃ ba p c2,r=.tuple #[.pointer (some ⟨ba,0,none⟩),.nilIface]∧w.heap.size≤ba∧Blk w' ba [.slice p N c2,.int .i64 0,.pointer (some ⟨b,0,none⟩)] 120∧w'.ownsRow w.heap.size 3 1 (.slice p N c2) N ((rngJ f N).map (Value.int .i64))) w):=by
 subst hfi hN;exact alloc_New b p0 n c f w hk hn h1 h2
theorem value_root(w:World) :
 Calls Tryz.prog 185 #[] w (Vn (fun w' r=>∃ b,r=.slice (some ⟨b,0,none⟩) 1 1∧w.heap.size≤b∧Blk w' b [.int .i64 4,.int .i64 1,.int .i64 14399] 176) w):=by
 refine zin 3 Tryz.func185 ?_
 refine xbs 8 1 [.int .i64 4,.int .i64 1,.int .i64 14399] 176 fun b1 W1 n1=>?_
 have g1:=n1.ge (Below.refl w.heap.size _)
 exact xe 4 (.slice (some ⟨b1,0,none⟩) 1 1) ⟨_,rfl,n1.below,_,rfl,g1,n1.blk⟩
theorem value_put1(gl gn:Nat)(n:Int)(h1:1≤n)(h2:n≤14399)(w:World)(hl:Blk w gl [.int .i64 4,.int .i64 1,.int .i64 14399] 176)(hn:Blk w gn [.int .i64 n] 3) :
 Calls Tryz.prog 87 #[.slice (some ⟨gl,0,none⟩) 1 1,.slice (some ⟨gn,0,none⟩) 1 1] w (Ret (.string ⟨(leB n 4).toArray⟩) w):=by
 have hlo:=h1
 have hhi:=h2
 clear h2
 refine zin 51 Tryz.func87 ?_
 refine xu 19 2 ?_
 refine xlv 15 hl.rp ?_
 refine xa 0 [.int .i64 0,.int .i64 0,.int .i64 0] 176 fun b1 W1 n1=>?_
 have d1_gl:=n1.ne hl
 refine xsv 1 n1.blk [.int .i64 4,.int .i64 1,.int .i64 14399] fun W2 u2 k2=>?_
 have g1:=n1.ge (Below.refl w.heap.size _)
 refine xd 4 .z ?_
 have hn'1:=(u2.blkT (hn.below n1.below) n1.blk (by decide)).below (Za W2)
 refine xb (.e [0,1,2] 3) 0 hn'1 ?_
 have k2'1:=k2.below (Za W2)
 refine xb (.e [4] 5) 1 k2'1 ?_
 refine xgk (.b [6,7]) [23,24] (show(decide (n<(1:Int)):Bool)=false from decide_eq_false (by omega)) ?_
 refine xb (.e [8,9,10] 11) 0 hn'1 ?_
 refine xb (.e [12] 13) 2 k2'1 ?_
 refine xk (.r [14,15] 2) (show(decide (n>(14399:Int)):Bool)=false from decide_eq_false (by omega)) ?_
 refine xd 3 .z ?_
 have k2'2:=k2'1.below (Za W2.drew)
 refine xb (.e [0] 1) 0 k2'2 ?_
 have hn'2:=hn'1.below (Za W2.drew)
 refine xb (.e [2,3,4] 5) 0 hn'2 ?_
 refine xbs (.o [6] 7) 1 [.int .i64 4,.int .i64 n] 236 fun b4 W4 n4=>?_
 refine yc (.o [] 8) (args:=#[.slice (some ⟨b4,0,none⟩) 1 1]) .z (So b4 n (by omega) (by omega) _ n4.blk) ?_
 rintro _ W5 ⟨_,rfl,hb5,p2,c2,rfl,h2⟩
 have hs5:=(bln (bln (bln (u2.below n1.below g1) (Za W2)) (Za W2.drew)) n4.below).size
 refine⟨hb5,?_⟩
 have o6:=World.ownsRow_nil W5 w.heap.size 5 1
 have h2'1:=Zd h2 hs5
 have hB:=bln (bln (bln (bln (u2.below n1.below g1) (Za W2)) (Za W2.drew)) n4.below) hb5
 refine xbi (.r [9,10,11,12,13] 5) fun _ _ _ _ zJ zQ zo zx zy zK=>Zp (m:=4) (news:=(leB n 4).map bv) (.int .u8 0) 1 1 (4) ((leB n 4).map bv) zo Tryz.underlying22 (by kernel_rfl) rfl (by decide) zx o6 zy (Zf h2'1) (by simp[Zo]) (Vd _) (by unfold maxLen;omega) (by omega) hB.size (by rfl) (by simp) fun px7 cx7 W7 o7 hg7 hb7=>?_
 refine zK _ _ ?_
 refine xcv0 24 (fun _ _ _ zo zx=>Qi zo zx (Qk (Zf o7) (Zo _ _)) (Zo _ _) Tryz.underlying22 Tryz.underlying5 Tryz.underlying9) ?_
 have hB'1:=hB.trans hb7
 exact xe 4 (.string ⟨(leB n 4).toArray⟩) ⟨rfl,hB'1⟩
theorem value_Root(n:Int)(h1:1≤n)(h2:n≤14399)(w:World) :
 Calls Tryz.prog 138 #[.int .i64 n] w (Ret (.string ⟨(leB n 4).toArray⟩) w):=by
 refine zin 7 Tryz.func138 ?_
 refine xc 7 (args:=#[]) (value_root _) ?_
 rintro _ W1 ⟨_,rfl,hb1,gl,rfl,gg,kl⟩
 refine xbs 1 1 [.int .i64 n] 3 fun b2 W2 n2=>?_
 have kl'1:=kl.below n2.below
 refine xr 0 (args:=#[.slice (some ⟨gl,0,none⟩) 1 1,.slice (some ⟨b2,0,none⟩) 1 1]) (value_put1 gl b2 n h1 h2 _ kl'1 n2.blk) fun W3 hb3=>?_
 have hB:=bln (bln hb1 n2.below) hb3
 exact xe 4 (.string ⟨(leB n 4).toArray⟩) ⟨rfl,hB⟩
theorem Sts.cut{α:Type}{f:α→List Value}{m:Nat}{w:World}{b:Option Addr}{c:Nat}{l:List α}(hm:∀ x,(f x).length=m)(h:Sts f w (.slice b l.length c) l)(k:Nat)(hk:k≤l.length):Sts f w (.slice (Qm b k c m) (l.drop k).length (c-k)) (l.drop k):=by
 have hlen:(l.drop k).length=l.length-k:=by simp
 have hcap:=Sl.cap h
 by_cases hkn:k=l.length
 ·refine .inl ⟨Qm b k c m,c-k,by rw[show(l.drop k).length=0 by omega],by omega,?_⟩
  rw[List.drop_eq_nil_of_le (by omega)];rfl
 rcases h with ⟨a',c',h1,h2,h3⟩|⟨g,off,cap,h1,h2,h3,h4⟩
 ·omega
 ·simp only[Value.slice.injEq] at h1
  obtain⟨rfl,_,rfl⟩:=h1
  refine .inr ⟨g,off+k*m,c-k,?_,by omega,by omega,fun j x hj=>?_⟩
  ·rw[Qm,if_neg (by omega)];simp[Addr.add]
  ·have hfl:(l.drop k).flatMap f=(l.flatMap f).drop (k*m):=by
    conv=>rhs;rw[←List.take_append_drop k l,List.flatMap_append]
    rw[List.drop_left' (by rw[Gd hm,List.length_take,Nat.min_eq_left hk])]
   rw[hfl,List.getElem?_drop] at hj
   have:=h4 _ _ hj
   rwa [←Nat.add_assoc] at this
theorem Al.only{B ba b g n c:Nat}{pa:Option Addr}{ca f N k:Nat}{l:List UInt8}{w W:World}{T:List TypeId}(h:Al B ba b g n c pa ca f N k l w)(hO:Ze T w W)(hT:(T.contains 120||T.contains 56||T.contains 5||T.contains 3)=false):Al B ba b g n c pa ca f N k l W:=by
 simp only[Bool.or_eq_false_iff] at hT
 exact⟨h.blkA.only hO hT.1.1.1,h.blkI.only hO hT.1.1.2,Zl h.data hO hT.1.2,Zl h.nums hO hT.2⟩
def Xe(l:List Ent)(m i:Nat):List Ent:=(l.drop (i*m)).take m
def Qz(c:List Ent):List Int:=c.map (·.1)
def Je(c:List Ent):List (List UInt8):=c.map (·.2.1)
def nodB(t:Int)(leaf:Bool)(m v:Nat)(c:List Ent):List UInt8:=Gq m v (Jg t leaf c.length m v) (Qz c) (Je c) c.length
def Pu(t:Int)(leaf:Bool)(m v:Nat)(l:List Ent)(q:Nat)(bs:List UInt8):Nat→List UInt8
 | 0=>bs
 | i+1=>Kf (Pu t leaf m v l q bs i) ((q+i)*256) (Yp 2 ((q+i:Nat):Int) (nodB t leaf m v (Xe l m i)))
def upX (l:List Ent)(m q i:Nat):Ent:=(((Xe l m i).getD 0 Xp).1,leB ((q+i:Nat):Int) 4,((q+i:Nat):Int))
def upE (l:List Ent)(m q j:Nat):List Ent:=(List.range j).map (upX l m q)
theorem upE_succ(l:List Ent)(m q j:Nat):upE l m q (j+1)=upE l m q j++[upX l m q j]:=by simp[upE,List.range_succ]
theorem Ya(l:List Ent)(m q j:Nat):(upE l m q j).length=j:=by simp[upE]
theorem Uj{l:List Ent}{m q j i:Nat}(h:i<j):(upE l m q j).getD i Xp=upX l m q i:=by simp[upE,List.getD,List.getElem?_range h]
theorem Jw(l:List Ent)(m i:Nat):(Xe l m i).length=Qc l.length m i:=by simp[Xe,Qc]
theorem Hb{l:List Ent}{m i j:Nat}(h:j<Qc l.length m i):(Xe l m i).getD j Xp=l.getD (i*m+j) Xp:=by
 unfold Qc at h
 simp[Xe,List.getD,List.getElem?_take_of_lt (show j<m by omega),List.getElem?_drop]
theorem Rr{c:List Ent}{j:Nat}(h:j<c.length):(Qz c).getD j 0=(c.getD j Xp).1:=by simp[Qz,List.getD,h]
theorem Zb2{c:List Ent}{j:Nat}(h:j<c.length):(Je c).getD j []=(c.getD j Xp).2.1:=by simp[Je,List.getD,h]
theorem Pl(c:List Ent):(Qz c).length=c.length:=by simp[Qz]
theorem Fm(c:List Ent):(Je c).length=c.length:=by simp[Je]
theorem Zf5{n m i:Nat}(hm:1≤m)(hn:1≤n)(h:i<ovN n m):i*m<n:=by
 unfold ovN at h
 rcases Nat.eq_zero_or_pos i with rfl|hi
 ·omega
 have h2:i<(n+m-1)/m:=by omega
 have h3:=(Nat.lt_div_iff_mul_lt (by omega)).1 h2
 omega
theorem Px{t:Int}{leaf:Bool}{m v:Nat}{l:List Ent}(E:EntsOk v l)(h1:1≤t)(h2:t≤5)(hm:Ki t leaf=m)(hv:Uk t leaf=v)(hl:leaf=false→1≤l.length){i:Nat}(hi:i<ovN l.length m):NodeOk t leaf (Xe l m i).length m v (Qz (Xe l m i)) (Je (Xe l m i)):=by
 have hm1:=(Qg t leaf).1
 rw[hm] at hm1
 have hlen:=Jw l m i
 have hile:=Zbb hm1 hi
 have hle:(Xe l m i).length≤l.length-i*m:=by rw[hlen];unfold Qc;omega
 have key:∀ j,j<(Xe l m i).length→i*m+j<l.length∧(Qz (Xe l m i)).getD j 0=(l.getD (i*m+j) Xp).1∧(Je (Xe l m i)).getD j []=(l.getD (i*m+j) Xp).2.1:=fun j hj=>by
  refine⟨by omega,?_,?_⟩
  ·rw[Rr hj,Hb (by omega)]
  ·rw[Zb2 hj,Hb (by omega)]
 refine⟨h1,h2,hm,hv,Pl _,Fm _,by rw[hlen];unfold Qc;omega,fun h=>?_,fun j hj=>?_,fun j hj=>?_,fun j hj=>?_⟩
 ·have:=Zf5 hm1 (hl h) hi
  rw[hlen];unfold Qc;omega
 ·obtain⟨a1,a2,_⟩:=key j hj
  rw[a2];exact E.hk _ a1
 ·obtain⟨a1,a2,_⟩:=key j (by omega)
  obtain⟨b1,b2,_⟩:=key (j+1) hj
  rw[a2,b2];exact E.hs _ (by omega)
 ·obtain⟨a1,_,a3⟩:=key j hj
  rw[a3];exact E.hw _ a1
theorem Eo{t:Int}{leaf:Bool}{m v:Nat}{c:List Ent}(N:NodeOk t leaf c.length m v (Qz c) (Je c)):(nodB t leaf m v c).length=244:=by
 have hf:=fitN t leaf
 rw[N.hm,N.hv] at hf
 exact Su (Ku _ _ _ _ _) hf N.hn (fun j hj=>N.hw j hj)
theorem Zf2{w:World}{b:Option Addr}{n m c:Nat}(h:Sl w (.slice b (ovN n m) c) (ovN n m) ((sizL n m).map nv)){k:Nat}(hk:k<ovN n m):b.isSome=true∧w.cell? (Xh b (k*1))=some (.int .i64 ((Qc n m k:Nat):Int)):=by
 have:=Zt h (sizL_len n m) hk
 rwa [show(sizL n m).getD k 0=Qc n m k from by simp[sizL,List.getD,List.getElem?_range hk]] at this
theorem keys_take{l:List Ent}{j:Nat}(h:j<l.length):((Qz l).take (j+1)).map (Value.int .i64)=((Qz l).take j).map (Value.int .i64)++[.int .i64 (l.getD j Xp).1]:=by
 rw[List.take_succ_eq_append_getElem (by rw[Pl];exact h)]
 simp[Qz,List.getD,h]
theorem vals_take{l:List Ent}{j:Nat}(h:j<l.length):((Je l).take (j+1)).map sv=((Je l).take j).map sv++[.string ⟨(l.getD j Xp).2.1.toArray⟩]:=by
 rw[List.take_succ_eq_append_getElem (by rw[Fm];exact h)]
 simp[Je,List.getD,h,sv]
theorem keys_chunk{l:List Ent}{m i s:Nat}(hs:Qc l.length m i=s):(Qz (l.drop (i*m))).take s=Qz (Xe l m i):=by
 subst hs
 unfold Qz Xe Qc
 rw[←List.map_take]
 congr 1
 rw[List.take_eq_take_iff];simp
theorem vals_chunk{l:List Ent}{m i s:Nat}(hs:Qc l.length m i=s):(Je (l.drop (i*m))).take s=Je (Xe l m i):=by
 subst hs
 unfold Je Xe Qc
 rw[←List.map_take]
 congr 1
 rw[List.take_eq_take_iff];simp
theorem EntsOk.mono{v:Nat}{l:List Ent}(E:EntsOk v l):∀ {a b:Nat},a<b→b<l.length→(l.getD a Xp).1<(l.getD b Xp).1:=by
 intro a b h hb
 induction b with
 | zero=>omega
 | succ b ih =>
  have h1:=E.hs b (by omega)
  rcases Nat.lt_or_ge a b with h2|h2
  ·have:=ih h2 (by omega);omega
  ·obtain rfl:a=b:=by omega
   exact h1
theorem Zbr{v:Nat}{l:List Ent}{m:Nat}(hm:1≤m)(hl:1≤l.length){i q:Nat}(hi:i<ovN l.length m):(upX l m q i).1=(l.getD (i*m) Xp).1∧i*m<l.length:=by
 have h:=Zf5 hm hl hi
 refine⟨?_,h⟩
 unfold upX
 rw[Hb (by unfold Qc;omega)];rfl
theorem Ed{v:Nat}{l:List Ent}(E:EntsOk v l){m q:Nat}(hm:1≤m):EntsOk 4 (upE l m q (ovN l.length m)):=by
 rcases Nat.eq_zero_or_pos l.length with h0|hl
 ·have h1:ovN l.length m=1:=by
   rw[h0];unfold ovN
   have:(0+m-1)/m=0:=Nat.div_eq_of_lt (by omega)
   omega
  have hnil:l=[]:=List.eq_nil_of_length_eq_zero h0
  subst hnil
  constructor
  ·intro i hi;rw[Ya,h1] at hi;rw[Uj (by omega)];simp[upX,Xe,Xp]
  ·intro j hj;rw[Ya,h1] at hj;omega
  ·intro i hi;rw[Ya,h1] at hi;rw[Uj (by omega)];simp[upX,Zo]
 constructor
 ·intro i hi
  rw[Ya] at hi
  obtain⟨h1,h2⟩:=Zbr (v:=v) (q:=q) hm hl hi
  rw[Uj hi,h1];exact E.hk _ h2
 ·intro j hj
  rw[Ya] at hj
  obtain⟨h1,h2⟩:=Zbr (v:=v) (q:=q) hm hl hj
  obtain⟨h3,h4⟩:=Zbr (v:=v) (q:=q) hm hl (show j<ovN l.length m by omega)
  rw[Uj hj,Uj (by omega),h1,h3]
  refine E.mono ?_ h2
  rw[Nat.add_mul];omega
 ·intro i hi
  rw[Ya] at hi
  rw[Uj hi];simp[upX,Zo]
def Vi(t:Int)(u:List Ent)(q:Nat)(bs:List UInt8):Int×List UInt8 :=
 if h:u.length≤1 then((u.getD 0 Xp).2.2,bs)
 else Vi t (upE u 18 q (ovN u.length 18)) (q+ovN u.length 18) (Pu t false 18 4 u q bs (ovN u.length 18))
termination_by u.length
decreasing_by rw[Ya];have:=ov18 (x:=u.length) (by omega);omega
theorem Jp{t:Int}{u:List Ent}{q:Nat}{bs:List UInt8}(h:u.length≤1):Vi t u q bs=((u.getD 0 Xp).2.2,bs):=by rw[Vi];simp[h]
theorem Vm{t:Int}{u:List Ent}{q:Nat}{bs:List UInt8}(h:¬ u.length≤1):Vi t u q bs=Vi t (upE u 18 q (ovN u.length 18)) (q+ovN u.length 18) (Pu t false 18 4 u q bs (ovN u.length 18)):=by rw[Vi];simp[h]
def Yu(t:Int)(l:List Ent)(q:Nat)(bs:List UInt8):Int×List UInt8 :=
 Vi t (upE l (Ki t true) q (ovN l.length (Ki t true))) (q+ovN l.length (Ki t true)) (Pu t true (Ki t true) (Uk t true) l q bs (ovN l.length (Ki t true)))
def LaidQ(B ba b g n c:Nat)(pa:Option Addr)(ca f N k:Nat)(l:List UInt8)(kind:Int)(li:List UInt8)(q:Nat)(w:World)(e:Ending)(w':World):Prop :=
 e=.returned (.tuple #[.int .i64 (q:Int),.nilIface])∧Below B w w'∧Ze [120,5] w w'∧Fr [ba,g] w w'∧Al B ba b g n c pa ca f N (k+1) (Kf l (q*256) (Yp kind (q:Int) li)) w'
theorem Ie(B ba b g n c:Nat)(p:Option Addr)(ca f N k:Nat)(l:List UInt8)(kind:Int)(a:Option Addr)(ci:Nat)(li:List UInt8)(q n':Nat)(w:World)(hq:f+k=q)(hn':li.length=n')(hC:AlC B ba n c ca f N)(hA:Al B ba b g n c p ca f N k l w)(hkN:k<N)(h1:1≤kind)(h2:kind≤4)(hin:∀ W,Below B w W→Ze [120] w W→Bys W (.slice a n' ci) li)(hl:n'≤244)(hBw:B≤w.heap.size) :
 Calls Tryz.prog 85 #[.pointer (some ⟨ba,0,none⟩),.int .i64 kind,.slice a n' ci] w (LaidQ B ba b g n c p ca f N k l kind li q w):=by
 subst hq hn';exact alloc_Lay B ba b g n c p ca f N k l kind a ci li w hC hA hkN h1 h2 hin hl hBw
theorem up_row{l:List Ent}{m q i:Nat}{key:Int}(hk:key=((Xe l m i).getD 0 Xp).1):(upE l m q i).flatMap Ko++[.int .i64 key,.string ⟨(leB ((q+i:Nat):Int) 4).toArray⟩,.int .i64 ((q+i:Nat):Int)]=(upE l m q (i+1)).flatMap Ko:=by
 subst hk;rw[upE_succ];simp[Ko,upX]
theorem chunk_key{l:List Ent}{m i j:Nat}(hs:Qc l.length m i=j)(hj:0<j):((Qz (Xe l m i))).getD 0 0=((Xe l m i).getD 0 Xp).1:=Rr (by rw[Jw];omega)
theorem Zdv{l:List Ent}{m i j:Nat}(hs:Qc l.length m i=j)(hj:j=0):(0:Int)=((Xe l m i).getD 0 Xp).1:=by
 have:Xe l m i=[]:=List.eq_nil_of_length_eq_zero (by rw[Jw];omega)
 rw[this];rfl
def bmN (n:Nat):Nat:=(n+959)/960
theorem bmN_lt{n i:Nat}(h:i<bmN n):i*960<n:=by unfold bmN at h;omega
theorem bmN_done{n i:Nat}(h:i=bmN n):n≤i*960:=by subst h;unfold bmN;omega
def mn3 (n:Int):Int:=if n<3 then n else 3
def Zv(l:List Int):List Int:=l.map mn3
theorem Pv(l:List Int):(Zv l).length=l.length:=by simp[Zv]
theorem small_snoc{l:List Int}{k:Nat}(h:k<l.length):Zv (l.take (k+1))=Zv (l.take k)++[mn3 (l.getD k 0)]:=by
 unfold Zv
 rw[List.take_succ_eq_append_getElem h,List.map_append,show l.getD k 0=l[k] from by simp[List.getD,h]]
 rfl
def ovX (l:List Int)(k:Nat):List Ent:=if 3≤l.getD k 0 then [((k:Int),leB (l.getD k 0) 4,0)] else []
def Xn(l:List Int)(k:Nat):List Ent:=(List.range k).flatMap (ovX l)
theorem Ib(l:List Int)(k:Nat):Xn l (k+1)=Xn l k++ovX l k:=by simp[Xn,List.range_succ]
theorem Ly{l:List Int}{k:Nat}(h:3≤l.getD k 0):Xn l (k+1)=Xn l k++[((k:Int),leB (l.getD k 0) 4,0)]:=by rw[Ib];unfold ovX;rw[if_pos h]
theorem El{l:List Int}{k:Nat}(h:¬ 3≤l.getD k 0):Xn l (k+1)=Xn l k:=by rw[Ib];unfold ovX;rw[if_neg h];simp
theorem Zgy(l:List Int)(k:Nat):(Xn l k).Pairwise (fun a b=>a.1<b.1)∧∀ x∈Xn l k,0≤x.1∧x.1<k∧x.2.1.length=4:=by
 induction k with
 | zero=>simp[Xn]
 | succ k ih =>
  by_cases h3:3≤l.getD k 0
  ·rw[Ly h3]
   refine⟨List.pairwise_append.2 ⟨ih.1,by simp,fun a ha b hb=>?_⟩,fun x hx=>?_⟩
   ·simp only[List.mem_singleton] at hb;subst hb;exact(ih.2 a ha).2.1
   ·rcases List.mem_append.1 hx with h|h
    ·have:=ih.2 x h;exact⟨this.1,by have:=this.2.1;omega,this.2.2⟩
    ·simp only[List.mem_singleton] at h;subst h;exact⟨Int.natCast_nonneg _,by show(k:Int)<((k+1:Nat):Int);omega,Zo _ _⟩
  ·rw[El h3]
   exact⟨ih.1,fun x hx=>by have:=ih.2 x hx;exact⟨this.1,by have:=this.2.1;omega,this.2.2⟩⟩
theorem Pd(l:List Int)(k:Nat):(Xn l k).length≤k:=by
 induction k with
 | zero=>simp[Xn]
 | succ k ih =>
  by_cases h3:3≤l.getD k 0
  ·rw[Ly h3];simp;exact ih
  ·rw[El h3];omega
theorem Jc{l:List Ent}{i:Nat}(h:i<l.length):l.getD i Xp=l[i]:=by simp[List.getD,h]
theorem Zbj(l:List Int)(k:Nat)(hk:k≤65536):EntsOk 4 (Xn l k):=by
 have h:=Zgy l k
 refine⟨fun i hi=>?_,fun j hj=>?_,fun i hi=>?_⟩
 ·rw[Jc hi];have:=h.2 _ (List.getElem_mem hi);omega
 ·rw[Jc hj,Jc (by omega)];exact List.pairwise_iff_getElem.1 h.1 j (j+1) (by omega) hj (by omega)
 ·rw[Jc hi];exact(h.2 _ (List.getElem_mem hi)).2.2
def Nz(n:Int):Prop:=0≤n∧n≤2147483647
instance (n:Int):Decidable (Nz n):=by unfold Nz;infer_instance
def Pb(l:List Int):Int:=if 65536<l.length then 1 else if ∀ k,k<l.length→Nz (l.getD k 0) then 0 else 2
theorem Sa{l:List Int}(h:Pb l=0):l.length≤65536∧∀ k,k<l.length→Nz (l.getD k 0):=by
 unfold Pb at h
 split at h
 ·simp at h
 ·split at h
  ·exact⟨by omega,by assumption⟩
  ·simp at h
def Vp(l:List Int)(i:Nat):List Int:=(l.drop (i*960)).take 960
def Xt(l:List Int)(n:Nat):List (List Int):=(List.range n).map (Vp l)
theorem Me(l:List Int)(n:Nat):(Xt l n).length=n:=by simp[Xt]
theorem Wo{l:List Int}{n i:Nat}(h:i<n):(Xt l n).getD i []=Vp l i:=by simp[Xt,List.getD,h]
theorem Zbo(l:List Int)(n:Nat):Xt l (n+1)=Xt l n++[Vp l n]:=by simp[Xt,List.range_succ]
theorem Pr(l:List Int)(i:Nat):(Vp l i).length=min 960 (l.length-i*960):=by simp[Vp]
def Hj(l:List Int):Prop:=∀ n∈l,0≤n∧n≤3
theorem Zgw{l:List Int}(h:∀ k,k<l.length→Nz (l.getD k 0)):Hj (Zv l):=by
 intro n hn
 obtain⟨m,hm,rfl⟩:=List.mem_map.1 hn
 obtain⟨k,hk,rfl⟩:=List.getElem_of_mem hm
 have:=h k hk
 rw[show l.getD k 0=l[k] from by simp[List.getD,hk]] at this
 unfold Nz at this
 unfold mn3;split<;>omega
theorem Fq{l:List Int}(h:Hj l)(i:Nat):Hj (Vp l i):=fun n hn=>h n (List.mem_of_mem_drop (List.mem_of_mem_take hn))
def atI (l:List Int)(i j:Nat):Int:=if j<i then l.getD j 0 else 0
def g4 (l:List Int)(i k:Nat):Int:=atI l i (4*k)+4*atI l i (4*k+1)+16*atI l i (4*k+2)+64*atI l i (4*k+3)
def g4B (l:List Int)(i k:Nat):UInt8:=UInt8.ofNat (g4 l i k).toNat
def Ww(l:List Int)(i:Nat):List UInt8:=leB l.length 4++(List.range 240).map (g4B l i)
theorem Kk(l:List Int)(i:Nat):(Ww l i).length=244:=by simp[Ww,Zo]
def Jb(l:List Int):List UInt8:=Ww l l.length
def Ze7(l:List Int)(k:Nat):Nat:=((l.take k).filter fun n=>n==0).length
def Yn(l:List Int):Nat:=Ze7 l l.length
def Xm(l:List Int):Nat:=l.findIdx fun n=>n==0
theorem Iw{l:List Int}{k:Nat}(h:k<l.length):Ze7 l (k+1)=Ze7 l k+(if l.getD k 0=0 then 1 else 0):=by
 unfold Ze7
 rw[List.take_succ_eq_append_getElem h,List.filter_append,List.length_append]
 simp only[List.getD,List.getElem?_eq_getElem h,Option.getD_some]
 by_cases e:l[k]=0<;>simp[e]
theorem Fa(l:List Int)(k:Nat):Ze7 l k≤k:=Nat.le_trans (List.length_filter_le _ _) (by simp;omega)
theorem Zda(l:List Int):Xm l≤l.length:=List.findIdx_le_length
theorem Rs{l:List Int}{i:Nat}(h:i<l.length)(h0:l.getD i 0=0)(hp:∀ j,j<i→l.getD j 0≠0):Xm l=i:=by
 unfold Xm
 refine(List.findIdx_eq h).2 ⟨?_,fun j hj=>?_⟩
 ·rw[List.getD,List.getElem?_eq_getElem h] at h0;simpa using h0
 ·have:=hp j hj
  rw[List.getD,List.getElem?_eq_getElem (by omega)] at this;simpa using this
theorem Nx{l:List Int}(hp:∀ j,j<l.length→l.getD j 0≠0):Xm l=l.length:=by
 unfold Xm
 rw[List.findIdx_eq_length]
 intro n hn
 obtain⟨k,hk,rfl⟩:=List.getElem_of_mem hn
 have:=hp k hk
 rw[List.getD,List.getElem?_eq_getElem hk] at this;simpa using this
def slotB(n f g:Int):List UInt8:=leB n 8++leB f 4++leB g 4
theorem slotB_len(n f g:Int):(slotB n f g).length=16:=by simp[slotB,Zo]
def Jf(L:List (List Int))(q:Nat)(bs:List UInt8):Nat→List UInt8
 | 0=>bs
 | i+1=>Kf (Jf L q bs i) ((q+i)*256) (Yp 3 ((q+i:Nat):Int) (Jb (L.getD i [])))
def Zcx(L:List (List Int))(q i:Nat):Ent:=((i:Int),slotB ((q+i:Nat):Int) (Yn (L.getD i []):Int) (Xm (L.getD i []):Int),0)
def Xz(L:List (List Int))(q j:Nat):List Ent:=(List.range j).map (Zcx L q)
theorem Yy(L:List (List Int))(q j:Nat):(Xz L q j).length=j:=by simp[Xz]
theorem Zeg(L:List (List Int))(q j:Nat):Xz L q (j+1)=Xz L q j++[Zcx L q j]:=by simp[Xz,List.range_succ]
theorem Hr{L:List (List Int)}{q j i:Nat}(h:i<j):(Xz L q j).getD i Xp=Zcx L q i:=by simp[Xz,List.getD,h]
theorem Am(L:List (List Int))(q j:Nat)(hj:j≤65536):EntsOk 16 (Xz L q j):=by
 refine⟨fun i hi=>?_,fun i hi=>?_,fun i hi=>?_⟩<;>rw[Yy] at hi
 ·rw[Hr hi];simp only[Zcx];omega
 ·rw[Hr hi,Hr (by omega)];simp only[Zcx];omega
 ·rw[Hr hi];exact slotB_len _ _ _
def Jn(l:List Int)(q:Nat)(bs:List UInt8):Int×Int×List UInt8 :=
 let L:=Xt (Zv l) (bmN l.length)
 let x:=Yu 4 (Xz L q (bmN l.length)) (q+bmN l.length) (Jf L q bs (bmN l.length))
 let y:=Yu 5 (Xn l l.length) (q+bmN l.length+Qt 4 (bmN l.length)) x.2
 (x.1,y.1,y.2)
def Wm(l:List Int):Nat:=bmN l.length+Qt 4 (bmN l.length)+Qt 5 (Xn l l.length).length
theorem Jv{l:List Int}(h:Hj l)(i j:Nat):0≤atI l i j∧atI l i j≤3:=by
 unfold atI
 split
 ·by_cases hj:j<l.length
  ·rw[show l.getD j 0=l[j] from by simp[List.getD,hj]];exact h _ (List.getElem_mem hj)
  ·rw[show l.getD j 0=0 from by simp[List.getD,Nat.le_of_not_lt hj]];omega
 ·omega
theorem Vj{l:List Int}(h:Hj l)(j:Nat):0≤l.getD j 0∧l.getD j 0≤3:=by
 have:=Jv h (j+1) j
 unfold atI at this
 rwa [if_pos (by omega)] at this
theorem Hl{l:List Int}{i j:Nat}(h:j≠i):atI l (i+1) j=atI l i j:=by
 unfold atI
 by_cases q:j<i
 ·rw[if_pos q,if_pos (by omega)]
 ·rw[if_neg q,if_neg (by omega)]
theorem Zgl(l:List Int)(i:Nat):atI l (i+1) i=l.getD i 0:=by unfold atI;rw[if_pos (by omega)]
theorem Nu{l:List Int}{i j:Nat}(h:i≤j):atI l i j=0:=by unfold atI;rw[if_neg (by omega)]
theorem g4_ne{l:List Int}{i k:Nat}(h:k≠i/4):g4 l (i+1) k=g4 l i k:=by
 unfold g4
 rw[Hl (by omega),Hl (by omega),Hl (by omega),Hl (by omega)]
theorem g4_at{l:List Int}(h:Hj l){i q r:Nat}(hi:i=4*q+r)(hr:r<4):g4 l (i+1) q=g4 l i q+l.getD i 0*4 ^ r∧0≤g4 l i q∧g4 l i q<4 ^ r:=by
 have b0:=Jv h i (4*q)
 have b1:=Jv h i (4*q+1)
 have b2:=Jv h i (4*q+2)
 have b3:=Jv h i (4*q+3)
 unfold g4
 obtain rfl|rfl|rfl|rfl:r=0∨r=1∨r=2∨r=3:=by omega
 ·rw[show 4*q=i from by omega,Zgl,Hl (by omega),Hl (by omega),Hl (by omega),Nu (Nat.le_refl i),Nu (Nat.le_add_right i 1),Nu (Nat.le_add_right i 2),Nu (Nat.le_add_right i 3)]
  omega
 ·have e2:atI l i (4*q+2)=0:=Nu (by omega)
  have e3:atI l i (4*q+3)=0:=Nu (by omega)
  have e1:atI l i (4*q+1)=0:=Nu (by omega)
  rw[Hl (j:=4*q) (by omega),Hl (j:=4*q+2) (by omega),Hl (j:=4*q+3) (by omega),e1,e2,e3,←hi,Zgl]
  omega
 ·have e2:atI l i (4*q+2)=0:=Nu (by omega)
  have e3:atI l i (4*q+3)=0:=Nu (by omega)
  rw[Hl (j:=4*q) (by omega),Hl (j:=4*q+1) (by omega),Hl (j:=4*q+3) (by omega),e2,e3,←hi,Zgl]
  omega
 ·have e3:atI l i (4*q+3)=0:=Nu (by omega)
  rw[Hl (j:=4*q) (by omega),Hl (j:=4*q+1) (by omega),Hl (j:=4*q+2) (by omega),e3,←hi,Zgl]
  omega
theorem g4B_at{l:List Int}(h:Hj l){i:Nat}:((g4B l (i+1) (i/4)).toNat:Int)=((g4B l i (i/4)).toNat:Int)+l.getD i 0*4 ^ (i%4)∧(g4B l i (i/4)).toNat<4 ^ (i%4):=by
 obtain⟨h1,h2,h3⟩:=g4_at h (show i=4*(i/4)+i%4 by omega) (by omega)
 have hn:=Vj h i
 have hp:(4:Int) ^ (i%4)≤64:=by
  have:i%4<4:=by omega
  obtain e|e|e|e:i%4=0∨i%4=1∨i%4=2∨i%4=3:=by omega
  all_goals rw[e];decide
 have hp0:(0:Int)<4 ^ (i%4):=Int.pow_pos (by decide)
 generalize hP:(4:Int) ^ (i%4)=Pq at *
 have hq:l.getD i 0*Pq≤3*Pq:=Int.mul_le_mul_of_nonneg_right hn.2 (by omega)
 have hq0:0≤l.getD i 0*Pq:=Int.mul_nonneg hn.1 (by omega)
 generalize l.getD i 0*Pq=M at *
 have hP':((4 ^ (i%4):Nat):Int)=Pq:=by rw[←hP];simp
 unfold g4B
 rw[UInt8.toNat_ofNat',UInt8.toNat_ofNat',h1]
 omega
def Bt(gs:List (Nat×Nat))(L:List (List Int))(i:Nat):Value:=.slice (some ⟨(gs.getD i (0,0)).1,0,none⟩) (L.getD i []).length (gs.getD i (0,0)).2
structure Lists(w:World)(base:Nat)(v:Value)(gs:List (Nat×Nat))(L:List (List Int)):Prop where
 row:w.ownsRow base 30 1 v L.length ((List.range L.length).map (Bt gs L))
 each:∀ i,i<L.length→w.ownsRow base 3 1 (Bt gs L i) (L.getD i []).length ((L.getD i []).map (Value.int .i64))
theorem Lists.below{w W:World}{base:Nat}{v:Value}{gs:List (Nat×Nat)}{L:List (List Int)}(h:Lists w base v gs L)(hb:Below w.heap.size w W):Lists W base v gs L:=⟨Zb h.row hb,fun i hi=>Zb (h.each i hi) hb⟩
theorem Lists.only{T:List TypeId}{w W:World}{base:Nat}{v:Value}{gs:List (Nat×Nat)}{L:List (List Int)}(h:Lists w base v gs L)(hO:Ze T w W)(hT:T.contains 30=false∧T.contains 3=false):Lists W base v gs L:=⟨Zl h.row hO hT.1,fun i hi=>Zl (h.each i hi) hO hT.2⟩
theorem Lists.elem{w:World}{base:Nat}{p:Option Addr}{n c:Nat}{gs:List (Nat×Nat)}{L:List (List Int)}(h:Lists w base (.slice p n c) gs L)(hn:L.length=n){k:Nat}(hk:k<n):p.isSome=true∧w.cell? (Xh p (k*1))=some (Bt gs L k):=by
 subst hn
 rw[Nat.mul_one]
 exact Sl.elem (Zf h.row) (by simp[hk])
theorem Lists.mono{w:World}{base base':Nat}{v:Value}{gs:List (Nat×Nat)}{L:List (List Int)}(h:Lists w base' v gs L)(hb:base≤base'):Lists w base v gs L:=⟨Zd h.row hb,fun i hi=>Zd (h.each i hi) hb⟩
theorem plotN_bd{l:List Int}(h:l.length≤3000):2≤Wm l∧Wm l≤500∧bmN l.length≤4:=by
 have h4:=Zat 4 (bmN l.length)
 have h4p:1≤Qt 4 (bmN l.length):=by
  have h1:=Jm (ovN (bmN l.length) (Ki 4 true));have h2:=Qd (bmN l.length) (Ki 4 true);unfold Qt Hi;omega
 have h5p:1≤Qt 5 (Xn l l.length).length:=by
  have h1:=Jm (ovN (Xn l l.length).length (Ki 5 true));have h2:=Qd (Xn l l.length).length (Ki 5 true);unfold Qt Hi;omega
 have hk:=Pd l l.length
 have h5:=Zf7 (Qd (Xn l l.length).length (Ki 5 true))
 have ho:ovN (Xn l l.length).length (Ki 5 true)≤167:=by
  rw[show Ki 5 true=18 from rfl];unfold ovN;omega
 have h5':Qt 5 (Xn l l.length).length≤334:=by unfold Qt Hi;omega
 have hb:bmN l.length≤4:=by unfold bmN;omega
 unfold Wm
 omega
def FrB (B:Nat)(S:List Nat)(w W:World):Prop:=w.heap.size≤W.heap.size∧∀ k,k<B→k∉S→W.heap[k]? = w.heap[k]?
theorem Fr.trans_B{S S':List Nat}{a w W:World}(h:Fr S a w)(k:FrB a.heap.size S' w W)(hs:∀ k∈S',k∈S):Fr S a W:=⟨Nat.le_trans h.size k.1,fun i hi hn=>(k.2 i hi fun q=>hn (hs i q)).trans (h.block i hi hn)⟩
theorem or_step:∀ r:Fin 4,∀ n:Fin 4,∀ o:Fin 64,o.val<4 ^ r.val→o.val ||| (n.val*4 ^ r.val)=o.val+n.val*4 ^ r.val:=by decide
end Go.Proofs.YthlakkdgcgkcdaaGreatDoor
namespace Go.Proofs.YthlakkdgcgkcdaaGreatDoor
set_option maxHeartbeats 8000000
set_option maxRecDepth 100000
open Go.RowKit
set_option linter.unusedVariables false
attribute [local go_sem] Oper.semAt_some
def encK(b off n:Nat)(j:Fin (bmN n)):Array Value:=#[.slice (some ⟨b,off+j.val*960,none⟩) (min 960 (n-j.val*960)) (min 960 (n-j.val*960))]
theorem chunk1_in(l B1 B2:Nat)(p:Nat→Prop)(b off n cap:Nat)(hlen:n≤1000000)(hcap:n≤cap)(hB1:p B1)(hB2:p B2)(J Jx:List (Fin (bmN n))→World→Prop)
  (hY:∀ pre x W,J pre W→pre.length<bmN n→YieldAt Fence.wide 2 Tryz.prog l (encK b off n x) W fun e W' =>
   (e=.returned (.bool true)∧J (pre++[x]) W'∧Keeps p W W')∨(e=.returned (.bool false)∧Jx (pre++[x]) W'))
  (W:World) (hck:W.cell? ⟨B1,0,none⟩=some (.slice (some ⟨b,off,none⟩) n cap)) (hcn:W.cell? ⟨B2,0,none⟩=some (.int .i64 960)) (hJa:AbidesFrom W.heap.size J) (h0:J [] W) :
  CallsIn Fence.wide 3 Tryz.prog 126 #[.func (.yield l) #[] #[],.pointer (some ⟨B1,0,none⟩),.pointer (some ⟨B2,0,none⟩)] W fun e W'=>(∃ v,e=.returned v) ∧
   ((∃ ys,ys=List.finRange (bmN n)∧J ys W')∨(∃ pre,(∃ k,k≤bmN n∧pre=(List.finRange (bmN n)).take k)∧Jx pre W')):=by
 refine callsIn_of_wp Tryz.func126 rfl trivial ?_ rfl
 simp only[Tryz.ntmps126,List.size_toArray,List.length_cons,List.length_nil,Nat.reduceAdd,Nat.reduceSub,Array.replicate_succ,Array.replicate_zero,List.push_toArray,List.append_toArray,List.nil_append,List.cons_append]
 gi_wp2
 gi_loopw [4] (fun i wr=>∃ k:Nat,k≤bmN n∧i=.int .i64 ((k*960:Nat):Int)∧J ((List.finRange (bmN n)).take k) wr∧Keeps p W wr)
  (fun i _=>(n-(intOf i)).toNat)
 case atStart=>exact⟨0,Nat.zero_le _,by simp,h0,Keeps.refl _ _⟩
 case round =>
  obtain⟨k,hk,rfl,hJs,hnx⟩:=hrel
  have hck':=(hnx.cell (a:=⟨B1,0,none⟩) hB1).trans hck
  have hcn':=(hnx.cell (a:=⟨B2,0,none⟩) hB2).trans hcn
  by_cases hlt:k<bmN n
  ·have hkn:=bmN_lt hlt
   gi_wp2
   gi_big_quiet_th (fail)
   obtain⟨fn,tmps,assign,body,hy,hR⟩:=hY _ ⟨k,hlt⟩ (wr.drewN nq) (hJa _ wr _ none hJs ⟨rfl,rfl,rfl,Nat.le_refl _,fun _ _ _=>rfl⟩ (fun _ e=>by cases e)) (by rw[Hz hk];exact hlt)
   have hE:encK b off n ⟨k,hlt⟩=#[.slice (some ⟨b,off+k*960,none⟩) (min 960 (n-k*960)) (min 960 (n-k*960))]:=rfl
   rw[hE] at hy
   have HE:=Lib.hid hE;clear hE
   rw[show(if((n-k*960:Nat):Int)<960 then((n-k*960:Nat):Int) else 960)=((min 960 (n-k*960):Nat):Int) from by split<;>omega]
   obtain⟨m,hm⟩:∃ m,min 960 (n-k*960)=m:=⟨_,rfl⟩
   rw[hm] at hy ⊢
   have hm1:k*960+m≤n:=by omega
   have hm2:k*960+m≤cap:=by omega
   have hm3:k*960+m-k*960=m:=by omega
   gi_wp2
   refine hR.mono ?_
   rintro e W3 (⟨rfl,hJ3,hk3⟩|⟨rfl,hJx3⟩)
   ·have hcn3:W3.cell? ⟨B2,0,none⟩=some (.int .i64 960):=(hk3.cell (a:=⟨B2,0,none⟩) hB2).trans hcn'
    gi_wp2
    go_roundw
    case rel =>
     refine⟨k+1,by omega,?_,by rw[Vx hlt];exact hJ3,(hnx.trans (show Keeps p wr (wr.drewN nq) from⟨Nat.le_refl _,fun _ _=>rfl⟩)).trans hk3⟩
     exact congrArg (Value.int .i64) (by omega)
    case measure=>simp only[intOf];omega
   ·gi_wp2
    refine bodyPost_ret (results_none rfl _ _ _) rfl ?_
    exact⟨⟨_,rfl⟩,.inr ⟨_,⟨k+1,by omega,by rw[Vx hlt]⟩,hJx3⟩⟩
  ·obtain rfl:k=bmN n:=by omega
   have hdn:=bmN_done (n:=n) rfl
   have hdi:¬ (((bmN n*960:Nat):Int)<(n:Int)):=by omega
   rw[Pi] at hJs
   have HJ:=Lib.hid hJs;clear hJs
   gi_wp2
   go_end0
   exact⟨⟨_,rfl⟩,.inl HJ.out⟩
theorem Ow{α:Type}(l B1 B2:Nat)(J:List α→World→Prop)(W:World){a0:Option Addr}{c0:Nat}(hck:W.cell? ⟨B1,0,none⟩=some (.slice a0 0 c0))(h0:J [] W) :
 CallsIn Fence.wide 3 Tryz.prog 126 #[.func (.yield l) #[] #[],.pointer (some ⟨B1,0,none⟩),.pointer (some ⟨B2,0,none⟩)] W fun e W'=>(∃ v,e=.returned v)∧J [] W':=by
 refine callsIn_of_wp Tryz.func126 rfl trivial ?_ rfl
 simp only[Tryz.ntmps126,List.size_toArray,List.length_cons,List.length_nil,Nat.reduceAdd,Nat.reduceSub,Array.replicate_succ,Array.replicate_zero,List.push_toArray,List.append_toArray,List.nil_append,List.cons_append]
 gi_wp2
 gi_loopw [4] (fun i wr=>i=.int .i64 0∧J [] wr∧wr.cell? ⟨B1,0,none⟩=some (.slice a0 0 c0)) (fun _ _=>0)
 case atStart=>exact⟨rfl,h0,hck⟩
 case round =>
  obtain⟨rfl,hJs,hcr⟩:=hrel
  have HJ:=Lib.hid hJs;clear hJs
  gi_wp2
  go_end0
  exact⟨⟨_,rfl⟩,HJ.out⟩
theorem Zdm(B1 B2:Nat)(p:Nat→Prop)(b off n cap:Nat)(v:Value)(w:World)(hp:∀ b,p b→b<w.heap.size)(h1:p B1)(h2:p B2)(hlen:n≤1000000)(hv:(n=0∧∃ a c,v=.slice a 0 c)∨v=.slice (some ⟨b,off,none⟩) n cap∧n≤cap)(hck:w.cell? ⟨B1,0,none⟩=some v)(hcn:w.cell? ⟨B2,0,none⟩=some (.int .i64 960)) :
  SeqStopsK Fence.wide 3 Tryz.prog 126 #[.pointer (some ⟨B1,0,none⟩),.pointer (some ⟨B2,0,none⟩)] (encK b off n) (Keeps p)
   (fun ys=>ys=List.finRange (bmN n)) (fun pre=>∃ k,k≤bmN n∧pre=(List.finRange (bmN n)).take k) (bmN n) w:=fun l J Jx W hW hJa _ hY h0=>by
 have hck':=Mo hW hck
 have hcn':=Mo hW hcn
 rcases hv with ⟨rfl,a,c,rfl⟩|⟨rfl,hcap⟩
 ·exact(Ow l B1 B2 J W hck' h0).mono fun e W' ⟨he,hj⟩=>⟨he,.inl ⟨_,rfl,hj⟩⟩
 ·exact chunk1_in l B1 B2 p b off n cap hlen hcap h1 h2 J Jx hY W hck' hcn' hJa h0
end Go.Proofs.YthlakkdgcgkcdaaGreatDoor
namespace Go.Proofs.YthlakkdgcgkcdaaGreatDoor
set_option maxHeartbeats 8000000
set_option maxRecDepth 100000
open Go.RowKit Go.Extern.Stop Go.Stop Go.Extern
set_option linter.unusedVariables false
section
variable {P:Program} {a:Act} {w:World} {K:Act→World→Prop} {Q:Exit→Act→World→Prop}
theorem Zca(g k:Nat):Xh (some ⟨g,0,none⟩) (k*1)=⟨g,k,none⟩:=by
 simp[Xh,Addr.add];exact fun h=>h.symm
theorem Wn{o:Oper}{t e:TypeId}{x y:Operand}{g n c k base:Nat}{xs:List Value}{v:Value}(ho:o.op=.store t x y)(hx:a.eval x=.pointer (some (Xh (some ⟨g,0,none⟩) (k*1))))(hy:a.eval y=v)
 (hi:(P.info? t).map (·.size)=some 1) (h1:v.oneCell'=true) (hown:w.ownsRow base e 1 (.slice (some ⟨g,0,none⟩) n c) n xs) (hk:k<n)
 (h:∀ W,Upd w g W→W.ownsRow base e 1 (.slice (some ⟨g,0,none⟩) n c) n (xs.set k v)→K (a.put o.dst undef) W):o.wp P a w K Q:=by
 obtain⟨hl,h2⟩:=hown
 rcases h2 with ⟨h2,_⟩|⟨g',cap,cur,hv,hg,hh,hc,hm,hsz,htk⟩
 ·cases h2
 ·simp only[Value.slice.injEq,Option.some.injEq,Addr.mk.injEq] at hv
  obtain⟨⟨rfl,_⟩,_,rfl⟩:=hv
  have hb:Blk w g cur.toList e:=by unfold Blk;simpa using hh
  rw[Zca] at hx
  refine Ua ho hx hy hi h1 hb (by simp;omega) fun W hu hW=>h W hu ⟨by simpa using hl,.inr ⟨g,c,(cur.toList.set k v).toArray,rfl,hg,hW,hc,hm,by simpa using hsz,?_⟩⟩
  rw[←htk]
  simp[List.take_set]
end
section
variable {P:Program} {ops:Array Oper} {Q:Exit→Act→World→Prop} {a a':Act} {w:World} {S:World→Prop} {md:Region.Mode} {L L':Array Bool} {fuel:Nat}
end
theorem Zb1{w:World}{base e size g n c:Nat}{xs:List Value}(h:w.ownsRow base e size (.slice (some ⟨g,0,none⟩) n c) n xs):base≤g:=(h.lt g rfl).1
theorem Zea{w:World}{base e size g n c:Nat}{xs:List Value}(h:w.ownsRow base e size (.slice (some ⟨g,0,none⟩) n c) n xs):∃ cs,Blk w g cs e:=by
 rcases h.2 with ⟨h2,_⟩|⟨g',cap,cur,hv,hg,hh,_⟩
 ·cases h2
 ·simp only[Value.slice.injEq,Option.some.injEq,Addr.mk.injEq] at hv
  obtain⟨⟨rfl,_⟩,_⟩:=hv
  exact⟨cur.toList,by unfold Blk;simpa using hh⟩
theorem Aq{w:World}{base e size g n c b:Nat}{t:TypeId}{xs cs:List Value}(k:Blk w b cs t)(h:w.ownsRow base e size (.slice (some ⟨g,0,none⟩) n c) n xs)(hne:t≠e):b≠g:=by
 rintro rfl
 obtain⟨cs',k'⟩:=Zea h
 have h1:w.heap[b]? = some (.cells cs.toArray t (0,0)):=k
 rw[show w.heap[b]? = some (.cells cs'.toArray e (0,0)) from k'] at h1
 simp only[Option.some.injEq,Obj.cells.injEq] at h1
 exact hne h1.2.1.symm
theorem Ze.of_updRow{T:List TypeId}{w W:World}{base e size g n c:Nat}{xs:List Value}(u:Upd w g W)(h:w.ownsRow base e size (.slice (some ⟨g,0,none⟩) n c) n xs)(hT:T.contains e=true):Ze T w W:=by
 obtain⟨cs,k⟩:=Zea h
 exact Ze.of_upd u k hT
end Go.Proofs.YthlakkdgcgkcdaaGreatDoor
namespace Go.Proofs.YthlakkdgcgkcdaaGreatDoor
set_option maxHeartbeats 8000000
set_option maxRecDepth 100000
open Go.RowKit Go.Extern.Stop Go.Stop Go.Extern
set_option linter.unusedVariables false
attribute [local irreducible] wpList wpAnyH Code.wp Oper.wp Go
theorem Zbc(p:Option Addr)(n c:Nat)(w:World) :
 Calls Tryz.prog 80 #[.slice p n c,.int .i64 960] w (fun e w'=>∃ b1 b2,e=.returned (.func (.func 126) #[] #[.pointer (some ⟨b1,0,none⟩),.pointer (some ⟨b2,0,none⟩)])∧Below w.heap.size w w'∧w.heap.size≤b1∧w.heap.size≤b2∧b1≠b2∧Blk w' b1 [.slice p n c] 30∧Blk w' b2 [.int .i64 960] 3):=by
 refine zin 9 Tryz.func80 ?_
 refine xa 2 [.slice p n c] 30 fun b1 W1 n1=>?_
 refine xa 0 [.int .i64 960] 3 fun b2 W2 n2=>?_
 refine xb 6 0 n2.blk ?_
 have k1:=n1.blk.below n2.below
 have hB:=bln n1.below n2.below
 have g1:=n1.ge (Below.refl w.heap.size _)
 have g2:=n2.ge n1.below
 exact xe 13 (.func (.func 126) #[] #[.pointer (some ⟨b1,0,none⟩),.pointer (some ⟨b2,0,none⟩)]) ⟨_,_,rfl,hB,g1,g2,(Blk.tne k1 n2.blk (by decide)),k1,n2.blk⟩
end Go.Proofs.YthlakkdgcgkcdaaGreatDoor
namespace Go.Proofs.YthlakkdgcgkcdaaGreatDoor
set_option maxHeartbeats 8000000
set_option maxRecDepth 100000
open Go.RowKit
set_option linter.unusedVariables false
attribute [local go_sem] Oper.semAt_some
def encB(l:List Int)(j:Fin l.length):Array Value:=#[.int .i64 (qOf j:Int),.int .i64 (l[qOf j]?.getD 0)]
theorem back1_in(l Bk:Nat)(p:Nat→Prop)(b off cap:Nat)(zs:List Int)(hlen:zs.length≤9223372036854775807)(hb':zs.length=0∨p b)(hBk:p Bk)(J Jx:List (Fin zs.length)→World→Prop)
  (hY:∀ pre x W,J pre W→pre.length<zs.length→YieldAt Fence.wide 2 Tryz.prog l (encB zs x) W fun e W' =>
   (e=.returned (.bool true)∧J (pre++[x]) W'∧Keeps p W W')∨(e=.returned (.bool false)∧Jx (pre++[x]) W'))
  (W:World) (hck:W.cell? ⟨Bk,0,none⟩=some (.slice (some ⟨b,off,none⟩) zs.length cap))
  (hc:∀ j x,zs[j]? = some x→W.cell? ⟨b,off+j,none⟩=some (.int .i64 x)) (h0:J [] W) :
  CallsIn Fence.wide 3 Tryz.prog 203 #[.func (.yield l) #[] #[],.pointer (some ⟨Bk,0,none⟩)] W fun e W'=>(∃ v,e=.returned v) ∧
   ((∃ ys,ys=List.finRange zs.length∧J ys W')∨(∃ pre,(∃ k,k≤zs.length∧pre=(List.finRange zs.length).take k)∧Jx pre W')):=by
 refine callsIn_of_wp Tryz.func203 rfl trivial ?_ rfl
 simp only[Tryz.ntmps203,List.size_toArray,List.length_cons,List.length_nil,Nat.reduceAdd,Nat.reduceSub,Array.replicate_succ,Array.replicate_zero,List.push_toArray,List.append_toArray,List.nil_append,List.cons_append]
 gi_wp2
 gi_loopw [3] (fun i wr=>∃ k:Nat,k≤zs.length∧i=.int .i64 ((zs.length:Int)-1-k)∧J ((List.finRange zs.length).take k) wr∧Keeps p W wr)
  (fun i _=>((intOf i)+1).toNat)
 case atStart=>exact⟨0,Nat.zero_le _,by simp,h0,Keeps.refl _ _⟩
 case round =>
  obtain⟨k,hk,rfl,hJs,hnx⟩:=hrel
  by_cases hlt:k<zs.length
  ·have hb:p b:=hb'.resolve_left (by omega)
   obtain⟨x,hx⟩:∃ x,zs[zs.length-1-k]? = some x:=⟨zs[zs.length-1-k],by simp⟩
   have hck':=(hnx.cell (a:=⟨Bk,0,none⟩) hBk).trans hck
   have hcx:=(hnx.cell (a:=⟨b,off+(zs.length-1-k),none⟩) hb).trans (hc _ _ hx)
   obtain⟨q,hq⟩:∃ q:Nat,q=zs.length-1-k:=⟨_,rfl⟩
   have hqi:((zs.length:Int)-1-k)=(q:Int):=by omega
   have hql:q<zs.length:=by omega
   obtain⟨fn,tmps,assign,body,hy,hR⟩:=hY _ ⟨k,hlt⟩ wr hJs (by rw[Hz hk];exact hlt)
   have hE:encB zs ⟨k,hlt⟩=#[.int .i64 (q:Int),.int .i64 x]:=by
    have e0:zs[q]? = some x:=by rw[hq];exact hx
    have e2:qOf (⟨k,hlt⟩:Fin zs.length)=q:=hq.symm
    simp only[encB,e2,e0,Option.getD_some]
   rw[hE] at hy
   rw[←hq] at hcx
   rw[hqi]
   have HQ:=Lib.hid hq;clear hq
   have HI:=Lib.hid hqi;clear hqi
   have HX:=Lib.hid hx;clear hx
   have HE:=Lib.hid hE;clear hE
   gi_wp2
   refine hR.mono ?_
   rintro e W3 (⟨rfl,hJ3,hk3⟩|⟨rfl,hJx3⟩)
   ·gi_wp2
    go_roundw
    case rel =>
     refine⟨k+1,by omega,?_,by rw[Vx hlt];exact hJ3,hnx.trans hk3⟩
     exact congrArg (Value.int .i64) (by have:=HI.out;omega)
    case measure=>simp[intOf]
   ·gi_wp2
    refine bodyPost_ret (results_none rfl _ _ _) rfl ?_
    exact⟨⟨_,rfl⟩,.inr ⟨_,⟨k+1,by omega,by rw[Vx hlt]⟩,hJx3⟩⟩
  ·obtain rfl:k=zs.length:=by omega
   have hneg:((zs.length:Int)-1-zs.length) = -1:=by omega
   rw[hneg]
   clear hneg
   rw[Pi] at hJs
   have HJ:=Lib.hid hJs;clear hJs
   gi_wp2
   go_end0
   exact⟨⟨_,rfl⟩,.inl ⟨_,rfl,HJ.out⟩⟩
theorem Zcs{α:Type}(l Bk:Nat)(J:List α→World→Prop)(W:World){a0:Option Addr}{c0:Nat}(hck:W.cell? ⟨Bk,0,none⟩=some (.slice a0 0 c0))(h0:J [] W) :
 CallsIn Fence.wide 3 Tryz.prog 203 #[.func (.yield l) #[] #[],.pointer (some ⟨Bk,0,none⟩)] W fun e W'=>(∃ v,e=.returned v)∧J [] W':=by
 refine callsIn_of_wp Tryz.func203 rfl trivial ?_ rfl
 simp only[Tryz.ntmps203,List.size_toArray,List.length_cons,List.length_nil,Nat.reduceAdd,Nat.reduceSub,Array.replicate_succ,Array.replicate_zero,List.push_toArray,List.append_toArray,List.nil_append,List.cons_append]
 gi_wp2
 gi_loopw [3] (fun i wr=>i=.int .i64 (-1)∧J [] wr) (fun _ _=>0)
 case atStart=>exact⟨rfl,h0⟩
 case round =>
  obtain⟨rfl,hJs⟩:=hrel
  gi_wp2
  go_end0
  exact⟨⟨_,rfl⟩,hJs⟩
theorem back_stops(Bk:Nat)(p:Nat→Prop)(v:Value)(zs:List Int)(w:World)(hp:∀ b,p b→b<w.heap.size)(hk:p Bk)(hlen:zs.length≤9223372036854775807)(hv:Ints w v zs)
  (hvp:zs.length≠0→∀ b off n cap,v=.slice (some ⟨b,off,none⟩) n cap→p b) (hck:w.cell? ⟨Bk,0,none⟩=some v) :
  SeqStopsK Fence.wide 3 Tryz.prog 203 #[.pointer (some ⟨Bk,0,none⟩)] (encB zs) (Keeps p)
   (fun ys=>ys=List.finRange zs.length) (fun pre=>∃ k,k≤zs.length∧pre=(List.finRange zs.length).take k) zs.length w:=fun l J Jx W hW _ _ hY h0=>by
 have hck':=Mo hW hck
 rcases hv with ⟨a0,c0,rfl,h1,h2⟩|⟨b,off,cap,rfl,hcap,hmax,hcs⟩
 ·obtain rfl:zs=[]:=by simpa using h2
  exact(Zcs l Bk J W hck' h0).mono fun e W' ⟨he,hj⟩=>⟨he,.inl ⟨_,rfl,hj⟩⟩
 ·refine back1_in l Bk p b off cap zs hlen ?_ hk J Jx hY W hck' (fun j x hj=>Mo hW (hcs j _ (by simp[hj]))) h0
  by_cases h:zs.length=0
  ·exact .inl h
  ·exact .inr (hvp h _ _ _ _ rfl)
end Go.Proofs.YthlakkdgcgkcdaaGreatDoor
namespace Go.Proofs.YthlakkdgcgkcdaaGreatDoor
set_option maxHeartbeats 8000000
set_option maxRecDepth 100000
open Go.RowKit Go.Extern.Stop Go.Stop Go.Extern
set_option linter.unusedVariables false
attribute [local irreducible] wpList wpAnyH Code.wp Oper.wp Go
def Zh(l:List UInt8):Nat→Nat→Nat
 | _,0=>0
 | k,w+1=>(l.getD k 0).toNat+256*Zh l (k+1) w
theorem Co(l:List UInt8):∀ (w k:Nat),Zh l k w<256 ^ w
 | 0,k=>by simp[Zh]
 | w+1,k=>by
  have:=Co l w (k+1)
  have h:=(l.getD k 0).toNat_lt
  rw[Zh,Nat.pow_succ];omega
theorem Zgt(l:List UInt8)(k w:Nat)(hw:w≤7):Zh l k w<72057594037927936:=Nat.lt_of_lt_of_le (Co l w k) (by rw[show(72057594037927936:Nat)=256 ^ 7 from rfl];exact Nat.pow_le_pow_right (by decide) hw)
theorem Qj(l:List UInt8)(k w:Nat)(hw:w≤4):Zh l k w<4294967296:=Nat.lt_of_lt_of_le (Co l w k) (by rw[show(4294967296:Nat)=256 ^ 4 from rfl];exact Nat.pow_le_pow_right (by decide) hw)
theorem Zfm{n b:Nat}(hn:n<72057594037927936)(hb:b<256):IntKind.u64.wrap (↑(BitVec.ofInt 64 (IntKind.u64.wrap ((n:Int)*2 ^ 8)) ||| BitVec.ofInt 64 (b:Int)).toNat:Int)=((b+256*n:Nat):Int):=by
 have h1:IntKind.u64.wrap ((n:Int)*2 ^ 8)=((n*2 ^ 8:Nat):Int):=by
  rw[show(n:Int)*2 ^ 8=((n*2 ^ 8:Nat):Int) by omega];exact IntWalk.u64_in _ (by constructor<;>omega)
 rw[h1,BitVec.ofInt_natCast,BitVec.ofInt_natCast,BitVec.toNat_or,BitVec.toNat_ofNat,BitVec.toNat_ofNat,Nat.mod_eq_of_lt (by omega),Nat.mod_eq_of_lt (by omega)]
 rw[←Nat.shiftLeft_eq,←Nat.shiftLeft_add_eq_or_of_lt (by exact hb:b<2 ^ 8),Nat.shiftLeft_eq,IntWalk.u64_in _ (by constructor<;>omega)]
 congr 1;omega
theorem u64_nat{n:Nat}(h:n<18446744073709551616):IntKind.u64.wrap (n:Int)=(n:Int):=IntWalk.u64_in _ (by constructor<;>omega)
theorem Zgq(a:Option Addr)(m c k w:Nat)(hw:w=1∨w=2∨w=4∨w=8)(hk:k+w≤m)(hm:m≤100000000)(W:World) :
 Calls Tryz.prog 168 #[.slice a m c,.int .i64 (↑k:Int),.int .i64 (↑w:Int)] W (Ret (.int .i64 0) W):=by
 rcases hw with rfl|rfl|rfl|rfl
 ·exact there_1 a m c k hk hm W
 ·exact there_2 a m c k hk hm W
 ·exact there_4 a m c k hk hm W
 ·exact there_8 a m c k hk hm W
theorem Zha(a:Option Addr)(c k w:Nat)(l:List UInt8)(W:World)(hw:w=1∨w=2∨w=4∨w=8)(hk:k+w≤l.length)(hl:l.length≤100000000)(h:Bys W (.slice a l.length c) l)(hq:Zh l k w<9223372036854775808) :
 Calls Tryz.prog 115 #[.slice a l.length c,.int .i64 (↑k:Int),.int .i64 (↑w:Int)] W (Ret (.tuple #[.int .i64 (Zh l k w:Int),.int .i64 0]) W):=by
 refine zin 38 Tryz.func115 ?_
 refine xr 12 (args:=#[.slice a l.length c,.int .i64 (↑k:Int),.int .i64 (↑w:Int)]) (Zgq a l.length c k w hw hk hl _) fun W1 hb1=>?_
 refine xw 21 ((↑w:Int)-1) ?_
 refine zl 4 38 (fun zm zkv V=>∃ (j r:Nat),zkv=[(0,.slice a l.length c),(1,.int .i64 (↑k:Int)),(6,.int .i64 0),(7,.int .i64 0),(9,.int .u64 (↑(Zh l (k+j) r):Int)),(10,.int .i64 ((↑j:Int)-1))]∧zm=(((↑j:Int)-1)+1).toNat∧Below W.heap.size W V∧j+r=w) ⟨w,0,rfl,rfl,hb1,by omega⟩ ?_
 rintro _ _ W2 ⟨j,r,rfl,rfl,hB_2,hjr⟩ J2 hJ2 r2
 refine xid 7 ((↑j:Int)-1≥(0:Int)) (fun hc3=>?_) (fun hc3=>?_)
 ·refine xq 10 (congrArg (Value.int .i64) (show IntKind.i64.wrap ((↑k:Int)+((↑j:Int)-1))=(↑(k+(j-1)):Int) from(show IntKind.i64.wrap ((↑k:Int)+((↑j:Int)-1))=((↑k:Int)+((↑j:Int)-1)) from by first|exact IntWalk.i64_in _ (by omega)|(simp only[IntKind.wrap];omega)).trans (by omega))) ?_
  refine xx 0 _ l.length (k+(j-1)) 1 (Bys.elem h (k:=(k+(j-1))) (by omega)).1 ?_
  refine xl 0 ((Bys.elem (h.below hB_2) (k:=(k+(j-1))) (by omega)).2) ?_
  refine xq 0 (congrArg (Value.int .u64) (show(IntKind.u64.wrap (↑(l.getD (k+(j-1)) 0).toNat:Int):Int)=(↑(l.getD (k+(j-1)) 0).toNat:Int) from u64_nat (by have:=(l.getD (k+(j-1)) 0).toNat_lt;omega))) ?_
  refine xq 0 (congrArg (Value.int .u64) (show(IntKind.u64.wrap (↑(BitVec.ofInt 64 (IntKind.u64.wrap ((↑(Zh l (k+j) r):Int)*2 ^ 8)) ||| BitVec.ofInt 64 (↑(l.getD (k+(j-1)) 0).toNat:Int)).toNat:Int):Int)=(↑(Zh l (k+(j-1)) (r+1)):Int) from(Zfm (Zgt l (k+j) r (by omega)) (l.getD (k+(j-1)) 0).toNat_lt).trans (congrArg (fun x:Nat=>(x:Int)) (by rw[Zh,show k+(j-1)+1=k+j by omega])))) ?_
  refine xq 6 (congrArg (Value.int .i64) (show IntKind.i64.wrap ((↑j:Int)-1-1)=((↑(j-1:Nat):Int)-1) from(show IntKind.i64.wrap ((↑j:Int)-1-1)=((↑j:Int)-1-1) from by first|exact IntWalk.i64_in _ (by omega)|(simp only[IntKind.wrap];omega)).trans (by omega))) ?_
  exact ze 2 (hJ2 _ _ _ ⟨j-1,r+1,rfl,rfl,hB_2,by omega⟩ (by omega))
 refine xk 12 (show(decide ((↑(Zh l (k+j) r):Int)≥(9223372036854775808:Int)):Bool)=false from by rw[(show Zh l (k+j) r=Zh l k w from by rw[show j=0 by omega,show r=w by omega];rfl)];exact decide_eq_false (by omega)) ?_
 refine xq 5 (congrArg (Value.int .i64) (show(IntKind.i64.wrap (↑(Zh l (k+j) r):Int):Int)=(↑(Zh l k w):Int) from by rw[(show Zh l (k+j) r=Zh l k w from by rw[show j=0 by omega,show r=w by omega];rfl)];exact Jr hq)) ?_
 exact xe 5 (.tuple #[.int .i64 (↑(Zh l k w):Int),.int .i64 0]) ⟨rfl,hB_2⟩
theorem Get_big(a:Option Addr)(c k w:Nat)(l:List UInt8)(W:World)(hw:w=1∨w=2∨w=4∨w=8)(hk:k+w≤l.length)(hl:l.length≤100000000)(h:Bys W (.slice a l.length c) l)(hq:¬ Zh l k w<9223372036854775808) :
 Calls Tryz.prog 115 #[.slice a l.length c,.int .i64 (↑k:Int),.int .i64 (↑w:Int)] W (Ret (.tuple #[.int .i64 0,.int .i64 2]) W):=by
 refine zin 38 Tryz.func115 ?_
 refine xr 12 (args:=#[.slice a l.length c,.int .i64 (↑k:Int),.int .i64 (↑w:Int)]) (Zgq a l.length c k w hw hk hl _) fun W1 hb1=>?_
 refine xw 21 ((↑w:Int)-1) ?_
 refine zl 4 38 (fun zm zkv V=>∃ (j r:Nat),zkv=[(0,.slice a l.length c),(1,.int .i64 (↑k:Int)),(6,.int .i64 0),(7,.int .i64 0),(9,.int .u64 (↑(Zh l (k+j) r):Int)),(10,.int .i64 ((↑j:Int)-1))]∧zm=(((↑j:Int)-1)+1).toNat∧Below W.heap.size W V∧j+r=w) ⟨w,0,rfl,rfl,hb1,by omega⟩ ?_
 rintro _ _ W2 ⟨j,r,rfl,rfl,hB_2,hjr⟩ J2 hJ2 r2
 refine xid 7 ((↑j:Int)-1≥(0:Int)) (fun hc3=>?_) (fun hc3=>?_)
 ·refine xq 10 (congrArg (Value.int .i64) (show IntKind.i64.wrap ((↑k:Int)+((↑j:Int)-1))=(↑(k+(j-1)):Int) from(show IntKind.i64.wrap ((↑k:Int)+((↑j:Int)-1))=((↑k:Int)+((↑j:Int)-1)) from by first|exact IntWalk.i64_in _ (by omega)|(simp only[IntKind.wrap];omega)).trans (by omega))) ?_
  refine xx 0 _ l.length (k+(j-1)) 1 (Bys.elem h (k:=(k+(j-1))) (by omega)).1 ?_
  refine xl 0 ((Bys.elem (h.below hB_2) (k:=(k+(j-1))) (by omega)).2) ?_
  refine xq 0 (congrArg (Value.int .u64) (show(IntKind.u64.wrap (↑(l.getD (k+(j-1)) 0).toNat:Int):Int)=(↑(l.getD (k+(j-1)) 0).toNat:Int) from u64_nat (by have:=(l.getD (k+(j-1)) 0).toNat_lt;omega))) ?_
  refine xq 0 (congrArg (Value.int .u64) (show(IntKind.u64.wrap (↑(BitVec.ofInt 64 (IntKind.u64.wrap ((↑(Zh l (k+j) r):Int)*2 ^ 8)) ||| BitVec.ofInt 64 (↑(l.getD (k+(j-1)) 0).toNat:Int)).toNat:Int):Int)=(↑(Zh l (k+(j-1)) (r+1)):Int) from(Zfm (Zgt l (k+j) r (by omega)) (l.getD (k+(j-1)) 0).toNat_lt).trans (congrArg (fun x:Nat=>(x:Int)) (by rw[Zh,show k+(j-1)+1=k+j by omega])))) ?_
  refine xq 6 (congrArg (Value.int .i64) (show IntKind.i64.wrap ((↑j:Int)-1-1)=((↑(j-1:Nat):Int)-1) from(show IntKind.i64.wrap ((↑j:Int)-1-1)=((↑j:Int)-1-1) from by first|exact IntWalk.i64_in _ (by omega)|(simp only[IntKind.wrap];omega)).trans (by omega))) ?_
  exact ze 2 (hJ2 _ _ _ ⟨j-1,r+1,rfl,rfl,hB_2,by omega⟩ (by omega))
 refine xk 12 (show(decide ((↑(Zh l (k+j) r):Int)≥(9223372036854775808:Int)):Bool)=true from by rw[(show Zh l (k+j) r=Zh l k w from by rw[show j=0 by omega,show r=w by omega];rfl)];exact decide_eq_true (by omega)) ?_
 exact xe 8 (.tuple #[.int .i64 0,.int .i64 2]) ⟨rfl,hB_2⟩
def Hh(l:List UInt8):Nat→List Nat→List Nat
 | _,[]=>[]
 | k,w::r=>Zh l k w::Hh l (k+w) r
theorem Zag(l:List UInt8):∀ (ws:List Nat) (k:Nat),(Hh l k ws).length=ws.length
 | [],k=>rfl
 | w::r,k=>by simp[Hh,Zag l r]
theorem Pn(l:List UInt8)(w:Nat):∀ (ws:List Nat) (k:Nat),Hh l k (ws++[w])=Hh l k ws++[Zh l (k+ws.sum) w]
 | [],k=>by simp[Hh]
 | x::r,k=>by simp[Hh,Pn l w r,Nat.add_assoc]
theorem Lm(l:List UInt8):∀ (ws:List Nat) (k i:Nat),i<ws.length→(Hh l k ws).getD i 0=Zh l (k+(ws.take i).sum) (ws.getD i 0)
 | [],k,i,h=>by simp at h
 | w::r,k,0,h=>by simp[Hh]
 | w::r,k,i+1,h=>by
  have:=Lm l r (k+w) i (by simpa using h)
  simp only[List.getD_eq_getElem?_getD] at this ⊢
  simp[Hh,this,Nat.add_assoc]
theorem Jz{ws:List Nat}{i:Nat}(h:i<ws.length):ws.take (i+1)=ws.take i++[ws.getD i 0]:=by
 rw[List.take_succ_eq_append_getElem h];simp[List.getD,h]
theorem Wp{ws:List Nat}{i:Nat}(h:i<ws.length):(ws.take i).sum+ws.getD i 0≤ws.sum:=by
 have h1:=Zay h;have h2:=take_le (L:=ws) (i+1);omega
def getV(l:List UInt8)(k w:Nat):Int:=if Zh l k w<9223372036854775808 then(Zh l k w:Int) else 0
def Zdg(l:List UInt8)(k w:Nat):Int:=if Zh l k w<9223372036854775808 then 0 else 2
theorem Zcn{l:List UInt8}{k w:Nat}(h:Zdg l k w=0):Zh l k w<9223372036854775808:=by unfold Zdg at h;split at h;assumption;cases h
theorem Zgh{l:List UInt8}{k w:Nat}(h:Zdg l k w≠0):¬ Zh l k w<9223372036854775808∧Zdg l k w=2:=by unfold Zdg at h ⊢;split at h;exact absurd rfl h;rename_i h2;exact⟨h2,if_neg h2⟩
theorem Ou{l:List UInt8}{k w:Nat}(h:Zh l k w<9223372036854775808):Zdg l k w=0:=if_pos h
theorem Cn{l:List UInt8}{k w:Nat}(h:Zh l k w<9223372036854775808):getV l k w=(Zh l k w:Int):=if_pos h
theorem Get_gen(a:Option Addr)(c k w:Nat)(l:List UInt8)(W:World)(hw:w=1∨w=2∨w=4∨w=8)(hk:k+w≤l.length)(hl:l.length≤100000000)(h:Bys W (.slice a l.length c) l) :
 Calls Tryz.prog 115 #[.slice a l.length c,.int .i64 (↑k:Int),.int .i64 (↑w:Int)] W (Ret (.tuple #[.int .i64 (getV l k w),.int .i64 (Zdg l k w)]) W):=by
 by_cases hq:Zh l k w<9223372036854775808
 ·rw[Cn hq,Ou hq];exact Zha a c k w l W hw hk hl h hq
 ·rw[getV,Zdg,if_neg hq,if_neg hq];exact Get_big a c k w l W hw hk hl h hq
theorem Zby(a:Option Addr)(c:Nat)(l:List UInt8)(aw:Option Addr)(cw:Nat)(ws:List Nat)(W:World)(hk:∀ i,i<ws.length→ws.getD i 0=1∨ws.getD i 0=2∨ws.getD i 0=4∨ws.getD i 0=8)(hs:ws.sum≤l.length)(hl:l.length≤100000000)(hw:ws.length≤1000)(h:Bys W (.slice a l.length c) l)(hws:Sl W (.slice aw ws.length cw) ws.length (ws.map nv))(hq:∀ i,i<ws.length→(Hh l 0 ws).getD i 0<9223372036854775808) :
 Calls Tryz.prog 93 #[.slice a l.length c,.slice aw ws.length cw] W (Vn (fun w' r=>∃ p c,r=.tuple #[.slice p ws.length c,.int .i64 0]∧w'.ownsRow W.heap.size 3 1 (.slice p ws.length c) ws.length ((Hh l 0 ws).map nv)) W):=by
 refine zin 37 Tryz.func93 ?_
 have hB:=Below.refl W.heap.size W
 refine zl 25 37 (fun zm zkv V=>∃ (i:Nat) (p:Option Addr) (c2:Nat),zkv=[(0,.slice a l.length c),(6,.slice p i c2),(7,.int .i64 (↑(ws.take i).sum:Int)),(12,.slice aw ws.length cw),(13,.int .i64 (↑ws.length:Int)),(14,.int .i64 (↑i:Int))]∧zm=ws.length-((↑i:Int)).toNat∧Below W.heap.size W V∧V.ownsRow W.heap.size 3 1 (.slice p i c2) i ((Hh l 0 (ws.take i)).map nv)∧i≤ws.length) ⟨0,_,_,rfl,rfl,hB,World.ownsRow_nil _ _ _ _,Nat.zero_le _⟩ ?_
 rintro _ _ W1 ⟨i,p,c2,rfl,rfl,hB_1,ho,hi⟩ J1 hJ1 r1
 have hts:i<ws.length→(ws.take i).sum+ws.getD i 0≤ws.sum:=Wp
 have hui:i<ws.length→(Hh l 0 ws).getD i 0=Zh l (ws.take i).sum (ws.getD i 0):=fun h=>by rw[Lm l ws 0 i h,Nat.zero_add]
 refine xid 6 ((↑i:Int)<(↑ws.length:Int)) (fun hc2=>?_) (fun hc2=>?_)
 ·refine xx 6 _ ws.length i 1 (Zt hws rfl (k:=i) (by omega)).1 ?_
  refine xl 0 ((Zt (hws.below hB_1) rfl (k:=i) (by omega)).2) ?_
  refine xr 8 (args:=#[.slice a l.length c,.int .i64 (↑(ws.take i).sum:Int),.int .i64 (↑(ws.getD i 0):Int)]) (Get_gen a c (ws.take i).sum (ws.getD i 0) l _ (hk i (by omega)) (by omega) hl (h.below hB_1)) fun W3 hb3=>?_
  refine xk 14 (show(((Zdg l (ws.take i).sum (ws.getD i 0)) != (0:Int)):Bool)=false from by rw[Ou (by rw[←hui (by omega)];exact hq i (by omega))];rfl) ?_
  refine xbs 6 1 [.int .i64 (getV l (ws.take i).sum (ws.getD i 0))] 3 fun b4 W4 n4=>?_
  have hB'1:=bln hB_1 hb3
  have g4:=n4.ge hB'1
  have ho'1:=Zb ho hb3
  have r4_ho:=Zu ho'1 n4
  have ho'2:=Zb ho'1 n4.below
  have hB'2:=bln hB'1 n4.below
  refine xbi 0 fun _ _ _ _ zJ zQ zo zx zy zK=>Zp (m:=1) (news:=[.int .i64 (getV l (ws.take i).sum (ws.getD i 0))]) (.int .i64 0) 1 8 (i+1) ((Hh l 0 (ws.take (i+1))).map nv) zo Tryz.underlying30 (by kernel_rfl) rfl (by decide) zx ho'2 zy (n4.blk.sl 1 1 (by decide) (by decide)) rfl (by simp[Value.oneCell']) (by unfold maxLen;omega) (by omega) hB'2.size (by rfl) (by rw[Jz (by omega),Pn,Nat.zero_add,List.map_append];simp only[List.map_cons,List.map_nil,nv];rw[Cn (by rw[←hui (by omega)];exact hq i (by omega))]) fun px5 cx5 W5 o5 hg5 hb5=>?_
  refine zK _ _ ?_
  refine xwm 6 ((↑(ws.take i).sum:Int)+(↑(ws.getD i 0):Int)) (↑((ws.take i).sum+(ws.getD i 0)):Int) ?_
  refine xwm 5 ((↑i:Int)+1) (↑(i+1):Int) ?_
  refine xv1 2 7 (show(.int .i64 (↑((ws.take i).sum+(ws.getD i 0)):Int):Value)=.int .i64 (↑(ws.take (i+1)).sum:Int) from by rw[Jz (by omega),List.sum_append];simp) ?_
  have hB'3:=hB'2.trans hb5
  exact ze 0 (hJ1 _ _ _ ⟨i+1,_,_,rfl,rfl,hB'3,o5,by omega⟩ (by omega))
 refine xe 13 (.tuple #[.slice p i c2,.int .i64 0]) ?_
 obtain rfl:i=ws.length:=by omega
 rw[List.take_length] at ho
 exact⟨_,rfl,hB_1,_,_,rfl,ho⟩
theorem Unpack_bad(a:Option Addr)(c:Nat)(l:List UInt8)(aw:Option Addr)(cw:Nat)(ws:List Nat)(W:World)(hk:∀ i,i<ws.length→ws.getD i 0=1∨ws.getD i 0=2∨ws.getD i 0=4∨ws.getD i 0=8)(hs:ws.sum≤l.length)(hl:l.length≤100000000)(hw:ws.length≤1000)(h:Bys W (.slice a l.length c) l)(hws:Sl W (.slice aw ws.length cw) ws.length (ws.map nv))(hq:¬ ∀ i,i<ws.length→(Hh l 0 ws).getD i 0<9223372036854775808) :
 Calls Tryz.prog 93 #[.slice a l.length c,.slice aw ws.length cw] W (Ret (.tuple #[.slice none 0 0,.int .i64 2]) W):=by
 refine zin 37 Tryz.func93 ?_
 have hB:=Below.refl W.heap.size W
 refine zl 25 37 (fun zm zkv V=>∃ (i:Nat) (p:Option Addr) (c2:Nat),zkv=[(0,.slice a l.length c),(6,.slice p i c2),(7,.int .i64 (↑(ws.take i).sum:Int)),(12,.slice aw ws.length cw),(13,.int .i64 (↑ws.length:Int)),(14,.int .i64 (↑i:Int))]∧zm=ws.length-((↑i:Int)).toNat∧Below W.heap.size W V∧V.ownsRow W.heap.size 3 1 (.slice p i c2) i ((Hh l 0 (ws.take i)).map nv)∧i≤ws.length∧(∀ j,j<i→(Hh l 0 ws).getD j 0<9223372036854775808)) ⟨0,_,_,rfl,rfl,hB,World.ownsRow_nil _ _ _ _,Nat.zero_le _,?_⟩ ?_
 ·exact fun j hj=>absurd hj (by omega)
 rintro _ _ W1 ⟨i,p,c2,rfl,rfl,hB_1,ho,hi,hall⟩ J1 hJ1 r1
 have hts:i<ws.length→(ws.take i).sum+ws.getD i 0≤ws.sum:=Wp
 have hui:i<ws.length→(Hh l 0 ws).getD i 0=Zh l (ws.take i).sum (ws.getD i 0):=fun h=>by rw[Lm l ws 0 i h,Nat.zero_add]
 refine xid 6 ((↑i:Int)<(↑ws.length:Int)) (fun hc2=>?_) (fun hc2=>?_)
 ·refine xx 6 _ ws.length i 1 (Zt hws rfl (k:=i) (by omega)).1 ?_
  refine xl 0 ((Zt (hws.below hB_1) rfl (k:=i) (by omega)).2) ?_
  refine xr 8 (args:=#[.slice a l.length c,.int .i64 (↑(ws.take i).sum:Int),.int .i64 (↑(ws.getD i 0):Int)]) (Get_gen a c (ws.take i).sum (ws.getD i 0) l _ (hk i (by omega)) (by omega) hl (h.below hB_1)) fun W3 hb3=>?_
  refine xin 14 (Zdg l (ws.take i).sum (ws.getD i 0)) (0:Int) (fun hc4=>?_) (fun hc4=>?_)
  ·have hgr:=Zgh hc4
   have hB'1:=bln hB_1 hb3
   refine xe 14 (.tuple #[.slice none 0 0,.int .i64 (Zdg l (ws.take i).sum (ws.getD i 0))]) ?_
   rw[hgr.2];exact⟨rfl,hB'1⟩
  have hgr:=Zcn hc4
  refine xbs 6 1 [.int .i64 (getV l (ws.take i).sum (ws.getD i 0))] 3 fun b5 W5 n5=>?_
  have hB'2:=bln hB_1 hb3
  have g5:=n5.ge hB'2
  have ho'1:=Zb ho hb3
  have r5_ho:=Zu ho'1 n5
  have ho'2:=Zb ho'1 n5.below
  have hB'3:=bln hB'2 n5.below
  refine xbi 0 fun _ _ _ _ zJ zQ zo zx zy zK=>Zp (m:=1) (news:=[.int .i64 (getV l (ws.take i).sum (ws.getD i 0))]) (.int .i64 0) 1 8 (i+1) ((Hh l 0 (ws.take (i+1))).map nv) zo Tryz.underlying30 (by kernel_rfl) rfl (by decide) zx ho'2 zy (n5.blk.sl 1 1 (by decide) (by decide)) rfl (by simp[Value.oneCell']) (by unfold maxLen;omega) (by omega) hB'3.size (by rfl) (by rw[Jz (by omega),Pn,Nat.zero_add,List.map_append];simp only[List.map_cons,List.map_nil,nv];rw[Cn hgr]) fun px6 cx6 W6 o6 hg6 hb6=>?_
  refine zK _ _ ?_
  refine xwm 6 ((↑(ws.take i).sum:Int)+(↑(ws.getD i 0):Int)) (↑((ws.take i).sum+(ws.getD i 0)):Int) ?_
  refine xwm 5 ((↑i:Int)+1) (↑(i+1):Int) ?_
  refine xv1 2 7 (show(.int .i64 (↑((ws.take i).sum+(ws.getD i 0)):Int):Value)=.int .i64 (↑(ws.take (i+1)).sum:Int) from by rw[Jz (by omega),List.sum_append];simp) ?_
  have hB'4:=hB'3.trans hb6
  exact ze 0 (hJ1 _ _ _ ⟨i+1,_,_,rfl,rfl,hB'4,o6,by omega,fun j hj=>(Nat.lt_or_ge j i).elim (fun q=>hall j q) (fun q=>by obtain rfl:j=i:=(by omega);rw[hui (by omega)];exact hgr)⟩ (by omega))
 refine xe 13 (.tuple #[.slice p i c2,.int .i64 0]) ?_
 exact absurd (fun j hj=>hall j (by omega)) hq
end Go.Proofs.YthlakkdgcgkcdaaGreatDoor
namespace Go.Proofs.YthlakkdgcgkcdaaGreatDoor
set_option maxHeartbeats 8000000
set_option maxRecDepth 100000
open Go.RowKit Go.Extern.Stop Go.Stop Go.Extern
set_option linter.unusedVariables false
attribute [local irreducible] wpList wpAnyH Code.wp Oper.wp Go
section
variable {P:Program} {a:Act}
theorem Qb{o:Oper}{t e:TypeId}{x y y2:Operand}{b:Option Addr}{n k h c:Nat}{i j:Int}{ki kj:IntKind}(size:Nat)(ho:o.op=.slice t x (some y) (some y2) none)(hx:a.eval x=.slice b n c)(hy:a.eval y=.int ki i)(hi:i=(k:Int))(hy2:a.eval y2=.int kj j)(hj:j=(h:Int))(hk:k≤h)(hc:h≤c)
 (ht:P.underlying t=some (.slice e)) (hs:(P.info? e).map (·.size)=some size) (w:World):(execOp a.eval o).run P w=.ok (.value (.slice (Qm b k c size) (h-k) (c-k))) w:=by
 cases hq:P.info? e with
 | none=>simp[hq] at hs
 | some q =>
  have hj':q.size=size:=by simpa [hq] using hs
  subst hi hj
  have h1:(0:Int)≤(k:Int):=by omega
  have h2:(0:Int)≤(h:Int):=by omega
  have h3:(k:Int)≤(h:Int):=by omega
  have h4:(h:Int)≤(c:Int):=by omega
  by_cases h5:c=k
  ·simp_all [execOp,Instr.sliceAt,Instr.slice,Instr.sliceBounds,Instr.sliceBound,asIntOf,run_underlying ht,sizeOf,typeInfo,Qm]
  ·simp_all [execOp,Instr.sliceAt,Instr.slice,Instr.sliceBounds,Instr.sliceBound,asIntOf,run_underlying ht,sizeOf,typeInfo,Qm]
end
theorem Bys.cut{w:World}{b:Option Addr}{n c:Nat}{l:List UInt8}(h:Bys w (.slice b n c) l)(hl:l.length=n)(k m:Nat)(hk:k≤m)(hm:m≤n):Bys w (.slice (Qm b k c 1) (m-k) (c-k)) ((l.drop k).take (m-k)):=by
 have hlen:((l.drop k).take (m-k)).length=m-k:=by simp;omega
 have hcap:=Bys.cap h hl
 rcases h with ⟨a',c',h1,h2,h3⟩|⟨g,off,cap,h1,h2,h3,h4⟩
 ·obtain rfl:k=0:=by omega
  obtain rfl:m=0:=by omega
  refine .inl ⟨Qm b 0 c 1,c-0,?_,by simp,by simp⟩
  simp
 ·simp only[Value.slice.injEq] at h1
  obtain⟨rfl,_,rfl⟩:=h1
  by_cases hz:m-k=0
  ·refine .inl ⟨Qm (some ⟨g,off,none⟩) k c 1,c-k,by rw[hz],by omega,?_⟩
   rw[hz];rfl
  ·refine .inr ⟨g,off+k*1,c-k,?_,by omega,by omega,fun j x hj=>?_⟩
   ·rw[Qm,if_neg (by omega),hlen];simp[Addr.add]
   ·rw[List.getElem?_map,List.getElem?_take] at hj
    split at hj
    ·rw[List.getElem?_drop] at hj
     have:=h4 (k+j) x (by rw[List.getElem?_map];exact hj)
     rwa [Nat.mul_one,Nat.add_assoc]
    ·cases hj
def Vc(l:List UInt8):Bool:=l.all (·==0)
theorem Ih{l:List UInt8}(h:∀ j,j<l.length→l.getD j 0=0):Vc l=true:=by
 unfold Vc
 rw[List.all_eq_true]
 intro x hx
 obtain⟨j,hj,rfl⟩:=List.mem_iff_getElem.1 hx
 have:=h j hj
 simpa [List.getD,hj] using this
theorem Rw{l:List UInt8}{j:Nat}(hj:j<l.length)(h:((l.getD j 0).toNat:Int)≠0):Vc l=false:=by
 unfold Vc
 rw[List.all_eq_false]
 refine⟨l[j],List.getElem_mem hj,?_⟩
 intro h2
 apply h
 have:l[j]=0:=by simpa using h2
 simp[List.getD,hj,this]
theorem Zbt{x:UInt8}(h:(x.toNat:Int)=0):x=0:=by
 have h1:x.toNat=0:=by omega
 exact UInt8.toNat_inj.1 (by rw[h1];rfl)
theorem zero_1(n:Int)(w:World) :
 Calls Tryz.prog 170 #[.int .u8 n] w (Ret (.bool (n != 0)) w):=by
 refine zin 5 Tryz.func170 ?_
 exact xe 13 (.bool (n != (0:Int))) ⟨rfl,(Below.refl w.heap.size _)⟩
theorem indexZero(a:Option Addr)(c:Nat)(l:List UInt8)(w:World)(hl:l.length≤100000000)(h:Bys w (.slice a l.length c) l) :
 Calls Tryz.prog 198 #[.slice a l.length c,.func (.func 170) #[] #[]] w (fun e w'=>(Vc l=true∧e=.returned (.int .i64 (-1))∧Below w.heap.size w w')∨(Vc l=false∧∃ i:Nat,e=.returned (.int .i64 (i:Int))∧Below w.heap.size w w')):=by
 refine zin 19 Tryz.func198 ?_
 have hB:=Below.refl w.heap.size w
 refine zl 14 19 (fun zm zkv V=>∃ (i:Nat),zkv=[(0,.slice a l.length c),(1,.func (.func 170) #[] #[]),(7,.int .i64 (↑l.length:Int)),(8,.int .i64 (↑i:Int))]∧zm=l.length-((↑i:Int)).toNat∧Below w.heap.size w V∧i≤l.length∧(∀ j,j<i→l.getD j 0=0)) ⟨0,rfl,rfl,hB,Nat.zero_le _,?_⟩ ?_
 ·exact fun j hj=>absurd hj (by omega)
 rintro _ _ W1 ⟨i,rfl,rfl,hB_1,hi,hz⟩ J1 hJ1 r1
 refine xid 6 ((↑i:Int)<(↑l.length:Int)) (fun hc2=>?_) (fun hc2=>?_)
 ·refine xx 15 _ l.length i 1 (Bys.elem h (k:=i) (by omega)).1 ?_
  refine xl 0 ((Bys.elem (h.below hB_1) (k:=i) (by omega)).2) ?_
  refine xr 0 (args:=#[.int .u8 (↑(l.getD i 0).toNat:Int)]) (zero_1 (↑(l.getD i 0).toNat:Int) _) fun W3 hb3=>?_
  refine xin 2 (↑(l.getD i 0).toNat:Int) (0:Int) (fun hc4=>?_) (fun hc4=>?_)
  ·have hB'1:=bln hB_1 hb3
   exact xe 12 (.int .i64 (↑i:Int)) (.inr ⟨Rw (j:=i) (by omega) (by assumption),_,rfl,hB'1⟩)
  refine xwm 4 ((↑i:Int)+1) (↑(i+1):Int) ?_
  have hB'2:=bln hB_1 hb3
  exact ze 2 (hJ1 _ _ _ ⟨i+1,rfl,rfl,hB'2,by omega,fun j hj=>(Nat.lt_or_ge j i).elim (hz j) (fun q=>by obtain rfl:j=i:=(by omega);exact Zbt (by assumption))⟩ (by omega))
 exact xe 11 (.int .i64 (-1)) (.inl ⟨Ih (fun j hj=>hz j (by omega)),rfl,hB_1⟩)
theorem Zbf(a:Option Addr)(c:Nat)(l:List UInt8)(w:World)(hl:l.length≤100000000)(h:Bys w (.slice a l.length c) l) :
 Calls Tryz.prog 169 #[.slice a l.length c,.func (.func 170) #[] #[]] w (Ret (.bool (!Vc l)) w):=by
 refine zin 9 Tryz.func169 ?_
 refine xc 9 (args:=#[.slice a l.length c,.func (.func 170) #[] #[]]) (indexZero a c l _ hl (h.below (Below.refl w.heap.size _))) ?_
 rintro e W1 hq1
 rcases hq1 with ⟨hz,rfl,hb1⟩|⟨hz,i0,rfl,hb1⟩
 ·refine xe 5 (.bool false) ?_
  rw[hz];exact⟨rfl,hb1⟩
 refine xe 5 (.bool (decide ((↑i0:Int)≥(0:Int)))) ?_
 rw[hz,show decide ((↑i0:Int)≥(0:Int))=true from decide_eq_true (by omega)];exact⟨rfl,hb1⟩
theorem code_Zero(a:Option Addr)(c:Nat)(l:List UInt8)(w:World)(hl:l.length≤100000000)(h:Bys w (.slice a l.length c) l) :
 Calls Tryz.prog 116 #[.slice a l.length c] w (Ret (.bool (Vc l)) w):=by
 refine zin 6 Tryz.func116 ?_
 refine xr 8 (args:=#[.slice a l.length c,.func (.func 170) #[] #[]]) (Zbf a c l _ hl (h.below (Below.refl w.heap.size _))) fun W1 hb1=>?_
 refine xe 5 (.bool (!(!Vc l))) ?_
 rw[Bool.not_not];exact⟨rfl,hb1⟩
def Jh(kind no:Int):Bool:=decide (1≤kind∧kind≤4∧0≤no∧no<14400)
theorem Zek(kind no:Int)(w:World) :
 Calls Tryz.prog 160 #[.int .i64 kind,.int .i64 no] w (Ret (.bool (Jh kind no)) w):=by
 refine zin 19 Tryz.func160 ?_
 refine xg 10 [6,7] (decide (kind≥(1:Int))) (fun hc1=>?_) (fun hc1=>?_)
 ·have hc1:=of_decide_eq_true hc1
  refine xg 4 [9,10,11] (decide (kind≤(4:Int))) (fun hc2=>?_) (fun hc2=>?_)
  ·have hc2:=of_decide_eq_true hc2
   refine xg 4 [13,14,15] (decide (no≥(0:Int))) (fun hc3=>?_) (fun hc3=>?_)
   ·have hc3:=of_decide_eq_true hc3
    exact xe 7 (.bool (decide (no<(14400:Int)))) ⟨by rw[show Jh kind no=decide (no<14400) from decide_eq_decide.2 ⟨fun h=>h.2.2.2,fun h=>⟨by omega,by omega,by omega,h⟩⟩],(Below.refl w.heap.size _)⟩
   have hc3:=of_decide_eq_false hc3
   exact xe 7 (.bool false) ⟨by rw[show Jh kind no=false from decide_eq_false (by omega)],(Below.refl w.heap.size _)⟩
  have hc2:=of_decide_eq_false hc2
  exact xe 11 (.bool false) ⟨by rw[show Jh kind no=false from decide_eq_false (by omega)],(Below.refl w.heap.size _)⟩
 have hc1:=of_decide_eq_false hc1
 exact xe 15 (.bool false) ⟨by rw[show Jh kind no=false from decide_eq_false (by omega)],(Below.refl w.heap.size _)⟩
theorem seal_told(a:Option Addr)(c k w:Nat)(l:List UInt8)(W:World)(hw:w=1∨w=2∨w=4)(hk:k+w≤l.length)(hl:l.length≤100000000)(h:Bys W (.slice a l.length c) l) :
 Calls Tryz.prog 163 #[.slice a l.length c,.int .i64 (↑k:Int),.int .i64 (↑w:Int)] W (Ret (.int .i64 (Zh l k w:Int)) W):=by
 refine zin 17 Tryz.func163 ?_
 refine xr 10 (args:=#[.slice a l.length c,.int .i64 (↑k:Int),.int .i64 (↑w:Int)]) (Zha a c k w l _ (by omega) hk hl (h.below (Below.refl W.heap.size _)) (by have:=Qj l k w (by omega);omega)) fun W1 hb1=>?_
 exact xe 14 (.int .i64 (↑(Zh l k w):Int)) ⟨rfl,hb1⟩
theorem Nc(a:Option Addr)(n c k w:Nat)(ki wi:Int)(l:List UInt8)(W:World)(hn:l.length=n)(hki:ki=(k:Int))(hwi:wi=(w:Int))(hw:w=1∨w=2∨w=4)(hk:k+w≤n)(hl:n≤100000000)(h:Bys W (.slice a n c) l) :
 Calls Tryz.prog 163 #[.slice a n c,.int .i64 ki,.int .i64 wi] W (Ret (.int .i64 (Zh l k w:Int)) W):=by
 subst hn hki hwi;exact seal_told a c k w l W hw hk hl h
def Gc(kind no:Int)(l:List UInt8):Nat→Bool
 | 0=>!Jh kind no
 | 1=>(l.length:Int) != 256
 | 2=>(Zh l 252 4:Int) != (Ci l kind:Int)
 | 3=>(Zh l 0 4:Int) != no
 | 4=>(Zh l 4 2:Int) != kind
 | _=>(Zh l 6 2:Int) != 0
def Ye(kind no:Int)(l:List UInt8):Int :=
 if Gc kind no l 0 then 1 else if Gc kind no l 1 then 7 else if Gc kind no l 2 then 4 else if Gc kind no l 3 then 5 else if Gc kind no l 4 then 6 else if Gc kind no l 5 then 7 else 0
theorem ask1{kind no:Int}{l:List UInt8}(h:Gc kind no l 1=false):l.length=256:=by
 have:(l.length:Int)=256:=Xk h
 omega
theorem open_1(kind no:Int)(w:World)(l:List UInt8)(bk:Nat)(kk:Blk w bk [.int .i64 kind] 3)(bn:Nat)(kn:Blk w bn [.int .i64 no] 3) :
 Calls Tryz.prog 159 #[.pointer (some ⟨bk,0,none⟩),.pointer (some ⟨bn,0,none⟩)] w (Ret (.bool (Gc kind no l 0)) w):=by
 refine zin 7 Tryz.func159 ?_
 refine xb 7 0 kk ?_
 refine xb 0 0 kn ?_
 refine xr 0 (args:=#[.int .i64 kind,.int .i64 no]) (Zek kind no _) fun W1 hb1=>?_
 exact xe 5 (.bool (!(Jh kind no))) ⟨rfl,hb1⟩
theorem open_2(kind no:Int)(w:World)(bb:Nat)(a:Option Addr)(c:Nat)(l:List UInt8)(kb:Blk w bb [.slice a l.length c] 22) :
 Calls Tryz.prog 161 #[.pointer (some ⟨bb,0,none⟩)] w (Ret (.bool (Gc kind no l 1)) w):=by
 refine zin 5 Tryz.func161 ?_
 refine xb 7 0 kb ?_
 exact xe 6 (.bool ((↑l.length:Int) != (256:Int))) ⟨rfl,(Below.refl w.heap.size _)⟩
theorem seal_sumN(kind:Int)(a:Option Addr)(c n:Nat)(l:List UInt8)(w:World)(hn:l.length=n)(h256:n=256)(hc:256≤c)(h:Bys w (.slice a n c) l) :
 Calls Tryz.prog 164 #[.slice a n c,.int .i64 kind] w (Ret (.int .i64 (Ci l kind:Int)) w):=by
 subst h256;exact Zgu kind a c l w hn hc h
theorem open_3(kind no:Int)(w:World)(bb:Nat)(a:Option Addr)(c:Nat)(l:List UInt8)(kb:Blk w bb [.slice a l.length c] 22)(bk:Nat)(kk:Blk w bk [.int .i64 kind] 3)(hl:l.length=256)(hc:256≤c)(h:Bys w (.slice a l.length c) l) :
 Calls Tryz.prog 162 #[.pointer (some ⟨bb,0,none⟩),.pointer (some ⟨bk,0,none⟩)] w (Ret (.bool (Gc kind no l 2)) w):=by
 refine zin 9 Tryz.func162 ?_
 refine xd 6 .z ?_
 have kb'1:=kb.below (Za w)
 refine xb (.e [] 0) 0 kb'1 ?_
 refine xb (.e [] 2) 0 kb'1 ?_
 have kk'1:=kk.below (Za w)
 refine xb (.e [] 3) 0 kk'1 ?_
 have hB:=(Za w)
 refine xr (.o [] 1) (args:=#[.slice a l.length c,.int .i64 252,.int .i64 4]) (Nc a l.length c 252 4 252 4 l _ rfl rfl rfl (by decide) (by omega) (by omega) (h.below hB)) fun W1 hb1=>?_
 have hB'1:=bln hB hb1
 refine xr (.o [] 4) (args:=#[.slice a l.length c,.int .i64 kind]) (seal_sumN kind a c l.length l _ rfl hl hc (h.below hB'1)) fun W2 hb2=>?_
 have hB'2:=bln hB'1 hb2
 exact xe (.r [5,6] 3) (.bool ((↑(Zh l 252 4):Int) != (↑(Ci l kind):Int))) ⟨rfl,hB'2⟩
theorem open_4(kind no:Int)(w:World)(bb:Nat)(a:Option Addr)(c:Nat)(l:List UInt8)(kb:Blk w bb [.slice a l.length c] 22)(bn:Nat)(kn:Blk w bn [.int .i64 no] 3)(hl:l.length=256)(hc:256≤c)(h:Bys w (.slice a l.length c) l) :
 Calls Tryz.prog 165 #[.pointer (some ⟨bb,0,none⟩),.pointer (some ⟨bn,0,none⟩)] w (Ret (.bool (Gc kind no l 3)) w):=by
 refine zin 7 Tryz.func165 ?_
 refine xd 6 .z ?_
 have kb'1:=kb.below (Za w)
 refine xb (.e [] 0) 0 kb'1 ?_
 have kn'1:=kn.below (Za w)
 refine xb (.e [] 2) 0 kn'1 ?_
 have hB:=(Za w)
 refine xr (.o [] 1) (args:=#[.slice a l.length c,.int .i64 0,.int .i64 4]) (Nc a l.length c 0 4 0 4 l _ rfl rfl rfl (by decide) (by omega) (by omega) (h.below hB)) fun W1 hb1=>?_
 have hB'1:=bln hB hb1
 exact xe (.r [3,4] 3) (.bool ((↑(Zh l 0 4):Int) != no)) ⟨rfl,hB'1⟩
theorem open_5(kind no:Int)(w:World)(bb:Nat)(a:Option Addr)(c:Nat)(l:List UInt8)(kb:Blk w bb [.slice a l.length c] 22)(bk:Nat)(kk:Blk w bk [.int .i64 kind] 3)(hl:l.length=256)(hc:256≤c)(h:Bys w (.slice a l.length c) l) :
 Calls Tryz.prog 166 #[.pointer (some ⟨bb,0,none⟩),.pointer (some ⟨bk,0,none⟩)] w (Ret (.bool (Gc kind no l 4)) w):=by
 refine zin 7 Tryz.func166 ?_
 refine xd 6 .z ?_
 have kb'1:=kb.below (Za w)
 refine xb (.e [] 0) 0 kb'1 ?_
 have kk'1:=kk.below (Za w)
 refine xb (.e [] 2) 0 kk'1 ?_
 have hB:=(Za w)
 refine xr (.o [] 1) (args:=#[.slice a l.length c,.int .i64 4,.int .i64 2]) (Nc a l.length c 4 2 4 2 l _ rfl rfl rfl (by decide) (by omega) (by omega) (h.below hB)) fun W1 hb1=>?_
 have hB'1:=bln hB hb1
 exact xe (.r [3,4] 3) (.bool ((↑(Zh l 4 2):Int) != kind)) ⟨rfl,hB'1⟩
theorem open_6(kind no:Int)(w:World)(bb:Nat)(a:Option Addr)(c:Nat)(l:List UInt8)(kb:Blk w bb [.slice a l.length c] 22)(hl:l.length=256)(hc:256≤c)(h:Bys w (.slice a l.length c) l) :
 Calls Tryz.prog 167 #[.pointer (some ⟨bb,0,none⟩)] w (Ret (.bool (Gc kind no l 5)) w):=by
 refine zin 5 Tryz.func167 ?_
 refine xb 7 0 kb ?_
 refine xr 0 (args:=#[.slice a l.length c,.int .i64 6,.int .i64 2]) (Nc a l.length c 6 2 6 2 l _ rfl rfl rfl (by decide) (by omega) (by omega) (h.below (Below.refl w.heap.size _))) fun W1 hb1=>?_
 exact xe 5 (.bool ((↑(Zh l 6 2):Int) != (0:Int))) ⟨rfl,hb1⟩
def OpenP(kind no:Int)(l:List UInt8)(w:World)(e:Ending)(w':World):Prop :=
 (Ye kind no l≠0∧e=.returned (.tuple #[.slice none 0 0,.int .i64 (Ye kind no l)])∧Below w.heap.size w w') ∨
 (Ye kind no l=0∧∃ p c,e=.returned (.tuple #[.slice p 244 c,.int .i64 0])∧Below w.heap.size w w'∧w'.ownsRow w.heap.size 5 1 (.slice p 244 c) 244 (((l.drop 8).take 244).map bv))
theorem Za5(kind no:Int)(a:Option Addr)(c:Nat)(l:List UInt8)(w:World)(h:Bys w (.slice a l.length c) l) :
 Calls Tryz.prog 114 #[.slice a l.length c,.int .i64 kind,.int .i64 no] w (OpenP kind no l w):=by
 have hcap:=h.cap rfl
 refine zin 39 Tryz.func114 ?_
 refine xa 2 [.slice a l.length c] 22 fun b1 W1 n1=>?_
 refine xa 0 [.int .i64 kind] 3 fun b2 W2 n2=>?_
 refine xa 0 [.int .i64 no] 3 fun b3 W3 n3=>?_
 have d3_b2:=n3.ne n2.blk
 refine xbs 18 6 [.func (.func 159) #[] #[.pointer (some ⟨b2,0,none⟩),.pointer (some ⟨b3,0,none⟩)],.int .i64 1,.func (.func 161) #[] #[.pointer (some ⟨b1,0,none⟩)],.int .i64 7,.func (.func 162) #[] #[.pointer (some ⟨b1,0,none⟩),.pointer (some ⟨b2,0,none⟩)],.int .i64 4,.func (.func 165) #[] #[.pointer (some ⟨b1,0,none⟩),.pointer (some ⟨b3,0,none⟩)],.int .i64 5,.func (.func 166) #[] #[.pointer (some ⟨b1,0,none⟩),.pointer (some ⟨b2,0,none⟩)],.int .i64 6,.func (.func 167) #[] #[.pointer (some ⟨b1,0,none⟩)],.int .i64 7] 270 fun b4 W4 n4=>?_
 refine xu 12 7 ?_
 refine xlv 14 (n4.blk.rpp 0 2) ?_
 refine xa 0 [.nilFunc,.int .i64 0] 270 fun b5 W5 n5=>?_
 have d5_b4:=n5.ne n4.blk
 refine xsv 0 n5.blk [.func (.func 159) #[] #[.pointer (some ⟨b2,0,none⟩),.pointer (some ⟨b3,0,none⟩)],.int .i64 1] fun W6 u6 k6=>?_
 have g5:=n5.ge (bln (bln (bln n1.below n2.below) n3.below) n4.below)
 refine xb 5 0 k6 ?_
 have k2'1:=u6.blkT (((n2.blk.below n3.below).below n4.below).below n5.below) n5.blk (by decide)
 have k3:=u6.blkT ((n3.blk.below n4.below).below n5.below) n5.blk (by decide)
 refine xr 0 (args:=#[.pointer (some ⟨b2,0,none⟩),.pointer (some ⟨b3,0,none⟩)]) (open_1 kind no _ l b2 k2'1 b3 k3) fun W7 hb7=>?_
 refine xi 2 (Gc kind no l 0) (fun hc8=>?_) (fun hc8=>?_)
 ·have hk1:=hc8
  refine xd 1 .z ?_
  have k6'1:=(k6.below hb7).below (Za W7)
  refine xb (.e [0] 1) 1 k6'1 ?_
  have hB:=bln (bln (u6.below (bln (bln (bln (bln n1.below n2.below) n3.below) n4.below) n5.below) g5) hb7) (Za W7)
  refine xe (.r [2,3] 8) (.tuple #[.slice none 0 0,.int .i64 1]) ?_
  have he:Ye kind no l=1:=by simp[Ye,hk1]
  exact .inl ⟨by rw[he];decide,by rw[he],hB⟩
 have hk1:=hc8
 have k4'1:=(u6.blk (n4.blk.below n5.below) (Ne.symm (Ne.symm d5_b4))).below hb7
 refine xlv 22 (k4'1.rpp 2 2) ?_
 refine xa 0 [.nilFunc,.int .i64 0] 270 fun b9 W9 n9=>?_
 have d9_b4:=n9.ne k4'1
 have k6'2:=k6.below hb7
 have d9_b5:=n9.ne k6'2
 refine xsv 0 n9.blk [.func (.func 161) #[] #[.pointer (some ⟨b1,0,none⟩)],.int .i64 7] fun W10 u10 k10=>?_
 have g9:=n9.ge (bln (u6.below (bln (bln (bln (bln n1.below n2.below) n3.below) n4.below) n5.below) g5) hb7)
 refine xb 5 0 k10 ?_
 have k1:=u10.blkT (((u6.blkT ((((n1.blk.below n2.below).below n3.below).below n4.below).below n5.below) n5.blk (by decide)).below hb7).below n9.below) n9.blk (by decide)
 refine xr 0 (args:=#[.pointer (some ⟨b1,0,none⟩)]) (open_2 kind no _ b1 a c l k1) fun W11 hb11=>?_
 refine xi 2 (Gc kind no l 1) (fun hc12=>?_) (fun hc12=>?_)
 ·have hk2:=hc12
  refine xd 1 .z ?_
  have k10'1:=(k10.below hb11).below (Za W11)
  refine xb (.e [0] 1) 1 k10'1 ?_
  have hB:=bln (bln (u10.below (bln (bln (u6.below (bln (bln (bln (bln n1.below n2.below) n3.below) n4.below) n5.below) g5) hb7) n9.below) g9) hb11) (Za W11)
  refine xe (.r [2,3] 8) (.tuple #[.slice none 0 0,.int .i64 7]) ?_
  have he:Ye kind no l=7:=by simp[Ye,hk1,hk2]
  exact .inl ⟨by rw[he];decide,by rw[he],hB⟩
 have hk2:=hc12
 have hl256:=ask1 hk2
 have k4'2:=(u10.blk (k4'1.below n9.below) (Ne.symm (Ne.symm d9_b4))).below hb11
 refine xlv 22 (k4'2.rpp 4 2) ?_
 refine xa 0 [.nilFunc,.int .i64 0] 270 fun b13 W13 n13=>?_
 have d13_b4:=n13.ne k4'2
 have k6'3:=(u10.blk (k6'2.below n9.below) (Ne.symm (Ne.symm d9_b5))).below hb11
 have d13_b5:=n13.ne k6'3
 have k10'2:=k10.below hb11
 have d13_b9:=n13.ne k10'2
 have hB:=bln (u10.below (bln (bln (u6.below (bln (bln (bln (bln n1.below n2.below) n3.below) n4.below) n5.below) g5) hb7) n9.below) g9) hb11
 have g13:=n13.ge hB
 refine xsv 0 n13.blk [.func (.func 162) #[] #[.pointer (some ⟨b1,0,none⟩),.pointer (some ⟨b2,0,none⟩)],.int .i64 4] fun W14 u14 k14=>?_
 refine xb 5 0 k14 ?_
 have k1'1:=u14.blkT ((k1.below hb11).below n13.below) n13.blk (by decide)
 have k2'2:=u14.blkT (((u10.blkT ((k2'1.below hb7).below n9.below) n9.blk (by decide)).below hb11).below n13.below) n13.blk (by decide)
 have hB'1:=u14.below (bln hB n13.below) g13
 refine xr 0 (args:=#[.pointer (some ⟨b1,0,none⟩),.pointer (some ⟨b2,0,none⟩)]) (open_3 kind no _ b1 a c l k1'1 b2 k2'2 (ask1 hk2) (by have:=ask1 hk2;have:=h.cap rfl;omega) (h.below hB'1)) fun W15 hb15=>?_
 refine xi 2 (Gc kind no l 2) (fun hc16=>?_) (fun hc16=>?_)
 ·have hk3:=hc16
  refine xd 1 .z ?_
  have k14'1:=(k14.below hb15).below (Za W15)
  refine xb (.e [0] 1) 1 k14'1 ?_
  have hB'2:=bln (bln hB'1 hb15) (Za W15)
  refine xe (.r [2,3] 8) (.tuple #[.slice none 0 0,.int .i64 4]) ?_
  have he:Ye kind no l=4:=by simp[Ye,hk1,hk2,hk3]
  exact .inl ⟨by rw[he];decide,by rw[he],hB'2⟩
 have hk3:=hc16
 have k4'3:=(u14.blk (k4'2.below n13.below) (Ne.symm (Ne.symm d13_b4))).below hb15
 refine xlv 22 (k4'3.rpp 6 2) ?_
 refine xa 0 [.nilFunc,.int .i64 0] 270 fun b17 W17 n17=>?_
 have d17_b4:=n17.ne k4'3
 have k6'4:=(u14.blk (k6'3.below n13.below) (Ne.symm (Ne.symm d13_b5))).below hb15
 have d17_b5:=n17.ne k6'4
 have k10'3:=(u14.blk (k10'2.below n13.below) (Ne.symm (Ne.symm d13_b9))).below hb15
 have d17_b9:=n17.ne k10'3
 have k14'2:=k14.below hb15
 have d17_b13:=n17.ne k14'2
 have hB'3:=bln hB'1 hb15
 have g17:=n17.ge hB'3
 refine xsv 0 n17.blk [.func (.func 165) #[] #[.pointer (some ⟨b1,0,none⟩),.pointer (some ⟨b3,0,none⟩)],.int .i64 5] fun W18 u18 k18=>?_
 refine xb 5 0 k18 ?_
 have k1'2:=u18.blkT ((k1'1.below hb15).below n17.below) n17.blk (by decide)
 have k3'1:=u18.blkT (((u14.blkT (((u10.blkT ((k3.below hb7).below n9.below) n9.blk (by decide)).below hb11).below n13.below) n13.blk (by decide)).below hb15).below n17.below) n17.blk (by decide)
 have hB'4:=u18.below (bln hB'3 n17.below) g17
 refine xr 0 (args:=#[.pointer (some ⟨b1,0,none⟩),.pointer (some ⟨b3,0,none⟩)]) (open_4 kind no _ b1 a c l k1'2 b3 k3'1 (ask1 hk2) (by have:=ask1 hk2;have:=h.cap rfl;omega) (h.below hB'4)) fun W19 hb19=>?_
 refine xi 2 (Gc kind no l 3) (fun hc20=>?_) (fun hc20=>?_)
 ·have hk4:=hc20
  refine xd 1 .z ?_
  have k18'1:=(k18.below hb19).below (Za W19)
  refine xb (.e [0] 1) 1 k18'1 ?_
  have hB'5:=bln (bln hB'4 hb19) (Za W19)
  refine xe (.r [2,3] 8) (.tuple #[.slice none 0 0,.int .i64 5]) ?_
  have he:Ye kind no l=5:=by simp[Ye,hk1,hk2,hk3,hk4]
  exact .inl ⟨by rw[he];decide,by rw[he],hB'5⟩
 have hk4:=hc20
 have k4'4:=(u18.blk (k4'3.below n17.below) (Ne.symm (Ne.symm d17_b4))).below hb19
 refine xlv 22 (k4'4.rpp 8 2) ?_
 refine xa 0 [.nilFunc,.int .i64 0] 270 fun b21 W21 n21=>?_
 have d21_b4:=n21.ne k4'4
 have k6'5:=(u18.blk (k6'4.below n17.below) (Ne.symm (Ne.symm d17_b5))).below hb19
 have d21_b5:=n21.ne k6'5
 have k10'4:=(u18.blk (k10'3.below n17.below) (Ne.symm (Ne.symm d17_b9))).below hb19
 have d21_b9:=n21.ne k10'4
 have k14'3:=(u18.blk (k14'2.below n17.below) (Ne.symm (Ne.symm d17_b13))).below hb19
 have d21_b13:=n21.ne k14'3
 have k18'2:=k18.below hb19
 have d21_b17:=n21.ne k18'2
 have hB'6:=bln hB'4 hb19
 have g21:=n21.ge hB'6
 refine xsv 0 n21.blk [.func (.func 166) #[] #[.pointer (some ⟨b1,0,none⟩),.pointer (some ⟨b2,0,none⟩)],.int .i64 6] fun W22 u22 k22=>?_
 refine xb 5 0 k22 ?_
 have k1'3:=u22.blkT ((k1'2.below hb19).below n21.below) n21.blk (by decide)
 have k2'3:=u22.blkT (((u18.blkT ((k2'2.below hb15).below n17.below) n17.blk (by decide)).below hb19).below n21.below) n21.blk (by decide)
 have hB'7:=u22.below (bln hB'6 n21.below) g21
 refine xr 0 (args:=#[.pointer (some ⟨b1,0,none⟩),.pointer (some ⟨b2,0,none⟩)]) (open_5 kind no _ b1 a c l k1'3 b2 k2'3 (ask1 hk2) (by have:=ask1 hk2;have:=h.cap rfl;omega) (h.below hB'7)) fun W23 hb23=>?_
 refine xi 2 (Gc kind no l 4) (fun hc24=>?_) (fun hc24=>?_)
 ·have hk5:=hc24
  refine xd 1 .z ?_
  have k22'1:=(k22.below hb23).below (Za W23)
  refine xb (.e [0] 1) 1 k22'1 ?_
  have hB'8:=bln (bln hB'7 hb23) (Za W23)
  refine xe (.r [2,3] 8) (.tuple #[.slice none 0 0,.int .i64 6]) ?_
  have he:Ye kind no l=6:=by simp[Ye,hk1,hk2,hk3,hk4,hk5]
  exact .inl ⟨by rw[he];decide,by rw[he],hB'8⟩
 have hk5:=hc24
 have k4'5:=(u22.blk (k4'4.below n21.below) (Ne.symm (Ne.symm d21_b4))).below hb23
 refine xlv 22 (k4'5.rpp 10 2) ?_
 refine xa 0 [.nilFunc,.int .i64 0] 270 fun b25 W25 n25=>?_
 have d25_b4:=n25.ne k4'5
 have k6'6:=(u22.blk (k6'5.below n21.below) (Ne.symm (Ne.symm d21_b5))).below hb23
 have d25_b5:=n25.ne k6'6
 have k10'5:=(u22.blk (k10'4.below n21.below) (Ne.symm (Ne.symm d21_b9))).below hb23
 have d25_b9:=n25.ne k10'5
 have k14'4:=(u22.blk (k14'3.below n21.below) (Ne.symm (Ne.symm d21_b13))).below hb23
 have d25_b13:=n25.ne k14'4
 have k18'3:=(u22.blk (k18'2.below n21.below) (Ne.symm (Ne.symm d21_b17))).below hb23
 have d25_b17:=n25.ne k18'3
 have k22'2:=k22.below hb23
 have d25_b21:=n25.ne k22'2
 have hB'9:=bln hB'7 hb23
 have g25:=n25.ge hB'9
 refine xsv 0 n25.blk [.func (.func 167) #[] #[.pointer (some ⟨b1,0,none⟩)],.int .i64 7] fun W26 u26 k26=>?_
 refine xb 5 0 k26 ?_
 have k1'4:=u26.blkT ((k1'3.below hb23).below n25.below) n25.blk (by decide)
 have hB'10:=u26.below (bln hB'9 n25.below) g25
 refine xr 0 (args:=#[.pointer (some ⟨b1,0,none⟩)]) (open_6 kind no _ b1 a c l k1'4  (ask1 hk2) (by have:=ask1 hk2;have:=h.cap rfl;omega) (h.below hB'10)) fun W27 hb27=>?_
 refine xi 2 (Gc kind no l 5) (fun hc28=>?_) (fun hc28=>?_)
 ·have hk6:=hc28
  refine xd 1 .z ?_
  have k26'1:=(k26.below hb27).below (Za W27)
  refine xb (.e [0] 1) 1 k26'1 ?_
  have hB'11:=bln (bln hB'10 hb27) (Za W27)
  refine xe (.r [2,3] 8) (.tuple #[.slice none 0 0,.int .i64 7]) ?_
  have he:Ye kind no l=7:=by simp[Ye,hk1,hk2,hk3,hk4,hk5,hk6]
  exact .inl ⟨by rw[he];decide,by rw[he],hB'11⟩
 have hk6:=hc28
 have k1'5:=k1'4.below hb27
 refine xb 22 0 k1'5 ?_
 refine xsB 0 (fun _ _ _ _ _ zo zx zy zz V=>Qb (k:=8) (h:=252) (b:=a) (n:=l.length) (c:=c) (i:=8) (ki:=.i64) (j:=252) (kj:=.i64) 1 zo zx zy rfl zz rfl (by omega) (by omega) Tryz.underlying22 (by kernel_rfl) V) ?_
 have hB'12:=bln hB'10 hb27
 refine xc 0 (args:=#[.slice (Qm a 8 c 1) 244 (c-8)]) (Vl (Qm a 8 c 1) 244 (c-8) ((l.drop 8).take 244) _ (by have:=ask1 hk2;simp;omega) ((Bys.cut h rfl 8 252 (by decide) (by have:=ask1 hk2;omega)).below hB'12) (by decide)) ?_
 rintro _ W29 ⟨_,rfl,hb29,ho⟩
 have hs29:=(bln hB'10 hb27).size
 have ho'1:=Zd ho hs29
 unfold Mf at ho'1
 rw[show((l.drop 8).take 244).length=244 from by have:=ask1 hk2;simp;omega] at ho'1
 obtain⟨p,c3,rfl⟩:=(Zf ho'1).slice
 have hB'13:=bln hB'12 hb29
 exact xe 5 (.tuple #[.slice p 244 c3,.int .i64 0]) (.inr ⟨by simp[Ye,hk1,hk2,hk3,hk4,hk5,hk6],_,_,rfl,hB'13,ho'1⟩)
end Go.Proofs.YthlakkdgcgkcdaaGreatDoor
namespace Go.Proofs.YthlakkdgcgkcdaaGreatDoor
set_option maxHeartbeats 8000000
set_option maxRecDepth 100000
open Go.RowKit Go.Extern.Stop Go.Stop Go.Extern
set_option linter.unusedVariables false
attribute [local irreducible] wpList wpAnyH Code.wp Oper.wp Go
def widG(t:Int)(leaf:Bool):Nat:=if 1≤t∧t≤5 then Uk t leaf else 0
def maxG(t:Int)(leaf:Bool):Nat:=if 1≤t∧t≤5 then Ki t leaf else 0
theorem fitG(t:Int)(leaf:Bool):12+maxG t leaf*8+maxG t leaf*widG t leaf≤244:=by
 unfold maxG widG;split
 ·exact fitN t leaf
 ·decide
theorem Zer(t:Int)(leaf:Bool):maxG t leaf≤18:=by
 unfold maxG;split
 ·exact(Qg t leaf).2
 ·decide
theorem Ze2(t:Int)(leaf:Bool):widG t leaf≤24:=by
 unfold widG;split
 ·exact(Rn t leaf).2
 ·decide
theorem Nr(t:Int)(leaf:Bool)(w:World)(h:¬ (1≤t∧t≤5)) :
 Calls Tryz.prog 135 #[.int .i64 t,.bool leaf] w (Ret (.int .i64 0) w):=by
 refine zin 31 Tryz.func135 ?_
 refine xg 17 [8,9] (decide (t<(1:Int))) (fun hc1=>?_) (fun hc1=>?_)
 ·have hc1:=of_decide_eq_true hc1
  exact xe 15 (.int .i64 0) ⟨rfl,(Below.refl w.heap.size _)⟩
 have hc1:=of_decide_eq_false hc1
 refine xk 6 (show(decide (t>(5:Int)):Bool)=true from decide_eq_true (by omega)) ?_
 exact xe 8 (.int .i64 0) ⟨rfl,(Below.refl w.heap.size _)⟩
theorem Mn(t:Int)(leaf:Bool)(w:World):Calls Tryz.prog 135 #[.int .i64 t,.bool leaf] w (Ret (.int .i64 (widG t leaf:Int)) w):=by
 unfold widG
 by_cases h:1≤t∧t≤5
 ·rw[if_pos h];exact Tq t leaf h.1 h.2 w
 ·rw[if_neg h];exact Nr t leaf w h
theorem Za7(t:Int)(leaf:Bool)(w:World)(h:¬ (1≤t∧t≤5)) :
 Calls Tryz.prog 127 #[.int .i64 t,.bool leaf] w (Ret (.int .i64 0) w):=by
 refine zin 16 Tryz.func127 ?_
 refine xr 9 (args:=#[.int .i64 t,.bool leaf]) (Nr t leaf _ h) fun W1 hb1=>?_
 exact xe 18 (.int .i64 0) ⟨rfl,hb1⟩
theorem Zbd(t:Int)(leaf:Bool)(w:World):Calls Tryz.prog 127 #[.int .i64 t,.bool leaf] w (Ret (.int .i64 (maxG t leaf:Int)) w):=by
 unfold maxG
 by_cases h:1≤t∧t≤5
 ·rw[if_pos h];exact Ej t leaf h.1 h.2 w
 ·rw[if_neg h];exact Za7 t leaf w h
def keyR(L:List Int)(i:Nat)(k:Int):Int:=if k<0∨281474976710655<k then 2 else if 0<i∧k≤L.getD (i-1) 0 then 8 else 0
def Xr(l:List UInt8):Int:=(Zh l 1 1:Int)
def Xl(l:List UInt8):Bool:=(Zh l 0 1:Int)==(1:Int)
def Zn(l:List UInt8):Nat:=Zh l 2 2
def Xi(l:List UInt8):Nat:=widG (Xr l) (Xl l)
def Xj(l:List UInt8):Nat:=maxG (Xr l) (Xl l)
def Kg(l:List UInt8):Bool:=decide (Zh l 0 1≤1∧Xi l≠0∧Zh l 2 2≤Xj l∧Zh l 4 2=Xi l∧Zh l 6 2=Xj l∧Zh l 8 4=0∧(Zh l 0 1=1∨0<Zh l 2 2))
def ShapeP(l:List UInt8)(w:World)(e:Ending)(w':World):Prop :=
 (Kg l=false∧∃ a b c,e=.returned (.tuple #[.agg #[.int .i64 a,.bool b,.slice none 0 0,.slice none 0 0],.int .i64 c,.bool false])∧Below w.heap.size w w') ∨
 (Kg l=true∧e=.returned (.tuple #[.agg #[.int .i64 (Xr l),.bool (Xl l),.slice none 0 0,.slice none 0 0],.int .i64 (Zn l:Int),.bool true])∧Below w.heap.size w w')
theorem Ck(a:Option Addr)(n c:Nat)(l:List UInt8)(aw:Option Addr)(cw m:Nat)(ws:List Nat)(xs:List Nat)(W:World)(hn:l.length=n)(hm:ws.length=m)(hx:Hh l 0 ws=xs)(hk:∀ i,i<ws.length→ws.getD i 0=1∨ws.getD i 0=2∨ws.getD i 0=4∨ws.getD i 0=8)(hs:ws.sum≤n)(hl:n≤100000000)(hw:ws.length≤1000)(h:Bys W (.slice a n c) l)(hws:Sl W (.slice aw m cw) m (ws.map nv))(hq:∀ i,i<ws.length→(Hh l 0 ws).getD i 0<9223372036854775808) :
 Calls Tryz.prog 93 #[.slice a n c,.slice aw m cw] W (Vn (fun w' r=>∃ p c,r=.tuple #[.slice p m c,.int .i64 0]∧w'.ownsRow W.heap.size 3 1 (.slice p m c) m (xs.map nv)) W):=by
 subst hn hm hx;exact Zby a c l aw cw ws W hk hs hl hw h hws hq
def Yf(l:List UInt8):List Nat:=[Zh l 0 1,Zh l 1 1,Zh l 2 2,Zh l 4 2,Zh l 6 2,Zh l 8 4]
theorem Zgx(l:List UInt8)(i:Nat)(hi:i<6):(Hh l 0 [1,1,2,2,2,4]).getD i 0<9223372036854775808:=by
 have h1:=Qj l 0 1 (by decide)
 have h2:=Qj l 1 1 (by decide)
 have h3:=Qj l 2 2 (by decide)
 have h4:=Qj l 4 2 (by decide)
 have h5:=Qj l 6 2 (by decide)
 have h6:=Qj l 8 4 (by decide)
 obtain rfl|rfl|rfl|rfl|rfl|rfl:i=0∨i=1∨i=2∨i=3∨i=4∨i=5:=by omega
 all_goals simp[Hh]
 all_goals omega
theorem node_shape(a:Option Addr)(c:Nat)(l:List UInt8)(w:World)(hl:l.length=244)(h:Bys w (.slice a 244 c) l) :
 Calls Tryz.prog 216 #[.slice a 244 c] w (ShapeP l w):=by
 refine zin 92 Tryz.func216 ?_
 refine xa 2 [.int .i64 0,.bool false,.slice none 0 0,.slice none 0 0] 188 fun b1 W1 n1=>?_
 refine xbs 18 6 [.int .i64 1,.int .i64 1,.int .i64 2,.int .i64 2,.int .i64 2,.int .i64 4] 3 fun b2 W2 n2=>?_
 have hB:=bln n1.below n2.below
 refine xc 0 (args:=#[.slice a 244 c,.slice (some ⟨b2,0,none⟩) 6 6]) (Ck a 244 c l (some ⟨b2,0,none⟩) 6 6 [1,1,2,2,2,4] (Yf l) _ hl rfl rfl (by decide) (by decide) (by decide) (by decide) (h.below hB) (n2.blk.sl 6 6 (by decide) (by decide)) (Zgx l)) ?_
 rintro _ W3 ⟨_,rfl,hb3,p5,c5,rfl,h5⟩
 have hs3:=(bln n1.below n2.below).size
 refine xd 8 (.t w.heap.size [188]) ?_
 have h5'1:=Zb (Zd h5 hs3) (Za W3)
 refine xx (.e [0] 1) _ 6 1 1 (Zt (l:=Yf l) (Zf h5'1) rfl (k:=1) (by decide)).1 ?_
 refine xlt (.e [] 2) (.t w.heap.size [188]) (fun V hV=>(Zt (l:=Yf l) (Zf (Zl h5'1 hV.2 (by decide))) rfl (k:=1) (by decide)).2) ?_
 refine xx (.e [3] 4) _ 6 0 1 (Zt (l:=Yf l) (Zf h5'1) rfl (k:=0) (by decide)).1 ?_
 refine xlt (.e [] 5) (.t w.heap.size [188]) (fun V hV=>(Zt (l:=Yf l) (Zf (Zl h5'1 hV.2 (by decide))) rfl (k:=0) (by decide)).2) ?_
 refine xa (.o [6,7] 8) [.int .i64 0,.bool false,.slice none 0 0,.slice none 0 0] 188 fun b4 W4 n4=>?_
 have k1:=((n1.blk.below n2.below).below hb3).below (Za W3)
 have d4_b1:=n4.ne k1
 have hB'1:=bln (bln hB hb3) (Za W3)
 have g4:=n4.ge hB'1
 refine ysv (.o [] 9) n4.blk [.int .i64 (↑(Zh l 1 1):Int),.bool ((↑(Zh l 0 1):Int)==(1:Int)),.slice none 0 0,.slice none 0 0] (.t w.heap.size [188]) fun W5 u5 k5=>⟨(Zi u5 n4.blk g4 (by decide)),?_⟩
 have h5'2:=u5.own2 (Zb h5'1 n4.below) n4.blk (by decide)
 refine xx 6 _ 6 0 1 (Zt (l:=Yf l) (Zf h5'2) rfl (k:=0) (by decide)).1 ?_
 refine xl 0 ((Zt (l:=Yf l) (Zf h5'2) rfl (k:=0) (by decide)).2) ?_
 refine xg 2 [32,33] (decide ((↑(Zh l 0 1):Int)>(1:Int))) (fun hc6=>?_) (fun hc6=>?_)
 ·have hc6:=of_decide_eq_true hc6
  have k1'1:=u5.blk (k1.below n4.below) (Ne.symm (Ne.symm d4_b1))
  refine xsv 13 k1'1 [.int .i64 0,.bool false,.slice none 0 0,.slice none 0 0] fun W7 u7 k7=>?_
  have g1:=n1.ge (Below.refl w.heap.size _)
  have hB'2:=u7.below (u5.below (bln hB'1 n4.below) g4) g1
  exact xec 6 k7 (.tuple #[.agg #[.int .i64 0,.bool false,.slice none 0 0,.slice none 0 0],.int .i64 0,.bool false]) (.inl ⟨decide_eq_false (by omega),_,_,_,rfl,hB'2⟩)
 have hc6:=of_decide_eq_false hc6
 refine xb 1 0 k5 ?_
 refine xb 1 1 k5 ?_
 refine xr 0 (args:=#[.int .i64 (↑(Zh l 1 1):Int),.bool ((↑(Zh l 0 1):Int)==(1:Int))]) (Mn (Xr l) (Xl l) _) fun W8 hb8=>?_
 refine xie 4 (↑(Xi l):Int) (0:Int) (fun hc9=>?_) (fun hc9=>?_)
 ·have k1'2:=(u5.blk (k1.below n4.below) (Ne.symm (Ne.symm d4_b1))).below hb8
  refine xsv 3 k1'2 [.int .i64 0,.bool false,.slice none 0 0,.slice none 0 0] fun W10 u10 k10=>?_
  have g1:=n1.ge (Below.refl w.heap.size _)
  have hB'3:=u10.below (bln (u5.below (bln hB'1 n4.below) g4) hb8) g1
  exact xec 6 k10 (.tuple #[.agg #[.int .i64 0,.bool false,.slice none 0 0,.slice none 0 0],.int .i64 0,.bool false]) (.inl ⟨decide_eq_false (by omega),_,_,_,rfl,hB'3⟩)
 refine xd 3 .z ?_
 have k5'1:=(k5.below hb8).below (Za W8)
 refine xb (.e [0] 1) 0 k5'1 ?_
 refine xb (.e [2] 3) 1 k5'1 ?_
 refine xb (.e [5] 6) 0 k5'1 ?_
 refine xb (.e [7] 8) 1 k5'1 ?_
 refine xr (.o [] 4) (args:=#[.int .i64 (↑(Zh l 1 1):Int),.bool ((↑(Zh l 0 1):Int)==(1:Int))]) (Mn (Xr l) (Xl l) _) fun W11 hb11=>?_
 refine xr (.o [] 9) (args:=#[.int .i64 (↑(Zh l 1 1):Int),.bool ((↑(Zh l 0 1):Int)==(1:Int))]) (Zbd (Xr l) (Xl l) _) fun W12 hb12=>?_
 have h5'3:=Zb (Zb (Zb (Zb h5'2 hb8) (Za W8)) hb11) hb12
 refine xx (.r [10,11] 5) _ 6 2 1 (Zt (l:=Yf l) (Zf h5'3) rfl (k:=2) (by decide)).1 ?_
 refine xl 0 ((Zt (l:=Yf l) (Zf h5'3) rfl (k:=2) (by decide)).2) ?_
 refine xg 3 [56,57] (decide ((↑(Zh l 2 2):Int)≤(↑(Xj l):Int))) (fun hc13=>?_) (fun hc13=>?_)
 ·have hc13:=of_decide_eq_true hc13
  refine xx 1 _ 6 3 1 (Zt (l:=Yf l) (Zf h5'3) rfl (k:=3) (by decide)).1 ?_
  refine xl 0 ((Zt (l:=Yf l) (Zf h5'3) rfl (k:=3) (by decide)).2) ?_
  refine xg 4 [62,63,64] ((↑(Zh l 4 2):Int)==(↑(Xi l):Int)) (fun hc14=>?_) (fun hc14=>?_)
  ·have hc14:=eq_of_beq hc14
   refine xx 1 _ 6 4 1 (Zt (l:=Yf l) (Zf h5'3) rfl (k:=4) (by decide)).1 ?_
   refine xl 0 ((Zt (l:=Yf l) (Zf h5'3) rfl (k:=4) (by decide)).2) ?_
   refine xg 4 [69,70,71] ((↑(Zh l 6 2):Int)==(↑(Xj l):Int)) (fun hc15=>?_) (fun hc15=>?_)
   ·have hc15:=eq_of_beq hc15
    refine xx 1 _ 6 5 1 (Zt (l:=Yf l) (Zf h5'3) rfl (k:=5) (by decide)).1 ?_
    refine xl 0 ((Zt (l:=Yf l) (Zf h5'3) rfl (k:=5) (by decide)).2) ?_
    refine xg 3 [75,76,77] ((↑(Zh l 8 4):Int)==(0:Int)) (fun hc16=>?_) (fun hc16=>?_)
    ·have hc16:=eq_of_beq hc16
     have k5'2:=(k5'1.below hb11).below hb12
     refine xb 1 1 k5'2 ?_
     refine xg 1 [27,37,45,50,79,80] ((↑(Zh l 0 1):Int)==(1:Int)) (fun hc17=>?_) (fun hc17=>?_)
     ·have hc17:=eq_of_beq hc17
      refine xd 10 (.t w.heap.size [188]) ?_
      have h5'4:=Zb h5'3 (Za W12)
      refine xx (.e [1] 2) _ 6 2 1 (Zt (l:=Yf l) (Zf h5'4) rfl (k:=2) (by decide)).1 ?_
      refine xlt (.e [] 3) (.t w.heap.size [188]) (fun V hV=>(Zt (l:=Yf l) (Zf (Zl h5'4 hV.2 (by decide))) rfl (k:=2) (by decide)).2) ?_
      have k5'3:=k5'2.below (Za W12)
      refine xlv (.o [4] 0) k5'3.rp ?_
      have k1'3:=(((((u5.blk (k1.below n4.below) (Ne.symm (Ne.symm d4_b1))).below hb8).below (Za W8)).below hb11).below hb12).below (Za W12)
      have g1:=n1.ge (Below.refl w.heap.size _)
      refine ysv (.o [] 5) k1'3 [.int .i64 (↑(Zh l 1 1):Int),.bool ((↑(Zh l 0 1):Int)==(1:Int)),.slice none 0 0,.slice none 0 0] (.t w.heap.size [188]) fun W18 u18 k18=>⟨(Zi u18 k1'3 g1 (by decide)),?_⟩
      have hB'4:=u18.below (bln (bln (bln (bln (bln (u5.below (bln hB'1 n4.below) g4) hb8) (Za W8)) hb11) hb12) (Za W12)) g1
      exact xec (.r [6,7] 3) k18 (.tuple #[.agg #[.int .i64 (↑(Zh l 1 1):Int),.bool ((↑(Zh l 0 1):Int)==(1:Int)),.slice none 0 0,.slice none 0 0],.int .i64 (↑(Zh l 2 2):Int),.bool true]) (.inr ⟨decide_eq_true (by omega),rfl,hB'4⟩)
     have hc17:=Yq hc17
     refine xx 1 _ 6 2 1 (Zt (l:=Yf l) (Zf h5'3) rfl (k:=2) (by decide)).1 ?_
     refine xl 0 ((Zt (l:=Yf l) (Zf h5'3) rfl (k:=2) (by decide)).2) ?_
     refine xd 7 (.t w.heap.size [188]) ?_
     have h5'5:=Zb h5'3 (Za W12)
     refine xx (.e [1] 2) _ 6 2 1 (Zt (l:=Yf l) (Zf h5'5) rfl (k:=2) (by decide)).1 ?_
     refine xlt (.e [] 3) (.t w.heap.size [188]) (fun V hV=>(Zt (l:=Yf l) (Zf (Zl h5'5 hV.2 (by decide))) rfl (k:=2) (by decide)).2) ?_
     have k5'4:=k5'2.below (Za W12)
     refine xlv (.o [4] 0) k5'4.rp ?_
     have k1'4:=(((((u5.blk (k1.below n4.below) (Ne.symm (Ne.symm d4_b1))).below hb8).below (Za W8)).below hb11).below hb12).below (Za W12)
     have g1:=n1.ge (Below.refl w.heap.size _)
     refine ysv (.o [] 5) k1'4 [.int .i64 (↑(Zh l 1 1):Int),.bool ((↑(Zh l 0 1):Int)==(1:Int)),.slice none 0 0,.slice none 0 0] (.t w.heap.size [188]) fun W19 u19 k19=>⟨(Zi u19 k1'4 g1 (by decide)),?_⟩
     have hB'5:=u19.below (bln (bln (bln (bln (bln (u5.below (bln hB'1 n4.below) g4) hb8) (Za W8)) hb11) hb12) (Za W12)) g1
     refine xec (.r [6,7] 3) k19 (.tuple #[.agg #[.int .i64 (↑(Zh l 1 1):Int),.bool ((↑(Zh l 0 1):Int)==(1:Int)),.slice none 0 0,.slice none 0 0],.int .i64 (↑(Zh l 2 2):Int),.bool (decide ((↑(Zh l 2 2):Int)>(0:Int)))]) ?_
     rcases Bool.eq_false_or_eq_true (decide ((↑(Zh l 2 2):Int)>(0:Int))) with hq|hq
     ·have hq2:=of_decide_eq_true hq
      rw[hq];exact .inr ⟨decide_eq_true (by omega),rfl,hB'5⟩
     ·have hq2:=of_decide_eq_false hq
      rw[hq];exact .inl ⟨decide_eq_false (by omega),_,_,_,rfl,hB'5⟩
    have hc16:=Yq hc16
    refine xd 13 (.t w.heap.size [188]) ?_
    have h5'6:=Zb h5'3 (Za W12)
    refine xx (.e [1] 2) _ 6 2 1 (Zt (l:=Yf l) (Zf h5'6) rfl (k:=2) (by decide)).1 ?_
    refine xlt (.e [] 3) (.t w.heap.size [188]) (fun V hV=>(Zt (l:=Yf l) (Zf (Zl h5'6 hV.2 (by decide))) rfl (k:=2) (by decide)).2) ?_
    have k5'5:=((k5'1.below hb11).below hb12).below (Za W12)
    refine xlv (.o [4] 0) k5'5.rp ?_
    have k1'5:=(((((u5.blk (k1.below n4.below) (Ne.symm (Ne.symm d4_b1))).below hb8).below (Za W8)).below hb11).below hb12).below (Za W12)
    have g1:=n1.ge (Below.refl w.heap.size _)
    refine ysv (.o [] 5) k1'5 [.int .i64 (↑(Zh l 1 1):Int),.bool ((↑(Zh l 0 1):Int)==(1:Int)),.slice none 0 0,.slice none 0 0] (.t w.heap.size [188]) fun W20 u20 k20=>⟨(Zi u20 k1'5 g1 (by decide)),?_⟩
    have hB'6:=u20.below (bln (bln (bln (bln (bln (u5.below (bln hB'1 n4.below) g4) hb8) (Za W8)) hb11) hb12) (Za W12)) g1
    exact xec (.r [6,7] 3) k20 (.tuple #[.agg #[.int .i64 (↑(Zh l 1 1):Int),.bool ((↑(Zh l 0 1):Int)==(1:Int)),.slice none 0 0,.slice none 0 0],.int .i64 (↑(Zh l 2 2):Int),.bool false]) (.inl ⟨decide_eq_false (by omega),_,_,_,rfl,hB'6⟩)
   have hc15:=Yq hc15
   refine xd 19 (.t w.heap.size [188]) ?_
   have h5'7:=Zb h5'3 (Za W12)
   refine xx (.e [1] 2) _ 6 2 1 (Zt (l:=Yf l) (Zf h5'7) rfl (k:=2) (by decide)).1 ?_
   refine xlt (.e [] 3) (.t w.heap.size [188]) (fun V hV=>(Zt (l:=Yf l) (Zf (Zl h5'7 hV.2 (by decide))) rfl (k:=2) (by decide)).2) ?_
   have k5'6:=((k5'1.below hb11).below hb12).below (Za W12)
   refine xlv (.o [4] 0) k5'6.rp ?_
   have k1'6:=(((((u5.blk (k1.below n4.below) (Ne.symm (Ne.symm d4_b1))).below hb8).below (Za W8)).below hb11).below hb12).below (Za W12)
   have g1:=n1.ge (Below.refl w.heap.size _)
   refine ysv (.o [] 5) k1'6 [.int .i64 (↑(Zh l 1 1):Int),.bool ((↑(Zh l 0 1):Int)==(1:Int)),.slice none 0 0,.slice none 0 0] (.t w.heap.size [188]) fun W21 u21 k21=>⟨(Zi u21 k1'6 g1 (by decide)),?_⟩
   have hB'7:=u21.below (bln (bln (bln (bln (bln (u5.below (bln hB'1 n4.below) g4) hb8) (Za W8)) hb11) hb12) (Za W12)) g1
   exact xec (.r [6,7] 3) k21 (.tuple #[.agg #[.int .i64 (↑(Zh l 1 1):Int),.bool ((↑(Zh l 0 1):Int)==(1:Int)),.slice none 0 0,.slice none 0 0],.int .i64 (↑(Zh l 2 2):Int),.bool false]) (.inl ⟨decide_eq_false (by omega),_,_,_,rfl,hB'7⟩)
  have hc14:=Yq hc14
  refine xd 26 (.t w.heap.size [188]) ?_
  have h5'8:=Zb h5'3 (Za W12)
  refine xx (.e [1] 2) _ 6 2 1 (Zt (l:=Yf l) (Zf h5'8) rfl (k:=2) (by decide)).1 ?_
  refine xlt (.e [] 3) (.t w.heap.size [188]) (fun V hV=>(Zt (l:=Yf l) (Zf (Zl h5'8 hV.2 (by decide))) rfl (k:=2) (by decide)).2) ?_
  have k5'7:=((k5'1.below hb11).below hb12).below (Za W12)
  refine xlv (.o [4] 0) k5'7.rp ?_
  have k1'7:=(((((u5.blk (k1.below n4.below) (Ne.symm (Ne.symm d4_b1))).below hb8).below (Za W8)).below hb11).below hb12).below (Za W12)
  have g1:=n1.ge (Below.refl w.heap.size _)
  refine ysv (.o [] 5) k1'7 [.int .i64 (↑(Zh l 1 1):Int),.bool ((↑(Zh l 0 1):Int)==(1:Int)),.slice none 0 0,.slice none 0 0] (.t w.heap.size [188]) fun W22 u22 k22=>⟨(Zi u22 k1'7 g1 (by decide)),?_⟩
  have hB'8:=u22.below (bln (bln (bln (bln (bln (u5.below (bln hB'1 n4.below) g4) hb8) (Za W8)) hb11) hb12) (Za W12)) g1
  exact xec (.r [6,7] 3) k22 (.tuple #[.agg #[.int .i64 (↑(Zh l 1 1):Int),.bool ((↑(Zh l 0 1):Int)==(1:Int)),.slice none 0 0,.slice none 0 0],.int .i64 (↑(Zh l 2 2):Int),.bool false]) (.inl ⟨decide_eq_false (by omega),_,_,_,rfl,hB'8⟩)
 have hc13:=of_decide_eq_false hc13
 refine xd 33 (.t w.heap.size [188]) ?_
 have h5'9:=Zb h5'3 (Za W12)
 refine xx (.e [1] 2) _ 6 2 1 (Zt (l:=Yf l) (Zf h5'9) rfl (k:=2) (by decide)).1 ?_
 refine xlt (.e [] 3) (.t w.heap.size [188]) (fun V hV=>(Zt (l:=Yf l) (Zf (Zl h5'9 hV.2 (by decide))) rfl (k:=2) (by decide)).2) ?_
 have k5'8:=((k5'1.below hb11).below hb12).below (Za W12)
 refine xlv (.o [4] 0) k5'8.rp ?_
 have k1'8:=(((((u5.blk (k1.below n4.below) (Ne.symm (Ne.symm d4_b1))).below hb8).below (Za W8)).below hb11).below hb12).below (Za W12)
 have g1:=n1.ge (Below.refl w.heap.size _)
 refine ysv (.o [] 5) k1'8 [.int .i64 (↑(Zh l 1 1):Int),.bool ((↑(Zh l 0 1):Int)==(1:Int)),.slice none 0 0,.slice none 0 0] (.t w.heap.size [188]) fun W23 u23 k23=>⟨(Zi u23 k1'8 g1 (by decide)),?_⟩
 have hB'9:=u23.below (bln (bln (bln (bln (bln (u5.below (bln hB'1 n4.below) g4) hb8) (Za W8)) hb11) hb12) (Za W12)) g1
 exact xec (.r [6,7] 3) k23 (.tuple #[.agg #[.int .i64 (↑(Zh l 1 1):Int),.bool ((↑(Zh l 0 1):Int)==(1:Int)),.slice none 0 0,.slice none 0 0],.int .i64 (↑(Zh l 2 2):Int),.bool false]) (.inl ⟨decide_eq_false (by omega),_,_,_,rfl,hB'9⟩)
theorem node_keyG(a:Option Addr)(i c:Nat)(L:List Int)(k:Int)(w:World)(hL:L.length=i)(h:Sl w (.slice a i c) i (L.map (Value.int .i64)))(hi:i≤1000) :
 Calls Tryz.prog 202 #[.slice a i c,.int .i64 k] w (Ret (.int .i64 (keyR L i k)) w):=by
 refine zin 26 Tryz.func202 ?_
 refine xg 12 [7,8] (decide (k<(0:Int))) (fun hc1=>?_) (fun hc1=>?_)
 ·have hc1:=of_decide_eq_true hc1
  exact xe 15 (.int .i64 2) ⟨by rw[show keyR L i k=2 from by unfold keyR;rw[if_pos (by omega)]],(Below.refl w.heap.size _)⟩
 have hc1:=of_decide_eq_false hc1
 refine xid 6 (k>(281474976710655:Int)) (fun hc2=>?_) (fun hc2=>?_)
 ·exact xe 8 (.int .i64 2) ⟨by rw[show keyR L i k=2 from by unfold keyR;rw[if_pos (by omega)]],(Below.refl w.heap.size _)⟩
 refine xg 6 [15,16] (decide ((↑i:Int)>(0:Int))) (fun hc3=>?_) (fun hc3=>?_)
 ·have hc3:=of_decide_eq_true hc3
  refine xwm 3 ((↑i:Int)-1) (↑(i-1):Int) ?_
  refine xx 0 _ i (i-1) 1 (IntsN.elem h hL (k:=(i-1)) (by omega)).1 ?_
  refine xl 0 ((IntsN.elem h hL (k:=(i-1)) (by omega)).2) ?_
  refine xid 6 ((L.getD (i-1) 0)≥k) (fun hc4=>?_) (fun hc4=>?_)
  ·exact xe 8 (.int .i64 8) ⟨by rw[show keyR L i k=8 from by unfold keyR;rw[if_neg (by omega),if_pos (by omega)]],(Below.refl w.heap.size _)⟩
  exact xe 9 (.int .i64 0) ⟨by rw[show keyR L i k=0 from by unfold keyR;rw[if_neg (by omega),if_neg (by omega)]],(Below.refl w.heap.size _)⟩
 have hc3:=of_decide_eq_false hc3
 exact xe 22 (.int .i64 0) ⟨by rw[show keyR L i k=0 from by unfold keyR;rw[if_neg (by omega),if_neg (by omega)]],(Below.refl w.heap.size _)⟩
def Dz(l:List UInt8)(i:Nat):Nat:=Zh l (12+i*8) 8
def Yx(l:List UInt8)(n:Nat):List Int:=(List.range n).map fun i=>(Dz l i:Int)
theorem Yr(l:List UInt8)(n:Nat):(Yx l n).length=n:=by simp[Yx]
theorem Cb(l:List UInt8)(n:Nat):Yx l (n+1)=Yx l n++[(Dz l n:Int)]:=by simp[Yx,List.range_succ]
theorem Mz(l:List UInt8){n i:Nat}(h:i<n):(Yx l n).getD i 0=(Dz l i:Int):=by simp[Yx,List.getD,List.getElem?_range h]
def Dx(l:List UInt8)(i:Nat):List UInt8:=(l.drop (12+Xj l*8+i*Xi l)).take (Xi l)
def Kw(l:List UInt8)(n:Nat):List (List UInt8):=(List.range n).map (Dx l)
theorem Vo(l:List UInt8)(n:Nat):(Kw l n).length=n:=by simp[Kw]
theorem Hs(l:List UInt8)(n:Nat):Kw l (n+1)=Kw l n++[Dx l n]:=by simp[Kw,List.range_succ]
theorem Zc4(l:List UInt8){n i:Nat}(h:i<n):(Kw l n).getD i []=Dx l i:=by simp[Kw,List.getD,List.getElem?_range h]
def Nt(l:List UInt8)(i:Nat):Int:=if 281474976710655<Dz l i then 2 else if 0<i∧Dz l i≤Dz l (i-1) then 8 else 0
def Yd(l:List UInt8):Nat→Int
 | 0=>0
 | i+1=>if Yd l i≠0 then Yd l i else Nt l i
theorem Dh{l:List UInt8}{i:Nat}(h:Yd l i≠0):∀ n,i≤n→Yd l n=Yd l i
 | 0,h2=>by
  obtain rfl:i=0:=by omega
  rfl
 | n+1,h2=>by
   by_cases e:i=n+1
   ·rw[e]
   ·have ih:=Dh h n (by omega)
    rw[Yd,if_pos (by rw[ih];exact h),ih]
theorem Uq{l:List UInt8}{i n:Nat}(h:Yd l i=0)(he:Nt l i≠0)(hi:i<n):Yd l n=Nt l i:=by
 have e:Yd l (i+1)=Nt l i:=by rw[Yd,if_neg (by rw[h];decide)]
 rw[Dh (by rw[e];exact he) n hi,e]
theorem Vh{l:List UInt8}{i:Nat}(h:Yd l i=0)(he:Nt l i=0):Yd l (i+1)=0:=by rw[Yd,if_neg (by rw[h];decide),he]
theorem keyE_R{l:List UInt8}{i:Nat}:keyR (Yx l i) i (Dz l i:Int)=Nt l i:=by
 unfold keyR Nt
 by_cases h:281474976710655<Dz l i
 ·rw[if_pos (by omega),if_pos h]
 ·rw[if_neg (by omega),if_neg h]
  by_cases h2:0<i
  ·rw[Mz l (show i-1<i by omega)]
   by_cases h3:Dz l i≤Dz l (i-1)
   ·rw[if_pos (by omega),if_pos (by omega)]
   ·rw[if_neg (by omega),if_neg (by omega)]
  ·rw[if_neg (by omega),if_neg (by omega)]
def Fk(l:List UInt8):Nat:=12+Zn l*8
def Zbp(l:List UInt8):Nat:=12+Xj l*8
def Fn(l:List UInt8):Nat:=Zbp l+Zn l*Xi l
def Lh(l:List UInt8):Bool:=Vc ((l.drop (Fk l)).take (Zbp l-Fk l))&&Vc ((l.drop (Fn l)).take (244-Fn l))
def Yv(l:List UInt8):Int:=if Kg l then(if Lh l then Yd l (Zn l) else 7) else 7
def NodeP(l:List UInt8)(w:World)(e:Ending)(w':World):Prop :=
 (Yv l≠0∧e=.returned (.tuple #[.agg #[.int .i64 0,.bool false,.slice none 0 0,.slice none 0 0],.int .i64 (Yv l)])∧Below w.heap.size w w') ∨
 (Yv l=0∧∃ kp kc vp vc,e=.returned (.tuple #[.agg #[.int .i64 (Xr l),.bool (Xl l),.slice kp (Zn l) kc,.slice vp (Zn l) vc],.int .i64 0])∧Below w.heap.size w w' ∧
  w'.ownsRow w.heap.size 3 1 (.slice kp (Zn l) kc) (Zn l) ((Yx l (Zn l)).map (Value.int .i64))∧w'.ownsRow w.heap.size 9 1 (.slice vp (Zn l) vc) (Zn l) ((Kw l (Zn l)).map sv))
theorem Gj{l:List UInt8}(h:Kg l=true):Zn l≤Xj l:=(of_decide_eq_true h).2.2.1
theorem Bj(a:Option Addr)(n c:Nat)(l:List UInt8)(w:World)(hn:l.length=n)(hl:n≤100000000)(h:Bys w (.slice a n c) l):Calls Tryz.prog 116 #[.slice a n c] w (Ret (.bool (Vc l)) w):=by
 subst hn;exact code_Zero a c l w hl h
theorem valN_bys{a:Option Addr}{c i:Nat}{l:List UInt8}{w:World}(h:Bys w (.slice a 244 c) l)(hl:l.length=244)(hb:12+Xj l*8+(i+1)*Xi l≤244)(hi:(i+1)*Xi l=i*Xi l+Xi l) :
 Bys w (.slice (Qm a (12+Xj l*8+i*Xi l) c 1) (12+Xj l*8+(i+1)*Xi l-(12+Xj l*8+i*Xi l)) (c-(12+Xj l*8+i*Xi l))) (Dx l i):=by
 have:=Bys.cut h hl (12+Xj l*8+i*Xi l) (12+Xj l*8+(i+1)*Xi l) (by omega) hb
 rw[show 12+Xj l*8+(i+1)*Xi l-(12+Xj l*8+i*Xi l)=Xi l by omega] at this ⊢
 exact this
theorem valN_lenN{i:Nat}{l:List UInt8}(hl:l.length=244)(hb:12+Xj l*8+(i+1)*Xi l≤244)(hi:(i+1)*Xi l=i*Xi l+Xi l):(Dx l i).length=12+Xj l*8+(i+1)*Xi l-(12+Xj l*8+i*Xi l):=by
 unfold Dx;simp only[List.length_take,List.length_drop];omega
def GetP(l:List UInt8)(k w:Nat)(W:World)(e:Ending)(w':World):Prop :=
 (Zh l k w<9223372036854775808∧e=.returned (.tuple #[.int .i64 (Zh l k w:Int),.int .i64 0])∧Below W.heap.size W w')∨(¬ Zh l k w<9223372036854775808∧e=.returned (.tuple #[.int .i64 0,.int .i64 2])∧Below W.heap.size W w')
theorem Get_P(a:Option Addr)(n c k w:Nat)(l:List UInt8)(W:World)(hn:l.length=n)(hw:w=1∨w=2∨w=4∨w=8)(hk:k+w≤n)(hl:n≤100000000)(h:Bys W (.slice a n c) l)(wi:Int)(hwi:wi=(w:Int)) :
 Calls Tryz.prog 115 #[.slice a n c,.int .i64 (↑k:Int),.int .i64 wi] W (GetP l k w W):=by
 subst hn hwi
 by_cases hq:Zh l k w<9223372036854775808
 ·refine(Zha a c k w l W hw hk hl h hq).mono ?_
  rintro e V ⟨rfl,hb⟩;exact .inl ⟨hq,rfl,hb⟩
 ·refine(Get_big a c k w l W hw hk hl h hq).mono ?_
  rintro e V ⟨rfl,hb⟩;exact .inr ⟨hq,rfl,hb⟩
theorem node_keyP(l:List UInt8)(a:Option Addr)(i c:Nat)(w:World)(h:Sl w (.slice a i c) i ((Yx l i).map (Value.int .i64)))(hi:i≤1000) :
 Calls Tryz.prog 202 #[.slice a i c,.int .i64 (↑(Dz l i):Int)] w (fun e w'=>(Nt l i=0∧e=.returned (.int .i64 0)∧Below w.heap.size w w')∨(Nt l i≠0∧e=.returned (.int .i64 (Nt l i))∧Below w.heap.size w w')):=by
 refine(node_keyG a i c (Yx l i) (Dz l i) w (Yr l i) h hi).mono ?_
 rintro e W ⟨rfl,hb⟩
 rw[keyE_R]
 by_cases hz:Nt l i=0
 ·exact .inl ⟨hz,by rw[hz],hb⟩
 ·exact .inr ⟨hz,rfl,hb⟩
theorem node_Read(a:Option Addr)(c:Nat)(l:List UInt8)(w:World)(hl:l.length=244)(h:Bys w (.slice a 244 c) l) :
 Calls Tryz.prog 207 #[.slice a 244 c] w (NodeP l w):=by
 have hcap:=Bys.cap h hl
 refine zin 104 Tryz.func207 ?_
 refine xa 2 [.int .i64 0,.bool false,.slice none 0 0,.slice none 0 0] 188 fun b1 W1 n1=>?_
 refine xc 6 (args:=#[.slice a 244 c]) (node_shape a c l _ hl (h.below n1.below)) ?_
 rintro e W2 hq2
 rcases hq2 with ⟨hs,t0,l0,c0,rfl,hb2⟩|⟨hs,rfl,hb2⟩
 ·refine xa 4 [.int .i64 0,.bool false,.slice none 0 0,.slice none 0 0] 188 fun b3 W3 n3=>?_
  have k1:=n1.blk.below hb2
  have d3_b1:=n3.ne k1
  have hB'1:=bln n1.below hb2
  have g3:=n3.ge hB'1
  refine xsv 0 n3.blk [.int .i64 t0,.bool l0,.slice none 0 0,.slice none 0 0] fun W4 u4 k4=>?_
  have k1'1:=u4.blk (k1.below n3.below) (Ne.symm (Ne.symm d3_b1))
  refine xsv 15 k1'1 [.int .i64 0,.bool false,.slice none 0 0,.slice none 0 0] fun W5 u5 k5=>?_
  have g1:=n1.ge (Below.refl w.heap.size _)
  have hB'2:=u5.below (u4.below (bln hB'1 n3.below) g3) g1
  refine xec 5 k5 (.tuple #[.agg #[.int .i64 0,.bool false,.slice none 0 0,.slice none 0 0],.int .i64 7]) ?_
  have he:Yv l=7:=by unfold Yv;simp[hs]
  exact .inl ⟨by rw[he];decide,by rw[he],hB'2⟩
 have hcm:=Gj hs
 have hfit:=fitG (Xr l) (Xl l)
 have hmle:=Zer (Xr l) (Xl l)
 have hwle:=Ze2 (Xr l) (Xl l)
 change 12+Xj l*8+Xj l*Xi l≤244 at hfit
 change Xj l≤18 at hmle
 change Xi l≤24 at hwle
 have hcw:Zn l*Xi l≤Xj l*Xi l:=Nat.mul_le_mul_right _ hcm
 refine xa 4 [.int .i64 0,.bool false,.slice none 0 0,.slice none 0 0] 188 fun b6 W6 n6=>?_
 have k1:=n1.blk.below hb2
 have d6_b1:=n6.ne k1
 have hB'3:=bln n1.below hb2
 have g6:=n6.ge hB'3
 refine xsv 0 n6.blk [.int .i64 (Xr l),.bool (Xl l),.slice none 0 0,.slice none 0 0] fun W7 u7 k7=>?_
 refine xd 15 .z ?_
 have k7'1:=k7.below (Za W7)
 refine xb (.e [0] 1) 0 k7'1 ?_
 refine xb (.e [2] 3) 1 k7'1 ?_
 refine xb (.e [5] 6) 0 k7'1 ?_
 refine xb (.e [7] 8) 1 k7'1 ?_
 refine xr (.o [] 4) (args:=#[.int .i64 (Xr l),.bool (Xl l)]) (Mn (Xr l) (Xl l) _) fun W8 hb8=>?_
 refine xr (.o [] 9) (args:=#[.int .i64 (Xr l),.bool (Xl l)]) (Zbd (Xr l) (Xl l) _) fun W9 hb9=>?_
 refine xwm (.r [10,11] 5) ((↑(Xj l):Int)*8) (↑((Xj l)*8):Int) ?_
 refine xwm 0 (12+(↑((Xj l)*8):Int)) (↑(12+((Xj l)*8)):Int) ?_
 refine xwm 8 ((↑(Zn l):Int)*8) (↑((Zn l)*8):Int) ?_
 refine xwm 0 (12+(↑((Zn l)*8):Int)) (↑(12+((Zn l)*8)):Int) ?_
 refine xsB 1 (fun _ _ _ _ _ zo zx zy zz V=>Qb (k:=(12+((Zn l)*8))) (h:=(12+((Xj l)*8))) (b:=a) (n:=244) (c:=c) (i:=(↑(12+((Zn l)*8)):Int)) (ki:=.i64) (j:=(↑(12+((Xj l)*8)):Int)) (kj:=.i64) 1 zo zx zy rfl zz rfl (by omega) (by omega) Tryz.underlying22 (by kernel_rfl) V) ?_
 have hB'4:=bln (bln (bln (u7.below (bln hB'3 n6.below) g6) (Za W7)) hb8) hb9
 refine xr 0 (args:=#[.slice (Qm a (12+((Zn l)*8)) c 1) ((12+((Xj l)*8))-(12+((Zn l)*8))) (c-(12+((Zn l)*8)))]) (Bj (Qm a (12+((Zn l)*8)) c 1) ((12+((Xj l)*8))-(12+((Zn l)*8))) (c-(12+((Zn l)*8))) _ _ (by simp;omega) (by omega) ((Bys.cut h hl (12+((Zn l)*8)) (12+((Xj l)*8)) (by omega) (by omega)).below hB'4)) fun W10 hb10=>?_
 refine xg 2 [42,43] (!(Vc ((l.drop (Fk l)).take (Zbp l-Fk l)))) (fun hc11=>?_) (fun hc11=>?_)
 ·have hz1:Vc ((l.drop (Fk l)).take (Zbp l-Fk l))=false:=by simpa using hc11
  have k1'2:=((((u7.blk (k1.below n6.below) (Ne.symm (Ne.symm d6_b1))).below (Za W7)).below hb8).below hb9).below hb10
  refine xsv 16 k1'2 [.int .i64 0,.bool false,.slice none 0 0,.slice none 0 0] fun W12 u12 k12=>?_
  have g1:=n1.ge (Below.refl w.heap.size _)
  have hB'5:=u12.below (bln hB'4 hb10) g1
  refine xec 5 k12 (.tuple #[.agg #[.int .i64 0,.bool false,.slice none 0 0,.slice none 0 0],.int .i64 7]) ?_
  have he:Yv l=7:=by unfold Yv;simp[hs,Lh,hz1]
  exact .inl ⟨by rw[he];decide,by rw[he],hB'5⟩
 have hz1:Vc ((l.drop (Fk l)).take (Zbp l-Fk l))=true:=by simpa using hc11
 refine xwm 4 ((↑(Zn l):Int)*(↑(Xi l):Int)) (↑((Zn l)*(Xi l)):Int) ?_
 refine xwm 0 ((↑(12+((Xj l)*8)):Int)+(↑((Zn l)*(Xi l)):Int)) (↑((12+((Xj l)*8))+((Zn l)*(Xi l))):Int) ?_
 refine xsL 0 (fun _ _ _ _ zo zx zy V=>Yg (k:=((12+((Xj l)*8))+((Zn l)*(Xi l)))) (b:=a) (n:=244) (c:=c) (i:=(↑((12+((Xj l)*8))+((Zn l)*(Xi l))):Int)) (ki:=.i64) 1 zo zx zy rfl (by omega) Tryz.underlying22 (by kernel_rfl) V) ?_
 have hB'6:=bln hB'4 hb10
 refine xr 0 (args:=#[.slice (Qm a ((12+((Xj l)*8))+((Zn l)*(Xi l))) c 1) (244-((12+((Xj l)*8))+((Zn l)*(Xi l)))) (c-((12+((Xj l)*8))+((Zn l)*(Xi l))))]) (Bj (Qm a ((12+((Xj l)*8))+((Zn l)*(Xi l))) c 1) (244-((12+((Xj l)*8))+((Zn l)*(Xi l)))) (c-((12+((Xj l)*8))+((Zn l)*(Xi l)))) _ _ (by simp;omega) (by omega) ((Bys.cut h hl (12+((Xj l)*8)+((Zn l)*(Xi l))) 244 (by omega) (by omega)).below hB'6)) fun W13 hb13=>?_
 refine xi 4 (!(Vc ((l.drop (Fn l)).take (244-Fn l)))) (fun hc14=>?_) (fun hc14=>?_)
 ·have hz2:Vc ((l.drop (Fn l)).take (244-Fn l))=false:=by simpa using hc14
  have k1'3:=(((((u7.blk (k1.below n6.below) (Ne.symm (Ne.symm d6_b1))).below (Za W7)).below hb8).below hb9).below hb10).below hb13
  refine xsv 3 k1'3 [.int .i64 0,.bool false,.slice none 0 0,.slice none 0 0] fun W15 u15 k15=>?_
  have g1:=n1.ge (Below.refl w.heap.size _)
  have hB'7:=u15.below (bln hB'6 hb13) g1
  refine xec 5 k15 (.tuple #[.agg #[.int .i64 0,.bool false,.slice none 0 0,.slice none 0 0],.int .i64 7]) ?_
  have he:Yv l=7:=by unfold Yv;simp[hs,Lh,hz1,hz2]
  exact .inl ⟨by rw[he];decide,by rw[he],hB'7⟩
 have hz2:Vc ((l.drop (Fn l)).take (244-Fn l))=true:=by simpa using hc14
 have hnz:Lh l=true:=by unfold Lh;rw[hz1,hz2];rfl
 have hB'8:=bln hB'6 hb13
 have k1'4:=(((((u7.blk (k1.below n6.below) (Ne.symm (Ne.symm d6_b1))).below (Za W7)).below hb8).below hb9).below hb10).below hb13
 have k7'2:=(((k7'1.below hb8).below hb9).below hb10).below hb13
 refine zl 10 104 (fun zm zkv V=>∃ (i:Nat) (kp:Option Addr) (kc:Nat) (vp:Option Addr) (vc:Nat),zkv=[(0,.slice a 244 c),(2,.pointer (some ⟨b1,0,none⟩)),(4,.pointer (some ⟨b6,0,none⟩)),(7,.int .i64 (↑(Xi l):Int)),(9,.int .i64 (↑(12+((Xj l)*8)):Int)),(55,.int .i64 (↑(Zn l):Int)),(56,.int .i64 (↑i:Int))]∧zm=Zn l-((↑i:Int)).toNat∧Below w.heap.size w V∧Blk V b1 ([.int .i64 0,.bool false,.slice none 0 0,.slice none 0 0]) 188∧Blk V b6 ([.int .i64 (Xr l),.bool (Xl l),.slice kp i kc,.slice vp i vc]) 188∧V.ownsRow w.heap.size 3 1 (.slice kp i kc) i ((Yx l i).map (Value.int .i64))∧V.ownsRow w.heap.size 9 1 (.slice vp i vc) i ((Kw l i).map sv)∧i≤Zn l∧Yd l i=0) ⟨0,none,0,none,0,rfl,rfl,hB'8,k1'4,k7'2,World.ownsRow_nil _ _ _ _,World.ownsRow_nil _ _ _ _,Nat.zero_le _,rfl⟩ ?_
 rintro _ _ W16 ⟨i,kp,kc,vp,vc,rfl,rfl,hB_16,k16_b1,k16_b6,hK,hV,hi,hz⟩ J16 hJ16 r16
 have hiw:(i+1)*Xi l=i*Xi l+Xi l:=Nat.succ_mul i (Xi l)
 have hiw2:i<Zn l→(i+1)*Xi l≤Xj l*Xi l:=fun hh=>Nat.mul_le_mul_right _ (by omega)
 refine xid 6 ((↑i:Int)<(↑(Zn l):Int)) (fun hc17=>?_) (fun hc17=>?_)
 ·refine xwm 14 ((↑i:Int)*8) (↑(i*8):Int) ?_
  refine xwm 0 (12+(↑(i*8):Int)) (↑(12+(i*8)):Int) ?_
  refine xc 0 (args:=#[.slice a 244 c,.int .i64 (↑(12+(i*8)):Int),.int .i64 8]) (Get_P a 244 c (12+(i*8)) 8 l _ hl (by decide) (by omega) (by decide) (h.below hB_16) 8 rfl) ?_
  rintro e W18 hq18
  rcases hq18 with ⟨hgk,rfl,hb18⟩|⟨hgk,rfl,hb18⟩
  ·have k16_b6'1:=k16_b6.below hb18
   refine xb 17 2 k16_b6'1 ?_
   have hK'1:=Zb hK hb18
   refine xc 1 (args:=#[.slice kp i kc,.int .i64 (↑(Dz l i):Int)]) (node_keyP l kp i kc _ (Zf hK'1) (by omega)) ?_
   rintro e W19 hq19
   rcases hq19 with ⟨hz0,rfl,hb19⟩|⟨hz0,rfl,hb19⟩
   ·have k16_b6'2:=k16_b6'1.below hb19
    refine xb 16 2 k16_b6'2 ?_
    refine xbs 1 1 [.int .i64 (↑(Dz l i):Int)] 3 fun b20 W20 n20=>?_
    have hB'9:=bln (bln hB_16 hb18) hb19
    have g20:=n20.ge hB'9
    have hK'2:=Zb hK'1 hb19
    have r20_hK:=Zu hK'2 n20
    have hK'3:=Zb hK'2 n20.below
    have hB'10:=bln hB'9 n20.below
    refine xbi 0 fun _ _ _ _ zJ zQ zo zx zy zK=>Zp (m:=1) (news:=[.int .i64 (↑(Dz l i):Int)]) (.int .i64 0) 1 8 (i+1) ((Yx l (i+1)).map (Value.int .i64)) zo Tryz.underlying30 (by kernel_rfl) rfl (by decide) zx hK'3 zy (n20.blk.sl 1 1 (by decide) (by decide)) rfl (by simp[Value.oneCell']) (by unfold maxLen;omega) (by omega) hB'10.size (by rfl) (by rw[Cb,List.map_append];rfl) fun px21 cx21 W21 o21 hg21 hb21=>?_
    refine zK _ _ ?_
    have k16_b6'3:=(k16_b6'2.below n20.below).grown hg21 hK'3 (by decide)
    refine xs 1 k16_b6'3 [.int .i64 (Xr l),.bool (Xl l),.slice px21 (i+1) cx21,.slice vp i vc] fun W22 u22 k22=>?_
    refine xd 2 (.t w.heap.size [9,188]) ?_
    refine xwm (.e [0,2,3,4,5] 6) ((↑i:Int)*(↑(Xi l):Int)) (↑(i*(Xi l)):Int) ?_
    refine xwm (.e [] 7) ((↑(12+((Xj l)*8)):Int)+(↑(i*(Xi l)):Int)) (↑((12+((Xj l)*8))+(i*(Xi l))):Int) ?_
    refine xwm (.e [8,9] 10) ((↑i:Int)+1) (↑(i+1):Int) ?_
    refine xwm (.e [11] 12) ((↑(i+1):Int)*(↑(Xi l):Int)) (↑((i+1)*(Xi l)):Int) ?_
    refine xwm (.e [] 13) ((↑(12+((Xj l)*8)):Int)+(↑((i+1)*(Xi l)):Int)) (↑((12+((Xj l)*8))+((i+1)*(Xi l))):Int) ?_
    refine xsB (.e [] 14) (fun _ _ _ _ _ zo zx zy zz V=>Qb (k:=((12+((Xj l)*8))+(i*(Xi l)))) (h:=((12+((Xj l)*8))+((i+1)*(Xi l)))) (b:=a) (n:=244) (c:=c) (i:=(↑((12+((Xj l)*8))+(i*(Xi l))):Int)) (ki:=.i64) (j:=(↑((12+((Xj l)*8))+((i+1)*(Xi l))):Int)) (kj:=.i64) 1 zo zx zy rfl zz rfl (by omega) (by omega) Tryz.underlying22 (by kernel_rfl) V) ?_
    have hV'1:=Zb (u22.own2 (Zg (Zb (Zb (Zb hV hb18) hb19) n20.below) hg21 hK'3 (by decide)) k16_b6'3 (by decide)) (Za W22)
    have hB'11:=bln (u22.below (hB'10.trans hb21) g6) (Za W22)
    refine xcvt (.e [] 15) (.t w.heap.size [9,188]) (fun _ _ _ zo zx V hV'1=>Qi zo zx ((valN_bys h hl (by omega) hiw).below (Ky hB'11 hV'1 (Nat.le_refl _))) (valN_lenN hl (by omega) hiw) Tryz.underlying22 Tryz.underlying5 Tryz.underlying9) ?_
    refine xm2 0 1 16 ?_ ?_
    ·have k22'1:=k22.below (Za W22)
     refine xb 0 3 k22'1 ?_
     refine xbs (.o [] 16) 1 [.string ⟨(Dx l i).toArray⟩] 9 fun b23 W23 n23=>?_
     have g23:=n23.ge hB'11
     have r23_hV:=Zu hV'1 n23
     have hV'2:=Zb hV'1 n23.below
     have hB'12:=bln hB'11 n23.below
     refine ybi (.o [] 17) (.t w.heap.size [9,188]) fun _ _ _ _ zJ zQ zo zx zy zK=>Zp (m:=1) (news:=[.string ⟨(Dx l i).toArray⟩]) (.string ⟨#[]⟩) 1 16 (i+1) ((Kw l (i+1)).map sv) zo Tryz.underlying57 (by kernel_rfl) rfl (by decide) zx hV'2 zy (n23.blk.sl 1 1 (by decide) (by decide)) rfl (by simp[Value.oneCell']) (by unfold maxLen;omega) (by omega) hB'12.size (by rfl) (by rw[Hs,List.map_append];rfl) fun px24 cx24 W24 o24 hg24 hb24=>?_
     refine zK _ _ (Zr hb24 hg24 hV'2 (by decide)) ?_
     have k22'2:=(k22'1.below n23.below).grown hg24 hV'2 (by decide)
     refine ys (.o [18] 19) k22'2 [.int .i64 (Xr l),.bool (Xl l),.slice px21 (i+1) cx21,.slice px24 (i+1) cx24] (.t w.heap.size [9,188]) fun W25 u25 k25=>⟨(Zi u25 k22'2 g6 (by decide)),?_⟩
     refine xwm 4 ((↑i:Int)+1) (↑(i+1):Int) ?_
     have hB'13:=u25.below (hB'12.trans hb24) g6
     have k16_b1'1:=u25.blk ((((u22.blk ((((k16_b1.below hb18).below hb19).below n20.below).grown hg21 hK'3 (by decide)) (Ne.symm (Ne.symm d6_b1))).below (Za W22)).below n23.below).grown hg24 hV'2 (by decide)) (Ne.symm (Ne.symm d6_b1))
     have o21'1:=u25.own2 (Zg (Zb (Zb (u22.own2 o21 k16_b6'3 (by decide)) (Za W22)) n23.below) hg24 hV'2 (by decide)) k22'2 (by decide)
     have o24'1:=u25.own2 o24 k22'2 (by decide)
     exact ze 2 (hJ16 _ _ _ ⟨i+1,_,_,_,_,rfl,rfl,hB'13,k16_b1'1,k25,o21'1,o24'1,by omega,Vh hz hz0⟩ (by omega))
    refine xbs 0 1 [.string ⟨(Dx l i).toArray⟩] 9 fun b26 W26 n26=>?_
    have g26:=n26.ge hB'11
    have r26_hV:=Zu hV'1 n26
    have k22'3:=(k22.below (Za W22)).below n26.below
    refine xb (.o [] 1) 3 k22'3 ?_
    have hV'3:=Zb hV'1 n26.below
    have hB'14:=bln hB'11 n26.below
    refine ybi (.o [] 17) (.t w.heap.size [9,188]) fun _ _ _ _ zJ zQ zo zx zy zK=>Zp (m:=1) (news:=[.string ⟨(Dx l i).toArray⟩]) (.string ⟨#[]⟩) 1 16 (i+1) ((Kw l (i+1)).map sv) zo Tryz.underlying57 (by kernel_rfl) rfl (by decide) zx hV'3 zy (n26.blk.sl 1 1 (by decide) (by decide)) rfl (by simp[Value.oneCell']) (by unfold maxLen;omega) (by omega) hB'14.size (by rfl) (by rw[Hs,List.map_append];rfl) fun px27 cx27 W27 o27 hg27 hb27=>?_
    refine zK _ _ (Zr hb27 hg27 hV'3 (by decide)) ?_
    have k22'4:=k22'3.grown hg27 hV'3 (by decide)
    refine ys (.o [18] 19) k22'4 [.int .i64 (Xr l),.bool (Xl l),.slice px21 (i+1) cx21,.slice px27 (i+1) cx27] (.t w.heap.size [9,188]) fun W28 u28 k28=>⟨(Zi u28 k22'4 g6 (by decide)),?_⟩
    refine xwm 4 ((↑i:Int)+1) (↑(i+1):Int) ?_
    have hB'15:=u28.below (hB'14.trans hb27) g6
    have k16_b1'2:=u28.blk ((((u22.blk ((((k16_b1.below hb18).below hb19).below n20.below).grown hg21 hK'3 (by decide)) (Ne.symm (Ne.symm d6_b1))).below (Za W22)).below n26.below).grown hg27 hV'3 (by decide)) (Ne.symm (Ne.symm d6_b1))
    have o21'2:=u28.own2 (Zg (Zb (Zb (u22.own2 o21 k16_b6'3 (by decide)) (Za W22)) n26.below) hg27 hV'3 (by decide)) k22'4 (by decide)
    have o27'1:=u28.own2 o27 k22'4 (by decide)
    exact ze 2 (hJ16 _ _ _ ⟨i+1,_,_,_,_,rfl,rfl,hB'15,k16_b1'2,k28,o21'2,o27'1,by omega,Vh hz hz0⟩ (by omega))
   refine xk 10 (show(((Nt l i) != (0:Int)):Bool)=true from bne_iff_ne.2 hz0) ?_
   have k16_b1'3:=(k16_b1.below hb18).below hb19
   refine xsv 4 k16_b1'3 [.int .i64 0,.bool false,.slice none 0 0,.slice none 0 0] fun W29 u29 k29=>?_
   have g1:=n1.ge (Below.refl w.heap.size _)
   have hB'16:=u29.below (bln (bln hB_16 hb18) hb19) g1
   refine xec 10 k29 (.tuple #[.agg #[.int .i64 0,.bool false,.slice none 0 0,.slice none 0 0],.int .i64 (Nt l i)]) ?_
   have he:Yv l=Nt l i:=by unfold Yv;rw[if_pos hs,if_pos hnz,Uq hz hz0 (by omega)]
   exact .inl ⟨by rw[he];exact hz0,by rw[he],hB'16⟩
  have k16_b1'4:=k16_b1.below hb18
  refine xsv 29 k16_b1'4 [.int .i64 0,.bool false,.slice none 0 0,.slice none 0 0] fun W30 u30 k30=>?_
  have g1:=n1.ge (Below.refl w.heap.size _)
  have hB'17:=u30.below (bln hB_16 hb18) g1
  refine xec 10 k30 (.tuple #[.agg #[.int .i64 0,.bool false,.slice none 0 0,.slice none 0 0],.int .i64 2]) ?_
  have hke:Nt l i=2:=by unfold Nt;rw[if_pos (by unfold Dz;omega)]
  have he:Yv l=2:=by unfold Yv;rw[if_pos hs,if_pos hnz,Uq hz (by rw[hke];decide) (by omega),hke]
  exact .inl ⟨by rw[he];decide,by rw[he],hB'17⟩
 refine xlv 7 k16_b6.rp ?_
 refine xsv 0 k16_b1 [.int .i64 (Xr l),.bool (Xl l),.slice kp i kc,.slice vp i vc] fun W31 u31 k31=>?_
 have g1:=n1.ge (Below.refl w.heap.size _)
 have hB'18:=u31.below hB_16 g1
 have hK'4:=u31.own2 hK k16_b1 (by decide)
 have hV'4:=u31.own2 hV k16_b1 (by decide)
 refine xec 4 k31 (.tuple #[.agg #[.int .i64 (Xr l),.bool (Xl l),.slice kp i kc,.slice vp i vc],.int .i64 0]) ?_
 obtain rfl:i=Zn l:=by omega
 exact .inr ⟨by unfold Yv;rw[if_pos hs,if_pos hnz,hz],_,_,_,_,rfl,hB'18,hK'4,hV'4⟩
end Go.Proofs.YthlakkdgcgkcdaaGreatDoor
