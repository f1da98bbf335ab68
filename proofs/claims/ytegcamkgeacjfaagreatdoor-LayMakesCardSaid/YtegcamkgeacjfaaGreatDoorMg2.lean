/- crc.Sum of one slice, and package seal: Salt, known, sum and Seal. -/
import Derived.Deep.MidRow
import Derived.Lib.BufferWrite
import Derived.Lib.AppendStr
import Derived.Test.YtegcamkgeacjfaaGreatDoorMg1
namespace Go.Proofs.YtegcamkgeacjfaaGreatDoor
set_option maxHeartbeats 8000000
set_option maxRecDepth 100000
open Go.RowKit Go.Extern.Stop Go.Stop Go.Extern
set_option linter.unusedVariables false
attribute [local irreducible] wpList wpAnyH Code.wp Oper.wp Go
def Ke(l:Bl):Nat:=Xa 4294967295 l ^^^ 4294967295
theorem Wd(l:Bl):Ke l<4294967296:=Nat.xor_lt_two_pow (n:=32) (Ga (by decide) l) (by decide)
theorem Mz{n:Nat}(h:n<9223372036854775808):IntKind.i64.wrap (n:Int)=(n:Int):=IntWalk.i64_in _ (by omega)
theorem Ff{a b:Nat}(ha:a<4294967296)(hb:b<4294967296):IntKind.i64.wrap (↑(BitVec.ofInt 64 (a:Int) ^^^ BitVec.ofInt 64 (b:Int)).toNat:Int)=((a ^^^ b:Nat):Int):=by
 rw[BitVec.ofInt_natCast,BitVec.ofInt_natCast,BitVec.toNat_xor,BitVec.toNat_ofNat,BitVec.toNat_ofNat,Nat.mod_eq_of_lt (by omega),Nat.mod_eq_of_lt (by omega)]
 have:=Nat.xor_lt_two_pow (n:=32) ha hb
 exact Mz (by omega)
theorem crc_Sum1(g:Nat)(a:O0)(c:Nat)(l:Bl)(w:World)(hk:Blk w g [.slice a l.length c] 40)(h:Bys w (.slice a l.length c) l)(hl:l.length≤100000000) :
 C0 216 #[.slice (S1 g) 1 1] w (Ret (V0 (Ke l:Int)) w):=by
 refine zin 19 Tryz.func216 ?_
 refine xu 19 3 ?_
 refine xb 14 0 hk ?_
 refine xr 6 (args:=#[.int .u32 4294967295,.slice a l.length c]) (crc_run 4294967295 (by decide) a c l _ (h.below (B4 w)) hl) fun W1 a0=>?_
 refine xq 24 (congrArg (Value.int .u32) (show(IntKind.u32.wrap (↑(BitVec.ofInt 32 (↑(Xa 4294967295 l):Int) ^^^ BitVec.ofInt 32 (4294967295:Int)).toNat:Int):Int)=(↑(Ke l):Int) from Eu (b:=4294967295) (Ga (by decide) l) (by decide))) ?_
 refine xq 0 (congrArg V0 (show(IntKind.i64.wrap (↑(Ke l):Int):Int)=(↑(Ke l):Int) from Mz (by have:=Wd l;omega))) ?_
 exact xe 4 (V0 (↑(Ke l):Int)) ⟨rfl,a0⟩
theorem crc_Sum1N(g:Nat)(a:O0)(n c:Nat)(l:Bl)(w:World)(hn:l.length=n)(hk:Blk w g [.slice a n c] 40)(h:Bys w (.slice a n c) l)(hl:n≤100000000) :
 C0 216 #[.slice (S1 g) 1 1] w (Ret (V0 (Ke l:Int)) w):=by
 subst hn;exact crc_Sum1 g a c l w hk h hl
def Ho(kind:Int):Nat:=if kind=1 then 160774 else if kind=2 then 121107 else if kind=3 then 240779 else if kind=4 then 160478 else 0
theorem Cx(kind:Int):Ho kind<4294967296:=by unfold Ho;(repeat' split)<;>omega
theorem Zgc(kind:Int)(w:World) :
 C0 217 #[V0 kind] w (Ret (V0 (Ho kind:Int)) w):=by
 refine zin 12 Tryz.func217 ?_
 refine xie 18 kind (1:Int) (fun a0=>?_) (fun a0=>?_)
 ·exact xe 8 (V0 160774) ⟨by simp_all [Ho],(B4 w)⟩
 refine xie 6 kind (2:Int) (fun a3=>?_) (fun a3=>?_)
 ·exact xe 8 (V0 121107) ⟨by simp_all [Ho],(B4 w)⟩
 refine xie 6 kind (3:Int) (fun a2=>?_) (fun a2=>?_)
 ·exact xe 8 (V0 240779) ⟨by simp_all [Ho],(B4 w)⟩
 refine xie 6 kind (4:Int) (fun a1=>?_) (fun a1=>?_)
 ·exact xe 8 (V0 160478) ⟨by simp_all [Ho],(B4 w)⟩
 exact xe 9 (V0 0) ⟨by simp_all [Ho],(B4 w)⟩
theorem Zff(kind no:Int)(h1:1≤kind)(h2:kind≤4)(h3:0≤no)(h4:no<14400)(w:World) :
 C0 133 #[V0 kind,V0 no] w (Ret (.bool true) w):=by
 refine zin 19 Tryz.func133 ?_
 refine xgk 10 [6,7] (show(decide (kind≥(1:Int)):Bool)=true from decide_eq_true h1) ?_
 refine xgk 4 [9,10,11] (show(decide (kind≤(4:Int)):Bool)=true from decide_eq_true h2) ?_
 refine xgk 4 [13,14,15] (show(decide (no≥(0:Int)):Bool)=true from decide_eq_true h3) ?_
 exact xe 7 (.bool (decide (no<(14400:Int)))) ⟨by rw[decide_eq_true h4],(B4 w)⟩
theorem Bys.take{w:World}{a:O0}{n c:Nat}{l:Bl}(h:Bys w (.slice a n c) l)(hn:l.length=n)(m:Nat)(hm:m≤n):Bys w (.slice a m c) (l.take m):=by
 have a0:(l.take m).length=m:=by simp;omega
 rcases h with ⟨a',c',h1,h2,h3⟩|⟨b,a1,a3,h1,h2,h3,h4⟩
 ·obtain rfl:m=0:=by omega
  simp only[Value.slice.injEq] at h1
  exact .inl ⟨a,c,rfl,by simp,by simp⟩
 ·simp only[Value.slice.injEq] at h1
  obtain⟨rfl,_,rfl⟩:=h1
  refine .inr ⟨b,a1,c,by rw[a0],by omega,h3,fun j x hj=>h4 j x ?_⟩
  have a2:j<m:=by have:=(List.getElem?_eq_some_iff.1 hj).1;simp at this;omega
  rwa [List.map_take,List.getElem?_take_of_lt a2] at hj
def Ik(l:Bl)(kind:Int):Nat:=Ke (l.take 252) ^^^ Ho kind
theorem sumB_lt(l:Bl)(kind:Int):Ik l kind<4294967296:=Nat.xor_lt_two_pow (n:=32) (Wd _) (Cx _)
theorem Zbq(kind:Int)(a:O0)(c:Nat)(l:Bl)(w:World)(hn:l.length=256)(hc:256≤c)(h:Bys w (.slice a 256 c) l) :
 C0 136 #[.slice a 256 c,V0 kind] w (Ret (V0 (Ik l kind:Int)) w):=by
 refine zin 12 Tryz.func136 ?_
 refine xsH 8 (fun _ _ _ _ zo zx zy V=>Gg (k:=252) (b:=a) (n:=256) (c:=c) (i:=252) (ki:=.i64) zo zx zy rfl (by omega) Tryz.underlying40 (by kernel_rfl) V) ?_
 refine xbs 0 1 [.slice a 252 c] 40 fun b1 W1 n1=>?_
 refine xr 0 (args:=#[.slice (S1 b1) 1 1]) (crc_Sum1N b1 a 252 c (l.take 252) _ (by simp;omega) n1.blk ((h.take hn 252 (by decide)).below n1.below) (by decide)) fun W2 a2=>?_
 refine xr 1 (args:=#[V0 kind]) (Zgc kind _) fun W3 a1=>?_
 refine xq 0 (congrArg V0 (show(IntKind.i64.wrap (↑(BitVec.ofInt 64 (↑(Ke (l.take 252)):Int) ^^^ BitVec.ofInt 64 (↑(Ho kind):Int)).toNat:Int):Int)=(↑(Ik l kind):Int) from Ff (Wd _) (Cx _))) ?_
 have a0:=bln (bln n1.below a2) a1
 exact xe 4 (V0 (↑(Ik l kind):Int)) ⟨rfl,a0⟩
theorem Vp{l:Bl}{k:Nat}{x:Bl}(h:k+x.length≤l.length):(Vc l k x).length=l.length:=by simp[Vc];omega
theorem Dr(n:Nat):Hs (Value.int .u8 0).cells.toList n=(List.replicate n (0:UInt8)).map bv:=by
 rw[show(Value.int .u8 0).cells.toList=[Value.int .u8 0] from rfl,Hs,List.map_replicate]
 induction n with
 | zero=>rfl
 | succ n ih=>rw[List.replicate_succ,List.flatten_cons,ih,List.replicate_succ];rfl
theorem Xp{w:World}{v:Value}{n:Nat}{l:Bl}(h:Sl w v n (l.map bv))(hn:l.length=n):Bys w v l:=by subst hn;exact h
theorem Ty{w:World}{base n c size:Nat}{e:TypeId}{p:O0}{xs:List Value}(h:w.ownsRow base e size (.slice p n c) n xs)(hn:0<n):n≤c:=by
 rcases h.2 with ⟨_,h0⟩|⟨g,a0,a1,hv,_,_,hc,_⟩
 ·omega
 ·simp only[Value.slice.injEq] at hv;omega
theorem putN{m:Nat}{l:Bl}{k:Nat}{x:Bl}{w:World}{e:Ending}{w':World}(hm:l.length=m)(hk:k+x.length≤m)(h:Qn (fun w' r=>∃ v,r=.tuple #[v,V0 0]∧Pe w.heap.size w' v (Vc l k x)) w e w') :
 Qn (fun w' r=>∃ p c,r=.tuple #[.slice p m c,V0 0]∧w'.ownsRow w.heap.size 5 1 (.slice p m c) m ((Vc l k x).map bv)) w e w':=by
 obtain⟨r,h1,h2,v,h3,h4⟩:=h
 unfold Pe at h4
 rw[Vp (by omega),hm] at h4
 obtain⟨p,c,rfl⟩:=(Zf h4).slice
 exact⟨r,h1,h2,p,c,h3,h4⟩
theorem Put_4N(a:O0)(m c k:Nat)(ki:Int)(l:Bl)(n:Int)(w:World)(hm:l.length=m)(hki:ki=(k:Int))(h:Bys w (.slice a m c) l)(hl:m≤100000)(hk:k+4≤m)(h0:0≤n)(hb:n<4294967296) :
 C0 241 #[.slice a m c,V0 ki,V0 4,V0 n] w (Qn (fun w' r=>∃ p c,r=.tuple #[.slice p m c,V0 0]∧w'.ownsRow w.heap.size 5 1 (.slice p m c) m ((Vc l k (leB n 4)).map bv)) w):=by
 subst hki
 refine(show Calls _ _ #[.slice a m c,V0 (k:Int),V0 4,V0 n] w _ from ?_)
 have:=Put_4 a c k l n w (by rw[hm];exact h) (by omega) (by omega) h0 hb
 rw[hm] at this
 exact this.mono fun e w' q=>putN hm (by rw[Zh];omega) q
theorem Put_2N(a:O0)(m c k:Nat)(ki:Int)(l:Bl)(n:Int)(w:World)(hm:l.length=m)(hki:ki=(k:Int))(h:Bys w (.slice a m c) l)(hl:m≤100000)(hk:k+2≤m)(h0:0≤n)(hb:n<65536) :
 C0 241 #[.slice a m c,V0 ki,V0 2,V0 n] w (Qn (fun w' r=>∃ p c,r=.tuple #[.slice p m c,V0 0]∧w'.ownsRow w.heap.size 5 1 (.slice p m c) m ((Vc l k (leB n 2)).map bv)) w):=by
 subst hki
 have:=Put_2 a c k l n w (by rw[hm];exact h) (by omega) (by omega) h0 hb
 rw[hm] at this
 exact this.mono fun e w' q=>putN hm (by rw[Zh];omega) q
def Fk(li:Bl):Bl:=Vc (List.replicate 256 0) 8 li
def Sr(no:Int)(li:Bl):Bl:=Vc (Fk li) 0 (leB no 4)
def Hv(kind no:Int)(li:Bl):Bl:=Vc (Sr no li) 4 (leB kind 2)
def Xw(kind no:Int)(li:Bl):Bl:=Vc (Hv kind no li) 252 (leB (Ik (Hv kind no li) kind) 4)
theorem Js{li:Bl}(h:li.length≤244):(Fk li).length=256:=by rw[Fk,Vp (by rw[List.length_replicate];omega),List.length_replicate]
theorem Hc{no:Int}{li:Bl}(h:li.length≤244):(Sr no li).length=256:=by rw[Sr,Vp (by rw[Zh,Js h];omega),Js h]
theorem Vh{kind no:Int}{li:Bl}(h:li.length≤244):(Hv kind no li).length=256:=by rw[Hv,Vp (by rw[Zh,Hc h];omega),Hc h]
theorem Uv{kind no:Int}{li:Bl}(h:li.length≤244):(Xw kind no li).length=256:=by rw[Xw,Vp (by rw[Zh,Vh h];omega),Vh h]
theorem seal_Seal(kind no:Int)(h1:1≤kind)(h2:kind≤4)(h3:0≤no)(h4:no<14400)(a:O0)(c:Nat)(li:Bl)(w:World)(hl:li.length≤244)(h:Bys w (.slice a li.length c) li) :
 C0 170 #[V0 kind,V0 no,.slice a li.length c] w (Qn (fun w' r=>∃ p c,r=.tuple #[.slice p 256 c,V0 0]∧w'.ownsRow w.heap.size 5 1 (.slice p 256 c) 256 ((Xw kind no li).map bv)) w):=by
 refine zin 54 Tryz.func170 ?_
 refine xr 11 (args:=#[V0 kind,V0 no]) (Zff kind no h1 h2 h3 h4 _) fun W1 c6=>?_
 refine xk 14 (show(decide ((li.length:Int)>(244:Int)):Bool)=false from decide_eq_false (by omega)) ?_
 refine xmk 4 fun _ _ _ _ zJ zQ zo zx zy zK=>Kn 256 (.int .u8 0) 1 1 ((List.replicate 256 (0:UInt8)).map bv) zo zx zy Tryz.underlying40 (by kernel_rfl) rfl (by omega) (by omega) (Dr 256) fun b2 W2 n2=>?_
 refine zK _ _ ?_
 have o2:=Zw (size:=1) (n:=256) n2.blk (n2.ge c6) (by simp) (by unfold maxLen;omega)
 have hB:=bln c6 n2.below
 refine xbi 8 (t2:=40) fun _ _ _ _ zJ zQ zo zx zy zK=>Uw (dLen:=248) (dCap:=248) (off:=8) li.length (li.map bv) ((Fk li).map bv) zo Tryz.underlying40 (by kernel_rfl) zx zy (h.below hB) o2 (by simp) (by omega) (by omega) (Xs li) hB.size (by simp[Fk,Vc,List.map_drop]) fun W3 o3 d3 c9=>?_
 refine zK _ _ ?_
 refine xbs 9 2 [V0 0,V0 4,V0 no,V0 4,V0 2,V0 kind] 353 fun b4 W4 n4=>?_
 have a6:=hB.trans c9
 have g4:=n4.ge a6
 refine xu 5 4 ?_
 refine xlv 14 (n4.blk.rpp 0 3) ?_
 refine xa 0 [V0 0,V0 0,V0 0] 353 fun b5 W5 n5=>?_
 have a5:=n5.ne n4.blk
 have a3:=bln a6 n4.below
 have g5:=n5.ge a3
 refine xsv 0 n5.blk [V0 0,V0 4,V0 no] fun W6 u6 k6=>?_
 refine xb 5 0 k6 ?_
 refine xb 1 1 k6 ?_
 refine xb 1 2 k6 ?_
 have a8:=u6.own2 (Zb (Zb o3 n4.below) n5.below) n5.blk (by decide)
 refine xc 0 (args:=#[.slice (S1 b2) 256 256,V0 0,V0 4,V0 no]) (Put_4N (S1 b2) 256 256 0 0 (Fk li) (no) _ (Js hl) rfl (Xp (Zf a8) (Js hl)) (by decide) (by decide) (h3) (by omega)) ?_
 rintro _ W7 ⟨_,rfl,a9,p1,c1,rfl,o1⟩
 have c8:=(u6.below (bln a3 n5.below) g5).size
 have a4:=(u6.blk (n4.blk.below n5.below) (Ne.symm (Ne.symm a5))).below a9
 refine xlv 26 (a4.rpp 3 3) ?_
 refine xa 0 [V0 0,V0 0,V0 0] 353 fun b8 W8 n8=>?_
 have c7:=n8.ne a4
 have b1:=k6.below a9
 have c5:=n8.ne b1
 have a0:=bln (u6.below (bln a3 n5.below) g5) a9
 have g8:=n8.ge a0
 refine xsv 0 n8.blk [V0 4,V0 2,V0 kind] fun W9 u9 k9=>?_
 refine xb 5 0 k9 ?_
 refine xb 1 1 k9 ?_
 refine xb 1 2 k9 ?_
 have b9:=u9.own2 (Zb (Ze o1 c8) n8.below) n8.blk (by decide)
 refine xc 0 (args:=#[.slice p1 256 c1,V0 4,V0 2,V0 kind]) (Put_2N p1 256 c1 4 4 (Sr no li) (kind) _ (Hc hl) rfl (Xp (Zf b9) (Hc hl)) (by decide) (by decide) (by omega) (by omega)) ?_
 rintro _ d4 ⟨_,rfl,a7,p2,c2,rfl,o2⟩
 have b3:=(u9.below (bln a0 n8.below) g8).size
 have a2:=Ze o2 b3
 refine xr 29 (args:=#[.slice p2 256 c2,V0 kind]) (Zbq kind p2 c2 (Hv kind no li) _ (Vh hl) (Ty a2 (by decide)) (Xp (Zf a2) (Vh hl))) fun d1 a1=>?_
 have b7:=Zb a2 a1
 refine xc 0 (args:=#[.slice p2 256 c2,V0 252,V0 4,V0 (↑(Ik (Hv kind no li) kind):Int)]) (Put_4N p2 256 c2 252 252 (Hv kind no li) ((Ik (Hv kind no li) kind:Int)) _ (Vh hl) rfl (Xp (Zf b7) (Vh hl)) (by decide) (by decide) (Int.natCast_nonneg _) (by have:=sumB_lt (Hv kind no li) kind;omega)) ?_
 have d0:=Zb a8 a9
 rintro _ d2 ⟨_,rfl,b6,p3,c3,rfl,o3⟩
 have b0:=(bln (bln (u9.below (bln a0 n8.below) g8) a7) a1).size
 have c4:=bln (bln (bln (u9.below (bln a0 n8.below) g8) a7) a1) b6
 have c0:=Ze o3 b0
 exact xe 14 (.tuple #[.slice p3 256 c3,V0 0]) ⟨_,rfl,c4,_,_,rfl,c0⟩
end Go.Proofs.YtegcamkgeacjfaaGreatDoor
namespace Go.Proofs.YtegcamkgeacjfaaGreatDoor
set_option maxHeartbeats 8000000
set_option maxRecDepth 100000
open Go.RowKit
set_option linter.unusedVariables false
section
variable {P:Program} {Q:Exit→Act→World→Prop} {a:Act} {w:World} {K:Act→World→Prop}
theorem Zc1{o:Oper}{t e:TypeId}{x y y2 y3:Operand}{b off n k h c:Nat}{i j j2:Int}{ki kj kj2:IntKind}(size off' d:Nat)(ho:o.op=.slice t x (some y) (some y2) (some y3))(hx:a.eval x=.slice (some ⟨b,off,none⟩) n c)(hy:a.eval y=.int ki i)(hi:i=(k:Int))(hy2:a.eval y2=.int kj j)(hj:j=(h:Int))(hy3:a.eval y3=.int kj2 j2)(hj2:j2=(h:Int))
 (hk:k<h) (hc:h≤c) (hoff:off+k*size=off') (hd:h-k=d) (ht:P.underlying t=some (.slice e)) (hs:(P.info? e).map (·.size)=some size) (w:World):(execOp a.eval o).run P w=.ok (.value (.slice (some ⟨b,off',none⟩) d d)) w:=by
 cases hq:P.info? e with
 | none=>simp[hq] at hs
 | some q =>
  have hj:q.size=size:=by simpa [hq] using hs
  subst hi hj hj2 hoff hd
  have h1:(0:Int)≤(k:Int):=by omega
  have h2:(0:Int)≤(h:Int):=by omega
  have h3:(k:Int)≤(h:Int):=by omega
  have h4:(h:Int)≤(c:Int):=by omega
  have h5:¬ h=k:=by omega
  simp_all [execOp,Instr.sliceAt,Instr.slice,Instr.sliceBounds,Instr.sliceBound,asIntOf,run_underlying ht,sizeOf,typeInfo,Addr.add_mid]
def Gj(b:O0)(k c size:Nat):O0:=if c=k then b else b.map (·.add (k*size))
theorem Na{o:Oper}{t e:TypeId}{x y:Operand}{b:O0}{n k c:Nat}{i:Int}{ki:IntKind}(size:Nat)(ho:o.op=.slice t x (some y) none none)(hx:a.eval x=.slice b n c)(hy:a.eval y=.int ki i)(hi:i=(k:Int))(hk:k≤n)
 (ht:P.underlying t=some (.slice e)) (hs:(P.info? e).map (·.size)=some size) (w:World):(execOp a.eval o).run P w=.ok (.value (.slice (Gj b k c size) (n-k) (c-k))) w:=by
 cases hq:P.info? e with
 | none=>simp[hq] at hs
 | some j =>
  have hj:j.size=size:=by simpa [hq] using hs
  subst hi
  have h1:(0:Int)≤(k:Int):=by omega
  have h2:(k:Int)≤(n:Int):=by omega
  by_cases h3:c=k
  ·simp[execOp,ho,hx,hy,Instr.sliceAt,Instr.slice,Instr.sliceBounds,Instr.sliceBound,asIntOf,run_underlying ht,sizeOf,typeInfo,hq,hk,h3,Gj]
  ·simp[execOp,ho,hx,hy,Instr.sliceAt,Instr.slice,Instr.sliceBounds,Instr.sliceBound,asIntOf,run_underlying ht,sizeOf,typeInfo,hq,hj,hk,h3,Gj]
end
end Go.Proofs.YtegcamkgeacjfaaGreatDoor
namespace Go.Proofs.YtegcamkgeacjfaaGreatDoor
set_option maxHeartbeats 8000000
set_option maxRecDepth 100000
open Go.RowKit Go.Extern.Stop Go.Stop Go.Extern
set_option linter.unusedVariables false
theorem errno_eq{P:Program}(w:World){ti tn:TypeId}{ms:Array (String×TypeId)}{i:TypeInfo}{k:IntKind}(a b:Int)
 (hi:P.underlying ti=some (.interface ms)) (hn:P.underlying tn=some (.int k)) (hinfo:P.info? tn=some i) (hcomp:i.comparable=true) :
 (binOp .eql ti (.iface tn (.int k a)) (.iface tn (.int k b))).run P w=.ok (.bool (a==b)) w:=by
 have h:∀ d:Nat,(Op.equalIn (d+2) ti (.iface tn (.int k a)) (.iface tn (.int k b))).run P w=.ok (a==b) w:=fun d=>by simp[Op.equalIn,run_underlying hi,run_underlying hn,typeInfo,hinfo,hcomp]
 simp only[binOp]
 simp[Op.equal,Op.maxDepth,h 9998]
theorem Tryz.eqN(a b:Int)(w:World):(binOp .eql 29 (.iface 63 (V0 a)) (.iface 63 (V0 b))).run Tryz.prog w=.ok (.bool (a==b)) w:=by
 obtain⟨i,h1,h2⟩:=Option.map_eq_some_iff.1 (show(Tryz.prog.info? 63).map (·.comparable)=some true by kernel_rfl)
 exact errno_eq w a b Tryz.underlying29 Tryz.underlying63 h1 h2
theorem Tryz.methComparable (h : Value) (w : World) : (Go.method 562 360 (.agg #[h]) "Comparable").run Tryz.prog w = .ok (347, .agg #[h]) w := by kernel_rfl
theorem Tryz.comparableN(w:World):(callFunc 347 #[.agg #[.pointer (some ⟨1,63,none⟩)]]).run Tryz.prog w=.ok (Next.value (.bool true)) w:=by kernel_rfl
theorem Zem(c d:Int)(w:World):C0 276 #[.iface 63 (V0 c),.iface 63 (V0 d),.bool true] w (Ret (.bool (c==d)) w):=by
 have y1:=Tryz.eqN
 have y2:=Tryz.noIsN
 have y3:=Tryz.noUnwrapN
 have y4:=Tryz.noUnwrapsN
 go_enter Tryz.func276,Tryz.ntmps276
 go_wp2_with fail
 go_loopw [0] (fun v wr=>v=.iface 63 (V0 c)∧wr=w) (fun _ _=>0)
 case atStart=>exact⟨rfl,rfl⟩
 case round =>
  obtain⟨rfl,rfl⟩:=hrel
  by_cases h:c=d
  ·have h':(c==d)=true:=by simpa using h
   have HH:=Lib.hid h;clear h
   go_wp2_with fail
   go_ret
   exact⟨by rw[h'];rfl,Below.refl _ _⟩
  ·have h':(c==d)=false:=by simpa using h
   have HH:=Lib.hid h;clear h
   go_wp2_with fail
   go_ret
   exact⟨by rw[h'];rfl,Below.refl _ _⟩
theorem Fz(c d:Int)(w:World):C0 242 #[.iface 63 (V0 c),.iface 63 (V0 d)] w (Ret (.bool (c==d)) w):=by
 have a0:=@run_callFunc_extern Tryz.prog 251 _ ReflectliteType.typeOf Tryz.func251 (by kernel_rfl) (by kernel_rfl) (by kernel_rfl) (by kernel_rfl)
 have y1:=Tryz.typeOfN
 have y2:=Tryz.methComparable
 have y3:=Tryz.comparableN
 go_enter Tryz.func242,Tryz.ntmps242
 go_wp2_with fail
 refine(Zem c d _).mono ?_
 rintro e w' ⟨rfl,hb⟩
 go_wp2_with fail
 go_ret
 exact⟨rfl,hb⟩
theorem Ze8(no c:Int)(w:World):C0 172 #[V0 no,.iface 63 (V0 c)] w (Qn (fun w' r=>Gw w' (if c=0 then [] else [some no]) (if c=0 then none else some c) r) w):=by
 by_cases h:c=0
 ·subst h
  go_enter Tryz.func172,Tryz.ntmps172
  go_wp2_with fail
  refine(Fz 0 0 _).mono ?_
  rintro e w1 ⟨rfl,hb⟩
  rw[show((0:Int)==0)=true from rfl]
  go_wp2_with fail
  go_ret
  exact⟨_,rfl,hb,rfl⟩
 ·have h':(c==0)=false:=by simpa using h
  simp only[h,if_false]
  have HC:=Lib.hid h;clear h
  go_enter Tryz.func172,Tryz.ntmps172
  go_wp2_with fail
  refine(Fz c 0 _).mono ?_
  rintro e w1 ⟨rfl,hb⟩
  rw[h']
  go_wp2_with fail
  refine(fault_At no (some c) [] _ w1 rfl).mono ?_
  rintro e w2 ⟨r,rfl,a0,h2⟩
  go_wp2_with fail
  go_ret
  exact⟨_,rfl,bln hb a0,h2⟩
theorem Blk.range{w:World}{b:Nat}{cs:List Value}{t:TypeId}(h:Blk w b cs t):w.rangeAt b 0 cs:=fun j v hj=>by rw[Nat.zero_add];exact h.cell hj
theorem Blk.there{w:World}{b:Nat}{cs:List Value}{t:TypeId}(h:Blk w b cs t){n:Nat}(hn:n=cs.length):w.there b 0 n:=fun j hj=>by
 rw[Nat.zero_add]
 exact⟨by rw[h.cell (List.getElem?_eq_getElem (by omega))];rfl,h.frozen j⟩
end Go.Proofs.YtegcamkgeacjfaaGreatDoor
namespace Go.Proofs.YtegcamkgeacjfaaGreatDoor
set_option maxHeartbeats 8000000
set_option maxRecDepth 100000
open Go.RowKit Go.Extern.Stop Go.Stop Go.Extern
set_option linter.unusedVariables false
attribute [local irreducible] wpList wpAnyH Code.wp Oper.wp Go
theorem quo_nat(n k:Nat)(hn:n<9223372036854775808)(hk:0<k):IntKind.i64.wrap (Int.tdiv (n:Int) (k:Int))=((n/k:Nat):Int):=by
 rw[Int.tdiv_eq_ediv_of_nonneg (Int.natCast_nonneg _),←Int.natCast_ediv]
 exact Mz (Nat.lt_of_le_of_lt (Nat.div_le_self _ _) hn)
theorem Zcv(a b:Nat):(if(b:Int)<(a:Int) then(b:Int) else(a:Int))=((min a b:Nat):Int):=by split<;>omega
theorem Ys(b:Nat)(p:O0)(n c:Nat)(w:World)(hk:Blk w b [.slice p n c] 95)(hn:n≤100000000) :
 C0 25 #[P0 b] w (Ret (V0 ((n/256:Nat):Int)) w):=by
 refine zin 11 Tryz.func25 ?_
 refine xb 20 0 hk ?_
 refine xq 1 (congrArg V0 (show(IntKind.i64.wrap (Int.tdiv (n:Int) 256):Int)=(↑(n/256):Int) from quo_nat n 256 (by omega) (by decide))) ?_
 exact xe 4 (V0 (↑(n/256):Int)) ⟨rfl,(B4 w)⟩
theorem Dj(b g:Nat)(n c k:Nat)(w:World)(hk:Blk w b [.slice (S1 g) n c] 95)(hn:n≤100000000)(hc:n≤c)(hkn:k<n/256) :
 C0 65 #[P0 b,V0 (k:Int)] w (Ret (.tuple #[.slice (some ⟨g,k*256,none⟩) 256 256,V0 0]) w):=by
 refine zin 33 Tryz.func65 ?_
 refine xgk 21 [13,14] (show(decide ((k:Int)<(0:Int)):Bool)=false from decide_eq_false (by omega)) ?_
 refine xr 2 (args:=#[P0 b]) (Ys b _ n c _ (hk.below (B4 w)) hn) fun W2 a1=>?_
 refine xk 5 (show(decide ((k:Int)≥(↑(n/256):Int)):Bool)=false from decide_eq_false (by omega)) ?_
 refine xwm 6 ((k:Int)*256) (↑(k*256):Int) ?_
 refine xwm 1 ((k:Int)+1) (↑(k+1):Int) ?_
 refine xwm 0 ((↑(k+1):Int)*256) (↑((k+1)*256):Int) ?_
 have a0:=hk.below a1
 refine xb 9 0 a0 ?_
 refine xs3 3 (fun _ _ _ _ _ _ zo zx zy zz zm V=>Zc1 (k:=(k*256)) (h:=((k+1)*256)) (b:=g) (off:=0) (n:=n) (c:=c) (i:=(↑(k*256):Int)) (ki:=.i64) (j:=(↑((k+1)*256):Int)) (kj:=.i64) (j2:=(↑((k+1)*256):Int)) (kj2:=.i64) 1 (k*256) 256 zo zx zy rfl zz rfl zm rfl (by omega) (by omega) (by omega) (by omega) Tryz.underlying40 (by kernel_rfl) V) ?_
 exact xe 5 (.tuple #[.slice (some ⟨g,(k*256),none⟩) 256 256,V0 0]) ⟨rfl,a1⟩
theorem Db(b:Nat)(p:O0)(n c:Nat)(l:Bl)(w:World)(hk:Blk w b [.slice p n c] 95)(h:Bys w (.slice p n c) l)(hl:l.length=n)(hn:n≤100000000) :
 C0 12 #[P0 b] w (Qn (fun w' r=>Pe w.heap.size w' r l) w):=by
 refine zin 10 Tryz.func12 ?_
 refine xb 20 0 hk ?_
 refine xc 0 (args:=#[.slice p n c]) (Qt p n c l _ hl (h.below (B4 w)) hn) ?_
 rintro _ W1 ⟨r,rfl,a1,ho⟩
 have a2:=Nat.le_refl w.heap.size
 have a0:=Ze ho a2
 exact xe 4 r ⟨_,rfl,a1,a0⟩
def WroteB(B g n c:Nat)(l:Bl)(v:Value)(w:World)(e:Ending)(w':World):Prop :=
 e=.returned v∧Below B w w'∧Zd [5] w w'∧Fr [g] w w'∧w'.ownsRow B 5 1 (.slice (S1 g) n c) n (l.map bv)
theorem Oz(B b g:Nat)(n c k:Nat)(l:Bl)(a:O0)(cx:Nat)(lx:Bl)(w:World)(hk:Blk w b [.slice (S1 g) n c] 95)(ho:w.ownsRow B 5 1 (.slice (S1 g) n c) n (l.map bv))(hn:n≤100000000)(hc:n≤c)(hkn:k<n/256)(hx:Bys w (.slice a 256 cx) lx)(hlx:lx.length=256)(hBw:B≤w.heap.size) :
 C0 171 #[P0 b,V0 (k:Int),.slice a 256 cx] w (WroteB B g n c (Vc l (k*256) lx) (V0 0) w):=by
 replace hx:Sl w (.slice a 256 cx) 256 (lx.map bv):=by
  have:=hx
  unfold Bys at this
  rwa [hlx] at this
 refine zin 24 Tryz.func171 ?_
 refine xr 9 (args:=#[P0 b,V0 (k:Int)]) (Dj b g n c k _ hk hn hc hkn) fun W1 a0=>?_
 have a1:=Zb ho a0
 have a3:=hx.below a0
 have hB:=blB (Below.refl B w) hBw a0
 refine xbi 32 (t2:=40) fun _ _ _ _ zJ zQ zo zx zy zK=>Uw (dLen:=256) (dCap:=256) (off:=(k*256)) 256 (lx.map bv) ((Vc l (k*256) lx).map bv) zo Tryz.underlying40 (by kernel_rfl) zx zy a3 a1 (by simpa using hlx) (by omega) (by omega) (Xs _) (Nat.le_trans hBw hB.size) (by simp[Vc,hlx,List.map_take,List.map_drop]) fun W2 o2 a4 a5=>?_
 refine zK _ _ ?_
 have a2:=hB.trans a5
 have hO:=(show Zd [5] w _ from(Zd.of_below a0)).trans (Zd.of_grown a4 a1 (by decide))
 have hX:=(show Fr [g] w _ from(Fr.of_below a0)).trans (Fr.of_grown a4 (by simp))
 exact xe 8 (V0 0) ⟨rfl,a2,hO,hX,o2⟩
theorem Ee(B b g:Nat)(n c k:Nat)(l:Bl)(kind:Int)(a:O0)(ca:Nat)(li:Bl)(w:World)(hk:Blk w b [.slice (S1 g) n c] 95)(ho:w.ownsRow B 5 1 (.slice (S1 g) n c) n (l.map bv))(hn:n≤3686400)(hc:n≤c)(hkn:k<n/256)(h1:1≤kind)(h2:kind≤4)(hin:Bys w (.slice a li.length ca) li)(hl:li.length≤244)(hBw:B≤w.heap.size) :
 C0 80 #[P0 b,V0 (k:Int),V0 kind,.slice a li.length ca] w (WroteB B g n c (Vc l (k*256) (Xw kind k li)) .nilIface w):=by
 refine zin 28 Tryz.func80 ?_
 refine xc 10 (args:=#[V0 kind,V0 (k:Int),.slice a li.length ca]) (seal_Seal kind k h1 h2 (by omega) (by omega) a ca li _ hl hin) ?_
 rintro _ W1 ⟨_,rfl,a1,p,c2,rfl,o⟩
 have a6:=Nat.le_refl w.heap.size
 have a4:=hk.below a1
 have a3:=Zb ho a1
 have b1:=Ze o a6
 have hB:=blB (Below.refl B w) hBw a1
 refine xc 19 (args:=#[P0 b,V0 (k:Int),.slice p 256 c2]) (Oz B b g n c k l p c2 (Xw kind k li) _ a4 a3 (by omega) hc hkn (Xp (Zf b1) (Uv hl)) (Uv hl) (Nat.le_trans hBw hB.size)) ?_
 rintro _ W2 ⟨rfl,a8,a7,a9,b0⟩
 refine xc 8 (args:=#[V0 (k:Int),.iface 63 (V0 0)]) (Ze8 k 0 _) ?_
 rintro _ W3 ⟨r,rfl,a2,hr⟩
 obtain rfl:r=.nilIface:=hr
 have a5:=blB (hB.trans a8) hBw a2
 have hO:=((show Zd [5] w _ from(Zd.of_below a1)).trans a7).trans (Zd.of_below a2)
 have hX:=((show Fr [g] w _ from(Fr.of_below a1)).trans (a9.mono (by simp))).trans (Fr.of_below a2)
 have a0:=Zb b0 a2
 exact xe 4 .nilIface ⟨rfl,a5,hO,hX,a0⟩
def Qs(f j:Nat):List Int:=(List.range j).map fun i=>((f+i:Nat):Int)
theorem Og(f j:Nat):Qs f (j+1)=Qs f j++[((f+j:Nat):Int)]:=by simp[Qs,List.range_succ]
theorem Uh{f N k:Nat}(h:k<N):(Qs f N).getD k 0=((f+k:Nat):Int):=by simp[Qs,List.getD,List.getElem?_range h]
theorem Nk(f j:Nat):(Qs f j).length=j:=by simp[Qs]
structure Al(B ba b g n c:Nat)(pa:Option Addr)(ca f N k:Nat)(l:List UInt8)(w:World):Prop where
 blkA:Blk w ba [.slice pa N ca,.int .i64 (k:Int),.pointer (some ⟨b,0,none⟩)] 153
 blkI:Blk w b [.slice (some ⟨g,0,none⟩) n c] 95
 data:w.ownsRow B 5 1 (.slice (some ⟨g,0,none⟩) n c) n (l.map bv)
 nums:w.ownsRow B 3 1 (.slice pa N ca) N ((Qs f N).map (Value.int .i64))
structure AlC(B ba n c ca f N:Nat):Prop where
 hn:n≤3686400
 hc:n≤c
 hca:N≤ca
 hf:f+N≤n/256
 hB:B≤ba
theorem alloc_New(b:Nat)(p0:O0)(n c f:Nat)(w:World)(hk:Blk w b [.slice p0 n c] 95)(hn:n≤3686400)(h1:1≤f)(h2:f≤n/256) :
 C0 32 #[P0 b,V0 (f:Int)] w (Qn (fun w' r=>∃ ba p c2,r=.tuple #[P0 ba,.nilIface]∧w.heap.size≤ba∧Blk w' ba [.slice p (n/256-f) c2,V0 0,P0 b] 153∧w'.ownsRow w.heap.size 3 1 (.slice p (n/256-f) c2) (n/256-f) ((Qs f (n/256-f)).map V0)) w):=by
 refine zin 37 Tryz.func32 ?_
 refine xgk 16 [12,13,14] (show(decide ((f:Int)<(1:Int)):Bool)=false from decide_eq_false (by omega)) ?_
 refine xr 2 (args:=#[P0 b]) (Ys b p0 n c _ hk (by omega)) fun W2 b4=>?_
 refine xk 4 (show(decide ((f:Int)>(↑(n/256):Int)):Bool)=false from decide_eq_false (by omega)) ?_
 have b2:=hk.below b4
 refine zl 15 37 (fun zm c0 V=>∃ (j:Nat) (p:O0) (c2:Nat),c0=[(0,P0 b),(4,.pointer none),(5,.nilIface),(6,.slice p j c2),(7,V0 (↑(f+j):Int))]∧zm=n/256-((↑(f+j):Int)).toNat∧B3 w V∧Blk V b ([.slice p0 n c]) 95∧V.ownsRow w.heap.size 3 1 (.slice p j c2) j ((Qs f j).map V0)∧f+j≤n/256) ⟨0,_,_,rfl,rfl,b4,b2,World.ownsRow_nil _ _ _ _,by omega⟩ ?_
 rintro _ _ W3 ⟨j,p,c2,rfl,rfl,a4,a3,ho,hj⟩ J3 b9 r3
 refine xr 5 (args:=#[P0 b]) (Ys b p0 n c _ a3 (by omega)) fun W4 a1=>?_
 refine xid 3 ((↑(f+j):Int)<(↑(n/256):Int)) (fun b7=>?_) (fun b7=>?_)
 ·refine xbs 7 1 [V0 (↑(f+j):Int)] 3 fun b6 W6 n6=>?_
  have a5:=bln a4 a1
  have g6:=n6.ge a5
  have a2:=Zb ho a1
  have b3:=Zr a2 n6
  have a6:=Zb a2 n6.below
  have a8:=bln a5 n6.below
  refine xbi 0 fun _ _ _ _ zJ zQ zo zx zy zK=>Zn (m:=1) (news:=[V0 (↑(f+j):Int)]) (V0 0) 1 8 (j+1) ((Qs f (j+1)).map V0) zo Tryz.underlying33 (by kernel_rfl) rfl (by decide) zx a6 zy (n6.blk.sl 1 1 (by decide) (by decide)) rfl (by simp[Value.oneCell']) (by unfold maxLen;omega) (by omega) a8.size (by rfl) (by rw[Og];simp) fun c3 c4 W7 o7 b5 c1=>?_
  refine zK _ _ ?_
  refine xwm 6 ((↑(f+j):Int)+1) (↑((f+j)+1):Int) ?_
  have b1:=a8.trans c1
  have a0:=((a3.below a1).below n6.below).grown b5 a6 (by decide)
  exact ze 2 (b9 _ _ _ ⟨j+1,_,_,rfl,rfl,b1,a0,o7,by omega⟩ (by omega))
 refine xa 11 [.slice p j c2,V0 0,P0 b] 153 fun b8 W8 n8=>?_
 have a7:=bln a4 a1
 have g8:=n8.ge a7
 have b0:=bln a7 n8.below
 have a9:=Zb (Zb ho a1) n8.below
 refine xe 5 (.tuple #[P0 b8,.nilIface]) ?_
 obtain rfl:j=n/256-f:=by omega
 exact⟨_,rfl,b0,_,_,_,rfl,g8,n8.blk,a9⟩
theorem Ku(ba b:Nat)(v x:Value)(w:World)(hk:Blk w ba [v,x,P0 b] 153) :
 C0 143 #[P0 ba] w (Ret (.bool false) w):=by
 refine zin 12 Tryz.func143 ?_
 refine xb 13 2 hk ?_
 exact xe 6 (.bool false) ⟨rfl,(B4 w)⟩
theorem Rl(ba:Nat)(p:O0)(N c k:Nat)(m:Value)(w:World)(hk:Blk w ba [.slice p N c,V0 (k:Int),m] 153)(h1:k≤N) :
 C0 225 #[P0 ba] w (Ret (.slice (Gj p k c 1) (N-k) (c-k)) w):=by
 refine zin 12 Tryz.func225 ?_
 refine xd 6 .z ?_
 have a0:=hk.below (Za w)
 refine xb (.e [0,1,2] 3) 0 a0 ?_
 refine xb (.e [4,5,6] 7) 1 a0 ?_
 refine xsL (.e [] 8) (fun _ _ _ _ zo zx zy V=>Na (k:=k) (b:=p) (n:=N) (c:=c) (i:=(k:Int)) (ki:=.i64) 1 zo zx zy rfl (by omega) Tryz.underlying33 (by kernel_rfl) V) ?_
 have hB:=(Za w)
 exact xe (.r [9] 3) (.slice (Gj p k c 1) (N-k) (c-k)) ⟨rfl,hB⟩
theorem Lm(ba b:Nat)(p:O0)(N c k:Nat)(w:World)(hk:Blk w ba [.slice p N c,V0 (k:Int),P0 b] 153)(h1:k≤N) :
 C0 149 #[P0 ba] w (Ret (V0 ((N-k:Nat):Int)) w):=by
 refine zin 10 Tryz.func149 ?_
 refine xr 9 (args:=#[P0 ba]) (Ku ba b _ _ _ hk) fun W1 a1=>?_
 have a0:=hk.below a1
 refine xr 10 (args:=#[P0 ba]) (Rl ba p N c k _ _ a0 h1) fun W2 a2=>?_
 have hB:=bln a1 a2
 exact xe 5 (V0 (↑(N-k):Int)) ⟨rfl,hB⟩
theorem Zej(ba b:Nat)(v:Value)(k:Nat)(w:World)(hk:Blk w ba [v,V0 (k:Int),P0 b] 153) :
 C0 165 #[P0 ba] w (Ret (V0 (k:Int)) w):=by
 refine zin 10 Tryz.func165 ?_
 refine xr 9 (args:=#[P0 ba]) (Ku ba b _ _ _ hk) fun W1 a1=>?_
 have a0:=hk.below a1
 refine xb 11 1 a0 ?_
 exact xe 4 (V0 (k:Int)) ⟨rfl,a1⟩
def Took(B ba:Nat)(p:O0)(N c k:Nat)(m:Value)(L:List Int)(v:Value)(w:World)(e:Ending)(w':World):Prop :=
 e=.returned v∧Below B w w'∧Zd [153] w w'∧Fr [ba] w w'∧Blk w' ba [.slice p N c,V0 ((k+1:Nat):Int),m] 153∧w'.ownsRow B 3 1 (.slice p N c) N (L.map V0)
theorem IntsN.elem{w:World}{b:O0}{n c:Nat}{l:List Int}(h:Sl w (.slice b n c) n (l.map V0))(hl:l.length=n){k:Nat}(hk:k<n):b.isSome=true∧w.cell? (Zz b (k*1))=some (V0 (l.getD k 0)):=by
 subst hl;exact Ints.elem h hk
theorem Zfn(B ba:Nat)(p:O0)(N c k:Nat)(L:List Int)(hL:L.length=N)(m:Value)(w:World)(hk:Blk w ba [.slice p N c,V0 (k:Int),m] 153)(ho:w.ownsRow B 3 1 (.slice p N c) N (L.map V0))(hB0:B≤ba)(hBw:B≤w.heap.size)(hN:N≤1000000)(hkN:k<N) :
 C0 275 #[P0 ba] w (Took B ba p N c k m L (.tuple #[V0 (L.getD k 0),.bool true]) w):=by
 refine zin 32 Tryz.func275 ?_
 refine xd 8 .z ?_
 have a0:=hk.below (Za w)
 refine xb (.e [0,1,2] 3) 1 a0 ?_
 refine xb (.e [4,5,6] 7) 0 a0 ?_
 refine xk (.r [8,9] 2) (show(decide ((k:Int)≥(N:Int)):Bool)=false from decide_eq_false (by omega)) ?_
 refine xb 7 1 a0 ?_
 refine xwm 0 ((k:Int)+1) (↑(k+1):Int) ?_
 refine xs 2 a0 [.slice p N c,V0 (↑(k+1):Int),m] fun W1 u1 k1=>?_
 refine xd 3 .z ?_
 have a1:=k1.below (Za W1)
 refine xb (.e [0,1,2] 3) 0 a1 ?_
 refine xb (.e [4,5,6] 7) 1 a1 ?_
 refine xwm (.e [] 8) ((↑(k+1):Int)-1) (k:Int) ?_
 have a2:=Zb (u1.own2 (Zb ho (Za w)) a0 (by decide)) (Za W1)
 refine xx (.e [] 9) _ N k 1 (IntsN.elem (Zf a2) hL (k:=k) (by omega)).1 ?_
 refine xl (.e [] 10) ((IntsN.elem (Zf a2) hL (k:=k) (by omega)).2) ?_
 have hB:=blB (u1.below (blB (Below.refl B w) hBw (Za w)) hB0) hBw (Za W1)
 have hO:=((show Zd [153] w _ from(Zd.of_below (Za w))).trans (Zd.of_upd u1 a0 (by decide))).trans (Zd.of_below (Za W1))
 have hX:=((show Fr [ba] w _ from(Fr.of_below (Za w))).trans (Fr.of_upd u1 (by simp))).trans (Fr.of_below (Za W1))
 exact xe (.r [11,12] 3) (.tuple #[V0 (L.getD k 0),.bool true]) ⟨rfl,hB,hO,hX,a1,a2⟩
theorem Zek(B ba:Nat)(p:O0)(N c k:Nat)(L:List Int)(hL:L.length=N)(b q:Nat)(hq:L.getD k 0=(q:Int))(w:World)(hk:Blk w ba [.slice p N c,V0 (k:Int),P0 b] 153)(ho:w.ownsRow B 3 1 (.slice p N c) N (L.map V0))(hB0:B≤ba)(hBw:B≤w.heap.size)(hN:N≤1000000)(hkN:k<N) :
 C0 235 #[P0 ba] w (Took B ba p N c k (P0 b) L (.tuple #[V0 (q:Int),.nilIface]) w):=by
 refine zin 20 Tryz.func235 ?_
 refine xr 10 (args:=#[P0 ba]) (Ku ba b _ _ _ hk) fun W1 a0=>?_
 have a2:=hk.below a0
 have a1:=Zb ho a0
 have hB:=blB (Below.refl B w) hBw a0
 refine xc 10 (args:=#[P0 ba]) (Zfn B ba p N c k L hL _ _ a2 a1 hB0 (Nat.le_trans hBw hB.size) hN hkN) ?_
 rintro _ W2 ⟨rfl,a5,a4,a6,kA,ho⟩
 rw[hq]
 have a3:=hB.trans a5
 have hO:=(show Zd [153] w _ from(Zd.of_below a0)).trans a4
 have hX:=(show Fr [ba] w _ from(Fr.of_below a0)).trans (a6.mono (by simp))
 exact xe 25 (.tuple #[V0 (q:Int),.nilIface]) ⟨rfl,a3,hO,hX,kA,ho⟩
def Laid(B ba b g n c:Nat)(pa:O0)(ca f N k:Nat)(l:Bl)(kind:Int)(li:Bl)(w:World)(e:Ending)(w':World):Prop :=
 e=.returned (.tuple #[V0 ((f+k:Nat):Int),.nilIface])∧Below B w w'∧Zd [153,5] w w'∧Fr [ba,g] w w'∧Al B ba b g n c pa ca f N (k+1) (Vc l ((f+k)*256) (Xw kind ((f+k:Nat):Int) li)) w'
theorem Zd.mono{T T':List TypeId}{w w':World}(h:Zd T w w')(hT:∀ t,T'.contains t=false→T.contains t=false):Zd T' w w':=fun k cs t fr hk ht=>h k cs t fr hk (hT t ht)
theorem only_aa{w w':World}(h:Zd [153] w w'):Zd [153,5] w w':=h.mono fun t ht=>by simp at ht ⊢;exact ht.1
theorem only_ab{w w':World}(h:Zd [5] w w'):Zd [153,5] w w':=h.mono fun t ht=>by simp at ht ⊢;exact ht.2
theorem alloc_Lay(B ba b g n c:Nat)(p:O0)(ca f N k:Nat)(l:Bl)(kind:Int)(a:O0)(ci:Nat)(li:Bl)(w:World)(hC:AlC B ba n c ca f N)(hA:Al B ba b g n c p ca f N k l w)(hkN:k<N)(h1:1≤kind)(h2:kind≤4)(hin:∀ W,Below B w W→Zd [153] w W→Bys W (.slice a li.length ci) li)(hl:li.length≤244)(hBw:B≤w.heap.size) :
 C0 164 #[P0 ba,V0 kind,.slice a li.length ci] w (Laid B ba b g n c p ca f N k l kind li w):=by
 obtain⟨hk,hi,hd,ho⟩:=hA
 refine zin 35 Tryz.func164 ?_
 refine xc 9 (args:=#[P0 ba]) (Zek B ba p N ca k (Qs f N) (Nk f N) b (f+k) (Uh hkN) _ hk ho hC.hB (Nat.le_trans hBw (Below.refl B _).size) (by have:=hC.hf;have:=hC.hn;omega) hkN) ?_
 rintro _ W1 ⟨rfl,a4,a2,b0,kA,ho⟩
 replace hin:=hin _ a4 a2
 refine xb 23 2 kA ?_
 have a0:=hi.only a2 (by decide)
 have a7:=Zi hd a2 (by decide)
 refine xc 3 (args:=#[P0 b,V0 (↑(f+k):Int),V0 kind,.slice a li.length ci]) (Ee B b g n c (f+k) l kind a ci li _ a0 a7 hC.hn hC.hc (by have:=hC.hf;omega) h1 h2 hin hl (Nat.le_trans hBw a4.size)) ?_
 rintro _ W2 ⟨rfl,a9,a1,b1,hd⟩
 have a6:=a4.trans a9
 have hO:=(show Zd [153,5] w _ from(only_aa a2)).trans (only_ab a1)
 have hX:=(show Fr [ba,g] w _ from(b0.mono (by simp))).trans (b1.mono (by simp))
 have a3:=kA.only a1 (by decide)
 have a8:=a0.only a1 (by decide)
 have a5:=Zi ho a1 (by decide)
 exact xe 20 (.tuple #[V0 (↑(f+k):Int),.nilIface]) ⟨rfl,a6,hO,hX,a3,a8,hd,a5⟩
theorem Bi(w:World) :
 C0 272 #[V0 1,.bool true] w (Ret (V0 4) w):=by
 refine zin 31 Tryz.func272 ?_
 exact xe 94 (V0 4) ⟨rfl,(B4 w)⟩
theorem Zeo(w:World) :
 C0 269 #[V0 1,.bool true] w (Ret (V0 18) w):=by
 refine zin 16 Tryz.func269 ?_
 refine xr 9 (args:=#[V0 1,.bool true]) (Bi _) fun W1 a0=>?_
 exact xe 24 (V0 18) ⟨rfl,a0⟩
theorem Bj(w:World) :
 C0 272 #[V0 1,.bool false] w (Ret (V0 4) w):=by
 refine zin 31 Tryz.func272 ?_
 exact xe 41 (V0 4) ⟨rfl,(B4 w)⟩
theorem Zeg(w:World) :
 C0 269 #[V0 1,.bool false] w (Ret (V0 18) w):=by
 refine zin 16 Tryz.func269 ?_
 refine xr 9 (args:=#[V0 1,.bool false]) (Bj _) fun W1 a0=>?_
 exact xe 24 (V0 18) ⟨rfl,a0⟩
theorem Lv(w:World) :
 C0 272 #[V0 2,.bool true] w (Ret (V0 8) w):=by
 refine zin 31 Tryz.func272 ?_
 exact xe 101 (V0 8) ⟨rfl,(B4 w)⟩
theorem Zfi(w:World) :
 C0 269 #[V0 2,.bool true] w (Ret (V0 12) w):=by
 refine zin 16 Tryz.func269 ?_
 refine xr 9 (args:=#[V0 2,.bool true]) (Lv _) fun W1 a0=>?_
 exact xe 24 (V0 12) ⟨rfl,a0⟩
theorem Lo(w:World) :
 C0 272 #[V0 2,.bool false] w (Ret (V0 4) w):=by
 refine zin 31 Tryz.func272 ?_
 exact xe 41 (V0 4) ⟨rfl,(B4 w)⟩
theorem Zdr(w:World) :
 C0 269 #[V0 2,.bool false] w (Ret (V0 18) w):=by
 refine zin 16 Tryz.func269 ?_
 refine xr 9 (args:=#[V0 2,.bool false]) (Lo _) fun W1 a0=>?_
 exact xe 24 (V0 18) ⟨rfl,a0⟩
theorem Bk(w:World) :
 C0 272 #[V0 3,.bool true] w (Ret (V0 24) w):=by
 refine zin 31 Tryz.func272 ?_
 exact xe 93 (V0 24) ⟨rfl,(B4 w)⟩
theorem Zd9(w:World) :
 C0 269 #[V0 3,.bool true] w (Ret (V0 6) w):=by
 refine zin 16 Tryz.func269 ?_
 refine xr 9 (args:=#[V0 3,.bool true]) (Bk _) fun W1 a0=>?_
 exact xe 24 (V0 6) ⟨rfl,a0⟩
theorem Bd(w:World) :
 C0 272 #[V0 3,.bool false] w (Ret (V0 4) w):=by
 refine zin 31 Tryz.func272 ?_
 exact xe 41 (V0 4) ⟨rfl,(B4 w)⟩
theorem Zd3(w:World) :
 C0 269 #[V0 3,.bool false] w (Ret (V0 18) w):=by
 refine zin 16 Tryz.func269 ?_
 refine xr 9 (args:=#[V0 3,.bool false]) (Bd _) fun W1 a0=>?_
 exact xe 24 (V0 18) ⟨rfl,a0⟩
theorem Bn(w:World) :
 C0 272 #[V0 4,.bool true] w (Ret (V0 16) w):=by
 refine zin 31 Tryz.func272 ?_
 exact xe 98 (V0 16) ⟨rfl,(B4 w)⟩
theorem Zdf(w:World) :
 C0 269 #[V0 4,.bool true] w (Ret (V0 9) w):=by
 refine zin 16 Tryz.func269 ?_
 refine xr 9 (args:=#[V0 4,.bool true]) (Bn _) fun W1 a0=>?_
 exact xe 24 (V0 9) ⟨rfl,a0⟩
theorem Bf(w:World) :
 C0 272 #[V0 4,.bool false] w (Ret (V0 4) w):=by
 refine zin 31 Tryz.func272 ?_
 exact xe 41 (V0 4) ⟨rfl,(B4 w)⟩
theorem Zdi(w:World) :
 C0 269 #[V0 4,.bool false] w (Ret (V0 18) w):=by
 refine zin 16 Tryz.func269 ?_
 refine xr 9 (args:=#[V0 4,.bool false]) (Bf _) fun W1 a0=>?_
 exact xe 24 (V0 18) ⟨rfl,a0⟩
theorem Be(w:World) :
 C0 272 #[V0 5,.bool true] w (Ret (V0 4) w):=by
 refine zin 31 Tryz.func272 ?_
 exact xe 94 (V0 4) ⟨rfl,(B4 w)⟩
theorem Zei(w:World) :
 C0 269 #[V0 5,.bool true] w (Ret (V0 18) w):=by
 refine zin 16 Tryz.func269 ?_
 refine xr 9 (args:=#[V0 5,.bool true]) (Be _) fun W1 a0=>?_
 exact xe 24 (V0 18) ⟨rfl,a0⟩
theorem Bg(w:World) :
 C0 272 #[V0 5,.bool false] w (Ret (V0 4) w):=by
 refine zin 31 Tryz.func272 ?_
 exact xe 41 (V0 4) ⟨rfl,(B4 w)⟩
theorem Zdx(w:World) :
 C0 269 #[V0 5,.bool false] w (Ret (V0 18) w):=by
 refine zin 16 Tryz.func269 ?_
 refine xr 9 (args:=#[V0 5,.bool false]) (Bg _) fun W1 a0=>?_
 exact xe 24 (V0 18) ⟨rfl,a0⟩
def Pj(t:Int)(leaf:Bool):Nat:=if leaf=false then 4 else if t=2 then 8 else if t=3 then 24 else if t=4 then 16 else 4
def Qq(t:Int)(leaf:Bool):Nat:=if leaf=false then 18 else if t=2 then 12 else if t=3 then 6 else if t=4 then 9 else 18
theorem Zdu(t:Int)(leaf:Bool)(h1:1≤t)(h2:t≤5)(w:World):C0 272 #[V0 t,.bool leaf] w (Ret (V0 (Pj t leaf:Int)) w):=by
 obtain rfl|rfl|rfl|rfl|rfl:t=1∨t=2∨t=3∨t=4∨t=5:=by omega
 all_goals cases leaf
 ·exact Bj w
 ·exact Bi w
 ·exact Lo w
 ·exact Lv w
 ·exact Bd w
 ·exact Bk w
 ·exact Bf w
 ·exact Bn w
 ·exact Bg w
 ·exact Be w
theorem Tm(t:Int)(leaf:Bool)(h1:1≤t)(h2:t≤5)(w:World):C0 269 #[V0 t,.bool leaf] w (Ret (V0 (Qq t leaf:Int)) w):=by
 obtain rfl|rfl|rfl|rfl|rfl:t=1∨t=2∨t=3∨t=4∨t=5:=by omega
 all_goals cases leaf
 ·exact Zeg w
 ·exact Zeo w
 ·exact Zdr w
 ·exact Zfi w
 ·exact Zd3 w
 ·exact Zd9 w
 ·exact Zdi w
 ·exact Zdf w
 ·exact Zdx w
 ·exact Zei w
theorem Yt(t:Int)(leaf:Bool):1≤Qq t leaf∧Qq t leaf≤18:=by
 unfold Qq;repeat' split
 all_goals decide
theorem run_quo{P:Program}{a:Act}{o:Oper}{t:TypeId}{x y:Operand}{t2:TypeId}{p q r:Int}{k:IntKind}(ho:o.op=.binOp .quo t x y t2)(hx:a.eval x=.int k p)(hy:a.eval y=.int k q)(hq:q≠0)(hr:k.wrap (Int.tdiv p q)=r)(w:World) :
 (execOp a.eval o).run P w=.ok (.value (.int k r)) w:=by
 subst hr
 have hb:(binOp .quo t (.int k p) (.int k q)).run P w=.ok (.int k (k.wrap (p.tdiv q))) w:=by
  simp[binOp,Op.intDiv,hq]
 have hg:(eqGuard .quo t x y (.int k p) (.int k q)).run P w=.ok () w:=rfl
 simp only[execOp,ho,hx,hy,Sem.run_bind,hg,Result.andThen_ok,hb]
 rfl
def ovN (n m:Nat):Nat:=max 1 ((n+m-1)/m)
theorem max_cast(a b:Nat):(if(b:Int)>(a:Int) then(b:Int) else(a:Int))=((max a b:Nat):Int):=by split<;>omega
theorem Vf(n m:Nat):1≤ovN n m:=by unfold ovN;omega
theorem Fh(n m:Nat)(hm:1≤m):ovN n m≤n+1:=by
 have:(n+m-1)/m≤n:=by
  rw[Nat.div_le_iff_le_mul_add_pred (by omega)]
  have:=Nat.le_mul_of_pos_left n hm
  omega
 unfold ovN;omega
theorem ov18{x:Nat}(h:2≤x):ovN x 18≤x/2:=by unfold ovN;omega
theorem Dh(n m:Nat)(w:World)(hn:n≤1000000)(hm:1≤m)(hm2:m≤1000000) :
 C0 270 #[V0 (n:Int),V0 (m:Int)] w (Ret (V0 (ovN n m:Int)) w):=by
 refine zin 12 Tryz.func270 ?_
 refine xwm 9 ((n:Int)+(m:Int)) (↑(n+m):Int) ?_
 refine xwm 0 ((↑(n+m):Int)-1) (↑((n+m)-1):Int) ?_
 refine xbo 1 (t:=3) (t2:=3) (fun _ _ _ _ zo zx zy V hV=>run_quo (r:=(↑((n+m-1)/m):Int)) zo zx zy (by omega) (quo_nat (n+m-1) m (by omega) (by omega)) V) ?_
 refine xq 0 (congrArg V0 (show(if(↑((n+m-1)/m):Int)>(1:Int) then(↑((n+m-1)/m):Int) else(1:Int):Int)=(↑(ovN n m):Int) from max_cast 1 ((n+m-1)/m))) ?_
 exact xe 4 (V0 (↑(ovN n m):Int)) ⟨rfl,(B4 w)⟩
def lenOf:Value→Nat
 | .slice _ n _=>n
 | _=>0
def nv (n:Nat):Value:=V0 (n:Int)
def Ri(x:Nat):List Nat:=if h:x≤1 then [x] else x::Ri (ovN x 18)
termination_by x
decreasing_by have:=ov18 (x:=x) (by omega);omega
theorem Kq{x:Nat}(h:x≤1):Ri x=[x]:=by rw[Ri];simp[h]
theorem Kv{x:Nat}(h:¬ x≤1):Ri x=x::Ri (ovN x 18):=by rw[Ri];simp[h]
theorem levs_sum{x:Nat}(h:1≤x):(Ri x).sum≤2*x:=by
 induction x using Nat.strongRecOn with
 | _ x ih =>
  by_cases h1:x≤1
  ·rw[Kq h1];simp;omega
  ·rw[Kv h1,List.sum_cons]
   have h2:=ov18 (x:=x) (by omega)
   have:=ih (ovN x 18) (by omega) (Vf _ _)
   omega
theorem levs_len{x:Nat}(h:1≤x):(Ri x).length≤x:=by
 induction x using Nat.strongRecOn with
 | _ x ih =>
  by_cases h1:x≤1
  ·rw[Kq h1];simpa using h
  ·rw[Kv h1,List.length_cons]
   have h2:=ov18 (x:=x) (by omega)
   have:=ih (ovN x 18) (by omega) (Vf _ _)
   omega
theorem Ha{w:World}{b:O0}{n c:Nat}{l:List Nat}(h:Sl w (.slice b n c) n (l.map nv))(hl:l.length=n){k:Nat}(hk:k<n):b.isSome=true∧w.cell? (Zz b (k*1))=some (V0 ((l.getD k 0:Nat):Int)):=by
 have e:l.map nv=(l.map fun x:Nat=>(x:Int)).map V0:=by simp[nv]
 rw[e] at h
 have:=IntsN.elem h (by simpa using hl) hk
 rw[show(l.map fun x:Nat=>(x:Int)).getD k 0=((l.getD k 0:Nat):Int) by simp[List.getD,List.getElem?_eq_getElem (show k<l.length by omega)]] at this
 exact this
theorem Ai{xs:List Nat}{x j:Nat}(h:xs.length=j):(xs++[x]).getD j 0=x:=by subst h;simp[List.getD]
theorem Cv{L:List Nat}{k:Nat}(h:k<L.length):(L.take (k+1)).sum=(L.take k).sum+L.getD k 0:=by
 rw[List.take_add_one,List.sum_append];simp[List.getD,List.getElem?_eq_getElem h]
theorem Zhj{L:List Nat}(k:Nat):(L.take k).sum≤L.sum:=by
 conv=>rhs;rw[←List.take_append_drop k L,List.sum_append]
 omega
def Qw(t:Int)(n:Nat):List Nat:=Ri (ovN n (Qq t true))
def Zy(t:Int)(n:Nat):Nat:=(Qw t n).sum
theorem Zcq(t:Int)(n:Nat):(Qw t n).length≤n+1:=by
 have:=levs_len (Vf n (Qq t true));have:=Fh n (Qq t true) (Yt t true).1;unfold Qw;omega
theorem Yv(t:Int)(n:Nat):Zy t n≤2*n+2:=by
 have:=levs_sum (Vf n (Qq t true));have:=Fh n (Qq t true) (Yt t true).1;unfold Zy Qw;omega
theorem Zbh(t:Int)(n:Nat)(w:World)(h1:1≤t)(h2:t≤5)(hn:n≤32768) :
 C0 226 #[V0 t,V0 (n:Int)] w (Qn (fun w' r=>∃ p c,r=.slice p (Qw t n).length c∧w'.ownsRow w.heap.size 3 1 (.slice p (Qw t n).length c) (Qw t n).length ((Qw t n).map nv)) w):=by
 have b1:=(Yt t true).1
 have c5:=(Yt t true).2
 have c8:=Fh n (Qq t true) b1
 have c4:=Vf n (Qq t true)
 refine zin 45 Tryz.func226 ?_
 refine xr 8 (args:=#[V0 t,.bool true]) (Tm t true h1 h2 _) fun W1 b3=>?_
 refine xr 1 (args:=#[V0 t,.bool false]) (Tm t false h1 h2 _) fun W2 b0=>?_
 refine xgk 10 [13,14] (show(((↑(Qq t true):Int)==(0:Int)):Bool)=false from by simp;omega) ?_
 refine xgk 4 [16,17,18] (show(decide ((n:Int)<(0:Int)):Bool)=false from decide_eq_false (by omega)) ?_
 refine xk 5 (show(decide ((n:Int)>(32768:Int)):Bool)=false from decide_eq_false (by omega)) ?_
 refine xr 6 (args:=#[V0 (n:Int),V0 (↑(Qq t true):Int)]) (Dh n (Qq t true) _ (by omega) b1 (by omega)) fun W5 b4=>?_
 refine xbs 0 1 [V0 (↑(ovN n (Qq t true)):Int)] 3 fun b6 W6 n6=>?_
 have g6:=n6.ge (bln (bln b3 b0) b4)
 have hB:=bln (bln (bln b3 b0) b4) n6.below
 refine zl 5 45 (fun zm c3 V=>∃ (j x:Nat) (xs:List Nat) (p:O0) (c:Nat),c3=[(4,S0),(6,V0 18),(7,.slice p (j+1) c)]∧zm=40000-(j+1)∧B3 w V∧V.ownsRow w.heap.size 3 1 (.slice p (j+1) c) (j+1) ((xs++[x]).map nv)∧xs.length=j∧1≤x∧x≤32769∧xs++Ri x=Qw t n∧j+x≤40000) ⟨0,(ovN n (Qq t true)),[],_,_,rfl,rfl,hB,Zw (size:=1) (n:=1) n6.blk g6 rfl (by unfold maxLen;decide),rfl,c4,by omega,rfl,by omega⟩ ?_
 rintro _ _ W7 ⟨j,x,xs,p,c,rfl,rfl,a4,ho,a0,c9,d1,b2,hj⟩ J7 b7 r7
 refine xwm 6 ((↑(j+1):Int)-1) (j:Int) ?_
 refine xx 0 _ (j+1) j 1 (Ha (Zf ho) (by simp[a0]) (k:=j) (by omega)).1 ?_
 refine xl 0 (by have:=(Ha (Zf ho) (by simp[a0]) (k:=j) (by omega)).2;rwa [Ai a0] at this) ?_
 refine xid 3 ((x:Int)>(1:Int)) (fun c1=>?_) (fun c1=>?_)
 ·refine xwm 8 ((↑(j+1):Int)-1) (j:Int) ?_
  refine xx 0 _ (j+1) j 1 (Ha (Zf ho) (by simp[a0]) (k:=j) (by omega)).1 ?_
  refine xl 0 (by have:=(Ha (Zf ho) (by simp[a0]) (k:=j) (by omega)).2;rwa [Ai a0] at this) ?_
  refine xr 1 (args:=#[V0 (x:Int),V0 18]) (Dh x 18 _ (by omega) (by decide) (by decide)) fun W9 b5=>?_
  refine xbs 0 1 [V0 (↑(ovN x 18):Int)] 3 fun c7 d2 a5=>?_
  have a2:=bln a4 b5
  have d3:=a5.ge a2
  have a1:=Zb ho b5
  have a7:=Zr a1 a5
  have a8:=Zb a1 a5.below
  have a3:=bln a2 a5.below
  refine xbi 0 fun _ _ _ _ zJ zQ zo zx zy zK=>Zn (m:=1) (news:=[V0 (↑(ovN x 18):Int)]) (V0 0) 1 8 (j+1+1) (((xs++[x])++[ovN x 18]).map nv) zo Tryz.underlying33 (by kernel_rfl) rfl (by decide) zx a8 zy (a5.blk.sl 1 1 (by decide) (by decide)) rfl (by simp[Value.oneCell']) (by unfold maxLen;omega) (by omega) a3.size (by rfl) (by simp[nv]) fun c0 b8 c6 c2 b9 a6=>?_
  refine zK _ _ ?_
  have d0:=ov18 (x:=x) (by omega)
  have a9:=a3.trans a6
  exact ze 3 (b7 _ _ _ ⟨j+1,(ovN x 18),xs++[x],_,_,rfl,rfl,a9,c2,by simp[a0],Vf _ _,by omega,by rw[←b2,Kv (x:=x) (by omega)];simp,by omega⟩ (by omega))
 refine xe 12 (.slice p (j+1) c) ?_
 have e:Qw t n=xs++[x]:=by rw[←b2,Kq (x:=x) (by omega)]
 have el:(Qw t n).length=j+1:=by rw[e];simp[a0]
 exact⟨_,rfl,a4,p,c,by rw[el],by rw[el,e];exact ho⟩
theorem Qj(t:Int)(n:Nat)(w:World)(h1:1≤t)(h2:t≤5)(hn:n≤32768) :
 C0 150 #[V0 t,V0 (n:Int)] w (Ret (V0 (Zy t n:Int)) w):=by
 refine zin 21 Tryz.func150 ?_
 refine xc 15 (args:=#[V0 t,V0 (n:Int)]) (Zbh t n _ h1 h2 hn) ?_
 rintro _ W1 ⟨_,rfl,a5,p,c,rfl,ho⟩
 have a1:=Nat.le_refl w.heap.size
 have a2:=Ze ho a1
 refine zl 5 21 (fun zm a4 V=>∃ (k:Nat),a4=[(4,V0 0),(5,V0 (↑((Qw t n).take k).sum:Int)),(10,.slice p ((Qw t n).length) c),(11,V0 (↑((Qw t n).length):Int)),(12,V0 (k:Int))]∧zm=(Qw t n).length-((k:Int)).toNat∧B3 w V∧V.ownsRow w.heap.size 3 1 (.slice p (Qw t n).length c) (Qw t n).length ((Qw t n).map nv)∧k≤(Qw t n).length) ⟨0,rfl,rfl,a5,a2,Nat.zero_le _⟩ ?_
 rintro _ _ W2 ⟨k,rfl,rfl,a0,ho,hk⟩ J2 a6 r2
 have a7:=Zcq t n
 have a1:=Yv t n
 unfold Zy at a1
 have a9:=Zhj (L:=Qw t n) (k+1)
 have a8:k<(Qw t n).length→((Qw t n).take (k+1)).sum=((Qw t n).take k).sum+(Qw t n).getD k 0:=Cv
 refine xid 6 ((k:Int)<(↑((Qw t n).length):Int)) (fun a3=>?_) (fun a3=>?_)
 ·refine xx 6 _ ((Qw t n).length) k 1 (Ha (Zf ho) rfl (k:=k) (by omega)).1 ?_
  refine xl 0 ((Ha (Zf ho) rfl (k:=k) (by omega)).2) ?_
  refine xwm 6 ((↑((Qw t n).take k).sum:Int)+(↑((Qw t n).getD k 0):Int)) (↑(((Qw t n).take k).sum+((Qw t n).getD k 0)):Int) ?_
  refine xwm 5 ((k:Int)+1) (↑(k+1):Int) ?_
  refine xv1 2 5 (show(V0 (↑(((Qw t n).take k).sum+((Qw t n).getD k 0)):Int):Value)=V0 (↑((Qw t n).take (k+1)).sum:Int) from by rw[Cv (by omega)]) ?_
  exact ze 0 (a6 _ _ _ ⟨k+1,rfl,rfl,a0,ho,by omega⟩ (by omega))
 refine xe 12 (V0 (↑((Qw t n).take k).sum:Int)) ?_
 have e:k=(Qw t n).length:=by omega
 subst e
 rw[List.take_length]
 exact⟨rfl,a0⟩
def Vw(n m i:Nat):Nat:=min m (n-i*m)
theorem Zgb{n m i:Nat}(hm:1≤m)(h:i<ovN n m):i*m≤n:=by
 unfold ovN at h
 rcases Nat.eq_zero_or_pos i with rfl|hi
 ·omega
 ·have h1:i+1≤(n+m-1)/m:=by omega
  have h2:=(Nat.le_div_iff_mul_le (by omega)).1 h1
  rw[Nat.add_mul] at h2
  omega
def Aa(n m k:Nat):List Value:=(List.range (ovN n m)).map fun i=>V0 (if i<k then(Vw n m i:Int) else 0)
def sizL(n m:Nat):List Nat:=(List.range (ovN n m)).map (Vw n m)
theorem sizK_zero(n m:Nat):Hs (Value.int .i64 0).cells.toList (ovN n m)=Aa n m 0:=by
 rw[show(Value.int .i64 0).cells.toList=[Value.int .i64 0] from rfl,Hs,Aa]
 simp[List.map_const']
theorem sizK_all(n m:Nat):Aa n m (ovN n m)=(sizL n m).map nv:=by
 unfold Aa sizL nv
 rw[List.map_map]
 apply List.map_congr_left
 intro i hi
 rw[List.mem_range] at hi
 simp[hi]
theorem sizK_set{n m k:Nat}(h:k<ovN n m):(Aa n m k).set k (V0 (Vw n m k:Int))=Aa n m (k+1):=by
 apply List.ext_getElem?
 intro i
 by_cases hi:i<ovN n m
 ·by_cases e:k=i
  ·subst e
   rw[List.getElem?_set_self (by simpa [Aa] using h)]
   simp[Aa,List.getElem?_range h]
  ·rw[List.getElem?_set_ne e]
   simp only[Aa,List.getElem?_map,List.getElem?_range hi,Option.map_some]
   by_cases e2:i<k
   ·simp[e2,show i<k+1 by omega]
   ·simp[e2,show ¬ i<k+1 by omega]
 ·rw[List.getElem?_eq_none (by simp[Aa];omega),List.getElem?_eq_none (by simp[Aa];omega)]
theorem sizL_len(n m:Nat):(sizL n m).length=ovN n m:=by simp[sizL]
theorem Zen(n m:Nat)(w:World)(hn:n≤32768)(hm:1≤m)(hm2:m≤32768) :
 C0 273 #[V0 (n:Int),V0 (m:Int)] w (Qn (fun w' r=>∃ p c,r=.slice p (ovN n m) c∧w'.ownsRow w.heap.size 3 1 (.slice p (ovN n m) c) (ovN n m) ((sizL n m).map nv)) w):=by
 have a8:=Fh n m hm
 refine zin 40 Tryz.func273 ?_
 refine xgk 11 [8,9] (show(decide ((n:Int)<(0:Int)):Bool)=false from decide_eq_false (by omega)) ?_
 refine xgk 4 [11,12,13] (show(decide ((n:Int)>(32768:Int)):Bool)=false from decide_eq_false (by omega)) ?_
 refine xk 5 (show(decide ((m:Int)<(1:Int)):Bool)=false from decide_eq_false (by omega)) ?_
 refine xq 5 (congrArg V0 (show(if(32768:Int)<(m:Int) then(32768:Int) else(m:Int):Int)=(m:Int) from if_neg (by omega))) ?_
 refine xr 7 (args:=#[V0 (n:Int),V0 (m:Int)]) (Dh n m _ (by omega) hm (by omega)) fun W3 a2=>?_
 refine xmk 0 fun _ _ _ _ zJ zQ zo zx zy zK=>Kn (ovN n m) (V0 0) 1 8 (Aa n m 0) zo zx zy Tryz.underlying33 (by kernel_rfl) rfl (by omega) (by omega) (sizK_zero n m) fun b4 W4 n4=>?_
 refine zK _ _ ?_
 have hB:=bln a2 n4.below
 refine zl 12 40 (fun zm a5 V=>∃ (k:Nat),a5=[(0,V0 (n:Int)),(1,V0 (m:Int)),(4,S0),(5,.slice (S1 b4) (ovN n m) (ovN n m)),(24,V0 (↑(ovN n m):Int)),(25,V0 (k:Int))]∧zm=ovN n m-((k:Int)).toNat∧B3 w V∧Blk V b4 (Aa n m k) 3∧k≤ovN n m) ⟨0,rfl,rfl,hB,n4.blk,Nat.zero_le _⟩ ?_
 rintro _ _ W5 ⟨k,rfl,rfl,a1,a0,hk⟩ J5 a4 r5
 have a7:k<ovN n m→k*m≤n:=Zgb hm
 refine xid 6 ((k:Int)<(↑(ovN n m):Int)) (fun a6=>?_) (fun a6=>?_)
 ·refine xwm 17 ((k:Int)*(m:Int)) (↑(k*m):Int) ?_
  refine xwm 0 ((n:Int)-(↑(k*m):Int)) (↑(n-(k*m)):Int) ?_
  refine xxb 1 b4 0 (ovN n m) k 1 ?_
  refine xsg 0 a0 (0+k*1) (V0 (if(↑(n-(k*m)):Int)<(m:Int) then(↑(n-(k*m)):Int) else(m:Int))) (by simp[Aa];omega) fun W7 u7 k7=>?_
  replace k7:Blk W7 b4 (Aa n m (k+1)) 3:=by rw[←(show(Aa n m k).set (0+k*1) (V0 (if(↑(n-(k*m)):Int)<(m:Int) then(↑(n-(k*m)):Int) else(m:Int)))=Aa n m (k+1) from by rw[show 0+k*1=k by omega,show(if(↑(n-(k*m)):Int)<(m:Int) then(↑(n-(k*m)):Int) else(m:Int))=(↑(Vw n m k):Int) from Zcv m (n-k*m)];exact sizK_set (by omega))];exact k7
  have g4:=n4.ge a2
  refine xwm 4 ((k:Int)+1) (↑(k+1):Int) ?_
  have a3:=u7.below a1 g4
  exact ze 2 (a4 _ _ _ ⟨k+1,rfl,rfl,a3,k7,by omega⟩ (by omega))
 have g4:=n4.ge a2
 refine xe 12 (.slice (S1 b4) (ovN n m) (ovN n m)) ?_
 have e:k=ovN n m:=by omega
 subst e
 have ho:=Zw (size:=1) (n:=ovN n m) a0 g4 (by simp[Aa]) (by unfold maxLen;omega)
 rw[sizK_all] at ho
 exact⟨_,rfl,a1,_,_,rfl,ho⟩
def Vt(l:Bl):Nat→Nat→Nat
 | _,0=>0
 | k,w+1=>(l.getD k 0).toNat+256*Vt l (k+1) w
theorem Sy(l:Bl):∀ (w k:Nat),Vt l k w<256 ^ w
 | 0,k=>by simp[Vt]
 | w+1,k=>by
  have:=Sy l w (k+1)
  have h:=(l.getD k 0).toNat_lt
  rw[Vt,Nat.pow_succ];omega
theorem rawN_lt7(l:Bl)(k w:Nat)(hw:w≤7):Vt l k w<72057594037927936:=Nat.lt_of_lt_of_le (Sy l w k) (by rw[show(72057594037927936:Nat)=256 ^ 7 from rfl];exact Nat.pow_le_pow_right (by decide) hw)
theorem rawN_lt4(l:Bl)(k w:Nat)(hw:w≤4):Vt l k w<4294967296:=Nat.lt_of_lt_of_le (Sy l w k) (by rw[show(4294967296:Nat)=256 ^ 4 from rfl];exact Nat.pow_le_pow_right (by decide) hw)
theorem u64_step{n b:Nat}(hn:n<72057594037927936)(hb:b<256):IntKind.u64.wrap (↑(BitVec.ofInt 64 (IntKind.u64.wrap ((n:Int)*2 ^ 8)) ||| BitVec.ofInt 64 (b:Int)).toNat:Int)=((b+256*n:Nat):Int):=by
 have h1:IntKind.u64.wrap ((n:Int)*2 ^ 8)=((n*2 ^ 8:Nat):Int):=by
  rw[show(n:Int)*2 ^ 8=((n*2 ^ 8:Nat):Int) by omega];exact IntWalk.u64_in _ (by constructor<;>omega)
 rw[h1,BitVec.ofInt_natCast,BitVec.ofInt_natCast,BitVec.toNat_or,BitVec.toNat_ofNat,BitVec.toNat_ofNat,Nat.mod_eq_of_lt (by omega),Nat.mod_eq_of_lt (by omega)]
 rw[←Nat.shiftLeft_eq,←Nat.shiftLeft_add_eq_or_of_lt (by exact hb:b<2 ^ 8),Nat.shiftLeft_eq,IntWalk.u64_in _ (by constructor<;>omega)]
 congr 1;omega
theorem u64_nat{n:Nat}(h:n<18446744073709551616):IntKind.u64.wrap (n:Int)=(n:Int):=IntWalk.u64_in _ (by constructor<;>omega)
theorem there_ok(a:O0)(m c k w:Nat)(hw:w=1∨w=2∨w=4∨w=8)(hk:k+w≤m)(hm:m≤100000000)(W:World) :
 C0 215 #[.slice a m c,V0 (k:Int),V0 (w:Int)] W (Ret (V0 0) W):=by
 rcases hw with rfl|rfl|rfl|rfl
 ·exact there_1 a m c k hk hm W
 ·exact Zg3 a m c k hk hm W
 ·exact there_4 a m c k hk hm W
 ·exact there_8 a m c k hk hm W
theorem Get_ok(a:O0)(c k w:Nat)(l:Bl)(W:World)(hw:w=1∨w=2∨w=4∨w=8)(hk:k+w≤l.length)(hl:l.length≤100000000)(h:Bys W (.slice a l.length c) l)(hq:Vt l k w<9223372036854775808) :
 C0 131 #[.slice a l.length c,V0 (k:Int),V0 (w:Int)] W (Ret (.tuple #[V0 (Vt l k w:Int),V0 0]) W):=by
 refine zin 38 Tryz.func131 ?_
 refine xr 12 (args:=#[.slice a l.length c,V0 (k:Int),V0 (w:Int)]) (there_ok a l.length c k w hw hk hl _) fun W1 a3=>?_
 refine xw 21 ((w:Int)-1) ?_
 refine zl 4 38 (fun zm a2 V=>∃ (j r:Nat),a2=[(0,.slice a l.length c),(1,V0 (k:Int)),(6,V0 0),(7,V0 0),(9,.int .u64 (↑(Vt l (k+j) r):Int)),(10,V0 ((j:Int)-1))]∧zm=(((j:Int)-1)+1).toNat∧B3 W V∧j+r=w) ⟨w,0,rfl,rfl,a3,by omega⟩ ?_
 rintro _ _ W2 ⟨j,r,rfl,rfl,a0,a5⟩ J2 a4 r2
 refine xid 7 ((j:Int)-1≥(0:Int)) (fun a1=>?_) (fun a1=>?_)
 ·refine xq 10 (congrArg V0 (show IntKind.i64.wrap ((k:Int)+((j:Int)-1))=(↑(k+(j-1)):Int) from(show IntKind.i64.wrap ((k:Int)+((j:Int)-1))=((k:Int)+((j:Int)-1)) from by first|exact IntWalk.i64_in _ (by omega)|(simp only[IntKind.wrap];omega)).trans (by omega))) ?_
  refine xx 0 _ l.length (k+(j-1)) 1 (Bys.elem h (k:=(k+(j-1))) (by omega)).1 ?_
  refine xl 0 ((Bys.elem (h.below a0) (k:=(k+(j-1))) (by omega)).2) ?_
  refine xq 0 (congrArg (Value.int .u64) (show(IntKind.u64.wrap (↑(l.getD (k+(j-1)) 0).toNat:Int):Int)=(↑(l.getD (k+(j-1)) 0).toNat:Int) from u64_nat (by have:=(l.getD (k+(j-1)) 0).toNat_lt;omega))) ?_
  refine xq 0 (congrArg (Value.int .u64) (show(IntKind.u64.wrap (↑(BitVec.ofInt 64 (IntKind.u64.wrap ((↑(Vt l (k+j) r):Int)*2 ^ 8)) ||| BitVec.ofInt 64 (↑(l.getD (k+(j-1)) 0).toNat:Int)).toNat:Int):Int)=(↑(Vt l (k+(j-1)) (r+1)):Int) from(u64_step (rawN_lt7 l (k+j) r (by omega)) (l.getD (k+(j-1)) 0).toNat_lt).trans (congrArg (fun x:Nat=>(x:Int)) (by rw[Vt,show k+(j-1)+1=k+j by omega])))) ?_
  refine xq 6 (congrArg V0 (show IntKind.i64.wrap ((j:Int)-1-1)=((↑(j-1:Nat):Int)-1) from(show IntKind.i64.wrap ((j:Int)-1-1)=((j:Int)-1-1) from by first|exact IntWalk.i64_in _ (by omega)|(simp only[IntKind.wrap];omega)).trans (by omega))) ?_
  exact ze 2 (a4 _ _ _ ⟨j-1,r+1,rfl,rfl,a0,by omega⟩ (by omega))
 refine xk 12 (show(decide ((↑(Vt l (k+j) r):Int)≥(9223372036854775808:Int)):Bool)=false from by rw[(show Vt l (k+j) r=Vt l k w from by rw[show j=0 by omega,show r=w by omega];rfl)];exact decide_eq_false (by omega)) ?_
 refine xq 5 (congrArg V0 (show(IntKind.i64.wrap (↑(Vt l (k+j) r):Int):Int)=(↑(Vt l k w):Int) from by rw[(show Vt l (k+j) r=Vt l k w from by rw[show j=0 by omega,show r=w by omega];rfl)];exact Mz hq)) ?_
 exact xe 5 (.tuple #[V0 (↑(Vt l k w):Int),V0 0]) ⟨rfl,a0⟩
end Go.Proofs.YtegcamkgeacjfaaGreatDoor
namespace Go.Proofs.YtegcamkgeacjfaaGreatDoor
set_option maxHeartbeats 8000000
set_option maxRecDepth 100000
open Go.RowKit
set_option linter.unusedVariables false
theorem loop_eq(bs:ByteArray)(i:Nat)(r:Bl):ByteArray.toList.loop bs i r=r.reverse++bs.data.toList.drop i:=by
 have hs:bs.data.toList.length=bs.size:=by rw[Array.length_toList];rfl
 rw[ByteArray.toList.loop]
 split
 ·rename_i h
  have h':i<bs.data.toList.length:=by omega
  rw[loop_eq bs (i+1) _,List.drop_eq_getElem_cons h']
  have e:bs.get! i=bs.data.toList[i]:=by
   have h2:i<bs.data.size:=by rw[←Array.length_toList];exact h'
   show bs.data[i]! = _
   rw[getElem!_pos bs.data i h2];simp
  rw[e];simp
 ·rename_i h
  rw[List.drop_eq_nil_of_le (by omega)];simp
termination_by bs.size-i
theorem Zci(a:Bl):(⟨a.toArray⟩:ByteArray).toList=a:=by
 unfold ByteArray.toList;rw[loop_eq];simp
theorem str_beq(a b:Bl):((⟨a.toArray⟩:ByteArray).toList==(⟨b.toArray⟩:ByteArray).toList)=(a==b):=by rw[Zci,Zci]
theorem Va{b:Bool}(h:(!b)=true):b=false:=by simpa using h
theorem Vb{b:Bool}(h:(!b)=false):b=true:=by simpa using h
end Go.Proofs.YtegcamkgeacjfaaGreatDoor
namespace Go.Proofs.YtegcamkgeacjfaaGreatDoor
set_option maxHeartbeats 8000000
set_option maxRecDepth 100000
open Go.RowKit Go.Extern.Stop Go.Stop Go.Extern
set_option linter.unusedVariables false
attribute [local irreducible] wpList wpAnyH Code.wp Oper.wp Go
theorem Yn{P:Program}{a:Act}{o:Oper}{src dst e:TypeId}{x:Operand}{b:O0}{n c:Nat}{l:Bl}{w:World}(ho:o.op=.convert src dst x)(hx:a.eval x=.slice b n c)(h:Bys w (.slice b n c) l)(hl:l.length=n)
 (hs:P.underlying src=some (.slice e)) (he:P.underlying e=some (.int .u8)) (hd:P.underlying dst=some .string):(execOp a.eval o).run P w=.ok (.value (.string ⟨l.toArray⟩)) w:=by
 have hr:(convert src dst (.slice b n c)).run P w=.ok (.string ⟨l.toArray⟩) w:=by
  subst hl
  rcases Sl.at h with hn|⟨g,a0,rfl,hc⟩
  ·obtain rfl:l=[]:=by simpa using hn
   cases b with
   | none=>rw[run_convert_bytes_string w src dst e none _ c hs he hd];rfl
   | some p=>exact run_convert_bytes_back w src dst e p c [] hs he hd (fun j hj=>by simp at hj)
  ·exact run_convert_bytes_back w src dst e _ c l hs he hd (fun j hj=>by rw[Addr.add_mid];exact hc j _ (by simp[List.getElem?_eq_getElem hj,bv]))
 simp only[execOp,ho,hx,Sem.run_bind,hr];rfl
theorem Al.below{B ba b g n c:Nat}{pa:O0}{ca f N k:Nat}{l:Bl}{w W:World}(h:Al B ba b g n c pa ca f N k l w)(hb:B3 w W):Al B ba b g n c pa ca f N k l W:=⟨h.blkA.below hb,h.blkI.below hb,Zb h.data hb,Zb h.nums hb⟩
theorem Qf{w:World}{base n c size:Nat}{e:TypeId}{p:O0}{xs:List Value}(h:w.ownsRow base e size (.slice p n c) n xs)(hn:0<n):∃ g,p=some ⟨g,0,none⟩∧n≤c:=by
 rcases h.2 with ⟨_,h0⟩|⟨g,a0,a1,hv,_,_,hc,_⟩
 ·omega
 ·simp only[Value.slice.injEq] at hv;exact⟨g,hv.1,by omega⟩
theorem Bys.cap{w:World}{a:O0}{n c:Nat}{l:Bl}(h:Bys w (.slice a n c) l)(hl:l.length=n):n≤c:=by
 rcases h with ⟨a',c',h1,h2,_⟩|⟨b,a0,cap,h1,h2,_,_⟩
 ·omega
 ·simp only[Value.slice.injEq] at h1;omega
theorem Ze9(b:Nat)(p0:O0)(n c f N:Nat)(fi:Int)(hfi:fi=(f:Int))(hN:n/256-f=N)(w:World)(hk:Blk w b [.slice p0 n c] 95)(hn:n≤3686400)(h1:1≤f)(h2:f≤n/256) :
 C0 32 #[P0 b,V0 fi] w (Qn (fun w' r=>∃ ba p c2,r=.tuple #[P0 ba,.nilIface]∧w.heap.size≤ba∧Blk w' ba [.slice p N c2,V0 0,P0 b] 153∧w'.ownsRow w.heap.size 3 1 (.slice p N c2) N ((Qs f N).map V0)) w):=by
 subst hfi hN;exact alloc_New b p0 n c f w hk hn h1 h2
end Go.Proofs.YtegcamkgeacjfaaGreatDoor
namespace Go.Proofs.YtegcamkgeacjfaaGreatDoor
set_option maxHeartbeats 8000000
set_option maxRecDepth 100000
open Go.RowKit Go.Extern.Stop Go.Stop Go.Extern
set_option linter.unusedVariables false
attribute [local irreducible] wpList wpAnyH Code.wp Oper.wp Go
section
variable {P:Program} {a:Act}
theorem Om{o:Oper}{t e:TypeId}{x y y2:Operand}{b:O0}{n k h c:Nat}{i j:Int}{ki kj:IntKind}(size:Nat)(ho:o.op=.slice t x (some y) (some y2) none)(hx:a.eval x=.slice b n c)(hy:a.eval y=.int ki i)(hi:i=(k:Int))(hy2:a.eval y2=.int kj j)(hj:j=(h:Int))(hk:k≤h)(hc:h≤c)
 (ht:P.underlying t=some (.slice e)) (hs:(P.info? e).map (·.size)=some size) (w:World):(execOp a.eval o).run P w=.ok (.value (.slice (Gj b k c size) (h-k) (c-k))) w:=by
 cases hq:P.info? e with
 | none=>simp[hq] at hs
 | some q =>
  have a0:q.size=size:=by simpa [hq] using hs
  subst hi hj
  have h1:(0:Int)≤(k:Int):=by omega
  have h2:(0:Int)≤(h:Int):=by omega
  have h3:(k:Int)≤(h:Int):=by omega
  have h4:(h:Int)≤(c:Int):=by omega
  by_cases h5:c=k
  ·simp_all [execOp,Instr.sliceAt,Instr.slice,Instr.sliceBounds,Instr.sliceBound,asIntOf,run_underlying ht,sizeOf,typeInfo,Gj]
  ·simp_all [execOp,Instr.sliceAt,Instr.slice,Instr.sliceBounds,Instr.sliceBound,asIntOf,run_underlying ht,sizeOf,typeInfo,Gj]
end
theorem Bys.cut{w:World}{b:O0}{n c:Nat}{l:Bl}(h:Bys w (.slice b n c) l)(hl:l.length=n)(k m:Nat)(hk:k≤m)(hm:m≤n):Bys w (.slice (Gj b k c 1) (m-k) (c-k)) ((l.drop k).take (m-k)):=by
 have a0:((l.drop k).take (m-k)).length=m-k:=by simp;omega
 have a2:=Bys.cap h hl
 rcases h with ⟨a',c',h1,h2,h3⟩|⟨g,a1,a3,h1,h2,h3,h4⟩
 ·obtain rfl:k=0:=by omega
  obtain rfl:m=0:=by omega
  refine .inl ⟨Gj b 0 c 1,c-0,?_,by simp,by simp⟩
  simp
 ·simp only[Value.slice.injEq] at h1
  obtain⟨rfl,_,rfl⟩:=h1
  by_cases hz:m-k=0
  ·refine .inl ⟨Gj (some ⟨g,a1,none⟩) k c 1,c-k,by rw[hz],by omega,?_⟩
   rw[hz];rfl
  ·refine .inr ⟨g,a1+k*1,c-k,?_,by omega,by omega,fun j x hj=>?_⟩
   ·rw[Gj,if_neg (by omega),a0];simp[Addr.add]
   ·rw[List.getElem?_map,List.getElem?_take] at hj
    split at hj
    ·rw[List.getElem?_drop] at hj
     have:=h4 (k+j) x (by rw[List.getElem?_map];exact hj)
     rwa [Nat.mul_one,Nat.add_assoc]
    ·cases hj
def Qg(kind no:Int):Bool:=decide (1≤kind∧kind≤4∧0≤no∧no<14400)
theorem Zap(kind no:Int)(w:World) :
 C0 133 #[V0 kind,V0 no] w (Ret (.bool (Qg kind no)) w):=by
 refine zin 19 Tryz.func133 ?_
 refine xg 10 [6,7] (decide (kind≥(1:Int))) (fun a0=>?_) (fun a0=>?_)
 ·have a0:=of_decide_eq_true a0
  refine xg 4 [9,10,11] (decide (kind≤(4:Int))) (fun a2=>?_) (fun a2=>?_)
  ·have a2:=of_decide_eq_true a2
   refine xg 4 [13,14,15] (decide (no≥(0:Int))) (fun a1=>?_) (fun a1=>?_)
   ·have a1:=of_decide_eq_true a1
    exact xe 7 (.bool (decide (no<(14400:Int)))) ⟨by rw[show Qg kind no=decide (no<14400) from decide_eq_decide.2 ⟨fun h=>h.2.2.2,fun h=>⟨by omega,by omega,by omega,h⟩⟩],(B4 w)⟩
   have a1:=of_decide_eq_false a1
   exact xe 7 (.bool false) ⟨by rw[show Qg kind no=false from decide_eq_false (by omega)],(B4 w)⟩
  have a2:=of_decide_eq_false a2
  exact xe 11 (.bool false) ⟨by rw[show Qg kind no=false from decide_eq_false (by omega)],(B4 w)⟩
 have a0:=of_decide_eq_false a0
 exact xe 15 (.bool false) ⟨by rw[show Qg kind no=false from decide_eq_false (by omega)],(B4 w)⟩
theorem seal_told(a:O0)(c k w:Nat)(l:Bl)(W:World)(hw:w=1∨w=2∨w=4)(hk:k+w≤l.length)(hl:l.length≤100000000)(h:Bys W (.slice a l.length c) l) :
 C0 66 #[.slice a l.length c,V0 (k:Int),V0 (w:Int)] W (Ret (V0 (Vt l k w:Int)) W):=by
 refine zin 17 Tryz.func66 ?_
 refine xr 10 (args:=#[.slice a l.length c,V0 (k:Int),V0 (w:Int)]) (Get_ok a c k w l _ (by omega) hk hl (h.below (B4 W)) (by have:=rawN_lt4 l k w (by omega);omega)) fun W1 a0=>?_
 exact xe 14 (V0 (↑(Vt l k w):Int)) ⟨rfl,a0⟩
theorem Pa(a:O0)(n c k w:Nat)(ki wi:Int)(l:Bl)(W:World)(hn:l.length=n)(hki:ki=(k:Int))(hwi:wi=(w:Int))(hw:w=1∨w=2∨w=4)(hk:k+w≤n)(hl:n≤100000000)(h:Bys W (.slice a n c) l) :
 C0 66 #[.slice a n c,V0 ki,V0 wi] W (Ret (V0 (Vt l k w:Int)) W):=by
 subst hn hki hwi;exact seal_told a c k w l W hw hk hl h
def Pw(kind no:Int)(l:Bl):Nat→Bool
 | 0=>!Qg kind no
 | 1=>(l.length:Int) != 256
 | 2=>(Vt l 252 4:Int) != (Ik l kind:Int)
 | 3=>(Vt l 0 4:Int) != no
 | 4=>(Vt l 4 2:Int) != kind
 | _=>(Vt l 6 2:Int) != 0
def Hr(kind no:Int)(l:Bl):Int :=
 if Pw kind no l 0 then 1 else if Pw kind no l 1 then 7 else if Pw kind no l 2 then 4 else if Pw kind no l 3 then 5 else if Pw kind no l 4 then 6 else if Pw kind no l 5 then 7 else 0
theorem Zfy{kind no:Int}{l:Bl}(h:Pw kind no l 1=false):l.length=256:=by
 have:(l.length:Int)=256:=Ur h
 omega
theorem open_1(kind no:Int)(w:World)(l:Bl)(bk:Nat)(kk:Blk w bk [V0 kind] 3)(bn:Nat)(kn:Blk w bn [V0 no] 3) :
 C0 132 #[P0 bk,P0 bn] w (Ret (.bool (Pw kind no l 0)) w):=by
 refine zin 7 Tryz.func132 ?_
 refine xb 7 0 kk ?_
 refine xb 0 0 kn ?_
 refine xr 0 (args:=#[V0 kind,V0 no]) (Zap kind no _) fun W1 a0=>?_
 exact xe 5 (.bool (!(Qg kind no))) ⟨rfl,a0⟩
theorem open_2(kind no:Int)(w:World)(bb:Nat)(a:O0)(c:Nat)(l:Bl)(kb:Blk w bb [.slice a l.length c] 40) :
 C0 134 #[P0 bb] w (Ret (.bool (Pw kind no l 1)) w):=by
 refine zin 5 Tryz.func134 ?_
 refine xb 7 0 kb ?_
 exact xe 6 (.bool ((l.length:Int) != (256:Int))) ⟨rfl,(B4 w)⟩
theorem seal_sumN(kind:Int)(a:O0)(c n:Nat)(l:Bl)(w:World)(hn:l.length=n)(h256:n=256)(hc:256≤c)(h:Bys w (.slice a n c) l) :
 C0 136 #[.slice a n c,V0 kind] w (Ret (V0 (Ik l kind:Int)) w):=by
 subst h256;exact Zbq kind a c l w hn hc h
theorem open_3(kind no:Int)(w:World)(bb:Nat)(a:O0)(c:Nat)(l:Bl)(kb:Blk w bb [.slice a l.length c] 40)(bk:Nat)(kk:Blk w bk [V0 kind] 3)(hl:l.length=256)(hc:256≤c)(h:Bys w (.slice a l.length c) l) :
 C0 135 #[P0 bb,P0 bk] w (Ret (.bool (Pw kind no l 2)) w):=by
 refine zin 9 Tryz.func135 ?_
 refine xd 6 .z ?_
 have a0:=kb.below (Za w)
 refine xb (.e [] 0) 0 a0 ?_
 refine xb (.e [] 2) 0 a0 ?_
 have a3:=kk.below (Za w)
 refine xb (.e [] 3) 0 a3 ?_
 have hB:=(Za w)
 refine xr (.o [] 1) (args:=#[.slice a l.length c,V0 252,V0 4]) (Pa a l.length c 252 4 252 4 l _ rfl rfl rfl (by decide) (by omega) (by omega) (h.below hB)) fun W1 a5=>?_
 have a1:=bln hB a5
 refine xr (.o [] 4) (args:=#[.slice a l.length c,V0 kind]) (seal_sumN kind a c l.length l _ rfl hl hc (h.below a1)) fun W2 a4=>?_
 have a2:=bln a1 a4
 exact xe (.r [5,6] 3) (.bool ((↑(Vt l 252 4):Int) != (↑(Ik l kind):Int))) ⟨rfl,a2⟩
theorem open_4(kind no:Int)(w:World)(bb:Nat)(a:O0)(c:Nat)(l:Bl)(kb:Blk w bb [.slice a l.length c] 40)(bn:Nat)(kn:Blk w bn [V0 no] 3)(hl:l.length=256)(hc:256≤c)(h:Bys w (.slice a l.length c) l) :
 C0 137 #[P0 bb,P0 bn] w (Ret (.bool (Pw kind no l 3)) w):=by
 refine zin 7 Tryz.func137 ?_
 refine xd 6 .z ?_
 have a0:=kb.below (Za w)
 refine xb (.e [] 0) 0 a0 ?_
 have a2:=kn.below (Za w)
 refine xb (.e [] 2) 0 a2 ?_
 have hB:=(Za w)
 refine xr (.o [] 1) (args:=#[.slice a l.length c,V0 0,V0 4]) (Pa a l.length c 0 4 0 4 l _ rfl rfl rfl (by decide) (by omega) (by omega) (h.below hB)) fun W1 a3=>?_
 have a1:=bln hB a3
 exact xe (.r [3,4] 3) (.bool ((↑(Vt l 0 4):Int) != no)) ⟨rfl,a1⟩
theorem open_5(kind no:Int)(w:World)(bb:Nat)(a:O0)(c:Nat)(l:Bl)(kb:Blk w bb [.slice a l.length c] 40)(bk:Nat)(kk:Blk w bk [V0 kind] 3)(hl:l.length=256)(hc:256≤c)(h:Bys w (.slice a l.length c) l) :
 C0 138 #[P0 bb,P0 bk] w (Ret (.bool (Pw kind no l 4)) w):=by
 refine zin 7 Tryz.func138 ?_
 refine xd 6 .z ?_
 have a0:=kb.below (Za w)
 refine xb (.e [] 0) 0 a0 ?_
 have a2:=kk.below (Za w)
 refine xb (.e [] 2) 0 a2 ?_
 have hB:=(Za w)
 refine xr (.o [] 1) (args:=#[.slice a l.length c,V0 4,V0 2]) (Pa a l.length c 4 2 4 2 l _ rfl rfl rfl (by decide) (by omega) (by omega) (h.below hB)) fun W1 a3=>?_
 have a1:=bln hB a3
 exact xe (.r [3,4] 3) (.bool ((↑(Vt l 4 2):Int) != kind)) ⟨rfl,a1⟩
theorem open_6(kind no:Int)(w:World)(bb:Nat)(a:O0)(c:Nat)(l:Bl)(kb:Blk w bb [.slice a l.length c] 40)(hl:l.length=256)(hc:256≤c)(h:Bys w (.slice a l.length c) l) :
 C0 139 #[P0 bb] w (Ret (.bool (Pw kind no l 5)) w):=by
 refine zin 5 Tryz.func139 ?_
 refine xb 7 0 kb ?_
 refine xr 0 (args:=#[.slice a l.length c,V0 6,V0 2]) (Pa a l.length c 6 2 6 2 l _ rfl rfl rfl (by decide) (by omega) (by omega) (h.below (B4 w))) fun W1 a0=>?_
 exact xe 5 (.bool ((↑(Vt l 6 2):Int) != (0:Int))) ⟨rfl,a0⟩
def OpenP(kind no:Int)(l:Bl)(w:World)(e:Ending)(w':World):Prop :=
 (Hr kind no l≠0∧e=.returned (.tuple #[S0,V0 (Hr kind no l)])∧B3 w w') ∨
 (Hr kind no l=0∧∃ p c,e=.returned (.tuple #[.slice p 244 c,V0 0])∧B3 w w'∧w'.ownsRow w.heap.size 5 1 (.slice p 244 c) 244 (((l.drop 8).take 244).map bv))
theorem Zf4(kind no:Int)(a:O0)(c:Nat)(l:Bl)(w:World)(h:Bys w (.slice a l.length c) l) :
 C0 67 #[.slice a l.length c,V0 kind,V0 no] w (OpenP kind no l w):=by
 have m4:=h.cap rfl
 refine zin 39 Tryz.func67 ?_
 refine xa 2 [.slice a l.length c] 40 fun b1 W1 n1=>?_
 refine xa 0 [V0 kind] 3 fun b2 W2 n2=>?_
 refine xa 0 [V0 no] 3 fun b3 W3 n3=>?_
 have l7:=n3.ne n2.blk
 refine xbs 18 6 [.func (.func 132) #[] #[P0 b2,P0 b3],V0 1,.func (.func 134) #[] #[P0 b1],V0 7,.func (.func 135) #[] #[P0 b1,P0 b2],V0 4,.func (.func 137) #[] #[P0 b1,P0 b3],V0 5,.func (.func 138) #[] #[P0 b1,P0 b2],V0 6,.func (.func 139) #[] #[P0 b1],V0 7] 240 fun b4 W4 n4=>?_
 refine xu 12 7 ?_
 refine xlv 14 (n4.blk.rpp 0 2) ?_
 refine xa 0 [.nilFunc,V0 0] 240 fun b5 W5 n5=>?_
 have f7:=n5.ne n4.blk
 refine xsv 0 n5.blk [.func (.func 132) #[] #[P0 b2,P0 b3],V0 1] fun W6 u6 k6=>?_
 have g5:=n5.ge (bln (bln (bln n1.below n2.below) n3.below) n4.below)
 refine xb 5 0 k6 ?_
 have h1:=u6.blkT (((n2.blk.below n3.below).below n4.below).below n5.below) n5.blk (by decide)
 have k3:=u6.blkT ((n3.blk.below n4.below).below n5.below) n5.blk (by decide)
 refine xr 0 (args:=#[P0 b2,P0 b3]) (open_1 kind no _ l b2 h1 b3 k3) fun W7 b6=>?_
 refine xi 2 (Pw kind no l 0) (fun j6=>?_) (fun j6=>?_)
 ·have c2:=j6
  refine xd 1 .z ?_
  have j3:=(k6.below b6).below (Za W7)
  refine xb (.e [0] 1) 1 j3 ?_
  have hB:=bln (bln (u6.below (bln (bln (bln (bln n1.below n2.below) n3.below) n4.below) n5.below) g5) b6) (Za W7)
  refine xe (.r [2,3] 8) (.tuple #[S0,V0 1]) ?_
  have he:Hr kind no l=1:=by simp[Hr,c2]
  exact .inl ⟨by rw[he];decide,by rw[he],hB⟩
 have c2:=j6
 have e4:=(u6.blk (n4.blk.below n5.below) (Ne.symm (Ne.symm f7))).below b6
 refine xlv 22 (e4.rpp 2 2) ?_
 refine xa 0 [.nilFunc,V0 0] 240 fun b9 W9 n9=>?_
 have i4:=n9.ne e4
 have g3:=k6.below b6
 have g8:=n9.ne g3
 refine xsv 0 n9.blk [.func (.func 134) #[] #[P0 b1],V0 7] fun n0 e0 j8=>?_
 have g9:=n9.ge (bln (u6.below (bln (bln (bln (bln n1.below n2.below) n3.below) n4.below) n5.below) g5) b6)
 refine xb 5 0 j8 ?_
 have k1:=e0.blkT (((u6.blkT ((((n1.blk.below n2.below).below n3.below).below n4.below).below n5.below) n5.blk (by decide)).below b6).below n9.below) n9.blk (by decide)
 refine xr 0 (args:=#[P0 b1]) (open_2 kind no _ b1 a c l k1) fun m1 a4=>?_
 refine xi 2 (Pw kind no l 1) (fun e5=>?_) (fun e5=>?_)
 ·have a3:=e5
  refine xd 1 .z ?_
  have i5:=(j8.below a4).below (Za m1)
  refine xb (.e [0] 1) 1 i5 ?_
  have hB:=bln (bln (e0.below (bln (bln (u6.below (bln (bln (bln (bln n1.below n2.below) n3.below) n4.below) n5.below) g5) b6) n9.below) g9) a4) (Za m1)
  refine xe (.r [2,3] 8) (.tuple #[S0,V0 7]) ?_
  have he:Hr kind no l=7:=by simp[Hr,c2,a3]
  exact .inl ⟨by rw[he];decide,by rw[he],hB⟩
 have a3:=e5
 have m0:=Zfy a3
 have e2:=(e0.blk (e4.below n9.below) (Ne.symm (Ne.symm i4))).below a4
 refine xlv 22 (e2.rpp 4 2) ?_
 refine xa 0 [.nilFunc,V0 0] 240 fun o7 m9 a7=>?_
 have f2:=a7.ne e2
 have i8:=(e0.blk (g3.below n9.below) (Ne.symm (Ne.symm g8))).below a4
 have d3:=a7.ne i8
 have c4:=j8.below a4
 have f0:=a7.ne c4
 have hB:=bln (e0.below (bln (bln (u6.below (bln (bln (bln (bln n1.below n2.below) n3.below) n4.below) n5.below) g5) b6) n9.below) g9) a4
 have m7:=a7.ge hB
 refine xsv 0 a7.blk [.func (.func 135) #[] #[P0 b1,P0 b2],V0 4] fun o6 f4 l3=>?_
 refine xb 5 0 l3 ?_
 have i7:=f4.blkT ((k1.below a4).below a7.below) a7.blk (by decide)
 have h7:=f4.blkT (((e0.blkT ((h1.below b6).below n9.below) n9.blk (by decide)).below a4).below a7.below) a7.blk (by decide)
 have d5:=f4.below (bln hB a7.below) m7
 refine xr 0 (args:=#[P0 b1,P0 b2]) (open_3 kind no _ b1 a c l i7 b2 h7 (Zfy a3) (by have:=Zfy a3;have:=h.cap rfl;omega) (h.below d5)) fun m2 a0=>?_
 refine xi 2 (Pw kind no l 2) (fun d4=>?_) (fun d4=>?_)
 ·have f6:=d4
  refine xd 1 .z ?_
  have f9:=(l3.below a0).below (Za m2)
  refine xb (.e [0] 1) 1 f9 ?_
  have j9:=bln (bln d5 a0) (Za m2)
  refine xe (.r [2,3] 8) (.tuple #[S0,V0 4]) ?_
  have he:Hr kind no l=4:=by simp[Hr,c2,a3,f6]
  exact .inl ⟨by rw[he];decide,by rw[he],j9⟩
 have f6:=d4
 have e8:=(f4.blk (e2.below a7.below) (Ne.symm (Ne.symm f2))).below a0
 refine xlv 22 (e8.rpp 6 2) ?_
 refine xa 0 [.nilFunc,V0 0] 240 fun o8 n7 a5=>?_
 have e7:=a5.ne e8
 have h9:=(f4.blk (i8.below a7.below) (Ne.symm (Ne.symm d3))).below a0
 have d9:=a5.ne h9
 have c8:=(f4.blk (c4.below a7.below) (Ne.symm (Ne.symm f0))).below a0
 have e3:=a5.ne c8
 have d2:=l3.below a0
 have c0:=a5.ne d2
 have g7:=bln d5 a0
 have m6:=a5.ge g7
 refine xsv 0 a5.blk [.func (.func 137) #[] #[P0 b1,P0 b3],V0 5] fun n6 c7 k0=>?_
 refine xb 5 0 k0 ?_
 have i1:=c7.blkT ((i7.below a0).below a5.below) a5.blk (by decide)
 have j4:=c7.blkT (((f4.blkT (((e0.blkT ((k3.below b6).below n9.below) n9.blk (by decide)).below a4).below a7.below) a7.blk (by decide)).below a0).below a5.below) a5.blk (by decide)
 have e6:=c7.below (bln g7 a5.below) m6
 refine xr 0 (args:=#[P0 b1,P0 b3]) (open_4 kind no _ b1 a c l i1 b3 j4 (Zfy a3) (by have:=Zfy a3;have:=h.cap rfl;omega) (h.below e6)) fun l8 a1=>?_
 refine xi 2 (Pw kind no l 3) (fun f1=>?_) (fun f1=>?_)
 ·have h0:=f1
  refine xd 1 .z ?_
  have i2:=(k0.below a1).below (Za l8)
  refine xb (.e [0] 1) 1 i2 ?_
  have k7:=bln (bln e6 a1) (Za l8)
  refine xe (.r [2,3] 8) (.tuple #[S0,V0 5]) ?_
  have he:Hr kind no l=5:=by simp[Hr,c2,a3,f6,h0]
  exact .inl ⟨by rw[he];decide,by rw[he],k7⟩
 have h0:=f1
 have f5:=(c7.blk (e8.below a5.below) (Ne.symm (Ne.symm e7))).below a1
 refine xlv 22 (f5.rpp 8 2) ?_
 refine xa 0 [.nilFunc,V0 0] 240 fun o4 o0 a6=>?_
 have f3:=a6.ne f5
 have g2:=(c7.blk (h9.below a5.below) (Ne.symm (Ne.symm d9))).below a1
 have d7:=a6.ne g2
 have d0:=(c7.blk (c8.below a5.below) (Ne.symm (Ne.symm e3))).below a1
 have e9:=a6.ne d0
 have d1:=(c7.blk (d2.below a5.below) (Ne.symm (Ne.symm c0))).below a1
 have b8:=a6.ne d1
 have c5:=k0.below a1
 have b7:=a6.ne c5
 have i3:=bln e6 a1
 have m5:=a6.ge i3
 refine xsv 0 a6.blk [.func (.func 138) #[] #[P0 b1,P0 b2],V0 6] fun o1 c6 k5=>?_
 refine xb 5 0 k5 ?_
 have i6:=c6.blkT ((i1.below a1).below a6.below) a6.blk (by decide)
 have k8:=c6.blkT (((c7.blkT ((h7.below a0).below a5.below) a5.blk (by decide)).below a1).below a6.below) a6.blk (by decide)
 have d8:=c6.below (bln i3 a6.below) m5
 refine xr 0 (args:=#[P0 b1,P0 b2]) (open_5 kind no _ b1 a c l i6 b2 k8 (Zfy a3) (by have:=Zfy a3;have:=h.cap rfl;omega) (h.below d8)) fun l5 a2=>?_
 refine xi 2 (Pw kind no l 4) (fun d6=>?_) (fun d6=>?_)
 ·have j0:=d6
  refine xd 1 .z ?_
  have h2:=(k5.below a2).below (Za l5)
  refine xb (.e [0] 1) 1 h2 ?_
  have j7:=bln (bln d8 a2) (Za l5)
  refine xe (.r [2,3] 8) (.tuple #[S0,V0 6]) ?_
  have he:Hr kind no l=6:=by simp[Hr,c2,a3,f6,h0,j0]
  exact .inl ⟨by rw[he];decide,by rw[he],j7⟩
 have j0:=d6
 have g6:=(c6.blk (f5.below a6.below) (Ne.symm (Ne.symm f3))).below a2
 refine xlv 22 (g6.rpp 10 2) ?_
 refine xa 0 [.nilFunc,V0 0] 240 fun n8 o3 a9=>?_
 have j5:=a9.ne g6
 have l0:=(c6.blk (g2.below a6.below) (Ne.symm (Ne.symm d7))).below a2
 have l2:=a9.ne l0
 have h3:=(c6.blk (d0.below a6.below) (Ne.symm (Ne.symm e9))).below a2
 have l1:=a9.ne h3
 have g0:=(c6.blk (d1.below a6.below) (Ne.symm (Ne.symm b8))).below a2
 have i9:=a9.ne g0
 have h4:=(c6.blk (c5.below a6.below) (Ne.symm (Ne.symm b7))).below a2
 have j2:=a9.ne h4
 have h6:=k5.below a2
 have j1:=a9.ne h6
 have i0:=bln d8 a2
 have m8:=a9.ge i0
 refine xsv 0 a9.blk [.func (.func 139) #[] #[P0 b1],V0 7] fun o2 m3 l6=>?_
 refine xb 5 0 l6 ?_
 have f8:=m3.blkT ((i6.below a2).below a9.below) a9.blk (by decide)
 have a8:=m3.below (bln i0 a9.below) m8
 refine xr 0 (args:=#[P0 b1]) (open_6 kind no _ b1 a c l f8  (Zfy a3) (by have:=Zfy a3;have:=h.cap rfl;omega) (h.below a8)) fun l9 b0=>?_
 refine xi 2 (Pw kind no l 5) (fun e1=>?_) (fun e1=>?_)
 ·have l4:=e1
  refine xd 1 .z ?_
  have h8:=(l6.below b0).below (Za l9)
  refine xb (.e [0] 1) 1 h8 ?_
  have h5:=bln (bln a8 b0) (Za l9)
  refine xe (.r [2,3] 8) (.tuple #[S0,V0 7]) ?_
  have he:Hr kind no l=7:=by simp[Hr,c2,a3,f6,h0,j0,l4]
  exact .inl ⟨by rw[he];decide,by rw[he],h5⟩
 have l4:=e1
 have k2:=f8.below b0
 refine xb 22 0 k2 ?_
 refine xsB 0 (fun _ _ _ _ _ zo zx zy zz V=>Om (k:=8) (h:=252) (b:=a) (n:=l.length) (c:=c) (i:=8) (ki:=.i64) (j:=252) (kj:=.i64) 1 zo zx zy rfl zz rfl (by omega) (by omega) Tryz.underlying40 (by kernel_rfl) V) ?_
 have c9:=bln a8 b0
 refine xc 0 (args:=#[.slice (Gj a 8 c 1) 244 (c-8)]) (Qt (Gj a 8 c 1) 244 (c-8) ((l.drop 8).take 244) _ (by have:=Zfy a3;simp;omega) ((Bys.cut h rfl 8 252 (by decide) (by have:=Zfy a3;omega)).below c9) (by decide)) ?_
 rintro _ o5 ⟨_,rfl,k4,ho⟩
 have k9:=(bln a8 b0).size
 have c1:=Ze ho k9
 unfold Pe at c1
 rw[show((l.drop 8).take 244).length=244 from by have:=Zfy a3;simp;omega] at c1
 obtain⟨p,c3,rfl⟩:=(Zf c1).slice
 have g1:=bln c9 k4
 exact xe 5 (.tuple #[.slice p 244 c3,V0 0]) (.inr ⟨by simp[Hr,c2,a3,f6,h0,j0,l4],_,_,rfl,g1,c1⟩)
end Go.Proofs.YtegcamkgeacjfaaGreatDoor
namespace Go.Proofs.YtegcamkgeacjfaaGreatDoor
set_option maxHeartbeats 8000000
set_option maxRecDepth 100000
open Go.RowKit Go.Extern.Stop Go.Stop Go.Extern
set_option linter.unusedVariables false
section
variable {P:Program} {Q:Exit→Act→World→Prop} {a:Act} {w:World} {K:Act→World→Prop}
theorem Zcp{o:Oper}{d x:Operand}{dT sT e:TypeId}{base g off n cap dLen dCap:Nat}{xs:List Value}(l:Bl)(xs':List Value)(ho:o.op=.call { callee:=.builtin .copy,args:=#[d,x],argTypes:=#[dT,sT] })(hu:P.underlying dT=some (.slice e))(hsz:(P.info? e).map (·.size)=some 1)
 (hd:a.eval d=.slice (some ⟨g,off,none⟩) dLen dCap) (hs:a.eval x=.string ⟨l.toArray⟩) (hown:w.ownsRow base e 1 (.slice (S1 g) n cap) n xs) (hm:l.length≤dLen) (hfit:off+l.length≤n)
 (hbase:base≤w.heap.size) (hxs:xs.take off++l.map bv++xs.drop (off+l.length)=xs')
 (h:∀ W,W.ownsRow base e 1 (.slice (S1 g) n cap) n xs'→w.grownBy W (Value.slice (S1 g) n cap).ownBlock→Below base w W→K (a.put o.dst (V0 (l.length:Int))) W):o.wp P a w K Q:=by
 obtain⟨hl,hr⟩:=hown
 rcases hr with ⟨hv,_⟩|⟨g2,b0,a1,hv,a5,hh,a8,a9,a4,a7⟩
 ·cases hv
 simp only[Value.slice.injEq,Option.some.injEq,Addr.mk.injEq] at hv
 obtain⟨⟨rfl,_,_⟩,_,rfl⟩:=hv
 have b1:xs.length=n:=by simpa using hl
 have a3:a1.toList.length=cap:=by simpa using a4
 have a6:(l.map bv).length=l.length:=by simp
 have b3:∀ W,W.heap[g]? = some (.cells (a1.toList.take off++l.map bv++a1.toList.drop (off+l.length)).toArray e (0,0))→w.grownBy W (some g)→K (a.put o.dst (V0 (l.length:Int))) W:=by
  intro W hW hg
  refine h W ⟨?_,.inr ⟨g,cap,_,rfl,a5,hW,a8,a9,?_,?_⟩⟩ hg (Vu (v:=.slice (S1 g) n cap) hg ⟨hl,.inr ⟨g,cap,a1,rfl,a5,hh,a8,a9,a4,a7⟩⟩ (Nat.le_refl _) hbase)
  ·rw[←hxs];simp;omega
  ·simp only[List.size_toArray,List.length_append,List.length_take,List.length_drop,a3,Nat.mul_one,a6];omega
  ·have hA:(a1.toList.take off++l.map bv).length=off+l.length:=by simp only[List.length_append,List.length_take,a3,a6];omega
   rw[←hxs,←a7]
   simp only[Nat.mul_one]
   rw[List.take_append,List.take_of_length_le (by rw[hA];omega),hA,List.take_take,Nat.min_eq_left (by omega:off≤n),List.drop_take]
 have a0:(⟨l.toArray⟩:ByteArray).size=l.length:=by show l.toArray.size=l.length;simp
 have a2:=Go.Lib.run_copy_row_string (P:=P) w dT sT o.type e g off dLen dCap ⟨l.toArray⟩ a1 e hu hsz hh (by rw[a0];exact hm) (by rw[a0,a4];omega)
 rw[a0] at a2
 have b2:Go.Lib.byteCells (⟨l.toArray⟩:ByteArray).data.toList=l.map bv:=rfl
 rw[b2] at a2
 have h2:(execOp a.eval o).run P w=.ok (.value (V0 (l.length:Int))) (w.setRow g (a1.toList.take off++l.map bv++a1.toList.drop (off+l.length)).toArray):=by
  simp[execOp,ho,resolve,invoke,builtin,hd,hs,a2,Result.andThen,goInt]
 exact Gp h2 (b3 _ (setRow_heap w g _ _ e _ hh) ⟨rfl,rfl,rfl,by simp,fun k _ hk=>setRow_other w g k _ (fun e=>hk (by rw[e]))⟩)
theorem Sl.head{b:O0}{n c:Nat}{xs:List Value}(h:Sl w (.slice b n c) n xs)(hn:xs.length=n)(m:Nat)(hm:m≤n):Sl w (.slice b m c) m (xs.take m):=by
 rcases h with ⟨a',c',h1,h2,h3⟩|⟨b',a0,a2,h1,h2,h3,h4⟩
 ·obtain rfl:m=0:=by omega
  simp only[Value.slice.injEq] at h1
  exact .inl ⟨b,c,rfl,rfl,by simp⟩
 ·simp only[Value.slice.injEq] at h1
  obtain⟨rfl,_,rfl⟩:=h1
  refine .inr ⟨b',a0,c,rfl,by omega,h3,fun j x hj=>h4 j x ?_⟩
  have a1:j<m:=by have:=(List.getElem?_eq_some_iff.1 hj).1;simp at this;omega
  rwa [List.getElem?_take_of_lt a1] at hj
def sv (l:Bl):Value:=.string ⟨l.toArray⟩
theorem Strs.elem{b:O0}{n c:Nat}{V:List Bl}(h:Sl w (.slice b n c) n (V.map sv))(hl:V.length=n){k:Nat}(hk:k<n):b.isSome=true∧w.cell? (Zz b (k*1))=some (.string ⟨(V.getD k []).toArray⟩):=by
 rcases h with ⟨a',c',h1,h2,h3⟩|⟨b',a0,a1,h1,h2,h3,h4⟩
 ·omega
 ·simp only[Value.slice.injEq] at h1
  obtain⟨rfl,_,rfl⟩:=h1
  refine⟨rfl,?_⟩
  have:=h4 k (sv (V.getD k [])) (by simp[List.getD,List.getElem?_eq_getElem (show k<V.length by omega)])
  rw[Nat.mul_one]
  show w.cell? ((⟨b',a0,none⟩:Addr).add k)=_
  rw[Addr.add_mid]
  exact this
end
end Go.Proofs.YtegcamkgeacjfaaGreatDoor
namespace Go.Proofs.YtegcamkgeacjfaaGreatDoor
set_option maxHeartbeats 8000000
set_option maxRecDepth 100000
open Go.RowKit Go.Extern.Stop Go.Stop Go.Extern
set_option linter.unusedVariables false
attribute [local irreducible] wpList wpAnyH Code.wp Oper.wp Go
theorem Sl.cap{w:World}{b:O0}{n c:Nat}{xs:List Value}(h:Sl w (.slice b n c) n xs):n≤c:=by
 rcases h with ⟨a',c',h1,h2,_⟩|⟨b',a0,cap,h1,h2,_,_⟩
 ·omega
 ·simp only[Value.slice.injEq] at h1;omega
def Cd(b:Bool):Int:=if b then 1 else 0
theorem Zcw(b:Bool):0≤Cd b∧Cd b<256:=by cases b<;>decide
structure NodeOk(t:Int)(leaf:Bool)(n m v:Nat)(K:List Int)(Vs:List (List UInt8)):Prop where
 ht1:1≤t
 ht2:t≤5
 hm:Qq t leaf=m
 hv:Pj t leaf=v
 hK:K.length=n
 hV:Vs.length=n
 hn:n≤m
 hl:leaf=false→1≤n
 hk0:∀ i,i<n→0≤K.getD i 0∧K.getD i 0≤281474976710655
 hk1:∀ j,j+1<n→K.getD j 0<K.getD (j+1) 0
 hw:∀ i,i<n→(Vs.getD i []).length=v
theorem Dd(t:Int)(leaf:Bool):4≤Pj t leaf∧Pj t leaf≤24:=by
 unfold Pj
 repeat' split
 all_goals decide
theorem fitN(t:Int)(leaf:Bool):12+Qq t leaf*8+Qq t leaf*Pj t leaf≤244:=by
 unfold Pj Qq
 repeat' split
 all_goals decide
theorem Ab{K:List Int}{i j:Nat}(h:j<i):(K.take i).getD j 0=K.getD j 0:=by simp[List.getD,List.getElem?_take_of_lt h]
theorem Dm(t:Int)(leaf:Bool)(m:Nat)(hm:Qq t leaf=m)(h1:1≤t)(h2:t≤5)(w:World):C0 269 #[V0 t,.bool leaf] w (Ret (V0 (m:Int)) w):=by
 subst hm;exact Tm t leaf h1 h2 w
theorem Nf(t:Int)(leaf:Bool)(v:Nat)(hv:Pj t leaf=v)(h1:1≤t)(h2:t≤5)(w:World):C0 272 #[V0 t,.bool leaf] w (Ret (V0 (v:Int)) w):=by
 subst hv;exact Zdu t leaf h1 h2 w
theorem node_flag(leaf:Bool)(w:World) :
 C0 298 #[.bool leaf] w (Ret (V0 (Cd leaf)) w):=by
 refine zin 4 Tryz.func298 ?_
 refine xi 11 leaf (fun a0=>?_) (fun a0=>?_)
 ·exact xe 7 (V0 1) ⟨by simp_all [Cd],(B4 w)⟩
 exact xe 8 (V0 0) ⟨by simp_all [Cd],(B4 w)⟩
theorem Zcf(a:O0)(i c:Nat)(L:List Int)(k:Int)(w:World)(hL:L.length=i)(h:Sl w (.slice a i c) i (L.map V0))(h1:0≤k)(h2:k≤281474976710655)(h3:∀ j,i=j+1→L.getD j 0<k)(hi:i≤1000) :
 C0 314 #[.slice a i c,V0 k] w (Ret (V0 0) w):=by
 refine zin 26 Tryz.func314 ?_
 refine xgk 12 [7,8] (show(decide (k<(0:Int)):Bool)=false from decide_eq_false (by omega)) ?_
 refine xk 6 (show(decide (k>(281474976710655:Int)):Bool)=false from decide_eq_false (by omega)) ?_
 refine xg 6 [15,16] (decide ((i:Int)>(0:Int))) (fun a0=>?_) (fun a0=>?_)
 ·have a0:=of_decide_eq_true a0
  refine xwm 3 ((i:Int)-1) (↑(i-1):Int) ?_
  refine xx 0 _ i (i-1) 1 (IntsN.elem h hL (k:=(i-1)) (by omega)).1 ?_
  refine xl 0 ((IntsN.elem h hL (k:=(i-1)) (by omega)).2) ?_
  refine xk 6 (show(decide ((L.getD (i-1) 0)≥k):Bool)=false from decide_eq_false (by have:=h3 (i-1) (by omega);omega)) ?_
  exact xe 9 (V0 0) ⟨rfl,(B4 w)⟩
 have a0:=of_decide_eq_false a0
 exact xe 22 (V0 0) ⟨rfl,(B4 w)⟩
theorem Zee(t:Int)(leaf:Bool)(n m v:Nat)(K:List Int)(Vs:List Bl)(ak av:O0)(ck cv:Nat)(w:World)(N:NodeOk t leaf n m v K Vs)(hKs:Sl w (.slice ak n ck) n (K.map V0))(hVs:Sl w (.slice av n cv) n (Vs.map sv)) :
 C0 297 #[.agg #[V0 t,.bool leaf,.slice ak n ck,.slice av n cv]] w (Ret (.bool true) w):=by
 have b9:=N.ht1
 have c0:=N.ht2
 have d1:=N.hn
 have c2:=Dd t leaf
 rw[N.hv] at c2
 have c6:=Yt t leaf
 rw[N.hm] at c6
 have b5:=fitN t leaf
 rw[N.hm,N.hv] at b5
 have c3:=Sl.cap hKs
 refine zin 70 Tryz.func297 ?_
 refine xa 2 [V0 t,.bool leaf,.slice ak n ck,.slice av n cv] 173 fun b1 W1 n1=>?_
 refine xb 6 0 n1.blk ?_
 refine xb 1 1 n1.blk ?_
 refine xr 0 (args:=#[V0 t,.bool leaf]) (Nf t leaf v N.hv b9 c0 _) fun W2 b4=>?_
 refine xd 5 .z ?_
 refine xgk (.b [0,1,2]) [12,13] (show(((v:Int)==(0:Int)):Bool)=false from by simp;omega) ?_
 have a6:=(n1.blk.below b4).below (Za W2)
 refine xb (.e [3] 4) 2 a6 ?_
 refine xb (.e [5,6] 7) 0 a6 ?_
 refine xb (.e [8] 9) 1 a6 ?_
 refine xr (.o [] 10) (args:=#[V0 t,.bool leaf]) (Dm t leaf m N.hm b9 c0 _) fun W4 b3=>?_
 refine xgk (.b [11,12,13]) [22,23,24] (show(decide ((n:Int)>(m:Int)):Bool)=false from decide_eq_false (by omega)) ?_
 have a0:=a6.below b3
 refine xb (.e [14] 15) 3 a0 ?_
 refine xb (.e [16,17] 18) 2 a0 ?_
 refine xgk (.b [19,20,21,22]) [31,32,33] (show(((n:Int) != (n:Int)):Bool)=false from by simp) ?_
 refine xb (.e [23] 24) 1 a0 ?_
 refine xg (.b [25,26]) [36,37] (!leaf) (fun c4=>?_) (fun c4=>?_)
 ·refine xb (.e [27] 28) 2 a0 ?_
  refine xk (.r [29,30,31,32] 2) (show(((n:Int)==(0:Int)):Bool)=false from by have:=N.hl (by simp_all);simp;omega) ?_
  refine xb 6 2 a0 ?_
  have hB:=bln (bln (bln n1.below b4) (Za W2)) b3
  refine zl 5 70 (fun zm b8 V=>∃ (i:Nat),b8=[(1,P0 b1),(3,V0 (v:Int)),(45,.slice ak n ck),(46,V0 (n:Int)),(47,V0 (i:Int))]∧zm=n-((i:Int)).toNat∧B3 w V∧Blk V b1 ([V0 t,.bool leaf,.slice ak n ck,.slice av n cv]) 173∧i≤n) ⟨0,rfl,rfl,hB,a0,Nat.zero_le _⟩ ?_
  rintro _ _ W8 ⟨i,rfl,rfl,a5,a7,hi⟩ J8 c5 r8
  refine xid 6 ((i:Int)<(n:Int)) (fun c1=>?_) (fun c1=>?_)
  ·refine xx 7 _ n i 1 (IntsN.elem hKs N.hK (k:=i) (by omega)).1 ?_
   refine xl 0 ((IntsN.elem (hKs.below a5) N.hK (k:=i) (by omega)).2) ?_
   refine xb 7 2 a7 ?_
   refine xsH 1 (fun _ _ _ _ zo zx zy V=>Gg (k:=i) (b:=ak) (n:=n) (c:=ck) (i:=(i:Int)) (ki:=.i64) zo zx zy rfl (by omega) Tryz.underlying33 (by kernel_rfl) V) ?_
   refine xr 1 (args:=#[.slice ak i ck,V0 (K.getD i 0)]) (Zcf ak i ck (K.take i) (K.getD i 0) _ (by rw[List.length_take,N.hK];omega) (by rw[List.map_take];exact(hKs.below a5).head (by simpa using N.hK) i (by omega)) (N.hk0 i (by omega)).1 (N.hk0 i (by omega)).2 (fun j e=>by subst e;rw[Ab (by omega)];exact N.hk1 j (by omega)) (by omega)) fun d2 b0=>?_
   have a3:=a7.below b0
   refine xb 3 3 a3 ?_
   refine xx 1 _ n i 1 (Strs.elem hVs N.hV (k:=i) (by omega)).1 ?_
   have a9:=bln a5 b0
   refine xl 0 ((Strs.elem (hVs.below a9) N.hV (k:=i) (by omega)).2) ?_
   refine xk 6 (show(((↑(Vs.getD i []).length:Int) != (v:Int)):Bool)=false from by rw[N.hw i (by omega)];simp) ?_
   refine xw 4 ((i:Int)+1) ?_
   exact ze 2 (c5 _ _ _ ⟨i+1,rfl,rfl,a9,a3,by omega⟩ (by omega))
  exact xe 11 (.bool true) ⟨rfl,a5⟩
 refine xb (.r [27,28,29,30,31,32] 9) 2 a0 ?_
 have hB:=bln (bln (bln n1.below b4) (Za W2)) b3
 refine zl 5 70 (fun zm b8 V=>∃ (i:Nat),b8=[(1,P0 b1),(3,V0 (v:Int)),(45,.slice ak n ck),(46,V0 (n:Int)),(47,V0 (i:Int))]∧zm=n-((i:Int)).toNat∧B3 w V∧Blk V b1 ([V0 t,.bool leaf,.slice ak n ck,.slice av n cv]) 173∧i≤n) ⟨0,rfl,rfl,hB,a0,Nat.zero_le _⟩ ?_
 rintro _ _ c8 ⟨i,rfl,rfl,a2,a4,hi⟩ c9 b7 d0
 refine xid 6 ((i:Int)<(n:Int)) (fun b6=>?_) (fun b6=>?_)
 ·refine xx 7 _ n i 1 (IntsN.elem hKs N.hK (k:=i) (by omega)).1 ?_
  refine xl 0 ((IntsN.elem (hKs.below a2) N.hK (k:=i) (by omega)).2) ?_
  refine xb 7 2 a4 ?_
  refine xsH 1 (fun _ _ _ _ zo zx zy V=>Gg (k:=i) (b:=ak) (n:=n) (c:=ck) (i:=(i:Int)) (ki:=.i64) zo zx zy rfl (by omega) Tryz.underlying33 (by kernel_rfl) V) ?_
  refine xr 1 (args:=#[.slice ak i ck,V0 (K.getD i 0)]) (Zcf ak i ck (K.take i) (K.getD i 0) _ (by rw[List.length_take,N.hK];omega) (by rw[List.map_take];exact(hKs.below a2).head (by simpa using N.hK) i (by omega)) (N.hk0 i (by omega)).1 (N.hk0 i (by omega)).2 (fun j e=>by subst e;rw[Ab (by omega)];exact N.hk1 j (by omega)) (by omega)) fun c7 a8=>?_
  have a1:=a4.below a8
  refine xb 3 3 a1 ?_
  refine xx 1 _ n i 1 (Strs.elem hVs N.hV (k:=i) (by omega)).1 ?_
  have b2:=bln a2 a8
  refine xl 0 ((Strs.elem (hVs.below b2) N.hV (k:=i) (by omega)).2) ?_
  refine xk 6 (show(((↑(Vs.getD i []).length:Int) != (v:Int)):Bool)=false from by rw[N.hw i (by omega)];simp) ?_
  refine xw 4 ((i:Int)+1) ?_
  exact ze 2 (b7 _ _ _ ⟨i+1,rfl,rfl,b2,a1,by omega⟩ (by omega))
 exact xe 11 (.bool true) ⟨rfl,a2⟩
end Go.Proofs.YtegcamkgeacjfaaGreatDoor
namespace Go.Proofs.YtegcamkgeacjfaaGreatDoor
set_option maxHeartbeats 8000000
set_option maxRecDepth 100000
open Go.RowKit Go.Extern.Stop Go.Stop Go.Extern
set_option linter.unusedVariables false
section
variable {P:Program} {a:Act} {w:World} {K:Act→World→Prop} {Q:Exit→Act→World→Prop}
theorem Zam(l:Bl):Lib.strCells ⟨l.toArray⟩=l.map bv:=by
 unfold Lib.strCells bv
 simp
theorem Tj{o:Oper}{s x:Operand}{t u e:TypeId}{base:Nat}{v:Value}{n:Nat}{xs:List Value}(l:Bl)(n':Nat)(xs':List Value)(ho:o.op=.call { callee:=.builtin .append,args:=#[s,x],argTypes:=#[t,u] })
 (ht:P.underlying t=some (.slice e)) (hu:P.underlying u=some .string) (hi:(P.info? e).map (fun i=>(i.zero,i.size,i.bytes))=some (some (.int .u8 0),1,1)) (hs:a.eval s=v) (hown:w.ownsRow base e 1 v n xs) (hx:a.eval x=.string ⟨l.toArray⟩)
 (hb:n+l.length≤100000000) (hbase:base≤w.heap.size) (hn:n+l.length=n') (hxs:xs++l.map bv=xs')
 (h:∀ b c W,W.ownsRow base e 1 (.slice b n' c) n' xs'→w.grownBy W v.ownBlock→Below base w W→K (a.put o.dst (.slice b n' c)) W):o.wp P a w K Q:=by
 cases hq:P.info? e with
 | none=>simp[hq] at hi
 | some i =>
  simp only[hq,Option.map_some,Option.some.injEq,Prod.mk.injEq] at hi
  have a0:(⟨l.toArray⟩:ByteArray).size=l.length:=by simp[ByteArray.size]
  obtain⟨v',W,hr,h2,h3,_⟩:=Lib.run_append_own_string (P:=P) w base t u o.type e i ht hu hq hi.1 hi.2.1 hi.2.2 v n xs hown ⟨l.toArray⟩ (by rw[a0];unfold maxLen;omega) (by rw[a0];omega) hbase
  rw[a0,Zam] at h2
  subst hn hxs
  obtain⟨b,c,rfl⟩:=(Zf h2).slice
  unfold Oper.wp execOp
  simp only[ho,resolve,invoke,builtin,Sem.run_bind,Sem.run_pure,Result.andThen_ok,List.map_toArray,List.map_cons,List.map_nil,hs,hx,hr]
  exact h b c W h2 h3 (Vu h3 hown (Nat.le_refl _) hbase)
theorem Iq(g k:Nat):Zz (S1 g) (k*1)=⟨g,k,none⟩:=by
 simp[Zz,Addr.add];exact fun h=>h.symm
theorem Xz{o:Oper}{t e:TypeId}{x y:Operand}{g n c k base:Nat}{xs:List Value}{v:Value}(ho:o.op=.store t x y)(hx:a.eval x=.pointer (some (Zz (S1 g) (k*1))))(hy:a.eval y=v)
 (hi:(P.info? t).map (·.size)=some 1) (h1:v.oneCell'=true) (hown:w.ownsRow base e 1 (.slice (S1 g) n c) n xs) (hk:k<n)
 (h:∀ W,Upd w g W→W.ownsRow base e 1 (.slice (S1 g) n c) n (xs.set k v)→K (a.put o.dst undef) W):o.wp P a w K Q:=by
 obtain⟨hl,h2⟩:=hown
 rcases h2 with ⟨h2,_⟩|⟨g',a3,a0,hv,hg,hh,hc,hm,a1,a2⟩
 ·cases h2
 ·simp only[Value.slice.injEq,Option.some.injEq,Addr.mk.injEq] at hv
  obtain⟨⟨rfl,_⟩,_,rfl⟩:=hv
  have hb:Blk w g a0.toList e:=by unfold Blk;simpa using hh
  rw[Iq] at hx
  refine Yh ho hx hy hi h1 hb (by simp;omega) fun W hu hW=>h W hu ⟨by simpa using hl,.inr ⟨g,c,(a0.toList.set k v).toArray,rfl,hg,hW,hc,hm,by simpa using a1,?_⟩⟩
  rw[←a2]
  simp[List.take_set]
end
section
variable {P:Program} {ops:Array Oper} {Q:Exit→Act→World→Prop} {a a':Act} {w:World} {S:World→Prop} {md:Region.Mode} {L L':Array Bool} {fuel:Nat}
end
theorem Vz{w:World}{base e size g n c:Nat}{xs:List Value}(h:w.ownsRow base e size (.slice (S1 g) n c) n xs):base≤g:=(h.lt g rfl).1
theorem Ep{w:World}{base e size g n c:Nat}{xs:List Value}(h:w.ownsRow base e size (.slice (S1 g) n c) n xs):∃ cs,Blk w g cs e:=by
 rcases h.2 with ⟨h2,_⟩|⟨g',a1,a0,hv,hg,hh,_⟩
 ·cases h2
 ·simp only[Value.slice.injEq,Option.some.injEq,Addr.mk.injEq] at hv
  obtain⟨⟨rfl,_⟩,_⟩:=hv
  exact⟨a0.toList,by unfold Blk;simpa using hh⟩
theorem Yx{w:World}{base e size g n c b:Nat}{t:TypeId}{xs cs:List Value}(k:Blk w b cs t)(h:w.ownsRow base e size (.slice (S1 g) n c) n xs)(hne:t≠e):b≠g:=by
 rintro rfl
 obtain⟨a0,k'⟩:=Ep h
 have h1:w.heap[b]? = some (.cells cs.toArray t (0,0)):=k
 rw[show w.heap[b]? = some (.cells a0.toArray e (0,0)) from k'] at h1
 simp only[Option.some.injEq,Obj.cells.injEq] at h1
 exact hne h1.2.1.symm
theorem Zd.of_updRow{T:List TypeId}{w W:World}{base e size g n c:Nat}{xs:List Value}(u:Upd w g W)(h:w.ownsRow base e size (.slice (S1 g) n c) n xs)(hT:T.contains e=true):Zd T w W:=by
 obtain⟨cs,k⟩:=Ep h
 exact Zd.of_upd u k hT
theorem Upd.ownRow{w W:World}{base base2 e e2 size size2 g n c n2:Nat}{v:Value}{xs ys:List Value}(u:Upd w g W)(h:w.ownsRow base2 e2 size2 v n2 ys)(o:w.ownsRow base e size (.slice (S1 g) n c) n xs)(hne:e2≠e):W.ownsRow base2 e2 size2 v n2 ys:=by
 obtain⟨cs,k⟩:=Ep o
 exact u.own2 h k hne
end Go.Proofs.YtegcamkgeacjfaaGreatDoor
namespace Go.Proofs.YtegcamkgeacjfaaGreatDoor
set_option maxHeartbeats 8000000
set_option maxRecDepth 100000
open Go.RowKit Go.Extern.Stop Go.Stop Go.Extern
set_option linter.unusedVariables false
attribute [local irreducible] wpList wpAnyH Code.wp Oper.wp Go
abbrev Tt:=Nat×Int×Int
def partC(p:Tt):List Value:=[V0 (p.1:Int),V0 p.2.1,V0 p.2.2]
theorem Ij(p:Tt):(partC p).length=3:=rfl
def Ja:Tt:=(4,0,0)
def Cz(ps:List Tt):Prop:=ps.length≤1000∧∀ i,i<ps.length→((ps.getD i Ja).1=4∨(ps.getD i Ja).1=8)∧0≤(ps.getD i Ja).2.1∧(ps.getD i Ja).2.2<9223372036854775808∧((ps.getD i Ja).1=4→(ps.getD i Ja).2.2<4294967296)
def inP (p:Tt)(n:Int):Bool:=decide (p.2.1≤n∧n≤p.2.2)
def Nm(ps:List Tt)(N:List Int)(k:Nat):Bool:=(List.range k).all fun i=>inP (ps.getD i Ja) (N.getD i 0)
theorem Zd7(ps:List Tt)(N:List Int)(k:Nat):Nm ps N (k+1)=(Nm ps N k&&inP (ps.getD k Ja) (N.getD k 0)):=by simp[Nm,List.range_succ]
theorem Rr{ps:List Tt}{N:List Int}{i k:Nat}(hi:i<k)(h:inP (ps.getD i Ja) (N.getD i 0)=false):Nm ps N k=false:=by
 unfold Nm
 rw[List.all_eq_false]
 exact⟨i,List.mem_range.2 hi,by rw[h];decide⟩
def Zfc(ps:List Tt)(N:List Int)(k:Nat):Bl:=(List.range k).flatMap fun i=>leB (N.getD i 0) (ps.getD i Ja).1
theorem Az(ps:List Tt)(N:List Int)(k:Nat):Zfc ps N (k+1)=Zfc ps N k++leB (N.getD k 0) (ps.getD k Ja).1:=by simp[Zfc,List.range_succ]
def wids(ps:List Tt)(k:Nat):List Nat:=(List.range k).map fun i=>(ps.getD i Ja).1
theorem On(ps:List Tt)(k:Nat):wids ps (k+1)=wids ps k++[(ps.getD k Ja).1]:=by simp[wids,List.range_succ]
theorem Cs(ps:List Tt)(N:List Int)(k:Nat):(Zfc ps N k).length=(wids ps k).sum:=by
 induction k with
 | zero=>rfl
 | succ k ih=>rw[Az,On,List.length_append,Zh,ih];simp
theorem Pack_48(g w:Nat)(n:Int)(W:World)(hw:w=4∨w=8)(h0:0≤n)(hb:w=4→n<4294967296)(hk:Blk W g [V0 (w:Int),V0 n] 271):C0 169 #[.slice (S1 g) 1 1] W (Qn (fun w' r=>∃ p c,r=.tuple #[.slice p w c,V0 0]∧w'.ownsRow W.heap.size 5 1 (.slice p w c) w ((leB n w).map bv)) W):=by
 rcases hw with rfl|rfl
 ·exact Fg g n h0 (hb rfl) W hk
 ·exact Pack_8 g n h0 W hk
def ValPutP(ps:List Tt)(N:List Int)(w:World)(e:Ending)(w':World):Prop :=
 (Nm ps N ps.length=false∧e=.returned (.string ⟨#[]⟩)∧B3 w w')∨(Nm ps N ps.length=true∧e=.returned (.string ⟨(Zfc ps N ps.length).toArray⟩)∧B3 w w')
theorem Zdz(ps:List Tt)(N:List Int)(gl gn:O0)(cl cn:Nat)(w:World)(hps:Cz ps)(hNl:N.length=ps.length)(hP:Sts partC w (.slice gl ps.length cl) ps)(hN:Sl w (.slice gn ps.length cn) ps.length (N.map V0)) :
 C0 222 #[.slice gl ps.length cl,.slice gn ps.length cn] w (ValPutP ps N w):=by
 have c0:=hps.1
 refine zin 51 Tryz.func222 ?_
 have hB:=Below.refl w.heap.size w
 refine zl 19 51 (fun zm b5 V=>∃ (i m:Nat) (q:O0) (d:Nat),b5=[(1,.slice gn ps.length cn),(5,.slice q m d),(10,.slice gl ps.length cl),(11,V0 (ps.length:Int)),(12,V0 (i:Int))]∧zm=ps.length-((i:Int)).toNat∧B3 w V∧V.ownsRow w.heap.size 5 1 (.slice q m d) m ((Zfc ps N i).map bv)∧i≤ps.length∧m=(wids ps i).sum∧m≤i*8∧Nm ps N i=true) ⟨0,0,_,_,rfl,rfl,hB,World.ownsRow_nil _ _ _ _,Nat.zero_le _,rfl,Nat.zero_le _,rfl⟩ ?_
 rintro _ _ W1 ⟨i,m,q,d,rfl,rfl,a1,ho,hi,hm,c1,a6⟩ J1 b2 r1
 refine xid 6 ((i:Int)<(ps.length:Int)) (fun b6=>?_) (fun b6=>?_)
 ·refine xx 7 _ ps.length i 3 (Sts.cell hP Ij Ja (k:=i) (i:=0) (by omega) rfl).1 ?_
  refine xlv 0 (Sts.rp (k:=i) (hP.below a1) Ij Ja (by omega) (by decide)) ?_
  refine xa 0 [V0 0,V0 0,V0 0] 377 fun b3 W3 n3=>?_
  have g3:=n3.ge a1
  refine xsv 1 n3.blk [V0 (↑(ps.getD i Ja).1:Int),V0 ((ps.getD i Ja).2.1),V0 ((ps.getD i Ja).2.2)] fun W4 u4 k4=>?_
  refine xd 4 .z ?_
  refine xx (.e [0,1] 2) _ ps.length i 1 (IntsN.elem hN hNl (k:=i) (by omega)).1 ?_
  have a0:=bln (u4.below (bln a1 n3.below) g3) (Za W4)
  refine xl (.e [] 3) ((IntsN.elem (hN.below a0) hNl (k:=i) (by omega)).2) ?_
  have a3:=k4.below (Za W4)
  refine xb (.e [4] 5) 1 a3 ?_
  refine xg (.b [6,7]) [23,24] (decide ((N.getD i 0)<(ps.getD i Ja).2.1)) (fun a4=>?_) (fun a4=>?_)
  ·have a4:=of_decide_eq_true a4
   exact xe (.r [8,9,10,11,12,13,14,15] 15) (.string ⟨#[]⟩) (.inl ⟨Rr (i:=i) (by omega) (decide_eq_false (by omega)),rfl,a0⟩)
  have a4:=of_decide_eq_false a4
  refine xx (.e [8,9] 10) _ ps.length i 1 (IntsN.elem hN hNl (k:=i) (by omega)).1 ?_
  refine xl (.e [] 11) ((IntsN.elem (hN.below a0) hNl (k:=i) (by omega)).2) ?_
  refine xb (.e [12] 13) 2 a3 ?_
  refine xid (.r [14,15] 2) ((N.getD i 0)>(ps.getD i Ja).2.2) (fun b8=>?_) (fun b8=>?_)
  ·exact xe 12 (.string ⟨#[]⟩) (.inl ⟨Rr (i:=i) (by omega) (decide_eq_false (by omega)),rfl,a0⟩)
  refine xd 3 .z ?_
  have b0:=a3.below (Za W4.drew)
  refine xb (.e [0] 1) 0 b0 ?_
  refine xx (.e [2,3] 4) _ ps.length i 1 (IntsN.elem hN hNl (k:=i) (by omega)).1 ?_
  have a2:=bln a0 (Za W4.drew)
  refine xl (.e [] 5) ((IntsN.elem (hN.below a2) hNl (k:=i) (by omega)).2) ?_
  refine xbs (.o [6] 7) 1 [V0 (↑(ps.getD i Ja).1:Int),V0 (N.getD i 0)] 271 fun b7 W7 n7=>?_
  have g7:=n7.ge a2
  refine yc (.o [] 8) (args:=#[.slice (S1 b7) 1 1]) .z (Pack_48 b7 (ps.getD i Ja).1 (N.getD i 0) _ (hps.2 i (by omega)).1 (by have:=(hps.2 i (by omega)).2.1;omega) (fun q=>by have:=(hps.2 i (by omega)).2.2.2 q;omega) n7.blk) ?_
  rintro _ W8 ⟨_,rfl,a9,p2,c2,rfl,h2⟩
  have b4:=(bln a2 n7.below).size
  refine⟨a9,?_⟩
  have a7:=Zb (Zb (Zb (Zb (u4.own2 (Zb ho n3.below) n3.blk (by decide)) (Za W4)) (Za W4.drew)) n7.below) a9
  have a8:=Ze h2 b4
  have a5:=bln (bln a2 n7.below) a9
  refine xbi (.r [9,10,11,12,13] 5) fun _ _ _ _ zJ zQ zo zx zy zK=>Zn (m:=(ps.getD i Ja).1) (news:=(leB (N.getD i 0) (ps.getD i Ja).1).map bv) (.int .u8 0) 1 1 ((m+(ps.getD i Ja).1)) (((Zfc ps N (i+1)).map bv)) zo Tryz.underlying40 (by kernel_rfl) rfl (by decide) zx a7 zy (Zf a8) (by simp[Zh]) (Xs _) (by unfold maxLen;have:=(hps.2 i (by omega)).1;omega) (by have:=(hps.2 i (by omega)).1;omega) a5.size (by rfl) (by rw[Az,List.map_append]) fun c5 c4 W9 o9 c3 b9=>?_
  refine zK _ _ ?_
  refine xwm 5 ((i:Int)+1) (↑(i+1):Int) ?_
  have b1:=a5.trans b9
  exact ze 2 (b2 _ _ _ ⟨i+1,_,_,_,rfl,rfl,b1,o9,by omega,by rw[On,hm];simp,by have:=(hps.2 i (by omega)).1;omega,by rw[Zd7,a6];exact decide_eq_true ⟨by omega,by omega⟩⟩ (by omega))
 refine xcv0 8 (fun _ _ _ zo zx=>Yn zo zx (Xp (Zf ho) (by rw[Cs];exact hm.symm)) (by rw[Cs];exact hm.symm) Tryz.underlying40 Tryz.underlying5 Tryz.underlying9) ?_
 refine xe 4 (.string ⟨(Zfc ps N i).toArray⟩) ?_
 obtain rfl:i=ps.length:=by omega
 exact .inr ⟨a6,rfl,a1⟩
theorem Zal(ps:List Tt)(N:List Int)(gl gn:O0)(cl cn n:Nat)(w:World)(hps:Cz ps)(hn:n=ps.length)(hNl:N.length=n)(hP:Sts partC w (.slice gl ps.length cl) ps)(hN:Sl w (.slice gn n cn) n (N.map V0)) :
 C0 222 #[.slice gl ps.length cl,.slice gn n cn] w (fun e w'=>(Nm ps N n=false∧e=.returned (.string ⟨#[]⟩)∧B3 w w')∨(Nm ps N n=true∧e=.returned (.string ⟨(Zfc ps N ps.length).toArray⟩)∧B3 w w')):=by
 subst hn;exact Zdz ps N gl gn cl cn w hps hNl hP hN
def mapP:List Tt:=[(8,0,1099511627775)]
theorem mapP_ok:Cz mapP:=by
 refine⟨by decide,fun i hi=>?_⟩
 have a0:i<1:=hi
 obtain rfl:i=0:=by omega
 simp[mapP,List.getD]
def detP:List Tt:=[(8,0,16384),(8,0,2147483647),(4,0,16777215),(4,0,16777215)]
theorem detP_ok:Cz detP:=by
 refine⟨by decide,fun i hi=>?_⟩
 have a0:i<4:=hi
 obtain rfl|rfl|rfl|rfl:i=0∨i=1∨i=2∨i=3:=by omega
 all_goals simp[detP,List.getD]
abbrev Mp:=Int×Int×Int
def mapC(m:Mp):List Value:=[V0 m.1,V0 m.2.1,V0 m.2.2]
theorem Xx(m:Mp):(mapC m).length=3:=rfl
abbrev Dv:=(Int×Int×Int×Int)×List Mp
structure MapsOk(data:Int)(M:List Mp):Prop where
 rise:M.Pairwise (fun x y=>x.1<y.1)
 each:∀ m∈M,(0≤m.1∧m.1≤281474976710655)∧(0≤m.2.1∧m.2.1<data)∧0≤m.2.2∧m.2.2≤16777215
theorem MapsOk.nil(data:Int):MapsOk data []:=⟨.nil,fun _ h=>by cases h⟩
structure DevOk(data:Int)(d:Dv):Prop where
 id:0≤d.1.1∧d.1.1≤16777215
 tx:0≤d.1.2.1∧d.1.2.1≤2147483647
 made:0≤d.1.2.2.1∧d.1.2.2.1≤16777215
 snap:0≤d.1.2.2.2∧d.1.2.2.2≤16777215
 maps:MapsOk data d.2
def Km(L:List Dv):Nat:=(L.map fun d=>d.2.length).sum
structure DevsOk(data:Int)(L:List Dv):Prop where
 few:L.length≤4096
 sum:Km L≤16384
 rise:L.Pairwise (fun x y=>x.1.1<y.1.1)
 each:∀ d∈L,DevOk data d
theorem DevsOk.nil(data:Int):DevsOk data []:=⟨by decide,by decide,.nil,fun _ h=>by cases h⟩
def mpD:Mp:=(0,0,0)
def inZ (n lo hi:Int):Bool:=decide (lo≤n∧n≤hi)
theorem Mn{n lo hi:Int}:inZ n lo hi=true↔lo≤n∧n≤hi:=decide_eq_true_iff
def dvE (d:Dv)(last:Int):Int:=if inZ d.1.1 0 16777215&&(inZ d.1.2.1 0 2147483647&&(inZ d.1.2.2.1 0 16777215&&inZ d.1.2.2.2 0 16777215)) then(if d.1.1≤last then 8 else 0) else 2
def mpE (data:Int)(m:Mp)(last:Int):Int:=if inZ m.1 0 281474976710655&&(inZ m.2.1 0 (data-1)&&inZ m.2.2 0 16777215) then(if m.1≤last then 8 else 0) else 2
def Pc(data:Int):List Mp→Int→Int
 | [],_=>0
 | m::r,last=>if mpE data m last≠0 then mpE data m last else Pc data r m.1
def Zb3(data:Int):List Dv→Int→Int
 | [],_=>0
 | d::r,last=>if dvE d last≠0 then dvE d last else if Pc data d.2 (-1)≠0 then Pc data d.2 (-1) else Zb3 data r d.1.1
def Zf1(L:List Dv):Int:=IntKind.i64.wrap (Km L:Int)
def Xr(tx time unit data:Int)(L:List Dv):Int :=
 if(inZ tx 0 2147483647&&inZ time 0 16777215)&&(inZ unit 1 65536&&inZ data 0 65536) then(if 4096<L.length∨16384<Zf1 L then 2 else Zb3 data L (-1)) else 2
theorem mpE_2{data:Int}{m:Mp}{last:Int}(h:(inZ m.1 0 281474976710655&&(inZ m.2.1 0 (data-1)&&inZ m.2.2 0 16777215))=false):mpE data m last=2:=if_neg (by rw[h];decide)
theorem mpE_8{data:Int}{m:Mp}{last:Int}(h:(inZ m.1 0 281474976710655&&(inZ m.2.1 0 (data-1)&&inZ m.2.2 0 16777215))=true)(h2:m.1≤last):mpE data m last=8:=(if_pos h).trans (if_pos h2)
theorem Zgl{data:Int}{m:Mp}{last:Int}(h:(inZ m.1 0 281474976710655&&(inZ m.2.1 0 (data-1)&&inZ m.2.2 0 16777215))=true)(h2:¬ m.1≤last):mpE data m last=0:=(if_pos h).trans (if_neg h2)
theorem dvE_2{d:Dv}{last:Int}(h:(inZ d.1.1 0 16777215&&(inZ d.1.2.1 0 2147483647&&(inZ d.1.2.2.1 0 16777215&&inZ d.1.2.2.2 0 16777215)))=false):dvE d last=2:=if_neg (by rw[h];decide)
theorem dvE_8{d:Dv}{last:Int}(h:(inZ d.1.1 0 16777215&&(inZ d.1.2.1 0 2147483647&&(inZ d.1.2.2.1 0 16777215&&inZ d.1.2.2.2 0 16777215)))=true)(h2:d.1.1≤last):dvE d last=8:=(if_pos h).trans (if_pos h2)
theorem dvE_0{d:Dv}{last:Int}(h:(inZ d.1.1 0 16777215&&(inZ d.1.2.1 0 2147483647&&(inZ d.1.2.2.1 0 16777215&&inZ d.1.2.2.2 0 16777215)))=true)(h2:¬ d.1.1≤last):dvE d last=0:=(if_pos h).trans (if_neg h2)
theorem mpE_ok{data:Int}{m:Mp}{last:Int}:mpE data m last=0↔((0≤m.1∧m.1≤281474976710655)∧(0≤m.2.1∧m.2.1<data)∧0≤m.2.2∧m.2.2≤16777215)∧last<m.1:=by
 unfold mpE
 simp only[Bool.and_eq_true,Mn]
 split
 ·split
  ·exact⟨fun h=>absurd h (by decide),fun h=>by omega⟩
  ·exact⟨fun _=>by omega,fun _=>rfl⟩
 ·exact⟨fun h=>absurd h (by decide),fun h=>by omega⟩
theorem dvE_ok{d:Dv}{last:Int}:dvE d last=0↔((0≤d.1.1∧d.1.1≤16777215)∧(0≤d.1.2.1∧d.1.2.1≤2147483647)∧(0≤d.1.2.2.1∧d.1.2.2.1≤16777215)∧0≤d.1.2.2.2∧d.1.2.2.2≤16777215)∧last<d.1.1:=by
 unfold dvE
 simp only[Bool.and_eq_true,Mn]
 split
 ·split
  ·exact⟨fun h=>absurd h (by decide),fun h=>by omega⟩
  ·exact⟨fun _=>by omega,fun _=>rfl⟩
 ·exact⟨fun h=>absurd h (by decide),fun h=>by omega⟩
theorem Zaj{data:Int}:∀ {M:List Mp} {last:Int},Pc data M last=0↔MapsOk data M∧∀ m∈M,last<m.1
 | [],last=>⟨fun _=>⟨.nil _,fun _ h=>by cases h⟩,fun _=>rfl⟩
 | m::r,last=>by
  have ih:=@Zaj data r m.1
  show(if mpE data m last≠0 then mpE data m last else Pc data r m.1)=0↔_
  by_cases h:mpE data m last=0
  ·rw[if_neg (fun q=>q h),ih]
   have h2:=mpE_ok.1 h
   constructor
   ·rintro⟨a,b⟩
    refine⟨⟨.cons b a.rise,fun x hx=>?_⟩,fun x hx=>?_⟩
    ·rcases List.mem_cons.1 hx with rfl|hx
     ·exact h2.1
     ·exact a.each x hx
    ·rcases List.mem_cons.1 hx with rfl|hx
     ·exact h2.2
     ·have:=b x hx;omega
   ·rintro⟨a,_⟩
    obtain⟨c1,c2⟩:=List.pairwise_cons.1 a.rise
    exact⟨⟨c2,fun x hx=>a.each x (List.mem_cons_of_mem _ hx)⟩,c1⟩
  ·rw[if_pos h]
   exact⟨fun q=>absurd q h,fun q=>absurd (mpE_ok.2 ⟨q.1.each m (List.mem_cons_self ..),q.2 m (List.mem_cons_self ..)⟩) h⟩
theorem dvsE_ok{data:Int}:∀ {L:List Dv} {last:Int},Zb3 data L last=0↔(L.Pairwise (fun x y=>x.1.1<y.1.1)∧∀ d∈L,DevOk data d)∧∀ d∈L,last<d.1.1
  | [],last=>⟨fun _=>⟨⟨.nil,fun _ h=>by cases h⟩,fun _ h=>by cases h⟩,fun _=>rfl⟩
  | d :: r, last => by
    have ih:=@dvsE_ok data r d.1.1
    show(if dvE d last≠0 then dvE d last else if Pc data d.2 (-1)≠0 then Pc data d.2 (-1) else Zb3 data r d.1.1)=0↔_
    by_cases h:dvE d last=0
    · rw[if_neg (fun q=>q h)]
      have h2:=dvE_ok.1 h
      by_cases g:Pc data d.2 (-1)=0
      · rw[if_neg (fun q=>q g),ih]
        have g2:=Zaj.1 g
        constructor
        · rintro⟨⟨a1,a2⟩,b⟩
          refine⟨⟨.cons b a1,fun x hx=>?_⟩,fun x hx=>?_⟩
          · rcases List.mem_cons.1 hx with rfl|hx
            · exact⟨h2.1.1,h2.1.2.1,h2.1.2.2.1,h2.1.2.2.2,g2.1⟩
            · exact a2 x hx
          · rcases List.mem_cons.1 hx with rfl|hx
            · exact h2.2
            · have:=b x hx;omega
        · rintro⟨⟨a1,a2⟩,_⟩
          obtain⟨c1,c2⟩:=List.pairwise_cons.1 a1
          exact⟨⟨c2,fun x hx=>a2 x (List.mem_cons_of_mem _ hx)⟩,c1⟩
      · rw[if_pos g]
        refine⟨fun q=>absurd q g,fun q=>absurd (Zaj.2 ⟨(q.1.2 d (List.mem_cons_self ..)).maps,fun m hm=>?_⟩) g⟩
        have:=(q.1.2 d (List.mem_cons_self ..)).maps.each m hm;omega
    · rw[if_pos h]
      refine⟨fun q=>absurd q h,fun q=>absurd (dvE_ok.2 ⟨?_,q.2 d (List.mem_cons_self ..)⟩) h⟩
      have:=q.1.2 d (List.mem_cons_self ..)
      exact⟨this.id,this.tx,this.made,this.snap⟩
structure PoolOk(tx time unit data:Int)(L:List Dv):Prop where
 htx:0≤tx∧tx≤2147483647
 htime:0≤time∧time≤16777215
 hunit:1≤unit∧unit≤65536
 hdata:0≤data∧data≤65536
 devs:DevsOk data L
theorem rise_ge{M:List Mp}(h:M.Pairwise (fun x y=>x.1<y.1))(h0:∀ m∈M,0≤m.1):∀ i (hi:i<M.length),(i:Int)≤M[i].1
 | 0,hi=>h0 _ (List.getElem_mem hi)
 | i+1,hi=>by
  have ih:=rise_ge h h0 i (by omega)
  have:=List.pairwise_iff_getElem.1 h i (i+1) (by omega) hi (by omega)
  omega
theorem maps_few{data:Int}{M:List Mp}(h:MapsOk data M):M.length≤281474976710656:=by
 by_cases h0:M.length=0
 ·omega
 ·have h1:=rise_ge h.rise (fun m hm=>(h.each m hm).1.1) (M.length-1) (by omega)
  have h2:=(h.each _ (List.getElem_mem (show M.length-1<M.length by omega))).1.2
  omega
theorem sum_few{L:List Dv}{k:Nat}(h:∀ d∈L,d.2.length≤k):Km L≤L.length*k:=by
 induction L with
 | nil=>exact Nat.zero_le _
 | cons d r ih =>
  have h1:=h d (List.mem_cons_self ..)
  have h2:=ih fun x hx=>h x (List.mem_cons_of_mem _ hx)
  have e:Km (d::r)=d.2.length+Km r:=rfl
  rw[e,List.length_cons,Nat.add_mul];omega
theorem wsum_ok{data:Int}{L:List Dv}(hf:L.length≤4096)(h:∀ d∈L,DevOk data d):Zf1 L=(Km L:Int):=by
 have h1:=sum_few fun d hd=>maps_few (h d hd).maps
 have h2:L.length*281474976710656≤4096*281474976710656:=Nat.mul_le_mul_right _ hf
 exact IntWalk.i64_in _ (by omega)
theorem Sz(a b:Int):IntKind.i64.wrap (IntKind.i64.wrap a+b)=IntKind.i64.wrap (a+b):=by
 simp only[IntKind.wrap,IntKind.signed,IntKind.bits]
 simp
 try omega
theorem Ks{tx time unit data:Int}{L:List Dv}:Xr tx time unit data L=0↔PoolOk tx time unit data L:=by
 unfold Xr
 simp only[Bool.and_eq_true,Mn]
 split
 ·rename_i h
  split
  ·rename_i g
   refine⟨fun q=>absurd q (by decide),fun q=>?_⟩
   have a:=q.devs.few
   have b:=q.devs.sum
   rw[wsum_ok a q.devs.each] at g
   omega
  ·rename_i g
   rw[dvsE_ok]
   constructor
   ·rintro⟨⟨a,b⟩,_⟩
    have hw:=wsum_ok (L:=L) (by omega) b
    exact⟨h.1.1,h.1.2,h.2.1,h.2.2,by omega,by omega,a,b⟩
   ·intro q
    exact⟨⟨q.devs.rise,q.devs.each⟩,fun d hd=>by have:=(q.devs.each d hd).id;omega⟩
 ·rename_i h
  exact⟨fun q=>absurd q (by decide),fun q=>absurd ⟨⟨q.htx,q.htime⟩,q.hunit,q.hdata⟩ h⟩
theorem sumM_take{L:List Dv}{n:Nat}(h:n<L.length){x:Dv}:Km (L.take (n+1))=Km (L.take n)+(L.getD n x).2.length:=by
 unfold Km
 rw[List.take_succ_eq_append_getElem h,List.map_append,List.sum_append]
 simp[List.getD,h]
theorem Ya{data:Int}{M:List Mp}{i:Nat}{x:Mp}{last:Int}(h:i<M.length):Pc data (M.drop i) last=if mpE data (M.getD i x) last≠0 then mpE data (M.getD i x) last else Pc data (M.drop (i+1)) (M.getD i x).1:=by
 rw[List.drop_eq_getElem_cons h,show M.getD i x=M[i] from by simp[List.getD,h]];rfl
theorem To{data:Int}{M:List Mp}{i:Nat}{last:Int}(h:M.length≤i):Pc data (M.drop i) last=0:=by
 rw[List.drop_eq_nil_of_le h];rfl
theorem dvsE_drop{data:Int}{L:List Dv}{i:Nat}{x:Dv}{last:Int}(h:i<L.length):Zb3 data (L.drop i) last=if dvE (L.getD i x) last≠0 then dvE (L.getD i x) last else if Pc data (L.getD i x).2 (-1)≠0 then Pc data (L.getD i x).2 (-1) else Zb3 data (L.drop (i+1)) (L.getD i x).1.1:=by
 rw[List.drop_eq_getElem_cons h,show L.getD i x=L[i] from by simp[List.getD,h]];rfl
theorem Zbn{data:Int}{L:List Dv}{i:Nat}{last:Int}(h:L.length≤i):Zb3 data (L.drop i) last=0:=by
 rw[List.drop_eq_nil_of_le h];rfl
abbrev Zv:=Dv×O0×Nat
def zvD:Zv:=(((0,0,0,0),[]),none,0)
def devZ(z:Zv):List Value:=[V0 z.1.1.1,V0 z.1.1.2.1,V0 z.1.1.2.2.1,V0 z.1.1.2.2.2,.slice z.2.1 z.1.2.length z.2.2]
theorem Ye(z:Zv):(devZ z).length=5:=rfl
structure DevsR(w:World)(p:Option Addr)(c:Nat)(Z:List Zv):Prop where
 row:Sts devZ w (.slice p Z.length c) Z
 each:∀ i,i<Z.length→Sts mapC w (.slice (Z.getD i zvD).2.1 (Z.getD i zvD).1.2.length (Z.getD i zvD).2.2) (Z.getD i zvD).1.2
theorem DevsR.below{w W:World}{p:O0}{c:Nat}{Z:List Zv}(h:DevsR w p c Z)(hb:B3 w W):DevsR W p c Z:=⟨h.row.below hb,fun i hi=>(h.each i hi).below hb⟩
theorem DevsR.rowN{w:World}{p:O0}{c n:Nat}{Z:List Zv}(h:DevsR w p c Z)(hn:Z.length=n):Sl w (.slice p n c) n (Z.flatMap devZ):=by subst hn;exact h.row
theorem DevsR.someN{w:World}{p:O0}{c n i:Nat}{Z:List Zv}(h:DevsR w p c Z)(hn:Z.length=n)(hi:i<n):p.isSome=true:=by subst hn;exact(Sts.cell h.row Ye zvD (k:=i) (i:=0) hi rfl).1
theorem Uk(n lo hi:Int)(w:World) :
 C0 69 #[V0 n,V0 lo,V0 hi] w (Ret (.bool (inZ n lo hi)) w):=by
 refine zin 15 Tryz.func69 ?_
 refine xg 11 [9,10] (decide (lo≤n)) (fun a0=>?_) (fun a0=>?_)
 ·have a0:=of_decide_eq_true a0
  exact xe 8 (.bool (decide (n≤hi))) ⟨by rw[show inZ n lo hi=decide (n≤hi) from by unfold inZ;exact decide_eq_decide.2 (by omega)],(B4 w)⟩
 have a0:=of_decide_eq_false a0
 exact xe 8 (.bool false) ⟨by rw[show inZ n lo hi=false from decide_eq_false (by omega)],(B4 w)⟩
theorem Pu(t:Int)(w:World) :
 C0 141 #[V0 t] w (Ret (.bool !(inZ t 0 16777215)) w):=by
 refine zin 6 Tryz.func141 ?_
 refine xr 8 (args:=#[V0 t,V0 0,V0 16777215]) (Uk t 0 16777215 _) fun W1 a0=>?_
 exact xe 5 (.bool (!(inZ t 0 16777215))) ⟨rfl,a0⟩
theorem indexT1(t:Int)(b:Nat)(w:World)(k:Blk w b [V0 t] 3) :
 C0 218 #[.slice (S1 b) 1 1,.func (.func 141) #[] #[]] w ((fun e w'=>((inZ t 0 16777215)=true∧e=.returned (V0 (-1))∧B3 w w')∨((inZ t 0 16777215)=false∧∃ i:Nat,e=.returned (V0 (i:Int))∧B3 w w'))):=by
 refine zin 19 Tryz.func218 ?_
 refine xu 14 2 ?_
 refine xb 23 0 k ?_
 refine xr 0 (args:=#[V0 t]) (Pu t _) fun W1 a0=>?_
 refine xi 2 (!(inZ t 0 16777215)) (fun a1=>?_) (fun a1=>?_)
 ·exact xe 12 (V0 0) (.inr ⟨by simp_all,0,rfl,a0⟩)
 exact xe 26 (V0 (-1)) (.inl ⟨by simp_all,rfl,a0⟩)
theorem Zdl(t:Int)(b:Nat)(w:World)(k:Blk w b [V0 t] 3) :
 C0 140 #[.slice (S1 b) 1 1,.func (.func 141) #[] #[]] w (Ret (.bool !(inZ t 0 16777215)) w):=by
 refine zin 9 Tryz.func140 ?_
 refine xc 9 (args:=#[.slice (S1 b) 1 1,.func (.func 141) #[] #[]]) (indexT1 t b _ k) ?_
 rintro e W1 a1
 rcases a1 with ⟨hz,rfl,a0⟩|⟨hz,i0,rfl,a0⟩
 ·exact xe 5 (.bool false) ⟨by first|(rw[hz];rfl)|(rw[hz,decide_eq_true (by omega)];rfl),a0⟩
 exact xe 5 (.bool (decide ((i0:Int)≥(0:Int)))) ⟨by first|(rw[hz];rfl)|(rw[hz,decide_eq_true (by omega)];rfl),a0⟩
theorem Im(tx:Int)(t:Int)(b:Nat)(w:World)(k:Blk w b [V0 t] 3) :
 C0 68 #[V0 tx,.slice (S1 b) 1 1] w (Ret (.bool ((inZ tx 0 2147483647)&&(inZ t 0 16777215))) w):=by
 refine zin 12 Tryz.func68 ?_
 refine xr 8 (args:=#[V0 tx,V0 0,V0 2147483647]) (Uk tx 0 2147483647 _) fun W1 a0=>?_
 refine xg 1 [6,7] (inZ tx 0 2147483647) (fun a3=>?_) (fun a3=>?_)
 ·have a1:=k.below a0
  refine xr 1 (args:=#[.slice (S1 b) 1 1,.func (.func 141) #[] #[]]) (Zdl t b _ a1) fun W3 a2=>?_
  have hB:=bln a0 a2
  exact xe 6 (.bool (!(!(inZ t 0 16777215)))) ⟨by simp_all,hB⟩
 exact xe 8 (.bool false) ⟨by simp_all,a0⟩
theorem indexT2(t u:Int)(b:Nat)(w:World)(k:Blk w b [V0 t,V0 u] 3) :
 C0 218 #[.slice (S1 b) 2 2,.func (.func 141) #[] #[]] w ((fun e w'=>(((inZ t 0 16777215)&&(inZ u 0 16777215))=true∧e=.returned (V0 (-1))∧B3 w w')∨(((inZ t 0 16777215)&&(inZ u 0 16777215))=false∧∃ i:Nat,e=.returned (V0 (i:Int))∧B3 w w'))):=by
 refine zin 19 Tryz.func218 ?_
 refine xu 14 3 ?_
 refine xb 23 0 k ?_
 refine xr 0 (args:=#[V0 t]) (Pu t _) fun W1 a0=>?_
 refine xi 2 (!(inZ t 0 16777215)) (fun a4=>?_) (fun a4=>?_)
 ·exact xe 12 (V0 0) (.inr ⟨by simp_all,0,rfl,a0⟩)
 have a3:=k.below a0
 refine xb 31 1 a3 ?_
 refine xr 0 (args:=#[V0 u]) (Pu u _) fun W3 a1=>?_
 refine xi 2 (!(inZ u 0 16777215)) (fun a2=>?_) (fun a2=>?_)
 ·have hB:=bln a0 a1
  exact xe 12 (V0 1) (.inr ⟨by simp_all,1,rfl,hB⟩)
 have hB:=bln a0 a1
 exact xe 26 (V0 (-1)) (.inl ⟨by simp_all,rfl,hB⟩)
theorem Zc6(t u:Int)(b:Nat)(w:World)(k:Blk w b [V0 t,V0 u] 3) :
 C0 140 #[.slice (S1 b) 2 2,.func (.func 141) #[] #[]] w (Ret (.bool !((inZ t 0 16777215)&&(inZ u 0 16777215))) w):=by
 refine zin 9 Tryz.func140 ?_
 refine xc 9 (args:=#[.slice (S1 b) 2 2,.func (.func 141) #[] #[]]) (indexT2 t u b _ k) ?_
 rintro e W1 a1
 rcases a1 with ⟨hz,rfl,a0⟩|⟨hz,i0,rfl,a0⟩
 ·exact xe 5 (.bool false) ⟨by first|(rw[hz];rfl)|(rw[hz,decide_eq_true (by omega)];rfl),a0⟩
 exact xe 5 (.bool (decide ((i0:Int)≥(0:Int)))) ⟨by first|(rw[hz];rfl)|(rw[hz,decide_eq_true (by omega)];rfl),a0⟩
theorem Il(tx:Int)(t u:Int)(b:Nat)(w:World)(k:Blk w b [V0 t,V0 u] 3) :
 C0 68 #[V0 tx,.slice (S1 b) 2 2] w (Ret (.bool ((inZ tx 0 2147483647)&&((inZ t 0 16777215)&&(inZ u 0 16777215)))) w):=by
 refine zin 12 Tryz.func68 ?_
 refine xr 8 (args:=#[V0 tx,V0 0,V0 2147483647]) (Uk tx 0 2147483647 _) fun W1 a0=>?_
 refine xg 1 [6,7] (inZ tx 0 2147483647) (fun a3=>?_) (fun a3=>?_)
 ·have a1:=k.below a0
  refine xr 1 (args:=#[.slice (S1 b) 2 2,.func (.func 141) #[] #[]]) (Zc6 t u b _ a1) fun W3 a2=>?_
  have hB:=bln a0 a2
  exact xe 6 (.bool (!(!((inZ t 0 16777215)&&(inZ u 0 16777215))))) ⟨by simp_all,hB⟩
 exact xe 8 (.bool false) ⟨by simp_all,a0⟩
theorem Zar(d:Dv)(last:Int)(a:O0)(n c:Nat)(w:World) :
 C0 70 #[.agg #[V0 d.1.1,V0 d.1.2.1,V0 d.1.2.2.1,V0 d.1.2.2.2,.slice a n c],V0 last] w (Ret (V0 (dvE d last)) w):=by
 refine zin 26 Tryz.func70 ?_
 refine xa 2 [V0 d.1.1,V0 d.1.2.1,V0 d.1.2.2.1,V0 d.1.2.2.2,.slice a n c] 61 fun b1 W1 n1=>?_
 refine xb 8 0 n1.blk ?_
 refine xr 0 (args:=#[V0 d.1.1,V0 0,V0 16777215]) (Uk d.1.1 0 16777215 _) fun W2 a3=>?_
 refine xg 2 [9,10] (!(inZ d.1.1 0 16777215)) (fun a0=>?_) (fun a0=>?_)
 ·have a0:=Va a0
  have hB:=bln n1.below a3
  exact xe 22 (V0 2) ⟨by rw[dvE_2 (by rw[a0];rfl)],hB⟩
 have a0:=Vb a0
 have a1:=n1.blk.below a3
 refine xb 1 1 a1 ?_
 refine xb 1 2 a1 ?_
 refine xb 1 3 a1 ?_
 refine xbs 0 2 [V0 d.1.2.2.1,V0 d.1.2.2.2] 3 fun b4 W4 n4=>?_
 refine xr 0 (args:=#[V0 d.1.2.1,.slice (S1 b4) 2 2]) (Il d.1.2.1 d.1.2.2.1 d.1.2.2.2 b4 _ n4.blk) fun W5 a4=>?_
 refine xi 5 (!((inZ d.1.2.1 0 2147483647)&&((inZ d.1.2.2.1 0 16777215)&&(inZ d.1.2.2.2 0 16777215)))) (fun a2=>?_) (fun a2=>?_)
 ·have a2:=Va a2
  have hB:=bln (bln (bln n1.below a3) n4.below) a4
  exact xe 8 (V0 2) ⟨by rw[dvE_2 (by rw[a0,a2];rfl)],hB⟩
 have a2:=Vb a2
 have a5:=(a1.below n4.below).below a4
 refine xb 3 0 a5 ?_
 refine xid 5 (d.1.1≤last) (fun a6=>?_) (fun a6=>?_)
 ·have hB:=bln (bln (bln n1.below a3) n4.below) a4
  exact xe 8 (V0 8) ⟨by rw[dvE_8 (by rw[a0,a2];rfl) (by omega)],hB⟩
 have hB:=bln (bln (bln n1.below a3) n4.below) a4
 exact xe 9 (V0 0) ⟨by rw[dvE_0 (by rw[a0,a2];rfl) (by omega)],hB⟩
theorem Zaz(a:O0)(c:Nat)(L:List Mp)(data:Int)(w:World)(hd:0≤data∧data≤65536)(ha:Sts mapC w (.slice a L.length c) L) :
 C0 71 #[.slice a L.length c,V0 data] w (Ret (V0 (Pc data L (-1))) w):=by
 have c1:=Sl.len ha
 refine zin 41 Tryz.func71 ?_
 have hB:=Below.refl w.heap.size w
 refine zl 19 41 (fun zm b9 V=>∃ (i:Nat) (a3:Int),b9=[(1,V0 data),(5,V0 a3),(8,.slice a L.length c),(9,V0 (L.length:Int)),(10,V0 (i:Int))]∧zm=L.length-((i:Int)).toNat∧B3 w V∧i≤L.length∧Pc data L (-1)=Pc data (L.drop i) a3) ⟨0,(-1),rfl,rfl,hB,Nat.zero_le _,rfl⟩ ?_
 rintro _ _ W1 ⟨i,a3,rfl,rfl,a0,hi,he⟩ J1 b8 r1
 refine xid 6 ((i:Int)<(L.length:Int)) (fun c0=>?_) (fun c0=>?_)
 ·refine xx 6 _ L.length i 3 (Sts.cell ha Xx mpD (k:=i) (i:=0) (by omega) rfl).1 ?_
  refine xlv 0 (Sts.rp (k:=i) (ha.below a0) Xx mpD (by omega) (by decide)) ?_
  refine xa 0 [V0 0,V0 0,V0 0] 164 fun b3 W3 n3=>?_
  have g3:=n3.ge a0
  refine xsv 0 n3.blk [V0 ((L.getD i mpD).1),V0 ((L.getD i mpD).2.1),V0 ((L.getD i mpD).2.2)] fun W4 u4 k4=>?_
  refine xb 7 0 k4 ?_
  refine xr 0 (args:=#[V0 ((L.getD i mpD).1),V0 0,V0 281474976710655]) (Uk ((L.getD i mpD).1) 0 281474976710655 _) fun W5 a5=>?_
  refine xg 2 [18,19] (!(inZ ((L.getD i mpD).1) 0 281474976710655)) (fun a2=>?_) (fun a2=>?_)
  ·have a2:=Va a2
   have b1:=bln (u4.below (bln a0 n3.below) g3) a5
   exact xe 30 (V0 2) ⟨by rw[he,Ya (x:=mpD) (by omega),mpE_2 (by rw[a2];rfl)];rfl,b1⟩
  have a2:=Vb a2
  have a7:=k4.below a5
  refine xb 1 1 a7 ?_
  refine xw 1 (data-1) ?_
  refine xr 0 (args:=#[V0 ((L.getD i mpD).2.1),V0 0,V0 (data-1)]) (Uk ((L.getD i mpD).2.1) 0 (data-1) _) fun W7 a9=>?_
  refine xg 3 [25,26,27] (!(inZ ((L.getD i mpD).2.1) 0 (data-1))) (fun a4=>?_) (fun a4=>?_)
  ·have a4:=Va a4
   have b6:=bln (bln (u4.below (bln a0 n3.below) g3) a5) a9
   exact xe 22 (V0 2) ⟨by rw[he,Ya (x:=mpD) (by omega),mpE_2 (by rw[a2,a4];rfl)];rfl,b6⟩
  have a4:=Vb a4
  have a8:=a7.below a9
  refine xb 1 2 a8 ?_
  refine xr 0 (args:=#[V0 ((L.getD i mpD).2.2),V0 0,V0 16777215]) (Uk ((L.getD i mpD).2.2) 0 16777215 _) fun W9 b0=>?_
  refine xi 5 (!(inZ ((L.getD i mpD).2.2) 0 16777215)) (fun a1=>?_) (fun a1=>?_)
  ·have a1:=Va a1
   have b5:=bln (bln (bln (u4.below (bln a0 n3.below) g3) a5) a9) b0
   exact xe 13 (V0 2) ⟨by rw[he,Ya (x:=mpD) (by omega),mpE_2 (by rw[a2,a4,a1];rfl)];rfl,b5⟩
  have a1:=Vb a1
  have a6:=a8.below b0
  refine xb 3 0 a6 ?_
  refine xid 5 ((L.getD i mpD).1≤a3) (fun b7=>?_) (fun b7=>?_)
  ·have b4:=bln (bln (bln (u4.below (bln a0 n3.below) g3) a5) a9) b0
   exact xe 13 (V0 8) ⟨by rw[he,Ya (x:=mpD) (by omega),mpE_8 (by rw[a2,a4,a1];rfl) (by omega)];rfl,b4⟩
  refine xb 5 0 a6 ?_
  refine xwm 5 ((i:Int)+1) (↑(i+1):Int) ?_
  have b2:=bln (bln (bln (u4.below (bln a0 n3.below) g3) a5) a9) b0
  exact ze 2 (b8 _ _ _ ⟨i+1,(L.getD i mpD).1,rfl,rfl,b2,by omega,by rw[he,Ya (x:=mpD) (by omega),Zgl (by rw[a2,a4,a1];rfl) (by omega)];rfl⟩ (by omega))
 exact xe 11 (V0 0) ⟨by rw[he,To (by omega)],a0⟩
theorem zfst{Z:List Zv}{i:Nat}(h:i<Z.length)(x:Dv):(Z.map Prod.fst).getD i x=(Z.getD i zvD).1:=by simp[List.getD,h]
theorem Xl{data:Int}{Z:List Zv}{i:Nat}{last:Int}(h:i<Z.length):Zb3 data ((Z.map Prod.fst).drop i) last=if dvE (Z.getD i zvD).1 last≠0 then dvE (Z.getD i zvD).1 last else if Pc data (Z.getD i zvD).1.2 (-1)≠0 then Pc data (Z.getD i zvD).1.2 (-1) else Zb3 data ((Z.map Prod.fst).drop (i+1)) (Z.getD i zvD).1.1.1:=by
 rw[dvsE_drop (x:=zvD.1) (by rw[List.length_map];exact h),zfst h]
theorem Gl{Z:List Zv}{i:Nat}(h:i<Z.length):Km ((Z.map Prod.fst).take (i+1))=Km ((Z.map Prod.fst).take i)+(Z.getD i zvD).1.2.length:=by
 rw[sumM_take (x:=zvD.1) (by rw[List.length_map];exact h),zfst h]
theorem Zd6(p:O0)(c n:Nat)(t u v x:Int)(Z:List Zv)(w:World)(hZ:Z.length=n)(hP:DevsR w p c Z) :
 C0 52 #[.agg #[V0 t,V0 u,V0 v,V0 x,.slice p n c]] w (Ret (V0 (Zf1 (Z.map Prod.fst))) w):=by
 have a7:=Sl.len (hP.rowN hZ)
 refine zin 20 Tryz.func52 ?_
 refine xa 2 [V0 t,V0 u,V0 v,V0 x,.slice p n c] 24 fun b1 W1 n1=>?_
 refine xb 12 4 n1.blk ?_
 refine zl 5 20 (fun zm a5 V=>∃ (i:Nat),a5=[(2,V0 0),(3,V0 (IntKind.i64.wrap (↑(Km ((Z.map Prod.fst).take i)):Int))),(7,.slice p n c),(8,V0 (n:Int)),(9,V0 (i:Int))]∧zm=n-((i:Int)).toNat∧B3 w V∧Blk V b1 ([V0 t,V0 u,V0 v,V0 x,.slice p n c]) 24∧i≤n) ⟨0,rfl,rfl,n1.below,n1.blk,Nat.zero_le _⟩ ?_
 rintro _ _ W2 ⟨i,rfl,rfl,a0,a2,hi⟩ J2 a6 r2
 refine xid 6 ((i:Int)<(n:Int)) (fun a4=>?_) (fun a4=>?_)
 ·refine xx 6 _ n i 5 (hP.someN hZ (i:=i) (by omega)) ?_
  refine xlv 0 (Sts.rp (k:=i) (hP.below a0).row Ye zvD (by omega) (by decide)) ?_
  refine xa 0 [V0 0,V0 0,V0 0,V0 0,S0] 61 fun b4 W4 n4=>?_
  have g4:=n4.ge a0
  refine xsv 0 n4.blk [V0 ((Z.getD i zvD).1.1.1),V0 ((Z.getD i zvD).1.1.2.1),V0 ((Z.getD i zvD).1.1.2.2.1),V0 ((Z.getD i zvD).1.1.2.2.2),.slice ((Z.getD i zvD).2.1) ((Z.getD i zvD).1.2.length) ((Z.getD i zvD).2.2)] fun W5 u5 k5=>?_
  refine xb 5 4 k5 ?_
  refine xwm 7 ((i:Int)+1) (↑(i+1):Int) ?_
  refine xv1 2 3 (show(V0 (IntKind.i64.wrap ((IntKind.i64.wrap (↑(Km ((Z.map Prod.fst).take i)):Int))+(↑((Z.getD i zvD).1.2.length):Int))):Value)=V0 (IntKind.i64.wrap (↑(Km ((Z.map Prod.fst).take (i+1))):Int)) from congrArg V0 ((Sz _ _).trans (congrArg IntKind.i64.wrap (by have:=Gl (Z:=Z) (i:=i) (by omega);omega)))) ?_
  have a3:=u5.below (bln a0 n4.below) g4
  have a1:=u5.blkT (a2.below n4.below) n4.blk (by decide)
  exact ze 0 (a6 _ _ _ ⟨i+1,rfl,rfl,a3,a1,by omega⟩ (by omega))
 exact xe 12 (V0 (IntKind.i64.wrap (↑(Km ((Z.map Prod.fst).take i)):Int))) ⟨by unfold Zf1;rw[List.take_of_length_le (by rw[List.length_map];omega)],a0⟩
theorem Jm{tx time unit data:Int}{L:List Dv}(h:((inZ tx 0 2147483647&&inZ time 0 16777215)&&(inZ unit 1 65536&&inZ data 0 65536))=false):Xr tx time unit data L=2:=if_neg (by rw[h];decide)
theorem Mo{tx time unit data:Int}{L:List Dv}(h:((inZ tx 0 2147483647&&inZ time 0 16777215)&&(inZ unit 1 65536&&inZ data 0 65536))=true)(h2:4096<L.length∨16384<Zf1 L):Xr tx time unit data L=2:=(if_pos h).trans (if_pos h2)
theorem Xq{tx time unit data:Int}{L:List Dv}(h:((inZ tx 0 2147483647&&inZ time 0 16777215)&&(inZ unit 1 65536&&inZ data 0 65536))=true)(h2:¬ (4096<L.length∨16384<Zf1 L)):Xr tx time unit data L=Zb3 data L (-1):=(if_pos h).trans (if_neg h2)
theorem Jk(p:O0)(c n:Nat)(t u v x:Int)(Z:List Zv)(w:World)(hZ:Z.length=n)(hP:DevsR w p c Z) :
 C0 29 #[.agg #[V0 t,V0 u,V0 v,V0 x,.slice p n c]] w (Ret (V0 (Xr t u v x (Z.map Prod.fst))) w):=by
 have e3:=Sl.len (hP.rowN hZ)
 refine zin 60 Tryz.func29 ?_
 refine xa 2 [V0 t,V0 u,V0 v,V0 x,.slice p n c] 24 fun b1 W1 n1=>?_
 refine xb 7 0 n1.blk ?_
 refine xb 1 1 n1.blk ?_
 refine xbs 0 1 [V0 u] 3 fun b2 W2 n2=>?_
 refine xr 0 (args:=#[V0 t,.slice (S1 b2) 1 1]) (Im t u b2 _ n2.blk) fun W3 b7=>?_
 refine xg 2 [14,15] (!((inZ t 0 2147483647)&&(inZ u 0 16777215))) (fun a3=>?_) (fun a3=>?_)
 ·have a3:=Va a3
  have hB:=bln (bln n1.below n2.below) b7
  exact xe 21 (V0 2) ⟨by rw[Jm (by rw[a3];rfl)],hB⟩
 have a3:=Vb a3
 have c8:=(n1.blk.below n2.below).below b7
 refine xb 1 2 c8 ?_
 refine xr 0 (args:=#[V0 v,V0 1,V0 65536]) (Uk v 1 65536 _) fun W5 c2=>?_
 refine xg 3 [19,20,21] (!(inZ v 1 65536)) (fun a5=>?_) (fun a5=>?_)
 ·have a5:=Va a5
  have hB:=bln (bln (bln n1.below n2.below) b7) c2
  exact xe 15 (V0 2) ⟨by rw[Jm (by rw[a3,a5];rfl)],hB⟩
 have a5:=Vb a5
 have c6:=c8.below c2
 refine xb 1 3 c6 ?_
 refine xr 0 (args:=#[V0 x,V0 0,V0 65536]) (Uk x 0 65536 _) fun W7 c7=>?_
 refine xi 4 (!(inZ x 0 65536)) (fun a4=>?_) (fun a4=>?_)
 ·have a4:=Va a4
  have hB:=bln (bln (bln (bln n1.below n2.below) b7) c2) c7
  exact xe 7 (V0 2) ⟨by rw[Jm (by rw[a3,a5,a4];rfl)],hB⟩
 have a4:=Vb a4
 have b9:=c6.below c7
 refine xb 6 4 b9 ?_
 refine xg 3 [30,31] (decide ((n:Int)>(4096:Int))) (fun c3=>?_) (fun c3=>?_)
 ·have c3:=of_decide_eq_true c3
  have hB:=bln (bln (bln (bln n1.below n2.below) b7) c2) c7
  exact xe 14 (V0 2) ⟨by rw[Mo (by rw[a3,a5,a4];rfl) (by rw[List.length_map];omega)],hB⟩
 have c3:=of_decide_eq_false c3
 refine xlv 0 b9.rp ?_
 have hB:=bln (bln (bln (bln n1.below n2.below) b7) c2) c7
 refine xr 0 (args:=#[.agg #[V0 t,V0 u,V0 v,V0 x,.slice p n c]]) (Zd6 p c n t u v x Z _ hZ (hP.below hB)) fun f1 b3=>?_
 refine xid 4 ((Zf1 (Z.map Prod.fst))>(16384:Int)) (fun d9=>?_) (fun d9=>?_)
 ·have d3:=bln hB b3
  exact xe 7 (V0 2) ⟨by rw[Mo (by rw[a3,a5,a4];rfl) (by rw[List.length_map];omega)],d3⟩
 have d5:¬ (4096<(Z.map Prod.fst).length∨16384<Zf1 (Z.map Prod.fst)):=by rw[List.length_map];omega
 have c4:=b9.below b3
 refine xb 11 4 c4 ?_
 have d8:=bln hB b3
 have d0:=(((n2.blk.below b7).below c2).below c7).below b3
 refine zl 5 60 (fun zm e2 V=>∃ (i:Nat) (a2:Int),e2=[(1,P0 b1),(3,V0 a2),(37,.slice p n c),(38,V0 (n:Int)),(39,V0 (i:Int))]∧zm=n-((i:Int)).toNat∧B3 w V∧Blk V b1 ([V0 t,V0 u,V0 v,V0 x,.slice p n c]) 24∧Blk V b2 ([V0 u]) 3∧i≤n∧Zb3 x (Z.map Prod.fst) (-1)=Zb3 x ((Z.map Prod.fst).drop i) a2) ⟨0,(-1),rfl,rfl,d8,c4,d0,Nat.zero_le _,rfl⟩ ?_
 rintro _ _ e7 ⟨i,a2,rfl,rfl,a1,c0,b6,hi,he⟩ e5 d1 e6
 have hx:=Mn.1 a4
 refine xid 6 ((i:Int)<(n:Int)) (fun d2=>?_) (fun d2=>?_)
 ·refine xx 6 _ n i 5 (hP.someN hZ (i:=i) (by omega)) ?_
  refine xlv 0 (Sts.rp (k:=i) (hP.below a1).row Ye zvD (by omega) (by decide)) ?_
  refine xa 0 [V0 0,V0 0,V0 0,V0 0,S0] 61 fun e8 f0 b4=>?_
  have e1:=b4.ge a1
  refine xsv 0 b4.blk [V0 ((Z.getD i zvD).1.1.1),V0 ((Z.getD i zvD).1.1.2.1),V0 ((Z.getD i zvD).1.1.2.2.1),V0 ((Z.getD i zvD).1.1.2.2.2),.slice ((Z.getD i zvD).2.1) ((Z.getD i zvD).1.2.length) ((Z.getD i zvD).2.2)] fun e4 c9 e0=>?_
  refine xlv 5 e0.rp ?_
  refine xr 1 (args:=#[.agg #[V0 ((Z.getD i zvD).1.1.1),V0 ((Z.getD i zvD).1.1.2.1),V0 ((Z.getD i zvD).1.1.2.2.1),V0 ((Z.getD i zvD).1.1.2.2.2),.slice ((Z.getD i zvD).2.1) ((Z.getD i zvD).1.2.length) ((Z.getD i zvD).2.2)],V0 a2]) (Zar (Z.getD i zvD).1 a2 _ _ _ _) fun e9 a8=>?_
  refine xin 9 (dvE (Z.getD i zvD).1 a2) (0:Int) (fun b0=>?_) (fun b0=>?_)
  ·have d7:=bln (c9.below (bln a1 b4.below) e1) a8
   exact xe 13 (V0 (dvE (Z.getD i zvD).1 a2)) ⟨by rw[Xq (by rw[a3,a5,a4];rfl) d5,he,Xl (by omega),if_pos b0],d7⟩
  have b5:=e0.below a8
  refine xb 6 4 b5 ?_
  have a0:=(c9.blkT (c0.below b4.below) b4.blk (by decide)).below a8
  refine xb 1 3 a0 ?_
  have c1:=bln (c9.below (bln a1 b4.below) e1) a8
  refine xr 0 (args:=#[.slice ((Z.getD i zvD).2.1) ((Z.getD i zvD).1.2.length) ((Z.getD i zvD).2.2),V0 x]) (Zaz _ _ (Z.getD i zvD).1.2 x _ hx ((hP.below c1).each i (by omega))) fun f2 a6=>?_
  refine xin 9 (Pc x (Z.getD i zvD).1.2 (-1)) (0:Int) (fun b8=>?_) (fun b8=>?_)
  ·have d4:=bln c1 a6
   exact xe 13 (V0 (Pc x (Z.getD i zvD).1.2 (-1))) ⟨by rw[Xq (by rw[a3,a5,a4];rfl) d5,he,Xl (by omega),if_neg (fun q=>q b0),if_pos b8],d4⟩
  have c5:=b5.below a6
  refine xb 4 0 c5 ?_
  refine xwm 5 ((i:Int)+1) (↑(i+1):Int) ?_
  have d6:=bln c1 a6
  have a7:=a0.below a6
  have a9:=((c9.blkT (b6.below b4.below) b4.blk (by decide)).below a8).below a6
  exact ze 2 (d1 _ _ _ ⟨i+1,(Z.getD i zvD).1.1.1,rfl,rfl,d6,a7,a9,by omega,by rw[he,Xl (by omega),if_neg (fun q=>q b0),if_neg (fun q=>q b8)]⟩ (by omega))
 exact xe 11 (V0 0) ⟨by rw[Xq (by rw[a3,a5,a4];rfl) d5,he,Zbn (by rw[List.length_map];omega)],a1⟩
def Qk(t:Int)(leaf:Bool)(n m v:Nat):Bl:=leB (Cd leaf) 1++leB t 1++leB (n:Int) 2++leB (v:Int) 2++leB (m:Int) 2++leB 0 4
theorem Ut(t:Int)(leaf:Bool)(n m v:Nat):(Qk t leaf n m v).length=12:=by simp[Qk,Zh]
def Hi(m v:Nat)(H:Bl)(K:List Int)(Vs:List Bl):Nat→Bl
 | 0=>Vc (List.replicate 244 0) 0 H
 | i+1=>Vc (Vc (Hi m v H K Vs i) (12+i*8) (leB (K.getD i 0) 8)) (12+m*8+i*v) (Vs.getD i [])
theorem Ip{m v:Nat}{H:Bl}{K:List Int}{Vs:List Bl}(hH:H.length=12)(hf:12+m*8+m*v≤244):∀ {i:Nat},i≤m→(∀ j,j<i→(Vs.getD j []).length=v)→(Hi m v H K Vs i).length=244
 | 0,_,_=>by rw[Hi,Vp (by rw[List.length_replicate];omega),List.length_replicate]
 | i+1,hi,hV=>by
  have ih:=Ip (K:=K) hH hf (i:=i) (by omega) (fun j hj=>hV j (by omega))
  have h1:=hV i (by omega)
  have h2:(i+1)*v≤m*v:=Nat.mul_le_mul_right v hi
  rw[Nat.add_mul,Nat.one_mul] at h2
  have h3:(Vc (Hi m v H K Vs i) (12+i*8) (leB (K.getD i 0) 8)).length=244:=by rw[Vp (by rw[Zh,ih];omega),ih]
  rw[Hi,Vp (by rw[h1,h3];omega),h3]
theorem node_Put(t:Int)(leaf:Bool)(n m v:Nat)(K:List Int)(Vs:List Bl)(ak av:O0)(ck cv:Nat)(w:World)(N:NodeOk t leaf n m v K Vs)(hKs:Sl w (.slice ak n ck) n (K.map V0))(hVs:Sl w (.slice av n cv) n (Vs.map sv)) :
 C0 274 #[.agg #[V0 t,.bool leaf,.slice ak n ck,.slice av n cv]] w (Qn (fun w' r=>∃ p c,r=.tuple #[.slice p 244 c,V0 0]∧w'.ownsRow w.heap.size 5 1 (.slice p 244 c) 244 ((Hi m v (Qk t leaf n m v) K Vs n).map bv)) w):=by
 have e6:=N.ht1
 have e7:=N.ht2
 have g3:=N.hn
 have f0:=Dd t leaf
 rw[N.hv] at f0
 have f6:=Yt t leaf
 rw[N.hm] at f6
 have d1:=fitN t leaf
 rw[N.hm,N.hv] at d1
 have f4:=Sl.cap hKs
 refine zin 90 Tryz.func274 ?_
 refine xa 2 [V0 t,.bool leaf,.slice ak n ck,.slice av n cv] 173 fun b1 W1 n1=>?_
 refine xlv 7 n1.blk.rp ?_
 refine xr 0 (args:=#[.agg #[V0 t,.bool leaf,.slice ak n ck,.slice av n cv]]) (Zee t leaf n m v K Vs ak av ck cv _ N (hKs.below n1.below) (hVs.below n1.below)) fun W2 e1=>?_
 refine xd 7 .z ?_
 have a5:=(n1.blk.below e1).below (Za W2)
 refine xb (.e [0] 1) 0 a5 ?_
 refine xb (.e [2] 3) 1 a5 ?_
 refine xb (.e [5] 6) 0 a5 ?_
 refine xb (.e [7] 8) 1 a5 ?_
 refine xr (.o [] 4) (args:=#[V0 t,.bool leaf]) (Nf t leaf v N.hv e6 e7 _) fun W3 e5=>?_
 refine xr (.o [] 9) (args:=#[V0 t,.bool leaf]) (Dm t leaf m N.hm e6 e7 _) fun W4 e0=>?_
 refine xd (.r [10,11] 3) .z ?_
 have a8:=((a5.below e5).below e0).below (Za W4)
 refine xb (.e [0] 1) 1 a8 ?_
 refine xb (.e [4] 5) 0 a8 ?_
 refine xb (.e [6,7] 8) 2 a8 ?_
 refine xr (.o [9,10,11,12,13,14,15] 2) (args:=#[.bool leaf]) (node_flag leaf _) fun W5 e3=>?_
 refine xbs (.o [3] 16) 6 [V0 1,V0 (Cd leaf),V0 1,V0 t,V0 2,V0 (n:Int),V0 2,V0 (v:Int),V0 2,V0 (m:Int),V0 4,V0 0] 271 fun b6 W6 n6=>?_
 have b3:=bln (bln (bln (bln (bln (bln n1.below e1) (Za W2)) e5) e0) (Za W4)) e3
 have g6:=n6.ge b3
 refine yc (.o [] 17) (args:=#[.slice (S1 b6) 6 6]) .z (Pack_node b6 (Cd leaf) t (n:Int) (v:Int) (m:Int) (Zcw leaf).1 (Zcw leaf).2 (by omega) (by omega) (by omega) (by omega) (by omega) (by omega) (by omega) (by omega) _ n6.blk) ?_
 rintro _ W7 ⟨_,rfl,c7,p2,c2,rfl,h2⟩
 have f1:=(bln b3 n6.below).size
 refine⟨c7,?_⟩
 refine xmk (.r [18,19,20,21,22] 4) fun _ _ _ _ zJ zQ zo zx zy zK=>Kn 244 (.int .u8 0) 1 1 ((List.replicate 244 (0:UInt8)).map bv) zo zx zy Tryz.underlying40 (by kernel_rfl) rfl (by omega) (by omega) (Dr 244) fun b8 W8 n8=>?_
 have c6:=bln (bln b3 n6.below) c7
 have g8:=n8.ge c6
 have c0:=Ze h2 f1
 have e4:=Zr c0 n8
 refine zK _ _ ?_
 have o8:=Zw (size:=1) (n:=244) n8.blk g8 (by rw[List.length_map,List.length_replicate]) (by unfold maxLen;omega)
 have d8:=Zb c0 n8.below
 have c5:=bln c6 n8.below
 refine xbi 7 (t2:=40) fun _ _ _ _ zJ zQ zo zx zy zK=>Uw (dLen:=244) (dCap:=244) (off:=0) 12 ((Qk t leaf n m v).map bv) ((Hi m v (Qk t leaf n m v) K Vs 0).map bv) zo Tryz.underlying40 (by kernel_rfl) zx zy (Zf d8) o8 (by simp[Ut]) (by omega) (by omega) (Xs _) c5.size (by simp[Hi,Vc,Ut]) fun W9 o9 e2 e8=>?_
 refine zK _ _ ?_
 have c4:=((((a8.below e3).below n6.below).below c7).below n8.below).grown e2 o8 (by decide)
 refine xb 6 2 c4 ?_
 have d6:=c5.trans e8
 have d0:=((n6.blk.below c7).below n8.below).grown e2 o8 (by decide)
 refine zl 5 90 (fun zm f3 V=>∃ (i:Nat),f3=[(1,P0 b1),(2,S0),(3,V0 0),(4,V0 (v:Int)),(5,V0 (m:Int)),(8,.slice (S1 b8) 244 244),(52,.slice ak n ck),(53,V0 (n:Int)),(54,V0 (i:Int))]∧zm=n-((i:Int)).toNat∧B3 w V∧Blk V b1 ([V0 t,.bool leaf,.slice ak n ck,.slice av n cv]) 173∧Blk V b6 ([V0 1,V0 (Cd leaf),V0 1,V0 t,V0 2,V0 (n:Int),V0 2,V0 (v:Int),V0 2,V0 (m:Int),V0 4,V0 0]) 271∧V.ownsRow w.heap.size 5 1 (.slice (S1 b8) 244 244) 244 ((Hi m v (Qk t leaf n m v) K Vs i).map bv)∧i≤n) ⟨0,rfl,rfl,d6,c4,d0,o9,Nat.zero_le _⟩ ?_
 rintro _ _ g5 ⟨i,rfl,rfl,a0,b0,a3,ho,hi⟩ g1 d5 f7
 have e8:i<n→i*v+v≤m*v:=fun h=>by have h9:(i+1)*v≤m*v:=Nat.mul_le_mul_right v (by omega);rw[Nat.add_mul,Nat.one_mul] at h9;exact h9
 refine xid 6 ((i:Int)<(n:Int)) (fun d7=>?_) (fun d7=>?_)
 ·refine xx 7 _ n i 1 (IntsN.elem hKs N.hK (k:=i) (by omega)).1 ?_
  refine xl 0 ((IntsN.elem (hKs.below a0) N.hK (k:=i) (by omega)).2) ?_
  refine xbs 8 1 [V0 8,V0 (K.getD i 0)] 271 fun e9 g2 a9=>?_
  have d3:=a9.ne a3
  have g0:=a9.ge a0
  refine xc 0 (args:=#[.slice (S1 e9) 1 1]) (Pack_8 e9 (K.getD i 0) (N.hk0 i (by omega)).1 _ a9.blk) ?_
  rintro _ f8 ⟨_,rfl,a7,p3,c3,rfl,h3⟩
  have d9:=(bln a0 a9.below).size
  refine xwm 11 ((i:Int)*8) (↑(i*8):Int) ?_
  refine xwm 0 (12+(↑(i*8):Int)) (↑(12+(i*8)):Int) ?_
  refine xsL 0 (fun _ _ _ _ zo zx zy V=>Pb (k:=(12+(i*8))) (b:=b8) (off:=0) (n:=244) (c:=244) (i:=(↑(12+(i*8)):Int)) (ki:=.i64) 1 zo zx zy rfl (by omega) (by omega) Tryz.underlying40 (by kernel_rfl) V) ?_
  have b2:=Zb (Zb ho a9.below) a7
  have d4:=Ze h3 d9
  have c1:=bln (bln a0 a9.below) a7
  refine xbi 1 (t2:=40) fun _ _ _ _ zJ zQ zo zx zy zK=>Uw (dLen:=(244-(12+(i*8)))) (dCap:=(244-(12+(i*8)))) (off:=(0+(12+(i*8))*1)) 8 ((leB (K.getD i 0) 8).map bv) ((Vc (Hi m v (Qk t leaf n m v) K Vs i) (12+i*8) (leB (K.getD i 0) 8)).map bv) zo Tryz.underlying40 (by kernel_rfl) zx zy (Zf d4) b2 (by simp[Zh]) (by omega) (by omega) (Xs _) c1.size (by simp[Vc,Zh,List.map_take,List.map_drop]) fun c8 f5 b7 c9=>?_
  refine zK _ _ ?_
  refine xd 2 (.t w.heap.size [5]) ?_
  refine xwm (.e [0,1] 2) ((m:Int)*8) (↑(m*8):Int) ?_
  refine xwm (.e [] 3) (12+(↑(m*8):Int)) (↑(12+(m*8)):Int) ?_
  refine xwm (.e [4,5] 6) ((i:Int)*(v:Int)) (↑(i*v):Int) ?_
  refine xwm (.e [] 7) ((↑(12+(m*8)):Int)+(↑(i*v):Int)) (↑((12+(m*8))+(i*v)):Int) ?_
  refine xsL (.e [] 8) (fun _ _ _ _ zo zx zy V=>Pb (k:=((12+(m*8))+(i*v))) (b:=b8) (off:=0) (n:=244) (c:=244) (i:=(↑((12+(m*8))+(i*v)):Int)) (ki:=.i64) 1 zo zx zy rfl (by omega) (by omega) Tryz.underlying40 (by kernel_rfl) V) ?_
  have a1:=(((b0.below a9.below).below a7).grown b7 b2 (by decide)).below (Za c8)
  refine xbt (.e [9] 10) 3 w.heap.size [5] a1 ?_
  refine xx (.e [11] 12) _ n i 1 (Strs.elem hVs N.hV (k:=i) (by omega)).1 ?_
  have b5:=bln (c1.trans c9) (Za c8)
  refine xlt (.e [] 13) (.t w.heap.size [5]) (fun V hV=>(Strs.elem (hVs.below (Vr b5 hV (Nat.le_refl _))) N.hV (k:=i) (by omega)).2) ?_
  have a2:=Zb f5 (Za c8)
  refine ybi (.o [] 14) (t2:=9) (.t w.heap.size [5]) fun _ _ _ _ zJ zQ zo zx zy zK=>Zcp (dLen:=(244-((12+(m*8))+(i*v)))) (dCap:=(244-((12+(m*8))+(i*v)))) (off:=(0+((12+(m*8))+(i*v))*1)) (Vs.getD i []) ((Hi m v (Qk t leaf n m v) K Vs (i+1)).map bv) zo Tryz.underlying40 (by kernel_rfl) zx zy a2 (by rw[N.hw i (by omega)];omega) (by rw[N.hw i (by omega)];omega) b5.size (by simp[Hi,Vc,List.map_take,List.map_drop]) fun f9 f2 b4 b9=>?_
  refine zK _ _ (Zt b9 b4 a2 (by decide)) ?_
  refine xwm 4 ((i:Int)+1) (↑(i+1):Int) ?_
  have d2:=b5.trans b9
  have a4:=a1.grown b4 a2 (by decide)
  have a6:=((((a3.below a9.below).below a7).grown b7 b2 (by decide)).below (Za c8)).grown b4 a2 (by decide)
  exact ze 2 (d5 _ _ _ ⟨i+1,rfl,rfl,d2,a4,a6,f2,by omega⟩ (by omega))
 refine xe 13 (.tuple #[.slice (S1 b8) 244 244,V0 0]) ?_
 have e:i=n:=by omega
 subst e
 exact⟨_,rfl,a0,_,_,rfl,ho⟩
theorem Qb(ba b:Nat)(v x:Value)(w:World)(hk:Blk w ba [v,x,P0 b] 153) :
 C0 73 #[P0 ba] w (Ret (P0 b) w):=by
 refine zin 9 Tryz.func73 ?_
 refine xr 9 (args:=#[P0 ba]) (Ku ba b _ _ _ hk) fun W1 a1=>?_
 have a0:=hk.below a1
 refine xb 10 2 a0 ?_
 exact xe 4 (P0 b) ⟨rfl,a1⟩
abbrev Ent:=Int×Bl×Int
def Xn:Ent:=(0,[],0)
def Yj(x:Ent):List Value:=[V0 x.1,.string ⟨x.2.1.toArray⟩,V0 x.2.2]
theorem Xg(x:Ent):(Yj x).length=3:=rfl
def Cb(l:List Ent):Nat→Int
 | 0=>-1
 | i+1=>(l.getD i Xn).1
structure EntsOk(v:Nat)(l:List Ent):Prop where
 hk:∀ i,i<l.length→0≤(l.getD i Xn).1∧(l.getD i Xn).1≤281474976710655
 hs:∀ j,j+1<l.length→(l.getD j Xn).1<(l.getD (j+1) Xn).1
 hw:∀ i,i<l.length→(l.getD i Xn).2.1.length=v
theorem EntsOk.last{v:Nat}{l:List Ent}(E:EntsOk v l){i:Nat}(h:i<l.length):Cb l i<(l.getD i Xn).1:=by
 cases i with
 | zero=>have:=(E.hk 0 h).1;simp only[Cb];omega
 | succ j=>exact E.hs j h
theorem Lg(x:Nat):x≤(Ri x).sum:=by
 by_cases h:x≤1
 ·rw[Kq h];simp
 ·rw[Kv h];simp
theorem Ue(t:Int)(n:Nat):1≤Zy t n:=by
 have h1:=Lg (ovN n (Qq t true));have h2:=Vf n (Qq t true);unfold Zy Qw;omega
theorem Zag(t:Int)(v:Nat)(a:O0)(c:Nat)(l:List Ent)(w:World)(ht1:1≤t)(ht2:t≤5)(hv:Pj t true=v)(E:EntsOk v l)(h:Sts Yj w (.slice a l.length c) l)(hn:l.length≤32768) :
 C0 230 #[V0 t,.slice a l.length c] w (Ret (.bool true) w):=by
 have a2:=Dd t true
 rw[hv] at a2
 have a8:=Ue t l.length
 refine zin 45 Tryz.func230 ?_
 refine xr 8 (args:=#[V0 t,.bool true]) (Nf t true v hv ht1 ht2 _) fun W1 a5=>?_
 refine xgk 9 [12,13] (show(((v:Int)==(0:Int)):Bool)=false from by simp;omega) ?_
 refine xr 3 (args:=#[V0 t,V0 (l.length:Int)]) (Qj t l.length _ ht1 ht2 hn) fun W3 a6=>?_
 refine xk 4 (show(((↑(Zy t l.length):Int)==(0:Int)):Bool)=false from by simp;omega) ?_
 have hB:=bln a5 a6
 refine zl 16 45 (fun zm a3 V=>∃ (i:Nat),a3=[(5,V0 (v:Int)),(6,V0 (Cb l i)),(20,.slice a l.length c),(21,V0 (l.length:Int)),(22,V0 (i:Int))]∧zm=l.length-((i:Int)).toNat∧B3 w V∧i≤l.length) ⟨0,rfl,rfl,hB,Nat.zero_le _⟩ ?_
 rintro _ _ W4 ⟨i,rfl,rfl,a0,hi⟩ J4 a4 r4
 refine xid 6 ((i:Int)<(l.length:Int)) (fun a7=>?_) (fun a7=>?_)
 ·refine xx 6 _ l.length i 3 (Sts.cell h Xg Xn (k:=i) (i:=0) (by omega) rfl).1 ?_
  refine xlv 0 (Sts.rp (k:=i) (h.below a0) Xg Xn (by omega) (by decide)) ?_
  refine xa 0 [V0 0,.string ⟨#[]⟩,V0 0] 123 fun b6 W6 n6=>?_
  have g6:=n6.ge a0
  refine xsv 0 n6.blk [V0 ((l.getD i Xn).1),.string ⟨((l.getD i Xn).2.1).toArray⟩,V0 ((l.getD i Xn).2.2)] fun W7 u7 k7=>?_
  refine xb 6 0 k7 ?_
  refine xgk 3 [29,30] (show(decide ((l.getD i Xn).1≤(Cb l i)):Bool)=false from decide_eq_false (by have:=E.last (i:=i) (by omega);omega)) ?_
  refine xb 1 0 k7 ?_
  refine xgk 3 [33,34,35] (show(decide ((l.getD i Xn).1>(281474976710655:Int)):Bool)=false from decide_eq_false (by have:=(E.hk i (by omega)).2;omega)) ?_
  refine xb 1 1 k7 ?_
  refine xk 6 (show(((↑((l.getD i Xn).2.1).length:Int) != (v:Int)):Bool)=false from by rw[E.hw i (by omega)];simp) ?_
  refine xb 4 0 k7 ?_
  refine xw 5 ((i:Int)+1) ?_
  have a1:=u7.below (bln a0 n6.below) g6
  exact ze 2 (a4 _ _ _ ⟨i+1,rfl,rfl,a1,by omega⟩ (by omega))
 exact xe 11 (.bool true) ⟨rfl,a0⟩
theorem Zeb(w:World) :
 C0 204 #[] w (Qn (fun w' r=>∃ b,r=.slice (S1 b) 1 1∧w.heap.size≤b∧Blk w' b [V0 4,V0 1,V0 14399] 377) w):=by
 refine zin 3 Tryz.func204 ?_
 refine xbs 8 1 [V0 4,V0 1,V0 14399] 377 fun b1 W1 n1=>?_
 have g1:=n1.ge (B4 w)
 exact xe 4 (.slice (S1 b1) 1 1) ⟨_,rfl,n1.below,_,rfl,g1,n1.blk⟩
theorem Zde(gl gn:Nat)(n:Int)(h1:1≤n)(h2:n≤14399)(w:World)(hl:Blk w gl [V0 4,V0 1,V0 14399] 377)(hn:Blk w gn [V0 n] 3) :
 C0 222 #[.slice (S1 gl) 1 1,.slice (S1 gn) 1 1] w (Ret (.string ⟨(leB n 4).toArray⟩) w):=by
 have b2:=h1
 have b3:=h2
 clear h2
 refine zin 51 Tryz.func222 ?_
 refine xu 19 2 ?_
 refine xlv 15 hl.rp ?_
 refine xa 0 [V0 0,V0 0,V0 0] 377 fun b1 W1 n1=>?_
 have a6:=n1.ne hl
 refine xsv 1 n1.blk [V0 4,V0 1,V0 14399] fun W2 u2 k2=>?_
 have g1:=n1.ge (B4 w)
 refine xd 4 .z ?_
 have a0:=(u2.blkT (hn.below n1.below) n1.blk (by decide)).below (Za W2)
 refine xb (.e [0,1,2] 3) 0 a0 ?_
 have a1:=k2.below (Za W2)
 refine xb (.e [4] 5) 1 a1 ?_
 refine xgk (.b [6,7]) [23,24] (show(decide (n<(1:Int)):Bool)=false from decide_eq_false (by omega)) ?_
 refine xb (.e [8,9,10] 11) 0 a0 ?_
 refine xb (.e [12] 13) 2 a1 ?_
 refine xk (.r [14,15] 2) (show(decide (n>(14399:Int)):Bool)=false from decide_eq_false (by omega)) ?_
 refine xd 3 .z ?_
 have a5:=a1.below (Za W2.drew)
 refine xb (.e [0] 1) 0 a5 ?_
 have a3:=a0.below (Za W2.drew)
 refine xb (.e [2,3,4] 5) 0 a3 ?_
 refine xbs (.o [6] 7) 1 [V0 4,V0 n] 271 fun b4 W4 n4=>?_
 refine yc (.o [] 8) (args:=#[.slice (S1 b4) 1 1]) .z (Fg b4 n (by omega) (by omega) _ n4.blk) ?_
 rintro _ W5 ⟨_,rfl,a7,p2,c2,rfl,h2⟩
 have a9:=(bln (bln (bln (u2.below n1.below g1) (Za W2)) (Za W2.drew)) n4.below).size
 refine⟨a7,?_⟩
 have o6:=World.ownsRow_nil W5 w.heap.size 5 1
 have a2:=Ze h2 a9
 have hB:=bln (bln (bln (bln (u2.below n1.below g1) (Za W2)) (Za W2.drew)) n4.below) a7
 refine xbi (.r [9,10,11,12,13] 5) fun _ _ _ _ zJ zQ zo zx zy zK=>Zn (m:=4) (news:=(leB n 4).map bv) (.int .u8 0) 1 1 (4) ((leB n 4).map bv) zo Tryz.underlying40 (by kernel_rfl) rfl (by decide) zx o6 zy (Zf a2) (by simp[Zh]) (Xs _) (by unfold maxLen;omega) (by omega) hB.size (by rfl) (by simp) fun b6 b5 W7 o7 b0 a8=>?_
 refine zK _ _ ?_
 refine xcv0 24 (fun _ _ _ zo zx=>Yn zo zx (Xp (Zf o7) (Zh _ _)) (Zh _ _) Tryz.underlying40 Tryz.underlying5 Tryz.underlying9) ?_
 have a4:=hB.trans a8
 exact xe 4 (.string ⟨(leB n 4).toArray⟩) ⟨rfl,a4⟩
theorem Fw(n:Int)(h1:1≤n)(h2:n≤14399)(w:World) :
 C0 146 #[V0 n] w (Ret (.string ⟨(leB n 4).toArray⟩) w):=by
 refine zin 7 Tryz.func146 ?_
 refine xc 7 (args:=#[]) (Zeb _) ?_
 rintro _ W1 ⟨_,rfl,a1,gl,rfl,gg,kl⟩
 refine xbs 1 1 [V0 n] 3 fun b2 W2 n2=>?_
 have a0:=kl.below n2.below
 refine xr 0 (args:=#[.slice (S1 gl) 1 1,.slice (S1 b2) 1 1]) (Zde gl b2 n h1 h2 _ a0 n2.blk) fun W3 a2=>?_
 have hB:=bln (bln a1 n2.below) a2
 exact xe 4 (.string ⟨(leB n 4).toArray⟩) ⟨rfl,hB⟩
theorem Sts.cut{α:Type}{f:α→List Value}{m:Nat}{w:World}{b:O0}{c:Nat}{l:List α}(hm:∀ x,(f x).length=m)(h:Sts f w (.slice b l.length c) l)(k:Nat)(hk:k≤l.length):Sts f w (.slice (Gj b k c m) (l.drop k).length (c-k)) (l.drop k):=by
 have a2:(l.drop k).length=l.length-k:=by simp
 have a3:=Sl.cap h
 by_cases hkn:k=l.length
 ·refine .inl ⟨Gj b k c m,c-k,by rw[show(l.drop k).length=0 by omega],by omega,?_⟩
  rw[List.drop_eq_nil_of_le (by omega)];rfl
 rcases h with ⟨a',c',h1,h2,h3⟩|⟨g,a0,a4,h1,h2,h3,h4⟩
 ·omega
 ·simp only[Value.slice.injEq] at h1
  obtain⟨rfl,_,rfl⟩:=h1
  refine .inr ⟨g,a0+k*m,c-k,?_,by omega,by omega,fun j x hj=>?_⟩
  ·rw[Gj,if_neg (by omega)];simp[Addr.add]
  ·have a1:(l.drop k).flatMap f=(l.flatMap f).drop (k*m):=by
    conv=>rhs;rw[←List.take_append_drop k l,List.flatMap_append]
    rw[List.drop_left' (by rw[Fi hm,List.length_take,Nat.min_eq_left hk])]
   rw[a1,List.getElem?_drop] at hj
   have:=h4 _ _ hj
   rwa [←Nat.add_assoc] at this
theorem Al.only{B ba b g n c:Nat}{pa:O0}{ca f N k:Nat}{l:Bl}{w W:World}{T:List TypeId}(h:Al B ba b g n c pa ca f N k l w)(hO:Zd T w W)(hT:(T.contains 153||T.contains 95||T.contains 5||T.contains 3)=false):Al B ba b g n c pa ca f N k l W:=by
 simp only[Bool.or_eq_false_iff] at hT
 exact⟨h.blkA.only hO hT.1.1.1,h.blkI.only hO hT.1.1.2,Zi h.data hO hT.1.2,Zi h.nums hO hT.2⟩
def Zj(l:List Ent)(m i:Nat):List Ent:=(l.drop (i*m)).take m
def Xm(c:List Ent):List Int:=c.map (·.1)
def Yg(c:List Ent):List Bl:=c.map (·.2.1)
def Zed(t:Int)(leaf:Bool)(m v:Nat)(c:List Ent):Bl:=Hi m v (Qk t leaf c.length m v) (Xm c) (Yg c) c.length
def Iw(t:Int)(leaf:Bool)(m v:Nat)(l:List Ent)(q:Nat)(bs:Bl):Nat→Bl
 | 0=>bs
 | i+1=>Vc (Iw t leaf m v l q bs i) ((q+i)*256) (Xw 2 ((q+i:Nat):Int) (Zed t leaf m v (Zj l m i)))
def upX (l:List Ent)(m q i:Nat):Ent:=(((Zj l m i).getD 0 Xn).1,leB ((q+i:Nat):Int) 4,((q+i:Nat):Int))
def upE (l:List Ent)(m q j:Nat):List Ent:=(List.range j).map (upX l m q)
theorem upE_succ(l:List Ent)(m q j:Nat):upE l m q (j+1)=upE l m q j++[upX l m q j]:=by simp[upE,List.range_succ]
theorem Xh(l:List Ent)(m q j:Nat):(upE l m q j).length=j:=by simp[upE]
theorem Hx{l:List Ent}{m q j i:Nat}(h:i<j):(upE l m q j).getD i Xn=upX l m q i:=by simp[upE,List.getD,List.getElem?_range h]
theorem Vj(l:List Ent)(m i:Nat):(Zj l m i).length=Vw l.length m i:=by simp[Zj,Vw]
theorem Uq{l:List Ent}{m i j:Nat}(h:j<Vw l.length m i):(Zj l m i).getD j Xn=l.getD (i*m+j) Xn:=by
 unfold Vw at h
 simp[Zj,List.getD,List.getElem?_take_of_lt (show j<m by omega),List.getElem?_drop]
theorem Iv{c:List Ent}{j:Nat}(h:j<c.length):(Xm c).getD j 0=(c.getD j Xn).1:=by simp[Xm,List.getD,h]
theorem Zhe{c:List Ent}{j:Nat}(h:j<c.length):(Yg c).getD j []=(c.getD j Xn).2.1:=by simp[Yg,List.getD,h]
theorem Yc(c:List Ent):(Xm c).length=c.length:=by simp[Xm]
theorem Gm(c:List Ent):(Yg c).length=c.length:=by simp[Yg]
theorem Zgf{n m i:Nat}(hm:1≤m)(hn:1≤n)(h:i<ovN n m):i*m<n:=by
 unfold ovN at h
 rcases Nat.eq_zero_or_pos i with rfl|hi
 ·omega
 have h2:i<(n+m-1)/m:=by omega
 have h3:=(Nat.lt_div_iff_mul_lt (by omega)).1 h2
 omega
theorem Pf{t:Int}{leaf:Bool}{m v:Nat}{l:List Ent}(E:EntsOk v l)(h1:1≤t)(h2:t≤5)(hm:Qq t leaf=m)(hv:Pj t leaf=v)(hl:leaf=false→1≤l.length){i:Nat}(hi:i<ovN l.length m):NodeOk t leaf (Zj l m i).length m v (Xm (Zj l m i)) (Yg (Zj l m i)):=by
 have a5:=(Yt t leaf).1
 rw[hm] at a5
 have a0:=Vj l m i
 have a6:=Zgb a5 hi
 have a7:(Zj l m i).length≤l.length-i*m:=by rw[a0];unfold Vw;omega
 have a4:∀ j,j<(Zj l m i).length→i*m+j<l.length∧(Xm (Zj l m i)).getD j 0=(l.getD (i*m+j) Xn).1∧(Yg (Zj l m i)).getD j []=(l.getD (i*m+j) Xn).2.1:=fun j hj=>by
  refine⟨by omega,?_,?_⟩
  ·rw[Iv hj,Uq (by omega)]
  ·rw[Zhe hj,Uq (by omega)]
 refine⟨h1,h2,hm,hv,Yc _,Gm _,by rw[a0];unfold Vw;omega,fun h=>?_,fun j hj=>?_,fun j hj=>?_,fun j hj=>?_⟩
 ·have:=Zgf a5 (hl h) hi
  rw[a0];unfold Vw;omega
 ·obtain⟨a1,a2,_⟩:=a4 j hj
  rw[a2];exact E.hk _ a1
 ·obtain⟨a1,a2,_⟩:=a4 j (by omega)
  obtain⟨b1,b2,_⟩:=a4 (j+1) hj
  rw[a2,b2];exact E.hs _ (by omega)
 ·obtain⟨a1,_,a3⟩:=a4 j hj
  rw[a3];exact E.hw _ a1
theorem Wz{t:Int}{leaf:Bool}{m v:Nat}{c:List Ent}(N:NodeOk t leaf c.length m v (Xm c) (Yg c)):(Zed t leaf m v c).length=244:=by
 have hf:=fitN t leaf
 rw[N.hm,N.hv] at hf
 exact Ip (Ut _ _ _ _ _) hf N.hn (fun j hj=>N.hw j hj)
theorem Zct{w:World}{b:O0}{n m c:Nat}(h:Sl w (.slice b (ovN n m) c) (ovN n m) ((sizL n m).map nv)){k:Nat}(hk:k<ovN n m):b.isSome=true∧w.cell? (Zz b (k*1))=some (V0 ((Vw n m k:Nat):Int)):=by
 have:=Ha h (sizL_len n m) hk
 rwa [show(sizL n m).getD k 0=Vw n m k from by simp[sizL,List.getD,List.getElem?_range hk]] at this
theorem Wm{l:List Ent}{j:Nat}(h:j<l.length):((Xm l).take (j+1)).map V0=((Xm l).take j).map V0++[V0 (l.getD j Xn).1]:=by
 rw[List.take_succ_eq_append_getElem (by rw[Yc];exact h)]
 simp[Xm,List.getD,h]
theorem Kj{l:List Ent}{j:Nat}(h:j<l.length):((Yg l).take (j+1)).map sv=((Yg l).take j).map sv++[.string ⟨(l.getD j Xn).2.1.toArray⟩]:=by
 rw[List.take_succ_eq_append_getElem (by rw[Gm];exact h)]
 simp[Yg,List.getD,h,sv]
theorem Zda{l:List Ent}{m i s:Nat}(hs:Vw l.length m i=s):(Xm (l.drop (i*m))).take s=Xm (Zj l m i):=by
 subst hs
 unfold Xm Zj Vw
 rw[←List.map_take]
 congr 1
 rw[List.take_eq_take_iff];simp
theorem Zd0{l:List Ent}{m i s:Nat}(hs:Vw l.length m i=s):(Yg (l.drop (i*m))).take s=Yg (Zj l m i):=by
 subst hs
 unfold Yg Zj Vw
 rw[←List.map_take]
 congr 1
 rw[List.take_eq_take_iff];simp
theorem EntsOk.mono{v:Nat}{l:List Ent}(E:EntsOk v l):∀ {a b:Nat},a<b→b<l.length→(l.getD a Xn).1<(l.getD b Xn).1:=by
 intro a b h hb
 induction b with
 | zero=>omega
 | succ b ih =>
  have h1:=E.hs b (by omega)
  rcases Nat.lt_or_ge a b with h2|h2
  ·have:=ih h2 (by omega);omega
  ·obtain rfl:a=b:=by omega
   exact h1
theorem up_key{v:Nat}{l:List Ent}{m:Nat}(hm:1≤m)(hl:1≤l.length){i q:Nat}(hi:i<ovN l.length m):(upX l m q i).1=(l.getD (i*m) Xn).1∧i*m<l.length:=by
 have h:=Zgf hm hl hi
 refine⟨?_,h⟩
 unfold upX
 rw[Uq (by unfold Vw;omega)];rfl
theorem up_ok{v:Nat}{l:List Ent}(E:EntsOk v l){m q:Nat}(hm:1≤m):EntsOk 4 (upE l m q (ovN l.length m)):=by
 rcases Nat.eq_zero_or_pos l.length with h0|hl
 ·have h1:ovN l.length m=1:=by
   rw[h0];unfold ovN
   have:(0+m-1)/m=0:=Nat.div_eq_of_lt (by omega)
   omega
  have a0:l=[]:=List.eq_nil_of_length_eq_zero h0
  subst a0
  constructor
  ·intro i hi;rw[Xh,h1] at hi;rw[Hx (by omega)];simp[upX,Zj,Xn]
  ·intro j hj;rw[Xh,h1] at hj;omega
  ·intro i hi;rw[Xh,h1] at hi;rw[Hx (by omega)];simp[upX,Zh]
 constructor
 ·intro i hi
  rw[Xh] at hi
  obtain⟨h1,h2⟩:=up_key (v:=v) (q:=q) hm hl hi
  rw[Hx hi,h1];exact E.hk _ h2
 ·intro j hj
  rw[Xh] at hj
  obtain⟨h1,h2⟩:=up_key (v:=v) (q:=q) hm hl hj
  obtain⟨h3,h4⟩:=up_key (v:=v) (q:=q) hm hl (show j<ovN l.length m by omega)
  rw[Hx hj,Hx (by omega),h1,h3]
  refine E.mono ?_ h2
  rw[Nat.add_mul];omega
 ·intro i hi
  rw[Xh] at hi
  rw[Hx hi];simp[upX,Zh]
def Ux(t:Int)(u:List Ent)(q:Nat)(bs:Bl):Int×Bl :=
 if h:u.length≤1 then((u.getD 0 Xn).2.2,bs)
 else Ux t (upE u 18 q (ovN u.length 18)) (q+ovN u.length 18) (Iw t false 18 4 u q bs (ovN u.length 18))
termination_by u.length
decreasing_by rw[Xh];have:=ov18 (x:=u.length) (by omega);omega
theorem Pd{t:Int}{u:List Ent}{q:Nat}{bs:Bl}(h:u.length≤1):Ux t u q bs=((u.getD 0 Xn).2.2,bs):=by rw[Ux];simp[h]
theorem Nb{t:Int}{u:List Ent}{q:Nat}{bs:Bl}(h:¬ u.length≤1):Ux t u q bs=Ux t (upE u 18 q (ovN u.length 18)) (q+ovN u.length 18) (Iw t false 18 4 u q bs (ovN u.length 18)):=by rw[Ux];simp[h]
def Yo(t:Int)(l:List Ent)(q:Nat)(bs:Bl):Int×Bl :=
 Ux t (upE l (Qq t true) q (ovN l.length (Qq t true))) (q+ovN l.length (Qq t true)) (Iw t true (Qq t true) (Pj t true) l q bs (ovN l.length (Qq t true)))
theorem Zbj{t:Int}{u:List Ent}{q:Nat}{bs:Bl}(h1:1≤u.length)(hu:(u.getD (u.length-1) Xn).2.2=((q-1:Nat):Int))(hq:1≤q):(Ux t u q bs).1=((q-1+((Ri u.length).sum-u.length):Nat):Int):=by
 induction hx:u.length using Nat.strongRecOn generalizing u q bs with
 | _ x ih =>
  subst hx
  by_cases h:u.length≤1
  ·rw[Pd h,Kq h]
   rw[show u.length-1=0 by omega] at hu
   show(u.getD 0 Xn).2.2=_
   rw[hu];simp
  ·have a1:=ov18 (x:=u.length) (by omega)
   have hp:=Vf u.length 18
   rw[Nb h,ih (ovN u.length 18) (by omega) (u:=upE u 18 q (ovN u.length 18)) (q:=q+ovN u.length 18) (by rw[Xh];exact hp) ?_ (by omega) (Xh _ _ _ _),Kv h]
   ·have a0:=Lg (ovN u.length 18)
    simp only[List.sum_cons]
    congr 1
    omega
   ·rw[Xh,Hx (by omega)]
    simp only[upX]
    congr 1
    omega
def LaidQ(B ba b g n c:Nat)(pa:O0)(ca f N k:Nat)(l:Bl)(kind:Int)(li:Bl)(q:Nat)(w:World)(e:Ending)(w':World):Prop :=
 e=.returned (.tuple #[V0 (q:Int),.nilIface])∧Below B w w'∧Zd [153,5] w w'∧Fr [ba,g] w w'∧Al B ba b g n c pa ca f N (k+1) (Vc l (q*256) (Xw kind (q:Int) li)) w'
theorem Wu(B ba b g n c:Nat)(p:O0)(ca f N k:Nat)(l:Bl)(kind:Int)(a:O0)(ci:Nat)(li:Bl)(q n':Nat)(w:World)(hq:f+k=q)(hn':li.length=n')(hC:AlC B ba n c ca f N)(hA:Al B ba b g n c p ca f N k l w)(hkN:k<N)(h1:1≤kind)(h2:kind≤4)(hin:∀ W,Below B w W→Zd [153] w W→Bys W (.slice a n' ci) li)(hl:n'≤244)(hBw:B≤w.heap.size) :
 C0 164 #[P0 ba,V0 kind,.slice a n' ci] w (LaidQ B ba b g n c p ca f N k l kind li q w):=by
 subst hq hn';exact alloc_Lay B ba b g n c p ca f N k l kind a ci li w hC hA hkN h1 h2 hin hl hBw
theorem Pp{l:List Ent}{m q i:Nat}{key:Int}(hk:key=((Zj l m i).getD 0 Xn).1):(upE l m q i).flatMap Yj++[V0 key,.string ⟨(leB ((q+i:Nat):Int) 4).toArray⟩,V0 ((q+i:Nat):Int)]=(upE l m q (i+1)).flatMap Yj:=by
 subst hk;rw[upE_succ];simp[Yj,upX]
theorem Us{l:List Ent}{m i j:Nat}(hs:Vw l.length m i=j)(hj:0<j):((Xm (Zj l m i))).getD 0 0=((Zj l m i).getD 0 Xn).1:=Iv (by rw[Vj];omega)
theorem Jo{l:List Ent}{m i j:Nat}(hs:Vw l.length m i=j)(hj:j=0):(0:Int)=((Zj l m i).getD 0 Xn).1:=by
 have:Zj l m i=[]:=List.eq_nil_of_length_eq_zero (by rw[Vj];omega)
 rw[this];rfl
def bmN (n:Nat):Nat:=(n+959)/960
theorem bmN_lt{n i:Nat}(h:i<bmN n):i*960<n:=by unfold bmN at h;omega
theorem bmN_done{n i:Nat}(h:i=bmN n):n≤i*960:=by subst h;unfold bmN;omega
def mn3 (n:Int):Int:=if n<3 then n else 3
def Zg(l:List Int):List Int:=l.map mn3
theorem Jl(l:List Int):(Zg l).length=l.length:=by simp[Zg]
theorem Ze6{l:List Int}{k:Nat}(h:k<l.length):Zg (l.take (k+1))=Zg (l.take k)++[mn3 (l.getD k 0)]:=by
 unfold Zg
 rw[List.take_succ_eq_append_getElem h,List.map_append,show l.getD k 0=l[k] from by simp[List.getD,h]]
 rfl
def ovX (l:List Int)(k:Nat):List Ent:=if 3≤l.getD k 0 then [((k:Int),leB (l.getD k 0) 4,0)] else []
def Zm(l:List Int)(k:Nat):List Ent:=(List.range k).flatMap (ovX l)
theorem Rt(l:List Int)(k:Nat):Zm l (k+1)=Zm l k++ovX l k:=by simp[Zm,List.range_succ]
theorem Kg{l:List Int}{k:Nat}(h:3≤l.getD k 0):Zm l (k+1)=Zm l k++[((k:Int),leB (l.getD k 0) 4,0)]:=by rw[Rt];unfold ovX;rw[if_pos h]
theorem Kr{l:List Int}{k:Nat}(h:¬ 3≤l.getD k 0):Zm l (k+1)=Zm l k:=by rw[Rt];unfold ovX;rw[if_neg h];simp
theorem overK_ok(l:List Int)(k:Nat):(Zm l k).Pairwise (fun a b=>a.1<b.1)∧∀ x∈Zm l k,0≤x.1∧x.1<k∧x.2.1.length=4:=by
 induction k with
 | zero=>simp[Zm]
 | succ k ih =>
  by_cases h3:3≤l.getD k 0
  ·rw[Kg h3]
   refine⟨List.pairwise_append.2 ⟨ih.1,by simp,fun a ha b hb=>?_⟩,fun x hx=>?_⟩
   ·simp only[List.mem_singleton] at hb;subst hb;exact(ih.2 a ha).2.1
   ·rcases List.mem_append.1 hx with h|h
    ·have:=ih.2 x h;exact⟨this.1,by have:=this.2.1;omega,this.2.2⟩
    ·simp only[List.mem_singleton] at h;subst h;exact⟨Int.natCast_nonneg _,by show(k:Int)<((k+1:Nat):Int);omega,Zh _ _⟩
  ·rw[Kr h3]
   exact⟨ih.1,fun x hx=>by have:=ih.2 x hx;exact⟨this.1,by have:=this.2.1;omega,this.2.2⟩⟩
theorem Ju(l:List Int)(k:Nat):(Zm l k).length≤k:=by
 induction k with
 | zero=>simp[Zm]
 | succ k ih =>
  by_cases h3:3≤l.getD k 0
  ·rw[Kg h3];simp;exact ih
  ·rw[Kr h3];omega
theorem Ny{l:List Ent}{i:Nat}(h:i<l.length):l.getD i Xn=l[i]:=by simp[List.getD,h]
theorem Mh(l:List Int)(k:Nat)(hk:k≤65536):EntsOk 4 (Zm l k):=by
 have h:=overK_ok l k
 refine⟨fun i hi=>?_,fun j hj=>?_,fun i hi=>?_⟩
 ·rw[Ny hi];have:=h.2 _ (List.getElem_mem hi);omega
 ·rw[Ny hj,Ny (by omega)];exact List.pairwise_iff_getElem.1 h.1 j (j+1) (by omega) hj (by omega)
 ·rw[Ny hi];exact(h.2 _ (List.getElem_mem hi)).2.2
def Kw(n:Int):Prop:=0≤n∧n≤2147483647
instance (n:Int):Decidable (Kw n):=by unfold Kw;infer_instance
def Yu(l:List Int):Int:=if 65536<l.length then 1 else if ∀ k,k<l.length→Kw (l.getD k 0) then 0 else 2
theorem Gk{l:List Int}(h:Yu l=0):l.length≤65536∧∀ k,k<l.length→Kw (l.getD k 0):=by
 unfold Yu at h
 split at h
 ·simp at h
 ·split at h
  ·exact⟨by omega,by assumption⟩
  ·simp at h
def Vi(l:List Int)(i:Nat):List Int:=(l.drop (i*960)).take 960
def Zl(l:List Int)(n:Nat):List (List Int):=(List.range n).map (Vi l)
theorem Xk(l:List Int)(n:Nat):(Zl l n).length=n:=by simp[Zl]
theorem Ds{l:List Int}{n i:Nat}(h:i<n):(Zl l n).getD i []=Vi l i:=by simp[Zl,List.getD,h]
theorem Au(l:List Int)(n:Nat):Zl l (n+1)=Zl l n++[Vi l n]:=by simp[Zl,List.range_succ]
theorem Gd(l:List Int)(i:Nat):(Vi l i).length=min 960 (l.length-i*960):=by simp[Vi]
def Hq(l:List Int):Prop:=∀ n∈l,0≤n∧n≤3
theorem Zbo{l:List Int}(h:∀ k,k<l.length→Kw (l.getD k 0)):Hq (Zg l):=by
 intro n hn
 obtain⟨m,hm,rfl⟩:=List.mem_map.1 hn
 obtain⟨k,hk,rfl⟩:=List.getElem_of_mem hm
 have:=h k hk
 rw[show l.getD k 0=l[k] from by simp[List.getD,hk]] at this
 unfold Kw at this
 unfold mn3;split<;>omega
theorem Fb{l:List Int}(h:Hq l)(i:Nat):Hq (Vi l i):=fun n hn=>h n (List.mem_of_mem_drop (List.mem_of_mem_take hn))
def atI (l:List Int)(i j:Nat):Int:=if j<i then l.getD j 0 else 0
def g4 (l:List Int)(i k:Nat):Int:=atI l i (4*k)+4*atI l i (4*k+1)+16*atI l i (4*k+2)+64*atI l i (4*k+3)
def g4B (l:List Int)(i k:Nat):UInt8:=UInt8.ofNat (g4 l i k).toNat
def Nw(l:List Int)(i:Nat):Bl:=leB l.length 4++(List.range 240).map (g4B l i)
theorem Kt(l:List Int)(i:Nat):(Nw l i).length=244:=by simp[Nw,Zh]
def Ia(l:List Int):Bl:=Nw l l.length
def Zbe(l:List Int)(k:Nat):Nat:=((l.take k).filter fun n=>n==0).length
def Yb(l:List Int):Nat:=Zbe l l.length
def Xd(l:List Int):Nat:=l.findIdx fun n=>n==0
theorem Rx{l:List Int}{k:Nat}(h:k<l.length):Zbe l (k+1)=Zbe l k+(if l.getD k 0=0 then 1 else 0):=by
 unfold Zbe
 rw[List.take_succ_eq_append_getElem h,List.filter_append,List.length_append]
 simp only[List.getD,List.getElem?_eq_getElem h,Option.getD_some]
 by_cases e:l[k]=0<;>simp[e]
theorem Wt(l:List Int)(k:Nat):Zbe l k≤k:=Nat.le_trans (List.length_filter_le _ _) (by simp;omega)
theorem Nr(l:List Int):Xd l≤l.length:=List.findIdx_le_length
theorem Es{l:List Int}{i:Nat}(h:i<l.length)(h0:l.getD i 0=0)(hp:∀ j,j<i→l.getD j 0≠0):Xd l=i:=by
 unfold Xd
 refine(List.findIdx_eq h).2 ⟨?_,fun j hj=>?_⟩
 ·rw[List.getD,List.getElem?_eq_getElem h] at h0;simpa using h0
 ·have:=hp j hj
  rw[List.getD,List.getElem?_eq_getElem (by omega)] at this;simpa using this
theorem Nd{l:List Int}(hp:∀ j,j<l.length→l.getD j 0≠0):Xd l=l.length:=by
 unfold Xd
 rw[List.findIdx_eq_length]
 intro n hn
 obtain⟨k,hk,rfl⟩:=List.getElem_of_mem hn
 have:=hp k hk
 rw[List.getD,List.getElem?_eq_getElem hk] at this;simpa using this
def slotB(n f g:Int):Bl:=leB n 8++leB f 4++leB g 4
theorem Zhf(n f g:Int):(slotB n f g).length=16:=by simp[slotB,Zh]
def Kl(L:List (List Int))(q:Nat)(bs:Bl):Nat→Bl
 | 0=>bs
 | i+1=>Vc (Kl L q bs i) ((q+i)*256) (Xw 3 ((q+i:Nat):Int) (Ia (L.getD i [])))
def Zfe(L:List (List Int))(q i:Nat):Ent:=((i:Int),slotB ((q+i:Nat):Int) (Yb (L.getD i []):Int) (Xd (L.getD i []):Int),0)
def Xv(L:List (List Int))(q j:Nat):List Ent:=(List.range j).map (Zfe L q)
theorem Qi(L:List (List Int))(q j:Nat):(Xv L q j).length=j:=by simp[Xv]
theorem Er(L:List (List Int))(q j:Nat):Xv L q (j+1)=Xv L q j++[Zfe L q j]:=by simp[Xv,List.range_succ]
theorem Wy{L:List (List Int)}{q j i:Nat}(h:i<j):(Xv L q j).getD i Xn=Zfe L q i:=by simp[Xv,List.getD,h]
theorem Rc(L:List (List Int))(q j:Nat)(hj:j≤65536):EntsOk 16 (Xv L q j):=by
 refine⟨fun i hi=>?_,fun i hi=>?_,fun i hi=>?_⟩<;>rw[Qi] at hi
 ·rw[Wy hi];simp only[Zfe];omega
 ·rw[Wy hi,Wy (by omega)];simp only[Zfe];omega
 ·rw[Wy hi];exact Zhf _ _ _
def Zaw(l:List Int)(q:Nat)(bs:Bl):Int×Int×Bl :=
 let L:=Zl (Zg l) (bmN l.length)
 let x:=Yo 4 (Xv L q (bmN l.length)) (q+bmN l.length) (Kl L q bs (bmN l.length))
 let y:=Yo 5 (Zm l l.length) (q+bmN l.length+Zy 4 (bmN l.length)) x.2
 (x.1,y.1,y.2)
def Up(l:List Int):Nat:=bmN l.length+Zy 4 (bmN l.length)+Zy 5 (Zm l l.length).length
theorem Nl{l:List Int}(h:Hq l)(i j:Nat):0≤atI l i j∧atI l i j≤3:=by
 unfold atI
 split
 ·by_cases hj:j<l.length
  ·rw[show l.getD j 0=l[j] from by simp[List.getD,hj]];exact h _ (List.getElem_mem hj)
  ·rw[show l.getD j 0=0 from by simp[List.getD,Nat.le_of_not_lt hj]];omega
 ·omega
theorem Uf{l:List Int}(h:Hq l)(j:Nat):0≤l.getD j 0∧l.getD j 0≤3:=by
 have:=Nl h (j+1) j
 unfold atI at this
 rwa [if_pos (by omega)] at this
theorem Jb{l:List Int}{i j:Nat}(h:j≠i):atI l (i+1) j=atI l i j:=by
 unfold atI
 by_cases q:j<i
 ·rw[if_pos q,if_pos (by omega)]
 ·rw[if_neg q,if_neg (by omega)]
theorem Zbz(l:List Int)(i:Nat):atI l (i+1) i=l.getD i 0:=by unfold atI;rw[if_pos (by omega)]
theorem Ps{l:List Int}{i j:Nat}(h:i≤j):atI l i j=0:=by unfold atI;rw[if_neg (by omega)]
theorem g4_ne{l:List Int}{i k:Nat}(h:k≠i/4):g4 l (i+1) k=g4 l i k:=by
 unfold g4
 rw[Jb (by omega),Jb (by omega),Jb (by omega),Jb (by omega)]
theorem g4_at{l:List Int}(h:Hq l){i q r:Nat}(hi:i=4*q+r)(hr:r<4):g4 l (i+1) q=g4 l i q+l.getD i 0*4 ^ r∧0≤g4 l i q∧g4 l i q<4 ^ r:=by
 have b0:=Nl h i (4*q)
 have b1:=Nl h i (4*q+1)
 have b2:=Nl h i (4*q+2)
 have b3:=Nl h i (4*q+3)
 unfold g4
 obtain rfl|rfl|rfl|rfl:r=0∨r=1∨r=2∨r=3:=by omega
 ·rw[show 4*q=i from by omega,Zbz,Jb (by omega),Jb (by omega),Jb (by omega),Ps (Nat.le_refl i),Ps (Nat.le_add_right i 1),Ps (Nat.le_add_right i 2),Ps (Nat.le_add_right i 3)]
  omega
 ·have e2:atI l i (4*q+2)=0:=Ps (by omega)
  have e3:atI l i (4*q+3)=0:=Ps (by omega)
  have e1:atI l i (4*q+1)=0:=Ps (by omega)
  rw[Jb (j:=4*q) (by omega),Jb (j:=4*q+2) (by omega),Jb (j:=4*q+3) (by omega),e1,e2,e3,←hi,Zbz]
  omega
 ·have e2:atI l i (4*q+2)=0:=Ps (by omega)
  have e3:atI l i (4*q+3)=0:=Ps (by omega)
  rw[Jb (j:=4*q) (by omega),Jb (j:=4*q+1) (by omega),Jb (j:=4*q+3) (by omega),e2,e3,←hi,Zbz]
  omega
 ·have e3:atI l i (4*q+3)=0:=Ps (by omega)
  rw[Jb (j:=4*q) (by omega),Jb (j:=4*q+1) (by omega),Jb (j:=4*q+2) (by omega),e3,←hi,Zbz]
  omega
theorem g4B_at{l:List Int}(h:Hq l){i:Nat}:((g4B l (i+1) (i/4)).toNat:Int)=((g4B l i (i/4)).toNat:Int)+l.getD i 0*4 ^ (i%4)∧(g4B l i (i/4)).toNat<4 ^ (i%4):=by
 obtain⟨h1,h2,h3⟩:=g4_at h (show i=4*(i/4)+i%4 by omega) (by omega)
 have hn:=Uf h i
 have hp:(4:Int) ^ (i%4)≤64:=by
  have:i%4<4:=by omega
  obtain e|e|e|e:i%4=0∨i%4=1∨i%4=2∨i%4=3:=by omega
  all_goals rw[e];decide
 have a0:(0:Int)<4 ^ (i%4):=Int.pow_pos (by decide)
 generalize hP:(4:Int) ^ (i%4)=Pq at *
 have hq:l.getD i 0*Pq≤3*Pq:=Int.mul_le_mul_of_nonneg_right hn.2 (by omega)
 have a2:0≤l.getD i 0*Pq:=Int.mul_nonneg hn.1 (by omega)
 generalize l.getD i 0*Pq=M at *
 have a1:((4 ^ (i%4):Nat):Int)=Pq:=by rw[←hP];simp
 unfold g4B
 rw[UInt8.toNat_ofNat',UInt8.toNat_ofNat',h1]
 omega
def Bu(gs:List (Nat×Nat))(L:List (List Int))(i:Nat):Value:=.slice (some ⟨(gs.getD i (0,0)).1,0,none⟩) (L.getD i []).length (gs.getD i (0,0)).2
structure Lists(w:World)(base:Nat)(v:Value)(gs:List (Nat×Nat))(L:List (List Int)):Prop where
 row:w.ownsRow base 33 1 v L.length ((List.range L.length).map (Bu gs L))
 each:∀ i,i<L.length→w.ownsRow base 3 1 (Bu gs L i) (L.getD i []).length ((L.getD i []).map (Value.int .i64))
theorem Lists.below{w W:World}{base:Nat}{v:Value}{gs:List (Nat×Nat)}{L:List (List Int)}(h:Lists w base v gs L)(hb:B3 w W):Lists W base v gs L:=⟨Zb h.row hb,fun i hi=>Zb (h.each i hi) hb⟩
theorem Lists.only{T:List TypeId}{w W:World}{base:Nat}{v:Value}{gs:List (Nat×Nat)}{L:List (List Int)}(h:Lists w base v gs L)(hO:Zd T w W)(hT:T.contains 33=false∧T.contains 3=false):Lists W base v gs L:=⟨Zi h.row hO hT.1,fun i hi=>Zi (h.each i hi) hO hT.2⟩
theorem Lists.elem{w:World}{base:Nat}{p:O0}{n c:Nat}{gs:List (Nat×Nat)}{L:List (List Int)}(h:Lists w base (.slice p n c) gs L)(hn:L.length=n){k:Nat}(hk:k<n):p.isSome=true∧w.cell? (Zz p (k*1))=some (Bu gs L k):=by
 subst hn
 rw[Nat.mul_one]
 exact Sl.elem (Zf h.row) (by simp[hk])
theorem Lists.mono{w:World}{base base':Nat}{v:Value}{gs:List (Nat×Nat)}{L:List (List Int)}(h:Lists w base' v gs L)(hb:base≤base'):Lists w base v gs L:=⟨Ze h.row hb,fun i hi=>Ze (h.each i hi) hb⟩
def FrB (B:Nat)(S:List Nat)(w W:World):Prop:=w.heap.size≤W.heap.size∧∀ k,k<B→k∉S→W.heap[k]? = w.heap[k]?
theorem Fr.trans_B{S S':List Nat}{a w W:World}(h:Fr S a w)(k:FrB a.heap.size S' w W)(hs:∀ k∈S',k∈S):Fr S a W:=⟨Nat.le_trans h.size k.1,fun i hi hn=>(k.2 i hi fun q=>hn (hs i q)).trans (h.block i hi hn)⟩
theorem or_step:∀ r:Fin 4,∀ n:Fin 4,∀ o:Fin 64,o.val<4 ^ r.val→o.val ||| (n.val*4 ^ r.val)=o.val+n.val*4 ^ r.val:=by decide
def Xi(K:List Int)(n:Nat)(i:Nat):Bl:=(List.range i).flatMap fun j=>if j<n then leB (K.getD j 0) 8 else List.replicate 8 0
theorem Qc(K:List Int)(n i:Nat):Xi K n (i+1)=Xi K n i++(if i<n then leB (K.getD i 0) 8 else List.replicate 8 0):=by
 unfold Xi;rw[List.range_succ,List.flatMap_append];simp
theorem Rv(K:List Int)(n i:Nat):(Xi K n i).length=i*8:=by
 induction i with
 | zero=>rfl
 | succ i ih=>rw[Qc,List.length_append,ih];split<;>simp[Zh]<;>omega
def Yf(Vs:List Bl)(i:Nat):Bl:=(List.range i).flatMap fun j=>Vs.getD j []
theorem Ub(Vs:List Bl)(i:Nat):Yf Vs (i+1)=Yf Vs i++Vs.getD i []:=by
 unfold Yf;rw[List.range_succ,List.flatMap_append];simp
theorem Sb{Vs:List Bl}{v:Nat}:∀ {i:Nat},(∀ j,j<i→(Vs.getD j []).length=v)→(Yf Vs i).length=i*v
 | 0,_=>by simp[Yf]
 | i+1,h=>by rw[Ub,List.length_append,Sb fun j hj=>h j (by omega),h i (by omega),Nat.add_mul,Nat.one_mul]
theorem Sv{P z Q x:Bl}{k:Nat}(hk:P.length=k)(hz:z.length=x.length):Vc (P++z++Q) k x=P++x++Q:=by
 unfold Vc
 subst hk
 rw[List.append_assoc P z Q,List.take_left' rfl,←hz]
 have e:P++(z++Q)=(P++z)++Q:=(List.append_assoc _ _ _).symm
 rw[e,List.drop_left' (by simp)]
theorem Ua(K:List Int)(i:Nat):∀ d,Xi K i (i+d)=Xi K i i++List.replicate (d*8) 0
 | 0=>by simp
 | d+1=>by
  rw[←Nat.add_assoc,Qc,Ua K i d,if_neg (by omega),List.append_assoc,List.replicate_append_replicate,Nat.add_mul,Nat.one_mul]
theorem Mu(K:List Int)(n:Nat):∀ i,i≤n→Xi K n i=Xi K i i
 | 0,_=>rfl
 | i+1,h=>by
  rw[Qc,Qc,if_pos (by omega),if_pos (by omega),Mu K n i (by omega),Mu K (i+1) i (by omega)]
theorem Se(a b:Nat):List.replicate (a+b) (0:UInt8)=List.replicate a 0++List.replicate b 0:=List.replicate_append_replicate.symm
theorem Lf{m v:Nat}{H:Bl}{K:List Int}{Vs:List Bl}(hH:H.length=12)(hf:12+m*8+m*v≤244):∀ {i:Nat},i≤m→(∀ j,j<i→(Vs.getD j []).length=v) →
  Hi m v H K Vs i=H++Xi K i m++Yf Vs i++List.replicate (232-m*8-i*v) 0
 | 0,_,_=>by
  have e1:=Ua K 0 m
  rw[Nat.zero_add] at e1
  rw[Hi,e1]
  have h1:(232-m*8-0*v)=232-m*8:=by omega
  rw[h1,show(244:Nat)=12+(m*8+(232-m*8)) by omega,Se,Se]
  have:=Sv (P:=[]) (z:=List.replicate 12 (0:UInt8)) (Q:=List.replicate (m*8) 0++List.replicate (232-m*8) 0) (x:=H) (k:=0) rfl (by simp[hH])
  rw[List.nil_append,List.nil_append] at this
  rw[this]
  simp[Xi,Yf]
 | i+1,hi,hV=>by
  have ih:=Lf (K:=K) hH hf (i:=i) (by omega) (fun j hj=>hV j (by omega))
  have a3:=hV i (by omega)
  have h2:(i+1)*v≤m*v:=Nat.mul_le_mul_right v hi
  rw[Nat.add_mul,Nat.one_mul] at h2
  obtain⟨d,hd⟩:∃ d,m=i+(d+1):=⟨m-i-1,by omega⟩
  have ek:Xi K i m=Xi K i i++List.replicate 8 0++List.replicate (d*8) 0:=by
   rw[hd,Ua,show(d+1)*8=8+d*8 by omega,Se,List.append_assoc]
  have a0:Xi K (i+1) m=Xi K i i++leB (K.getD i 0) 8++List.replicate (d*8) 0:=by
   rw[show m=(i+1)+d by omega,Ua,Qc,if_pos (by omega),Mu K (i+1) i (by omega)]
  have er:List.replicate (232-m*8-i*v) (0:UInt8)=List.replicate v 0++List.replicate (232-m*8-(i*v+v)) 0:=by
   rw[←Se];congr 1;omega
  have a4:(Yf Vs i).length=i*v:=Sb fun j hj=>hV j (by omega)
  rw[Hi,ih,ek,er]
  have s1:=Sv (P:=H++Xi K i i) (z:=List.replicate 8 (0:UInt8)) (Q:=List.replicate (d*8) 0++(Yf Vs i++(List.replicate v 0++List.replicate (232-m*8-(i*v+v)) 0))) (x:=leB (K.getD i 0) 8) (k:=12+i*8) (by rw[List.length_append,hH,Rv]) (by simp[Zh])
  have a1:H++(Xi K i i++List.replicate 8 0++List.replicate (d*8) 0)++Yf Vs i++(List.replicate v 0++List.replicate (232-m*8-(i*v+v)) 0)=H++Xi K i i++List.replicate 8 0++(List.replicate (d*8) 0++(Yf Vs i++(List.replicate v 0++List.replicate (232-m*8-(i*v+v)) 0))):=by simp only[List.append_assoc]
  rw[a1,s1]
  have s2:=Sv (P:=H++Xi K (i+1) m++Yf Vs i) (z:=List.replicate v (0:UInt8)) (Q:=List.replicate (232-m*8-(i*v+v)) 0) (x:=Vs.getD i []) (k:=12+m*8+i*v) (by rw[List.length_append,List.length_append,hH,Rv,a4]) (by rw[List.length_replicate,a3])
  have a2:H++Xi K i i++leB (K.getD i 0) 8++(List.replicate (d*8) 0++(Yf Vs i++(List.replicate v 0++List.replicate (232-m*8-(i*v+v)) 0)))=H++Xi K (i+1) m++Yf Vs i++List.replicate v 0++List.replicate (232-m*8-(i*v+v)) 0:=by rw[a0];simp only[List.append_assoc]
  rw[a2,s2,Ub,Nat.add_mul,Nat.one_mul]
  simp only[List.append_assoc]
end Go.Proofs.YtegcamkgeacjfaaGreatDoor
namespace Go.Proofs.YtegcamkgeacjfaaGreatDoor
set_option maxHeartbeats 8000000
set_option maxRecDepth 100000
open Go.RowKit Go.Extern.Stop Go.Stop Go.Extern
set_option linter.unusedVariables false
attribute [local irreducible] wpList wpAnyH Code.wp Oper.wp Go
section
variable {P:Program} {a:Act}
end
theorem Qx(n k:Nat)(hn:n<9223372036854775808)(hk:0<k):IntKind.i64.wrap (Int.tdiv (n:Int) (k:Int))=((n/k:Nat):Int):=by
 rw[Int.tdiv_eq_ediv_of_nonneg (Int.natCast_nonneg _),←Int.natCast_ediv]
 exact Mz (Nat.lt_of_le_of_lt (Nat.div_le_self _ _) hn)
theorem Mg(n k:Nat):Int.tmod (n:Int) (k:Int)=((n%k:Nat):Int):=by
 rw[Int.tmod_eq_emod_of_nonneg (Int.natCast_nonneg _),←Int.natCast_emod]
end Go.Proofs.YtegcamkgeacjfaaGreatDoor
namespace Go.Proofs.YtegcamkgeacjfaaGreatDoor
set_option maxHeartbeats 8000000
set_option maxRecDepth 100000
open Go.RowKit
theorem Blk.ty{w:World}{b:Nat}{cs cs':List Value}{t t':TypeId}(k:Blk w b cs t)(q:Blk w b cs' t'):t=t':=by
 have h1:w.heap[b]? = some (.cells cs.toArray t (0,0)):=k
 have h2:w.heap[b]? = some (.cells cs'.toArray t' (0,0)):=q
 rw[h1] at h2
 simp only[Option.some.injEq,Obj.cells.injEq] at h2
 exact h2.2.1
theorem Gw.upd{w W:World}{b:Nat}{cs:List Value}{t:TypeId}{l:List (Option Int)}{c:Option Int}{v:Value}(h:Gw w l c v)(u:Upd w b W)(k:Blk w b cs t)(hne:t≠188):Gw W l c v :=
 h.kept fun _ _ q=>u.blk q (by rintro rfl;exact hne (k.ty q))
theorem Gw.grown{w W:World}{e:TypeId}{base size n:Nat}{s:Value}{xs:List Value}{l:List (Option Int)}{c:Option Int}{v:Value}(h:Gw w l c v)(hg:w.grownBy W s.ownBlock)(hown:w.ownsRow base e size s n xs)(hne:e≠188):Gw W l c v :=
 h.kept fun _ _ q=>q.grown hg hown hne
theorem Gw.only{T:List TypeId}{w W:World}{l:List (Option Int)}{c:Option Int}{v:Value}(h:Gw w l c v)(k:Zd T w W)(hne:T.contains 188=false):Gw W l c v:=h.kept fun _ _ q=>q.only k hne
end Go.Proofs.YtegcamkgeacjfaaGreatDoor
namespace Go.Proofs.YtegcamkgeacjfaaGreatDoor
set_option maxHeartbeats 8000000
set_option maxRecDepth 100000
open Go.RowKit Go.Extern.Stop Go.Stop Go.Extern
set_option linter.unusedVariables false
attribute [local irreducible] wpList wpAnyH Code.wp Oper.wp Go
structure ImgR(B b:Nat)(p:Option Addr)(n c:Nat)(l:List UInt8)(w:World):Prop where
 blk:Blk w b [.slice p n c] 95
 row:w.ownsRow B 5 1 (.slice p n c) n (l.map bv)
 hn:n≤3686400
theorem ImgR.below{B b:Nat}{p:O0}{n c:Nat}{l:Bl}{w W:World}(h:ImgR B b p n c l w)(hb:B3 w W):ImgR B b p n c l W:=⟨h.blk.below hb,Zb h.row hb,h.hn⟩
theorem ImgR.only{B b:Nat}{p:O0}{n c:Nat}{l:Bl}{w W:World}{T:List TypeId}(h:ImgR B b p n c l w)(hO:Zd T w W)(hT:T.contains 95=false∧T.contains 5=false):ImgR B b p n c l W:=⟨h.blk.only hO hT.1,Zi h.row hO hT.2,h.hn⟩
theorem ImgR.len{B b:Nat}{p:O0}{n c:Nat}{l:Bl}{w:World}(h:ImgR B b p n c l w):l.length=n:=by have:=h.row.1;simpa using this
theorem ImgR.base{B b:Nat}{p:O0}{n c:Nat}{l:Bl}{w:World}(h:ImgR B b p n c l w)(hn:0<n):∃ g,p=some ⟨g,0,none⟩∧n≤c:=by
 rcases h.row.2 with ⟨_,h0⟩|⟨g,a0,a1,hv,_,_,hc,_⟩
 ·omega
 ·simp only[Value.slice.injEq] at hv
  obtain⟨rfl,_,rfl⟩:=hv
  exact⟨g,rfl,hc⟩
def Ct(l:Bl)(j:Nat):Bl:=(l.drop (j*256)).take 256
theorem Hj{l:Bl}{j:Nat}(h:j<l.length/256):(Ct l j).length=256:=by simp[Ct];omega
theorem Bys.mid{w:World}{g off n c:Nat}{l:Bl}(h:Bys w (.slice (some ⟨g,off,none⟩) n c) l)(hl:l.length=n)(k m:Nat)(hm:0<m)(hk:k+m≤n):Bys w (.slice (some ⟨g,off+k,none⟩) m m) ((l.drop k).take m):=by
 have a0:((l.drop k).take m).length=m:=by simp;omega
 rcases h with ⟨a',c',h1,h2,h3⟩|⟨g',a1,a2,h1,h2,h3,h4⟩
 ·omega
 ·simp only[Value.slice.injEq,Option.some.injEq,Addr.mk.injEq] at h1
  obtain⟨⟨rfl,rfl,_⟩,_,rfl⟩:=h1
  refine .inr ⟨g,off+k,m,by rw[a0],by omega,by omega,fun j x hj=>?_⟩
  rw[List.getElem?_map,List.getElem?_take] at hj
  split at hj
  ·rw[List.getElem?_drop] at hj
   have:=h4 (k+j) x (by rw[List.getElem?_map];exact hj)
   rwa [←Nat.add_assoc] at this
  ·cases hj
theorem ImgR.part{B b g:Nat}{n c:Nat}{l:Bl}{w:World}(h:ImgR B b (S1 g) n c l w){j:Nat}(hj:j<n/256):Bys w (.slice (some ⟨g,j*256,none⟩) 256 256) (Ct l j):=by
 have:=Bys.mid (Xp (Zf h.row) h.len) h.len (j*256) 256 (by decide) (by omega)
 rwa [Nat.zero_add] at this
theorem Tw(B b g:Nat)(n c:Nat)(l:Bl)(j:Nat)(w:World)(hI:ImgR B b (S1 g) n c l w)(hj:j<n/256)(hc:n≤c) :
 C0 26 #[P0 b,V0 (j:Int)] w (Qn (fun w' r=>∃ p2 c3,r=.tuple #[.slice p2 256 c3,V0 0]∧w'.ownsRow w.heap.size 5 1 (.slice p2 256 c3) 256 ((Ct l j).map bv)) w):=by
 have a3:=Hj (l:=l) (j:=j) (by rw[hI.len];exact hj)
 refine zin 17 Tryz.func26 ?_
 refine xr 10 (args:=#[P0 b,V0 (j:Int)]) (Dj b g n c j _ (hI.below (B4 w)).blk (by have:=hI.hn;omega) hc hj) fun W1 a1=>?_
 refine xc 10 (args:=#[.slice (some ⟨g,(j*256),none⟩) 256 256]) (Qt (some ⟨g,(j*256),none⟩) 256 256 (Ct l j) _ a3 ((hI.below a1).part hj) (by decide)) ?_
 rintro _ W2 ⟨_,rfl,a4,ho⟩
 have a0:=Ze ho a1.size
 unfold Pe at a0
 rw[a3] at a0
 obtain⟨p2,c3,rfl⟩:=(Zf a0).slice
 have a2:=bln a1 a4
 exact xe 6 (.tuple #[.slice p2 256 c3,V0 0]) ⟨_,rfl,a2,_,_,rfl,a0⟩
theorem Sq{l l':Bl}(h:l.length=l'.length)(h2:∀ j,j<l.length→l.getD j 0=l'.getD j 0):l=l':=by
 apply List.ext_getElem h
 intro j h3 h4
 have:=h2 j h3
 simpa [List.getD,h3,h4] using this
theorem Hn{l:Bl}{k:Nat}{x:Bl}(h:k+x.length≤l.length)(j:Nat):(Vc l k x).getD j 0=if k≤j∧j<k+x.length then x.getD (j-k) 0 else l.getD j 0:=by
 unfold Vc
 simp only[List.getD]
 rw[List.append_assoc,List.getElem?_append,List.getElem?_append]
 have e:(l.take k).length=k:=by simp;omega
 rw[e]
 by_cases h1:j<k
 ·rw[if_pos h1,if_neg (by omega),List.getElem?_take,if_pos h1]
 ·rw[if_neg h1]
  by_cases h2:j-k<x.length
  ·rw[if_pos h2,if_pos (by omega)]
  ·rw[if_neg h2,if_neg (by omega),List.getElem?_drop,show k+x.length+(j-k-x.length)=j by omega]
theorem Rz{l l':Bl}:∀ (w k:Nat),(∀ j,k≤j→j<k+w→l.getD j 0=l'.getD j 0)→Vt l k w=Vt l' k w
 | 0,k,h=>rfl
 | w+1,k,h=>by rw[Vt,Vt,h k (by omega) (by omega),Rz w (k+1) fun j h1 h2=>h j (by omega) (by omega)]
theorem Mt{l:Bl}:∀ (w k m:Nat),(∀ i,i<w→l.getD (k+i) 0=UInt8.ofNat (m/256 ^ i))→Vt l k w=m%256 ^ w
 | 0,k,m,h=>by simp[Vt,Nat.mod_one]
 | w+1,k,m,h=>by
  have h0:=h 0 (by omega)
  simp only[Nat.add_zero,Nat.pow_zero,Nat.div_one] at h0
  have h1:=Mt (l:=l) w (k+1) (m/256) fun i hi=>by
   have:=h (i+1) (by omega)
   rw[Nat.pow_succ,Nat.mul_comm,←Nat.div_div_eq_div_mul] at this
   rw[show k+1+i=k+(i+1) by omega];exact this
  rw[Vt,h0,h1,Nat.pow_succ,Nat.mul_comm (256 ^ w) 256,Nat.mod_mul]
  congr 1
theorem Ma{l:Bl}{k w:Nat}{n:Int}(h:k+w≤l.length)(h0:0≤n)(hb:n.toNat<256 ^ w):(Vt (Vc l k (leB n w)) k w:Int)=n:=by
 rw[Mt w k n.toNat,Nat.mod_eq_of_lt hb]
 ·omega
 ·intro i hi
  rw[Hn (by rw[Zh];exact h),if_pos (by rw[Zh];omega),show k+i-k=i by omega]
  simp[leB,Zp,List.getD,List.getElem?_range hi]
theorem Xt{l x:Bl}{k j w:Nat}(h:k+x.length≤l.length)(hd:j+w≤k∨k+x.length≤j):Vt (Vc l k x) j w=Vt l j w :=
 Rz w j fun i h1 h2=>by rw[Hn h,if_neg (by omega)]
theorem rawN_zero{l:Bl}{k w:Nat}(h:∀ j,k≤j→j<k+w→l.getD j 0=0):Vt l k w=0:=by
 have:=Mt (l:=l) w k 0 fun i hi=>by rw[h (k+i) (by omega) (by omega)];simp
 simpa using this
theorem sumB_put{l x:Bl}{kind:Int}(h:252≤l.length):Ik (Vc l 252 x) kind=Ik l kind:=by
 unfold Ik Vc
 rw[List.append_assoc,List.take_append_of_le_length (by simp;omega),List.take_take];rfl
theorem Dy(n j:Nat):(List.replicate n (0:UInt8)).getD j 0=0:=by
 simp[List.getD,List.getElem?_replicate];split<;>rfl
theorem Zgz{kind no:Int}{li:Bl}(h1:1≤kind)(h2:kind≤4)(h3:0≤no)(h4:no<14400)(hl:li.length≤244):Hr kind no (Xw kind no li)=0:=by
 have l1:=Js hl
 have l2:=Hc (no:=no) hl
 have l3:=Vh (kind:=kind) (no:=no) hl
 have l4:=Uv (kind:=kind) (no:=no) hl
 have a0:Pw kind no (Xw kind no li) 0=false:=by simp only[Pw];rw[show Qg kind no=true from decide_eq_true (by omega)];rfl
 have a1:Pw kind no (Xw kind no li) 1=false:=by simp only[Pw,l4];rfl
 have a2:Pw kind no (Xw kind no li) 2=false:=by
  have hs:Ik (Xw kind no li) kind=Ik (Hv kind no li) kind:=by unfold Xw;exact sumB_put (by omega)
  have hr:(Vt (Xw kind no li) 252 4:Int)=(Ik (Hv kind no li) kind:Int):=by
   unfold Xw
   exact Ma (by omega) (by omega) (by have:=sumB_lt (Hv kind no li) kind;simpa using this)
  simp only[Pw,hr,hs];simp
 have a3:Pw kind no (Xw kind no li) 3=false:=by
  have hr:(Vt (Xw kind no li) 0 4:Int)=no:=by
   unfold Xw
   rw[Xt (by rw[Zh];omega) (.inl (by omega))]
   unfold Hv
   rw[Xt (by rw[Zh];omega) (.inl (by omega))]
   unfold Sr
   exact Ma (by omega) (by omega) (by omega)
  simp only[Pw,hr];simp
 have a4:Pw kind no (Xw kind no li) 4=false:=by
  have hr:(Vt (Xw kind no li) 4 2:Int)=kind:=by
   unfold Xw
   rw[Xt (by rw[Zh];omega) (.inl (by omega))]
   unfold Hv
   exact Ma (by omega) (by omega) (by omega)
  simp only[Pw,hr];simp
 have a5:Pw kind no (Xw kind no li) 5=false:=by
  have hr:Vt (Xw kind no li) 6 2=0:=by
   unfold Xw
   rw[Xt (by rw[Zh];omega) (.inl (by omega))]
   unfold Hv
   rw[Xt (by rw[Zh];omega) (.inr (by rw[Zh];omega))]
   unfold Sr
   rw[Xt (by rw[Zh];omega) (.inr (by rw[Zh];omega))]
   unfold Fk
   rw[Xt (by rw[List.length_replicate];omega) (.inl (by omega))]
   exact rawN_zero fun j _ _=>Dy 256 j
  simp only[Pw,hr];rfl
 simp[Hr,a0,a1,a2,a3,a4,a5]
theorem Zb9{l x:Bl}{k:Nat}(hx:x.length=256)(hk:k<l.length/256):Ct (Vc l (k*256) x) k=x:=by
 have a0:k*256+256≤l.length:=by omega
 have hp:=Vp (l:=l) (k:=k*256) (x:=x) (by omega)
 apply Sq
 ·rw[Hj (by rw[hp];exact hk),hx]
 ·intro j hj
  rw[Hj (by rw[hp];exact hk)] at hj
  have e:(Ct (Vc l (k*256) x) k).getD j 0=(Vc l (k*256) x).getD (k*256+j) 0:=by
   simp only[Ct,List.getD];rw[List.getElem?_take,if_pos hj,List.getElem?_drop]
  rw[e,Hn (by omega),if_pos (by omega),show k*256+j-k*256=j by omega]
theorem Pr{l x:Bl}{k i:Nat}(hx:x.length=256)(hk:k<l.length/256)(hne:i≠k)(hi:i<l.length/256):Ct (Vc l (k*256) x) i=Ct l i:=by
 have a0:k*256+256≤l.length:=by omega
 have hp:=Vp (l:=l) (k:=k*256) (x:=x) (by omega)
 apply Sq
 ·rw[Hj (by rw[hp];exact hi),Hj hi]
 ·intro j hj
  rw[Hj (by rw[hp];exact hi)] at hj
  have e:∀ l:Bl,(Ct l i).getD j 0=l.getD (i*256+j) 0:=fun l=>by
   simp only[Ct,List.getD];rw[List.getElem?_take,if_pos hj,List.getElem?_drop]
  rw[e,e,Hn (by omega),if_neg (by omega)]
def Zdy(m:Mp):Bl:=Zfc mapP [m.2.1*16777216+m.2.2] 1
theorem mapV_len(m:Mp):(Zdy m).length=8:=by unfold Zdy;rw[Cs];rfl
def Kx(n:Int)(d:Dv):Bl:=Zfc detP [n,d.1.2.1,d.1.2.2.1,d.1.2.2.2] 4
theorem Zdv(n:Int)(d:Dv):(Kx n d).length=24:=by unfold Kx;rw[Cs];rfl
def Hp(M:List Mp):List Ent:=M.map fun m=>(m.1,Zdy m,0)
theorem Qr(M:List Mp):(Hp M).length=M.length:=List.length_map ..
def dvD:Dv:=((0,0,0,0),[])
def Uj(L:List Dv)(R:Nat→Nat):List Ent:=(List.range L.length).map fun i=>((L.getD i dvD).1.1,leB (R i:Int) 4,0)
def Ud(L:List Dv)(C:Nat→Int):List Ent:=(List.range L.length).map fun i=>((L.getD i dvD).1.1,Kx (C i) (L.getD i dvD),0)
theorem Yp(L:List Dv)(R:Nat→Nat):(Uj L R).length=L.length:=by simp[Uj]
theorem Yq(L:List Dv)(C:Nat→Int):(Ud L C).length=L.length:=by simp[Ud]
theorem Jv{L:List Dv}{R:Nat→Nat}{i:Nat}(h:i<L.length):(Uj L R).getD i Xn=((L.getD i dvD).1.1,leB (R i:Int) 4,0):=by simp[Uj,List.getD,List.getElem?_range h]
theorem Jz{L:List Dv}{C:Nat→Int}{i:Nat}(h:i<L.length):(Ud L C).getD i Xn=((L.getD i dvD).1.1,Kx (C i) (L.getD i dvD),0):=by simp[Ud,List.getD,List.getElem?_range h]
theorem Gb{M:List Mp}{i:Nat}(h:i<M.length):(Hp M).getD i Xn=((M.getD i (0,0,0)).1,Zdy (M.getD i (0,0,0)),0):=by simp[Hp,List.getD,h]
theorem mapEs_ok{data:Int}{M:List Mp}(h:MapsOk data M):EntsOk 8 (Hp M):=by
 refine⟨fun i hi=>?_,fun j hj=>?_,fun i hi=>?_⟩
 ·rw[Qr] at hi
  rw[Gb hi]
  have:=h.each (M.getD i (0,0,0)) (by simp[List.getD,hi])
  exact this.1
 ·rw[Qr] at hj
  rw[Gb (by omega),Gb hj]
  have:=List.pairwise_iff_getElem.1 h.rise j (j+1) (by omega) hj (by omega)
  simpa [List.getD,hj,show j<M.length by omega] using this
 ·rw[Qr] at hi
  rw[Gb hi];exact mapV_len _
theorem Zbt{data:Int}{L:List Dv}(h:DevsOk data L):(∀ i,i<L.length→0≤(L.getD i dvD).1.1∧(L.getD i dvD).1.1≤281474976710655)∧∀ j,j+1<L.length→(L.getD j dvD).1.1<(L.getD (j+1) dvD).1.1:=by
 refine⟨fun i hi=>?_,fun j hj=>?_⟩
 ·have:=(h.each (L.getD i dvD) (by simp[List.getD,hi])).id;omega
 ·have:=List.pairwise_iff_getElem.1 h.rise j (j+1) (by omega) hj (by omega)
  simpa [List.getD,hj,show j<L.length by omega] using this
theorem topEs_ok{data:Int}{L:List Dv}{R:Nat→Nat}(h:DevsOk data L):EntsOk 4 (Uj L R):=by
 obtain⟨h1,h2⟩:=Zbt h
 refine⟨fun i hi=>?_,fun j hj=>?_,fun i hi=>?_⟩
 ·rw[Yp] at hi
  rw[Jv hi];exact h1 i hi
 ·rw[Yp] at hj
  rw[Jv (by omega),Jv hj];exact h2 j hj
 ·rw[Yp] at hi
  rw[Jv hi];exact Zh _ _
theorem detEs_ok{data:Int}{L:List Dv}{C:Nat→Int}(h:DevsOk data L):EntsOk 24 (Ud L C):=by
 obtain⟨h1,h2⟩:=Zbt h
 refine⟨fun i hi=>?_,fun j hj=>?_,fun i hi=>?_⟩
 ·rw[Yq] at hi
  rw[Jz hi];exact h1 i hi
 ·rw[Yq] at hj
  rw[Jz (by omega),Jz hj];exact h2 j hj
 ·rw[Yq] at hi
  rw[Jz hi];exact Zdv _ _
def LevelPost(B ba b g nn cc:Nat)(pa:O0)(ca f N k0:Nat)(bs:Bl)(t:Int)(leaf:Bool)(m v:Nat)(l:List Ent)(w:World)(e:Ending)(w':World):Prop :=
 ∃ p c,e=.returned (.tuple #[.slice p (ovN l.length m) c,.nilIface])∧Below B w w'∧Zd [153,5] w w'∧Fr [ba,g] w w'∧Al B ba b g nn cc pa ca f N (k0+ovN l.length m) (Iw t leaf m v l (f+k0) bs (ovN l.length m)) w'∧w'.ownsRow w.heap.size 123 3 (.slice p (ovN l.length m) c) (ovN l.length m) ((upE l m (f+k0) (ovN l.length m)).flatMap Yj)
theorem Za7(B ba b g nn cc:Nat)(pa:O0)(ca f N k0:Nat)(bs:Bl)(t:Int)(leaf:Bool)(m v:Nat)(a:O0)(c:Nat)(l:List Ent)(w:World)(hC:AlC B ba nn cc ca f N)(hA:Al B ba b g nn cc pa ca f N k0 bs w)(ht1:1≤t)(ht2:t≤5)(hm:Qq t leaf=m)(hv:Pj t leaf=v)(E:EntsOk v l)(hl:leaf=false→1≤l.length)(hn:l.length≤32768)(hf1:1≤f)(hk:k0+ovN l.length m≤N)(hin:∀ W,Below B w W→Zd [153,5] w W→Sts Yj W (.slice a l.length c) l)(hBw:B≤w.heap.size) :
 C0 232 #[P0 ba,V0 t,.bool leaf,.slice a l.length c] w (LevelPost B ba b g nn cc pa ca f N k0 bs t leaf m v l w):=by
 have n5:=Yt t leaf
 rw[hm] at n5
 have r2:=hC.hf
 have q6:=hC.hn
 refine zin 96 Tryz.func232 ?_
 refine xr 18 (args:=#[V0 t,.bool leaf]) (Dm t leaf m hm ht1 ht2 _) fun W1 h3=>?_
 refine xc 0 (args:=#[V0 (l.length:Int),V0 (m:Int)]) (Zen l.length m _ hn (by omega) (by omega)) ?_
 rintro _ W2 ⟨_,rfl,i6,ps,cs,rfl,e5⟩
 have n8:=(blB (Below.refl B w) hBw h3).size
 have f4:=Ze e5 n8
 have j5:=(hA.below h3).below i6
 have hB:=blB (blB (Below.refl B w) hBw h3) hBw i6
 have hX:=(show Fr [ba,g] w _ from(Fr.of_below h3)).trans (Fr.of_below i6)
 have hO:=(show Zd [153,5] w _ from(Zd.of_below h3)).trans (Zd.of_below i6)
 refine zl 5 96 (fun zm j8 V=>∃ (i:Nat) (a2:O0) (c2:Nat) (l2:List Ent) (p4:O0) (c4:Nat),j8=[(0,P0 ba),(1,V0 t),(2,.bool leaf),(3,.slice a2 l2.length c2),(10,.slice p4 i c4),(26,.slice ps (ovN l.length m) cs),(27,V0 (↑(ovN l.length m):Int)),(28,V0 (i:Int))]∧zm=ovN l.length m-((i:Int)).toNat∧Below B w V∧Fr [ba,g] w V∧Zd [153,5] w V∧V.ownsRow w.heap.size 3 1 (.slice ps (ovN l.length m) cs) (ovN l.length m) ((sizL l.length m).map nv)∧V.ownsRow w.heap.size 123 3 (.slice p4 i c4) i ((upE l m (f+k0) i).flatMap Yj)∧Al B ba b g nn cc pa ca f N (k0+i) (Iw t leaf m v l (f+k0) bs i) V∧(∀ W,Below B w W→Zd [153,5] w W→Sts Yj W (.slice a2 l2.length c2) l2)∧i≤ovN l.length m∧l2=l.drop (i*m)) ⟨0,a,c,l,none,0,rfl,rfl,hB,hX,hO,f4,World.ownsRow_nil _ _ _ _,j5,?_,Nat.zero_le _,by simp⟩ ?_
 ·exact hin
 rintro _ _ W3 ⟨i,a2,c2,l2,p4,c4,rfl,rfl,d8,h4,d7,e5,m0,hA,i9,hi,f8⟩ J3 m2 r3
 have m6:=Sl.cap (i9 _ d8 d7)
 have p0:i<ovN l.length m→i*m≤l.length:=Zgb (by omega)
 have j3:l2.length=l.length-i*m:=by rw[f8];simp
 have f1:Vw l.length m i≤l2.length:=by rw[j3];unfold Vw;omega
 refine xid 6 ((i:Int)<(↑(ovN l.length m):Int)) (fun n1=>?_) (fun n1=>?_)
 ·refine xx 6 _ (ovN l.length m) i 1 (Zct (Zf e5) (k:=i) (by omega)).1 ?_
  refine xl 0 ((Zct (Zf e5) (k:=i) (by omega)).2) ?_
  have i5:=d8
  have d3:=d7
  have c9:=h4
  refine xa 8 [V0 0,.bool false,S0,S0] 173 fun b6 W6 n6=>?_
  refine xsv 0 n6.blk [V0 t,.bool leaf,S0,S0] fun W7 u7 k7=>?_
  have g6:=n6.ge (B4 W3)
  refine xsH 7 (fun _ _ _ _ zo zx zy V=>Gg (k:=(Vw l.length m i)) (b:=a2) (n:=l2.length) (c:=c2) (i:=(↑(Vw l.length m i):Int)) (ki:=.i64) zo zx zy rfl (by omega) Tryz.underlying88 (by kernel_rfl) V) ?_
  have hB:=u7.below n6.below g6
  refine zl 5 96 (fun zm j8 V=>∃ (j:Nat) (kp:O0) (kc:Nat) (vp:O0) (vc:Nat),j8=[(0,P0 ba),(1,V0 t),(2,.bool leaf),(3,.slice a2 l2.length c2),(10,.slice p4 i c4),(12,V0 (↑(Vw l.length m i):Int)),(13,P0 b6),(26,.slice ps (ovN l.length m) cs),(27,V0 (↑(ovN l.length m):Int)),(28,V0 (i:Int)),(37,.slice a2 (Vw l.length m i) c2),(38,V0 (↑(Vw l.length m i):Int)),(39,V0 (j:Int))]∧zm=Vw l.length m i-((j:Int)).toNat∧B3 W3 V∧Blk V b6 ([V0 t,.bool leaf,.slice kp j kc,.slice vp j vc]) 173∧V.ownsRow W3.heap.size 3 1 (.slice kp j kc) j (((Xm l2).take j).map V0)∧V.ownsRow W3.heap.size 9 1 (.slice vp j vc) j (((Yg l2).take j).map sv)∧j≤Vw l.length m i) ⟨0,none,0,none,0,rfl,rfl,hB,k7,World.ownsRow_nil _ _ _ _,World.ownsRow_nil _ _ _ _,Nat.zero_le _⟩ ?_
  rintro _ _ W8 ⟨j,kp,kc,vp,vc,rfl,rfl,c8,b4,hK,hV,hj⟩ J8 o1 r8
  refine xid 6 ((j:Int)<(↑(Vw l.length m i):Int)) (fun n7=>?_) (fun n7=>?_)
  ·have b2:=i9 _ i5 d3
   refine xx 6 _ (Vw l.length m i) j 3 (Sts.cell b2 Xg Xn (k:=j) (i:=0) (by omega) rfl).1 ?_
   refine xlv 0 (Sts.rp (k:=j) (b2.below c8) Xg Xn (by omega) (by decide)) ?_
   refine xa 0 [V0 0,.string ⟨#[]⟩,V0 0] 123 fun r6 o8 c1=>?_
   have o2:=c1.ge c8
   refine xsv 0 c1.blk [V0 ((l2.getD j Xn).1),.string ⟨((l2.getD j Xn).2.1).toArray⟩,V0 ((l2.getD j Xn).2.2)] fun r4 i4 l9=>?_
   have b0:=i4.blkT (b4.below c1.below) c1.blk (by decide)
   refine xb 5 2 b0 ?_
   refine xb 1 0 l9 ?_
   refine xbs 0 1 [V0 ((l2.getD j Xn).1)] 3 fun q1 o6 d2=>?_
   have f0:=i4.below (bln c8 c1.below) o2
   have o4:=d2.ge f0
   have g5:=i4.own2 (Zb hK c1.below) c1.blk (by decide)
   have j6:=Zr g5 d2
   have b9:=Zb g5 d2.below
   have f7:=bln f0 d2.below
   refine xbi 0 fun _ _ _ _ zJ zQ zo zx zy zK=>Zn (m:=1) (news:=[V0 ((l2.getD j Xn).1)]) (V0 0) 1 8 (j+1) (((Xm l2).take (j+1)).map V0) zo Tryz.underlying33 (by kernel_rfl) rfl (by decide) zx b9 zy (d2.blk.sl 1 1 (by decide) (by decide)) rfl (by simp[Value.oneCell']) (by unfold maxLen;omega) (by omega) f7.size (by rfl) ((Wm (by omega)).symm) fun e8 i2 o3 m8 d9 k3=>?_
   refine zK _ _ ?_
   have a1:=(b0.below d2.below).grown d9 b9 (by decide)
   refine xs 1 a1 [V0 t,.bool leaf,.slice e8 (j+1) i2,.slice vp j vc] fun r1 j2 m1=>?_
   refine xb 4 3 m1 ?_
   have e9:=j2.blkT ((l9.below d2.below).grown d9 b9 (by decide)) a1 (by decide)
   refine xb 1 1 e9 ?_
   refine xbs 0 1 [.string ⟨((l2.getD j Xn).2.1).toArray⟩] 9 fun p7 r5 e2=>?_
   have f6:=j2.below (f7.trans k3) g6
   have q2:=e2.ge f6
   have g7:=j2.own2 (Zo (Zb (i4.own2 (Zb hV c1.below) c1.blk (by decide)) d2.below) d9 b9 (by decide)) a1 (by decide)
   have k9:=Zr g7 e2
   have e0:=Zb g7 e2.below
   have h7:=bln f6 e2.below
   refine xbi 0 fun _ _ _ _ zJ zQ zo zx zy zK=>Zn (m:=1) (news:=[.string ⟨((l2.getD j Xn).2.1).toArray⟩]) (.string ⟨#[]⟩) 1 16 (j+1) (((Yg l2).take (j+1)).map sv) zo Tryz.underlying96 (by kernel_rfl) rfl (by decide) zx e0 zy (e2.blk.sl 1 1 (by decide) (by decide)) rfl (by simp[Value.oneCell']) (by unfold maxLen;omega) (by omega) h7.size (by rfl) ((Kj (by omega)).symm) fun l5 l3 q5 n3 f9 k4=>?_
   refine zK _ _ ?_
   have b3:=(m1.below e2.below).grown f9 e0 (by decide)
   refine xs 1 b3 [V0 t,.bool leaf,.slice e8 (j+1) i2,.slice l5 (j+1) l3] fun p2 j7 m7=>?_
   refine xwm 4 ((j:Int)+1) (↑(j+1):Int) ?_
   have l1:=j7.below (h7.trans k4) g6
   have h5:=j7.own2 (Zo (Zb (j2.own2 m8 a1 (by decide)) e2.below) f9 e0 (by decide)) b3 (by decide)
   have g1:=j7.own2 n3 b3 (by decide)
   exact ze 2 (o1 _ _ _ ⟨j+1,_,_,_,_,rfl,rfl,l1,m7,h5,g1,by omega⟩ (by omega))
  refine xsL 9 (fun _ _ _ _ zo zx zy V=>Na (k:=(Vw l.length m i)) (b:=a2) (n:=l2.length) (c:=c2) (i:=(↑(Vw l.length m i):Int)) (ki:=.i64) 3 zo zx zy rfl (by omega) Tryz.underlying88 (by kernel_rfl) V) ?_
  refine xlv 5 b4.rp ?_
  have a6:B3 W3 W8:=c8
  have f2:w.heap.size≤W3.heap.size:=i5.size
  have e7:Vw l.length m i=j:=by omega
  have n2:(Xm l2).take j=Xm (Zj l m i):=by rw[f8];exact Zda e7
  have n9:(Yg l2).take j=Yg (Zj l m i):=by rw[f8];exact Zd0 e7
  have j1:(Zj l m i).length=j:=by rw[Vj,e7]
  have e1:=Ze hK f2
  rw[n2] at e1
  have h9:=Ze hV f2
  rw[n9] at h9
  have hN:=Pf E ht1 ht2 hm hv hl (show i<ovN l.length m by omega)
  have h0:=Wz hN
  rw[j1] at hN
  have o0:Hi m v (Qk t leaf j m v) (Xm (Zj l m i)) (Yg (Zj l m i)) j=Zed t leaf m v (Zj l m i):=by rw[←j1];rfl
  refine xc 0 (args:=#[.agg #[V0 t,.bool leaf,.slice kp j kc,.slice vp j vc]]) (node_Put t leaf j m v (Xm (Zj l m i)) (Yg (Zj l m i)) kp vp kc vc _ hN (Zf e1) (Zf h9)) ?_
  rintro _ q3 ⟨_,rfl,a4,p6,c6,rfl,h6⟩
  have j9:=(blB i5 hBw a6).size
  have g0:=Ze h6 j9
  rw[o0] at g0
  have k6:=(hA.below a6).below a4
  have hO:=(d3.trans (Zd.of_below a6)).trans (Zd.of_below a4)
  have hB:=blB (blB i5 hBw a6) hBw a4
  refine xc 21 (args:=#[P0 ba,V0 2,.slice p6 244 c6]) (Wu B ba b g nn cc pa ca f N (k0+i) (Iw t leaf m v l (f+k0) bs i) 2 p6 c6 (Zed t leaf m v (Zj l m i)) (f+k0+i) 244 _ (Nat.add_assoc _ _ _).symm h0 hC k6 (by omega) (by decide) (by decide) (fun W _ hO=>Xp (Zf (Zi g0 hO (by decide))) h0) (by decide) (Nat.le_trans hBw hB.size)) ?_
  rintro _ p1 ⟨rfl,l7,a9,g3,hA⟩
  refine xr 20 (args:=#[V0 (↑(f+k0+i):Int)]) (Fw ((f+k0+i:Nat):Int) (by omega) (by omega) _) fun p3 a0=>?_
  refine xa 2 [V0 0,.string ⟨#[]⟩,V0 0] 123 fun o7 p5 a3=>?_
  have e3:=blB (hB.trans l7) hBw a0
  have c3:=a3.ge0 e3
  have b5:=Zb (Zi (Zb (Zb m0 a6) a4) a9 (by decide)) a0
  have a5:=Zr b5 a3
  refine xsv 0 a3.blk [V0 0,.string ⟨(leB (↑(f+k0+i):Int) 4).toArray⟩,V0 (↑(f+k0+i):Int)] fun o5 b1 i0=>?_
  refine xid 9 ((↑(Vw l.length m i):Int)>(0:Int)) (fun k1=>?_) (fun k1=>?_)
  ·have g8:((Xm (Zj l m i))).getD 0 0=((Zj l m i).getD 0 Xn).1:=Us e7 (by omega)
   have c0:=b1.blkT ((((b4.below a4).only a9 (by decide)).below a0).below a3.below) a3.blk (by decide)
   refine xb 2 2 c0 ?_
   have h8:=b1.own2 (Zb (Zb (Zi (Zb e1 a4) a9 (by decide)) a0) a3.below) a3.blk (by decide)
   refine xx 0 _ j 0 1 (IntsN.elem (Zf h8) (by rw[Yc,j1]) (k:=0) (by omega)).1 ?_
   refine xl 0 ((IntsN.elem (Zf h8) (by rw[Yc,j1]) (k:=0) (by omega)).2) ?_
   refine xs 1 i0 [V0 ((Xm (Zj l m i)).getD 0 0),.string ⟨(leB (↑(f+k0+i):Int) 4).toArray⟩,V0 (↑(f+k0+i):Int)] fun q0 e6 l8=>?_
   refine xlv 4 l8.rp ?_
   refine xbs 0 1 [V0 ((Xm (Zj l m i)).getD 0 0),.string ⟨(leB (↑(f+k0+i):Int) 4).toArray⟩,V0 (↑(f+k0+i):Int)] 123 fun q4 p8 b7=>?_
   have j0:=b7.ne l8
   have g2:=e6.below (b1.below (blB e3 hBw a3.below) (Nat.le_trans hBw c3)) (Nat.le_trans hBw c3)
   have p9:=b7.ge0 g2
   have d5:=e6.own3 (b1.own3 (Zb b5 a3.below) a5) a5
   have i8:=Zr d5 b7
   have a7:=Zb d5 b7.below
   have f5:=blB g2 hBw b7.below
   refine xbi 0 fun _ _ _ _ zJ zQ zo zx zy zK=>Zn (m:=1) (news:=[V0 ((Xm (Zj l m i)).getD 0 0),.string ⟨(leB (↑(f+k0+i):Int) 4).toArray⟩,V0 (↑(f+k0+i):Int)]) (.agg #[V0 0,.string ⟨#[]⟩,V0 0]) 3 32 (i+1) ((upE l m (f+k0) (i+1)).flatMap Yj) zo Tryz.underlying88 (by kernel_rfl) rfl (by decide) zx a7 zy (b7.blk.sl 1 1 (by decide) (by decide)) rfl (by simp[Value.oneCell']) (by unfold maxLen;omega) (by omega) f5.size (by rfl) (Pp (by first|exact g8|exact d1)) fun m9 m4 q8 m3 c7 l6=>?_
   refine zK _ _ ?_
   refine xwm 5 ((i:Int)+1) (↑(i+1):Int) ?_
   refine xv1 2 3 (show(.slice (Gj a2 (Vw l.length m i) c2 3) (l2.length-(Vw l.length m i)) (c2-(Vw l.length m i)):Value)=.slice (Gj a2 (Vw l.length m i) c2 3) ((l2.drop (Vw l.length m i)).length) (c2-Vw l.length m i) from by rw[List.length_drop]) ?_
   have k8:=(((((hA.below a0).below a3.below).only (Zd.of_upd (T:=[123]) b1 a3.blk (by decide)) (by decide)).only (Zd.of_upd (T:=[123]) e6 i0 (by decide)) (by decide)).below b7.below).only (Zd.of_grown (T:=[123]) c7 a7 (by decide)) (by decide)
   have e4:l2.drop (Vw l.length m i)=l.drop ((i+1)*m):=by
    rw[f8,List.drop_drop,Nat.add_mul,Nat.one_mul]
    unfold Vw
    rcases Nat.le_total m (l.length-i*m) with q|q
    ·rw[Nat.min_eq_left q]
    ·rw[Nat.min_eq_right q,List.drop_eq_nil_of_le (by omega),List.drop_eq_nil_of_le (by omega)]
   have l0:=f5.trans (l6.mono hBw)
   have hX:=(Fr.grown_new ((Fr.upd_new (Fr.upd_new (((((c9.trans (Fr.of_below a6)).trans (Fr.of_below a4)).trans (g3.mono (by simp))).trans (Fr.of_below a0)).trans (Fr.of_below a3.below)) b1 c3) e6 c3).trans (Fr.of_below b7.below)) c7 a7)
   have l4:=(Zd.grown_new ((Zd.upd_new (Zd.upd_new (((hO.trans a9).trans (Zd.of_below a0)).trans (Zd.of_below a3.below)) b1 c3) e6 c3).trans (Zd.of_below b7.below)) c7 a7)
   have i1:=Zo (Zb (e6.own2 (b1.own2 (Zb (Zb (Zi (Zb (Zb e5 a6) a4) a9 (by decide)) a0) a3.below) a3.blk (by decide)) i0 (by decide)) b7.below) c7 a7 (by decide)
   exact ze 0 (m2 _ _ _ ⟨i+1,_,_,(l2.drop (Vw l.length m i)),_,_,rfl,rfl,l0,hX,l4,i1,m3,k8,fun W h1 h2=>Sts.cut Xg (i9 W h1 h2) _ f1,by omega,e4⟩ (by omega))
  have d1:(0:Int)=((Zj l m i).getD 0 Xn).1:=Jo e7 (by omega)
  refine xlv 4 i0.rp ?_
  refine xbs 0 1 [V0 0,.string ⟨(leB (↑(f+k0+i):Int) 4).toArray⟩,V0 (↑(f+k0+i):Int)] 123 fun r0 o9 b8=>?_
  have i3:=b8.ne i0
  have d6:=b1.below (blB e3 hBw a3.below) (Nat.le_trans hBw c3)
  have q7:=b8.ge0 d6
  have d0:=b1.own3 (Zb b5 a3.below) a5
  have i7:=Zr d0 b8
  have a8:=Zb d0 b8.below
  have d4:=blB d6 hBw b8.below
  refine xbi 0 fun _ _ _ _ zJ zQ zo zx zy zK=>Zn (m:=1) (news:=[V0 0,.string ⟨(leB (↑(f+k0+i):Int) 4).toArray⟩,V0 (↑(f+k0+i):Int)]) (.agg #[V0 0,.string ⟨#[]⟩,V0 0]) 3 32 (i+1) ((upE l m (f+k0) (i+1)).flatMap Yj) zo Tryz.underlying88 (by kernel_rfl) rfl (by decide) zx a8 zy (b8.blk.sl 1 1 (by decide) (by decide)) rfl (by simp[Value.oneCell']) (by unfold maxLen;omega) (by omega) d4.size (by rfl) (Pp (by first|exact g8|exact d1)) fun n0 n4 q9 m5 c5 k5=>?_
  refine zK _ _ ?_
  refine xwm 5 ((i:Int)+1) (↑(i+1):Int) ?_
  refine xv1 2 3 (show(.slice (Gj a2 (Vw l.length m i) c2 3) (l2.length-(Vw l.length m i)) (c2-(Vw l.length m i)):Value)=.slice (Gj a2 (Vw l.length m i) c2 3) ((l2.drop (Vw l.length m i)).length) (c2-Vw l.length m i) from by rw[List.length_drop]) ?_
  have j4:=((((hA.below a0).below a3.below).only (Zd.of_upd (T:=[123]) b1 a3.blk (by decide)) (by decide)).below b8.below).only (Zd.of_grown (T:=[123]) c5 a8 (by decide)) (by decide)
  have e4:l2.drop (Vw l.length m i)=l.drop ((i+1)*m):=by
   rw[f8,List.drop_drop,Nat.add_mul,Nat.one_mul]
   unfold Vw
   rcases Nat.le_total m (l.length-i*m) with q|q
   ·rw[Nat.min_eq_left q]
   ·rw[Nat.min_eq_right q,List.drop_eq_nil_of_le (by omega),List.drop_eq_nil_of_le (by omega)]
  have g9:=d4.trans (k5.mono hBw)
  have hX:=(Fr.grown_new ((Fr.upd_new (((((c9.trans (Fr.of_below a6)).trans (Fr.of_below a4)).trans (g3.mono (by simp))).trans (Fr.of_below a0)).trans (Fr.of_below a3.below)) b1 c3).trans (Fr.of_below b8.below)) c5 a8)
  have k2:=(Zd.grown_new ((Zd.upd_new (((hO.trans a9).trans (Zd.of_below a0)).trans (Zd.of_below a3.below)) b1 c3).trans (Zd.of_below b8.below)) c5 a8)
  have f3:=Zo (Zb (b1.own2 (Zb (Zb (Zi (Zb (Zb e5 a6) a4) a9 (by decide)) a0) a3.below) a3.blk (by decide)) b8.below) c5 a8 (by decide)
  exact ze 0 (m2 _ _ _ ⟨i+1,_,_,(l2.drop (Vw l.length m i)),_,_,rfl,rfl,g9,hX,k2,f3,m5,j4,fun W h1 h2=>Sts.cut Xg (i9 W h1 h2) _ f1,by omega,e4⟩ (by omega))
 refine xe 13 (.tuple #[.slice p4 i c4,.nilIface]) ?_
 obtain rfl:i=ovN l.length m:=by omega
 exact⟨_,_,rfl,d8,d7,h4,hA,m0⟩
end Go.Proofs.YtegcamkgeacjfaaGreatDoor
