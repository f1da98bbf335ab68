/- More rules for printed walks. No program is named here. -/
import Derived.Deep.MidRow
import Derived.Lib.BufferWrite
import Derived.Lib.AppendStr
import Derived.Lib.ItoaNum
import Derived.Lib.ItoaLen
import Derived.Test.YtekomodnkfhihaaGreatDoorMg1
namespace Go.Proofs.YtekomodnkfhihaaGreatDoor
set_option maxHeartbeats 8000000
set_option maxRecDepth 100000
open Go.RowKit
set_option linter.unusedVariables false
section
variable {P:Program} {Q:Exit→Act→World→Prop} {a:Act} {w:World} {K:Act→World→Prop}
theorem Zfx{o:Oper}{t e:TypeId}{x y y2 y3:Operand}{b off n k h c:Nat}{i j j2:Int}{ki kj kj2:IntKind}(size off' d:Nat)(ho:o.op=.slice t x (some y) (some y2) (some y3))(hx:a.eval x=.slice (some ⟨b,off,none⟩) n c)(hy:a.eval y=.int ki i)(hi:i=(k:Int))(hy2:a.eval y2=.int kj j)(hj:j=(h:Int))(hy3:a.eval y3=.int kj2 j2)(hj2:j2=(h:Int))
 (hk:k<h) (hc:h≤c) (hoff:off+k*size=off') (hd:h-k=d) (ht:P.underlying t=some (.slice e)) (hs:(P.info? e).map (·.size)=some size) (w:World):(execOp a.eval o).run P w=.ok (.value (.slice (some ⟨b,off',none⟩) d d)) w:=by
 cases hq:P.info? e with
 | none=>simp[hq] at hs
 | some q =>
  have hj:q.size=size:=by simpa [hq] using hs
  subst hi hj hj2 hoff hd
  have h1:(0:Int)≤(k:Int):=by omega
  have h2:(0:Int)≤(h:Int):=by omega
  have h3:(k:Int)≤(h:Int):=by omega
  have h4:(h:Int)≤(c:Int):=by omega
  have h5:¬ h=k:=by omega
  simp_all [execOp,Instr.sliceAt,Instr.slice,Instr.sliceBounds,Instr.sliceBound,asIntOf,run_underlying ht,sizeOf,typeInfo,Addr.add_mid]
def Uf(b:O0)(k c size:Nat):O0:=if c=k then b else b.map (·.add (k*size))
theorem Py{o:Oper}{t e:TypeId}{x y:Operand}{b:O0}{n k c:Nat}{i:Int}{ki:IntKind}(size:Nat)(ho:o.op=.slice t x (some y) none none)(hx:a.eval x=.slice b n c)(hy:a.eval y=.int ki i)(hi:i=(k:Int))(hk:k≤n)
 (ht:P.underlying t=some (.slice e)) (hs:(P.info? e).map (·.size)=some size) (w:World):(execOp a.eval o).run P w=.ok (.value (.slice (Uf b k c size) (n-k) (c-k))) w:=by
 cases hq:P.info? e with
 | none=>simp[hq] at hs
 | some j =>
  have hj:j.size=size:=by simpa [hq] using hs
  subst hi
  have h1:(0:Int)≤(k:Int):=by omega
  have h2:(k:Int)≤(n:Int):=by omega
  by_cases h3:c=k
  ·simp[execOp,ho,hx,hy,Instr.sliceAt,Instr.slice,Instr.sliceBounds,Instr.sliceBound,asIntOf,run_underlying ht,sizeOf,typeInfo,hq,hk,h3,Uf]
  ·simp[execOp,ho,hx,hy,Instr.sliceAt,Instr.slice,Instr.sliceBounds,Instr.sliceBound,asIntOf,run_underlying ht,sizeOf,typeInfo,hq,hj,hk,h3,Uf]
end
end Go.Proofs.YtekomodnkfhihaaGreatDoor
namespace Go.Proofs.YtekomodnkfhihaaGreatDoor
set_option maxHeartbeats 8000000
set_option maxRecDepth 100000
open Go.RowKit Go.Extern.Stop Go.Stop Go.Extern
set_option linter.unusedVariables false
theorem errno_eq{P:Program}(w:World){ti tn:TypeId}{ms:Array (String×TypeId)}{i:TypeInfo}{k:IntKind}(a b:Int)
 (hi:P.underlying ti=some (.interface ms)) (hn:P.underlying tn=some (.int k)) (hinfo:P.info? tn=some i) (hcomp:i.comparable=true) :
 (binOp .eql ti (.iface tn (.int k a)) (.iface tn (.int k b))).run P w=.ok (.bool (a==b)) w:=by
 have h:∀ d:Nat,(Op.equalIn (d+2) ti (.iface tn (.int k a)) (.iface tn (.int k b))).run P w=.ok (a==b) w:=fun d=>by simp[Op.equalIn,run_underlying hi,run_underlying hn,typeInfo,hinfo,hcomp]
 simp only[binOp]
 simp[Op.equal,Op.maxDepth,h 9998]
theorem Tryz.eqN(a b:Int)(w:World):(binOp .eql 39 (.iface 33 (V0 a)) (.iface 33 (V0 b))).run Tryz.prog w=.ok (.bool (a==b)) w:=by
 obtain⟨i,h1,h2⟩:=Option.map_eq_some_iff.1 (show(Tryz.prog.info? 33).map (·.comparable)=some true by kernel_rfl)
 exact errno_eq w a b Tryz.underlying39 Tryz.underlying33 h1 h2
theorem Tryz.methComparable (h : Value) (w : World) : (Go.method 523 311 (.agg #[h]) "Comparable").run Tryz.prog w = .ok (317, .agg #[h]) w := by kernel_rfl
theorem Tryz.comparableN(w:World):(callFunc 317 #[.agg #[.pointer (some ⟨4,33,none⟩)]]).run Tryz.prog w=.ok (Next.value (.bool true)) w:=by kernel_rfl
theorem Zef(c d:Int)(w:World):C0 225 #[.iface 33 (V0 c),.iface 33 (V0 d),.bool true] w (Ret (.bool (c==d)) w):=by
 have y1:=Tryz.eqN
 have y2:=Tryz.noIsN
 have y3:=Tryz.noUnwrapN
 have y4:=Tryz.noUnwrapsN
 go_enter Tryz.func225,Tryz.ntmps225
 go_wp2_with fail
 go_loopw [0] (fun v wr=>v=.iface 33 (V0 c)∧wr=w) (fun _ _=>0)
 case atStart=>exact⟨rfl,rfl⟩
 case round =>
  obtain⟨rfl,rfl⟩:=hrel
  by_cases h:c=d
  ·have h':(c==d)=true:=by simpa using h
   have HH:=Lib.hid h;clear h
   go_wp2_with fail
   go_ret
   exact⟨by rw[h'];rfl,Below.refl _ _⟩
  ·have h':(c==d)=false:=by simpa using h
   have HH:=Lib.hid h;clear h
   go_wp2_with fail
   go_ret
   exact⟨by rw[h'];rfl,Below.refl _ _⟩
theorem Ri(c d:Int)(w:World):C0 169 #[.iface 33 (V0 c),.iface 33 (V0 d)] w (Ret (.bool (c==d)) w):=by
 have a0:=@run_callFunc_extern Tryz.prog 208 _ ReflectliteType.typeOf Tryz.func208 K0 K0 K0 K0
 have y1:=Tryz.typeOfN
 have y2:=Tryz.methComparable
 have y3:=Tryz.comparableN
 go_enter Tryz.func169,Tryz.ntmps169
 go_wp2_with fail
 refine(Zef c d _).mono ?_
 rintro e w' ⟨rfl,hb⟩
 go_wp2_with fail
 go_ret
 exact⟨rfl,hb⟩
theorem Zg8(no c:Int)(w:World):C0 100 #[V0 no,.iface 33 (V0 c)] w (Qo (fun w' r=>Gl w' (if c=0 then [] else [some no]) (if c=0 then none else some c) r) w):=by
 by_cases h:c=0
 ·subst h
  go_enter Tryz.func100,Tryz.ntmps100
  go_wp2_with fail
  refine(Ri 0 0 _).mono ?_
  rintro e w1 ⟨rfl,hb⟩
  rw[show((0:Int)==0)=true from rfl]
  go_wp2_with fail
  go_ret
  exact⟨_,rfl,hb,rfl⟩
 ·have h':(c==0)=false:=by simpa using h
  simp only[h,if_false]
  have HC:=Lib.hid h;clear h
  go_enter Tryz.func100,Tryz.ntmps100
  go_wp2_with fail
  refine(Ri c 0 _).mono ?_
  rintro e w1 ⟨rfl,hb⟩
  rw[h']
  go_wp2_with fail
  refine(fault_At no (some c) [] _ w1 rfl).mono ?_
  rintro e w2 ⟨r,rfl,a0,h2⟩
  go_wp2_with fail
  go_ret
  exact⟨_,rfl,bln hb a0,h2⟩
theorem Blk.range{w:World}{b:Nat}{cs:List Value}{t:TypeId}(h:Blk w b cs t):w.rangeAt b 0 cs:=fun j v hj=>by rw[F1];exact h.cell hj
theorem Blk.there{w:World}{b:Nat}{cs:List Value}{t:TypeId}(h:Blk w b cs t){n:Nat}(hn:n=cs.length):w.there b 0 n:=fun j hj=>by
 rw[F1]
 exact⟨by rw[h.cell (B5 M0)];rfl,h.frozen j⟩
end Go.Proofs.YtekomodnkfhihaaGreatDoor
namespace Go.Proofs.YtekomodnkfhihaaGreatDoor
set_option maxHeartbeats 8000000
set_option maxRecDepth 100000
open Go.RowKit Go.Extern.Stop Go.Stop Go.Extern
set_option linter.unusedVariables false
attribute [local irreducible] wpList wpAnyH Code.wp Oper.wp Go
theorem Zjk(n k:Nat)(hn:n<9223372036854775808)(hk:0<k):IntKind.i64.wrap (Int.tdiv (n:Int) (k:Int))=((n/k:Nat):Int):=by
 rw[Int.tdiv_eq_ediv_of_nonneg (F2 _),←Int.natCast_ediv]
 exact Cv (Is (K3 _ _) hn)
theorem Zcz(a b:Nat):(if(b:Int)<(a:Int) then(b:Int) else(a:Int))=((min a b:Nat):Int):=by split<;>omega
theorem Hc(b:Nat)(p:O0)(n c:Nat)(w:World)(hk:Blk w b [.slice p n c] 108)(hn:n≤100000000) :
 C0 87 #[P0 b] w (Ret (V0 ((n/256:Nat):Int)) w):=by
 refine zin 11 Tryz.func87 ?_
 refine xb 20 0 hk ?_
 refine xq 1 (congrArg V0 (show(IntKind.i64.wrap (Int.tdiv (n:Int) 256):Int)=(↑(n/256):Int) from Zjk n 256 M0 Do)) ?_
 exact xe 4 (V0 (↑(n/256):Int)) ⟨rfl,(B4 w)⟩
theorem Zb7(b g:Nat)(n c k:Nat)(w:World)(hk:Blk w b [.slice (S1 g) n c] 108)(hn:n≤100000000)(hc:n≤c)(hkn:k<n/256) :
 C0 168 #[P0 b,V0 (k:Int)] w (Ret (.tuple #[.slice (some ⟨g,k*256,none⟩) 256 256,V0 0]) w):=by
 refine zin 33 Tryz.func168 ?_
 refine xgk 21 [13,14] (show(decide ((k:Int)<(0:Int)):Bool)=false from decide_eq_false M0) ?_
 refine xr 2 (args:=#[P0 b]) (Hc b _ n c _ (hk.below (B4 w)) hn) fun W2 a1=>?_
 refine xk 5 (show(decide ((k:Int)≥(↑(n/256):Int)):Bool)=false from decide_eq_false M0) ?_
 refine xwm 6 ((k:Int)*256) (↑(k*256):Int) ?_
 refine xwm 1 ((k:Int)+1) (↑(k+1):Int) ?_
 refine xwm 0 ((↑(k+1):Int)*256) (↑((k+1)*256):Int) ?_
 have a0:=hk.below a1
 refine xb 9 0 a0 ?_
 refine xs3 3 (fun _ _ _ _ _ _ zo zx zy zz zm V=>Zfx (k:=(k*256)) (h:=((k+1)*256)) (b:=g) (off:=0) (n:=n) (c:=c) (i:=(↑(k*256):Int)) (ki:=.i64) (j:=(↑((k+1)*256):Int)) (kj:=.i64) (j2:=(↑((k+1)*256):Int)) (kj2:=.i64) 1 (k*256) 256 zo zx zy rfl zz rfl zm rfl M0 M0 M0 M0 Tryz.underlying50 K0 V) ?_
 exact xe 5 (.tuple #[.slice (some ⟨g,(k*256),none⟩) 256 256,V0 0]) ⟨rfl,a1⟩
theorem Eb(b:Nat)(p:O0)(n c:Nat)(l:Bl)(w:World)(hk:Blk w b [.slice p n c] 108)(h:Bys w (.slice p n c) l)(hl:l.length=n)(hn:n≤100000000) :
 C0 21 #[P0 b] w (Qo (fun w' r=>Pj w.heap.size w' r l) w):=by
 refine zin 10 Tryz.func21 ?_
 refine xb 20 0 hk ?_
 refine xc 0 (args:=#[.slice p n c]) (Ks p n c l _ hl (h.below (B4 w)) hn) ?_
 rintro _ W1 ⟨r,rfl,a1,ho⟩
 have a2:=A6 w.heap.size
 have a0:=Zf ho a2
 exact xe 4 r ⟨_,rfl,a1,a0⟩
def WroteB(B g n c:Nat)(l:Bl)(v:Value)(w:World)(e:Ending)(w':World):Prop :=
 e=.returned v∧Below B w w'∧Zd [5] w w'∧Fr [g] w w'∧w'.ownsRow B 5 1 (.slice (S1 g) n c) n (l.map bv)
theorem Zbu(B b g:Nat)(n c k:Nat)(l:Bl)(a:O0)(cx:Nat)(lx:Bl)(w:World)(hk:Blk w b [.slice (S1 g) n c] 108)(ho:w.ownsRow B 5 1 (.slice (S1 g) n c) n (l.map bv))(hn:n≤100000000)(hc:n≤c)(hkn:k<n/256)(hx:Bys w (.slice a 256 cx) lx)(hlx:lx.length=256)(hBw:B≤w.heap.size) :
 C0 99 #[P0 b,V0 (k:Int),.slice a 256 cx] w (WroteB B g n c (Km l (k*256) lx) (V0 0) w):=by
 replace hx:Sl w (.slice a 256 cx) 256 (lx.map bv):=by
  have:=hx
  unfold Bys at this
  rwa [hlx] at this
 refine zin 24 Tryz.func99 ?_
 refine xr 9 (args:=#[P0 b,V0 (k:Int)]) (Zb7 b g n c k _ hk hn hc hkn) fun W1 a0=>?_
 have a1:=Za ho a0
 have a2:=hx.below a0
 have hB:=blB (Below.refl B w) hBw a0
 refine xbi 32 (t2:=50) fun _ _ _ _ zJ zQ zo zx zy zK=>We (dLen:=256) (dCap:=256) (off:=(k*256)) 256 (lx.map bv) ((Km l (k*256) lx).map bv) zo Tryz.underlying50 K0 zx zy a2 a1 (by simpa using hlx) M0 M0 (Xw _) (N0 hBw hB.size) (by simp[Km,hlx,Gt,H7]) fun W2 o2 a4 a5=>?_
 refine zK _ _ ?_
 have a3:=hB.trans a5
 have hO:=(show Zd [5] w _ from(Zd.of_below a0)).trans (Zd.of_grown a4 a1 Do)
 have hX:=(show Fr [g] w _ from(Fr.of_below a0)).trans (Fr.of_grown a4 (by simp))
 exact xe 8 (V0 0) ⟨rfl,a3,hO,hX,o2⟩
theorem Et(B b g:Nat)(n c k:Nat)(l:Bl)(kind:Int)(a:O0)(ca:Nat)(li:Bl)(w:World)(hk:Blk w b [.slice (S1 g) n c] 108)(ho:w.ownsRow B 5 1 (.slice (S1 g) n c) n (l.map bv))(hn:n≤3686400)(hc:n≤c)(hkn:k<n/256)(h1:1≤kind)(h2:kind≤4)(hin:Bys w (.slice a li.length ca) li)(hl:li.length≤244)(hBw:B≤w.heap.size) :
 C0 47 #[P0 b,V0 (k:Int),V0 kind,.slice a li.length ca] w (WroteB B g n c (Km l (k*256) (Ja kind k li)) .nilIface w):=by
 refine zin 28 Tryz.func47 ?_
 refine xc 10 (args:=#[V0 kind,V0 (k:Int),.slice a li.length ca]) (Zlc kind k h1 h2 M0 M0 a ca li _ hl hin) ?_
 rintro _ W1 ⟨_,rfl,a0,p,c2,rfl,o⟩
 have a9:=A6 w.heap.size
 have a4:=hk.below a0
 have a3:=Za ho a0
 have a7:=Zf o a9
 have hB:=blB (Below.refl B w) hBw a0
 refine xc 19 (args:=#[P0 b,V0 (k:Int),.slice p 256 c2]) (Zbu B b g n c k l p c2 (Ja kind k li) _ a4 a3 M0 hc hkn (Ya (Ze a7) (Du hl)) (Du hl) (N0 hBw hB.size)) ?_
 rintro _ W2 ⟨rfl,a8,a6,b1,b0⟩
 refine xc 8 (args:=#[V0 (k:Int),.iface 33 (V0 0)]) (Zg8 k 0 _) ?_
 rintro _ W3 ⟨r,rfl,a2,hr⟩
 obtain rfl:r=.nilIface:=hr
 have a5:=blB (hB.trans a8) hBw a2
 have hO:=((show Zd [5] w _ from(Zd.of_below a0)).trans a6).trans (Zd.of_below a2)
 have hX:=((show Fr [g] w _ from(Fr.of_below a0)).trans (b1.mono (by simp))).trans (Fr.of_below a2)
 have a1:=Za b0 a2
 exact xe 4 .nilIface ⟨rfl,a5,hO,hX,a1⟩
def Qn(f j:Nat):List Int:=(List.range j).map fun i=>((f+i:Nat):Int)
theorem As(f j:Nat):Qn f (j+1)=Qn f j++[((f+j:Nat):Int)]:=by simp[Qn,C1]
theorem Gq{f N k:Nat}(h:k<N):(Qn f N).getD k 0=((f+k:Nat):Int):=by simp[Qn,List.getD,B7 h]
theorem Me(f j:Nat):(Qn f j).length=j:=by simp[Qn]
structure Al(B ba b g n c:Nat)(pa:Option Addr)(ca f N k:Nat)(l:List UInt8)(w:World):Prop where
 blkA:Blk w ba [.slice pa N ca,.int .i64 (k:Int),.pointer (some ⟨b,0,none⟩)] 169
 blkI:Blk w b [.slice (some ⟨g,0,none⟩) n c] 108
 data:w.ownsRow B 5 1 (.slice (some ⟨g,0,none⟩) n c) n (l.map bv)
 nums:w.ownsRow B 3 1 (.slice pa N ca) N ((Qn f N).map (Value.int .i64))
structure AlC(B ba n c ca f N:Nat):Prop where
 hn:n≤3686400
 hc:n≤c
 hca:N≤ca
 hf:f+N≤n/256
 hB:B≤ba
theorem Zlb(b:Nat)(p0:O0)(n c f:Nat)(w:World)(hk:Blk w b [.slice p0 n c] 108)(hn:n≤3686400)(h1:1≤f)(h2:f≤n/256) :
 C0 42 #[P0 b,V0 (f:Int)] w (Qo (fun w' r=>∃ ba p c2,r=.tuple #[P0 ba,.nilIface]∧w.heap.size≤ba∧Blk w' ba [.slice p (n/256-f) c2,V0 0,P0 b] 169∧w'.ownsRow w.heap.size 3 1 (.slice p (n/256-f) c2) (n/256-f) ((Qn f (n/256-f)).map V0)) w):=by
 refine zin 37 Tryz.func42 ?_
 refine xgk 16 [12,13,14] (show(decide ((f:Int)<(1:Int)):Bool)=false from decide_eq_false M0) ?_
 refine xr 2 (args:=#[P0 b]) (Hc b p0 n c _ hk M0) fun W2 b3=>?_
 refine xk 4 (show(decide ((f:Int)>(↑(n/256):Int)):Bool)=false from decide_eq_false M0) ?_
 have b1:=hk.below b3
 refine zl 15 37 (fun zm b5 V=>∃ (j:Nat) (p:O0) (c2:Nat),b5=[(0,P0 b),(4,.pointer none),(5,.nilIface),(6,.slice p j c2),(7,V0 (↑(f+j):Int))]∧zm=n/256-((↑(f+j):Int)).toNat∧B3 w V∧Blk V b ([.slice p0 n c]) 108∧V.ownsRow w.heap.size 3 1 (.slice p j c2) j ((Qn f j).map V0)∧f+j≤n/256) ⟨0,_,_,rfl,rfl,b3,b1,A4 _ _ _ _,by omega⟩ ?_
 rintro _ _ W3 ⟨j,p,c2,rfl,rfl,a1,a5,ho,hj⟩ J3 c0 r3
 refine xr 5 (args:=#[P0 b]) (Hc b p0 n c _ a5 M0) fun W4 a7=>?_
 refine xid 3 ((↑(f+j):Int)<(↑(n/256):Int)) (fun b9=>?_) (fun b9=>?_)
 ·refine xbs 7 1 [V0 (↑(f+j):Int)] 3 fun b6 W6 n6=>?_
  have a6:=bln a1 a7
  have g6:=n6.ge a6
  have a4:=Za ho a7
  have b4:=Zg a4 n6
  have a3:=Za a4 n6.below
  have a8:=bln a6 n6.below
  refine xbi 0 fun _ _ _ _ zJ zQ zo zx zy zK=>Zr (m:=1) (news:=[V0 (↑(f+j):Int)]) (V0 0) 1 8 (j+1) ((Qn f (j+1)).map V0) zo Tryz.underlying27 K0 rfl Do zx a3 zy (n6.blk.sl 1 1 Do Do) rfl (by simp[Value.oneCell']) (by unfold maxLen;omega) M0 a8.size (by rfl) (by rw[As];simp) fun c3 c4 W7 o7 c1 b7=>?_
  refine zK _ _ ?_
  refine xwm 6 ((↑(f+j):Int)+1) (↑((f+j)+1):Int) ?_
  have b2:=a8.trans b7
  have a0:=((a5.below a7).below n6.below).grown c1 a3 Do
  exact ze 2 (c0 _ _ _ ⟨j+1,_,_,rfl,rfl,b2,a0,o7,by omega⟩ M0)
 refine xa 11 [.slice p j c2,V0 0,P0 b] 169 fun b8 W8 n8=>?_
 have a2:=bln a1 a7
 have g8:=n8.ge a2
 have a9:=bln a2 n8.below
 have b0:=Za (Za ho a7) n8.below
 refine xe 5 (.tuple #[P0 b8,.nilIface]) ?_
 obtain rfl:j=n/256-f:=by omega
 exact⟨_,rfl,a9,_,_,_,rfl,g8,n8.blk,b0⟩
theorem Kz(ba b:Nat)(v x:Value)(w:World)(hk:Blk w ba [v,x,P0 b] 169) :
 C0 157 #[P0 ba] w (Ret (.bool false) w):=by
 refine zin 12 Tryz.func157 ?_
 refine xb 13 2 hk ?_
 exact xe 6 (.bool false) ⟨rfl,(B4 w)⟩
theorem Sf(ba:Nat)(p:O0)(N c k:Nat)(m:Value)(w:World)(hk:Blk w ba [.slice p N c,V0 (k:Int),m] 169)(h1:k≤N) :
 C0 218 #[P0 ba] w (Ret (.slice (Uf p k c 1) (N-k) (c-k)) w):=by
 refine zin 12 Tryz.func218 ?_
 refine xd 6 .z ?_
 have a0:=hk.below (Zb w)
 refine xb (.e [0,1,2] 3) 0 a0 ?_
 refine xb (.e [4,5,6] 7) 1 a0 ?_
 refine xsL (.e [] 8) (fun _ _ _ _ zo zx zy V=>Py (k:=k) (b:=p) (n:=N) (c:=c) (i:=(k:Int)) (ki:=.i64) 1 zo zx zy rfl M0 Tryz.underlying27 K0 V) ?_
 have hB:=(Zb w)
 exact xe (.r [9] 3) (.slice (Uf p k c 1) (N-k) (c-k)) ⟨rfl,hB⟩
theorem Ll(ba b:Nat)(p:O0)(N c k:Nat)(w:World)(hk:Blk w ba [.slice p N c,V0 (k:Int),P0 b] 169)(h1:k≤N) :
 C0 153 #[P0 ba] w (Ret (V0 ((N-k:Nat):Int)) w):=by
 refine zin 10 Tryz.func153 ?_
 refine xr 9 (args:=#[P0 ba]) (Kz ba b _ _ _ hk) fun W1 a1=>?_
 have a0:=hk.below a1
 refine xr 10 (args:=#[P0 ba]) (Sf ba p N c k _ _ a0 h1) fun W2 a2=>?_
 have hB:=bln a1 a2
 exact xe 5 (V0 (↑(N-k):Int)) ⟨rfl,hB⟩
theorem Zgl(ba b:Nat)(v:Value)(k:Nat)(w:World)(hk:Blk w ba [v,V0 (k:Int),P0 b] 169) :
 C0 93 #[P0 ba] w (Ret (V0 (k:Int)) w):=by
 refine zin 10 Tryz.func93 ?_
 refine xr 9 (args:=#[P0 ba]) (Kz ba b _ _ _ hk) fun W1 a1=>?_
 have a0:=hk.below a1
 refine xb 11 1 a0 ?_
 exact xe 4 (V0 (k:Int)) ⟨rfl,a1⟩
def Took(B ba:Nat)(p:O0)(N c k:Nat)(m:Value)(L:List Int)(v:Value)(w:World)(e:Ending)(w':World):Prop :=
 e=.returned v∧Below B w w'∧Zd [169] w w'∧Fr [ba] w w'∧Blk w' ba [.slice p N c,V0 ((k+1:Nat):Int),m] 169∧w'.ownsRow B 3 1 (.slice p N c) N (L.map V0)
theorem IntsN.elem{w:World}{b:O0}{n c:Nat}{l:List Int}(h:Sl w (.slice b n c) n (l.map V0))(hl:l.length=n){k:Nat}(hk:k<n):b.isSome=true∧w.cell? (Xa b (k*1))=some (V0 (l.getD k 0)):=by
 subst hl;exact Ints.elem h hk
theorem Zev(B ba:Nat)(p:O0)(N c k:Nat)(L:List Int)(hL:L.length=N)(m:Value)(w:World)(hk:Blk w ba [.slice p N c,V0 (k:Int),m] 169)(ho:w.ownsRow B 3 1 (.slice p N c) N (L.map V0))(hB0:B≤ba)(hBw:B≤w.heap.size)(hN:N≤1000000)(hkN:k<N) :
 C0 263 #[P0 ba] w (Took B ba p N c k m L (.tuple #[V0 (L.getD k 0),.bool true]) w):=by
 refine zin 32 Tryz.func263 ?_
 refine xd 8 .z ?_
 have a0:=hk.below (Zb w)
 refine xb (.e [0,1,2] 3) 1 a0 ?_
 refine xb (.e [4,5,6] 7) 0 a0 ?_
 refine xk (.r [8,9] 2) (show(decide ((k:Int)≥(N:Int)):Bool)=false from decide_eq_false M0) ?_
 refine xb 7 1 a0 ?_
 refine xwm 0 ((k:Int)+1) (↑(k+1):Int) ?_
 refine xs 2 a0 [.slice p N c,V0 (↑(k+1):Int),m] fun W1 u1 k1=>?_
 refine xd 3 .z ?_
 have a2:=k1.below (Zb W1)
 refine xb (.e [0,1,2] 3) 0 a2 ?_
 refine xb (.e [4,5,6] 7) 1 a2 ?_
 refine xwm (.e [] 8) ((↑(k+1):Int)-1) (k:Int) ?_
 have a1:=Za (u1.own2 (Za ho (Zb w)) a0 Do) (Zb W1)
 refine xx (.e [] 9) _ N k 1 (IntsN.elem (Ze a1) hL (k:=k) M0).1 ?_
 refine xl (.e [] 10) ((IntsN.elem (Ze a1) hL (k:=k) M0).2) ?_
 have hB:=blB (u1.below (blB (Below.refl B w) hBw (Zb w)) hB0) hBw (Zb W1)
 have hO:=((show Zd [169] w _ from(Zd.of_below (Zb w))).trans (Zd.of_upd u1 a0 Do)).trans (Zd.of_below (Zb W1))
 have hX:=((show Fr [ba] w _ from(Fr.of_below (Zb w))).trans (Fr.of_upd u1 (by simp))).trans (Fr.of_below (Zb W1))
 exact xe (.r [11,12] 3) (.tuple #[V0 (L.getD k 0),.bool true]) ⟨rfl,hB,hO,hX,a2,a1⟩
theorem Ze0(B ba:Nat)(p:O0)(N c k:Nat)(L:List Int)(hL:L.length=N)(b q:Nat)(hq:L.getD k 0=(q:Int))(w:World)(hk:Blk w ba [.slice p N c,V0 (k:Int),P0 b] 169)(ho:w.ownsRow B 3 1 (.slice p N c) N (L.map V0))(hB0:B≤ba)(hBw:B≤w.heap.size)(hN:N≤1000000)(hkN:k<N) :
 C0 220 #[P0 ba] w (Took B ba p N c k (P0 b) L (.tuple #[V0 (q:Int),.nilIface]) w):=by
 refine zin 20 Tryz.func220 ?_
 refine xr 10 (args:=#[P0 ba]) (Kz ba b _ _ _ hk) fun W1 a0=>?_
 have a2:=hk.below a0
 have a1:=Za ho a0
 have hB:=blB (Below.refl B w) hBw a0
 refine xc 10 (args:=#[P0 ba]) (Zev B ba p N c k L hL _ _ a2 a1 hB0 (N0 hBw hB.size) hN hkN) ?_
 rintro _ W2 ⟨rfl,a5,a4,a6,kA,ho⟩
 rw[hq]
 have a3:=hB.trans a5
 have hO:=(show Zd [169] w _ from(Zd.of_below a0)).trans a4
 have hX:=(show Fr [ba] w _ from(Fr.of_below a0)).trans (a6.mono (by simp))
 exact xe 25 (.tuple #[V0 (q:Int),.nilIface]) ⟨rfl,a3,hO,hX,kA,ho⟩
def Laid(B ba b g n c:Nat)(pa:O0)(ca f N k:Nat)(l:Bl)(kind:Int)(li:Bl)(w:World)(e:Ending)(w':World):Prop :=
 e=.returned (.tuple #[V0 ((f+k:Nat):Int),.nilIface])∧Below B w w'∧Zd [169,5] w w'∧Fr [ba,g] w w'∧Al B ba b g n c pa ca f N (k+1) (Km l ((f+k)*256) (Ja kind ((f+k:Nat):Int) li)) w'
theorem Zd.mono{T T':List TypeId}{w w':World}(h:Zd T w w')(hT:∀ t,T'.contains t=false→T.contains t=false):Zd T' w w':=fun k cs t fr hk ht=>h k cs t fr hk (hT t ht)
theorem only_aa{w w':World}(h:Zd [169] w w'):Zd [169,5] w w':=h.mono fun t ht=>by simp at ht ⊢;exact ht.1
theorem only_ab{w w':World}(h:Zd [5] w w'):Zd [169,5] w w':=h.mono fun t ht=>by simp at ht ⊢;exact ht.2
theorem Zk9(B ba b g n c:Nat)(p:O0)(ca f N k:Nat)(l:Bl)(kind:Int)(a:O0)(ci:Nat)(li:Bl)(w:World)(hC:AlC B ba n c ca f N)(hA:Al B ba b g n c p ca f N k l w)(hkN:k<N)(h1:1≤kind)(h2:kind≤4)(hin:∀ W,Below B w W→Zd [169] w W→Bys W (.slice a li.length ci) li)(hl:li.length≤244)(hBw:B≤w.heap.size) :
 C0 161 #[P0 ba,V0 kind,.slice a li.length ci] w (Laid B ba b g n c p ca f N k l kind li w):=by
 obtain⟨hk,hi,hd,ho⟩:=hA
 refine zin 35 Tryz.func161 ?_
 refine xc 9 (args:=#[P0 ba]) (Ze0 B ba p N ca k (Qn f N) (Me f N) b (f+k) (Gq hkN) _ hk ho hC.hB (N0 hBw (Below.refl B _).size) (by have:=hC.hf;have:=hC.hn;omega) hkN) ?_
 rintro _ W1 ⟨rfl,a6,a2,b0,kA,ho⟩
 replace hin:=hin _ a6 a2
 refine xb 23 2 kA ?_
 have a0:=hi.only a2 Do
 have a5:=Zi hd a2 Do
 refine xc 3 (args:=#[P0 b,V0 (↑(f+k):Int),V0 kind,.slice a li.length ci]) (Et B b g n c (f+k) l kind a ci li _ a0 a5 hC.hn hC.hc (by have:=hC.hf;omega) h1 h2 hin hl (N0 hBw a6.size)) ?_
 rintro _ W2 ⟨rfl,a9,a1,b1,hd⟩
 have a8:=a6.trans a9
 have hO:=(show Zd [169,5] w _ from(only_aa a2)).trans (only_ab a1)
 have hX:=(show Fr [ba,g] w _ from(b0.mono (by simp))).trans (b1.mono (by simp))
 have a3:=kA.only a1 Do
 have a4:=a0.only a1 Do
 have a7:=Zi ho a1 Do
 exact xe 20 (.tuple #[V0 (↑(f+k):Int),.nilIface]) ⟨rfl,a8,hO,hX,a3,a4,hd,a7⟩
theorem Bo(w:World) :
 C0 145 #[V0 1,.bool true] w (Ret (V0 4) w):=by
 refine zin 31 Tryz.func145 ?_
 exact xe 94 (V0 4) ⟨rfl,(B4 w)⟩
theorem Zfh(w:World) :
 C0 85 #[V0 1,.bool true] w (Ret (V0 18) w):=by
 refine zin 16 Tryz.func85 ?_
 refine xr 9 (args:=#[V0 1,.bool true]) (Bo _) fun W1 a0=>?_
 exact xe 24 (V0 18) ⟨rfl,a0⟩
theorem Bk(w:World) :
 C0 145 #[V0 1,.bool false] w (Ret (V0 4) w):=by
 refine zin 31 Tryz.func145 ?_
 exact xe 41 (V0 4) ⟨rfl,(B4 w)⟩
theorem Zfc(w:World) :
 C0 85 #[V0 1,.bool false] w (Ret (V0 18) w):=by
 refine zin 16 Tryz.func85 ?_
 refine xr 9 (args:=#[V0 1,.bool false]) (Bk _) fun W1 a0=>?_
 exact xe 24 (V0 18) ⟨rfl,a0⟩
theorem Bn(w:World) :
 C0 145 #[V0 2,.bool true] w (Ret (V0 8) w):=by
 refine zin 31 Tryz.func145 ?_
 exact xe 101 (V0 8) ⟨rfl,(B4 w)⟩
theorem Ze9(w:World) :
 C0 85 #[V0 2,.bool true] w (Ret (V0 12) w):=by
 refine zin 16 Tryz.func85 ?_
 refine xr 9 (args:=#[V0 2,.bool true]) (Bn _) fun W1 a0=>?_
 exact xe 24 (V0 12) ⟨rfl,a0⟩
theorem Lz(w:World) :
 C0 145 #[V0 2,.bool false] w (Ret (V0 4) w):=by
 refine zin 31 Tryz.func145 ?_
 exact xe 41 (V0 4) ⟨rfl,(B4 w)⟩
theorem Zf1(w:World) :
 C0 85 #[V0 2,.bool false] w (Ret (V0 18) w):=by
 refine zin 16 Tryz.func85 ?_
 refine xr 9 (args:=#[V0 2,.bool false]) (Lz _) fun W1 a0=>?_
 exact xe 24 (V0 18) ⟨rfl,a0⟩
theorem Lv(w:World) :
 C0 145 #[V0 3,.bool true] w (Ret (V0 24) w):=by
 refine zin 31 Tryz.func145 ?_
 exact xe 93 (V0 24) ⟨rfl,(B4 w)⟩
theorem Zgj(w:World) :
 C0 85 #[V0 3,.bool true] w (Ret (V0 6) w):=by
 refine zin 16 Tryz.func85 ?_
 refine xr 9 (args:=#[V0 3,.bool true]) (Lv _) fun W1 a0=>?_
 exact xe 24 (V0 6) ⟨rfl,a0⟩
theorem Lr(w:World) :
 C0 145 #[V0 3,.bool false] w (Ret (V0 4) w):=by
 refine zin 31 Tryz.func145 ?_
 exact xe 41 (V0 4) ⟨rfl,(B4 w)⟩
theorem Zgr(w:World) :
 C0 85 #[V0 3,.bool false] w (Ret (V0 18) w):=by
 refine zin 16 Tryz.func85 ?_
 refine xr 9 (args:=#[V0 3,.bool false]) (Lr _) fun W1 a0=>?_
 exact xe 24 (V0 18) ⟨rfl,a0⟩
theorem Ln(w:World) :
 C0 145 #[V0 4,.bool true] w (Ret (V0 16) w):=by
 refine zin 31 Tryz.func145 ?_
 exact xe 98 (V0 16) ⟨rfl,(B4 w)⟩
theorem Zgi(w:World) :
 C0 85 #[V0 4,.bool true] w (Ret (V0 9) w):=by
 refine zin 16 Tryz.func85 ?_
 refine xr 9 (args:=#[V0 4,.bool true]) (Ln _) fun W1 a0=>?_
 exact xe 24 (V0 9) ⟨rfl,a0⟩
theorem Lp(w:World) :
 C0 145 #[V0 4,.bool false] w (Ret (V0 4) w):=by
 refine zin 31 Tryz.func145 ?_
 exact xe 41 (V0 4) ⟨rfl,(B4 w)⟩
theorem Zga(w:World) :
 C0 85 #[V0 4,.bool false] w (Ret (V0 18) w):=by
 refine zin 16 Tryz.func85 ?_
 refine xr 9 (args:=#[V0 4,.bool false]) (Lp _) fun W1 a0=>?_
 exact xe 24 (V0 18) ⟨rfl,a0⟩
theorem Bp(w:World) :
 C0 145 #[V0 5,.bool true] w (Ret (V0 4) w):=by
 refine zin 31 Tryz.func145 ?_
 exact xe 94 (V0 4) ⟨rfl,(B4 w)⟩
theorem Zha(w:World) :
 C0 85 #[V0 5,.bool true] w (Ret (V0 18) w):=by
 refine zin 16 Tryz.func85 ?_
 refine xr 9 (args:=#[V0 5,.bool true]) (Bp _) fun W1 a0=>?_
 exact xe 24 (V0 18) ⟨rfl,a0⟩
theorem Lm(w:World) :
 C0 145 #[V0 5,.bool false] w (Ret (V0 4) w):=by
 refine zin 31 Tryz.func145 ?_
 exact xe 41 (V0 4) ⟨rfl,(B4 w)⟩
theorem Zfb(w:World) :
 C0 85 #[V0 5,.bool false] w (Ret (V0 18) w):=by
 refine zin 16 Tryz.func85 ?_
 refine xr 9 (args:=#[V0 5,.bool false]) (Lm _) fun W1 a0=>?_
 exact xe 24 (V0 18) ⟨rfl,a0⟩
def Nb(t:Int)(leaf:Bool):Nat:=if leaf=false then 4 else if t=2 then 8 else if t=3 then 24 else if t=4 then 16 else 4
def Vg(t:Int)(leaf:Bool):Nat:=if leaf=false then 18 else if t=2 then 12 else if t=3 then 6 else if t=4 then 9 else 18
theorem Zf5(t:Int)(leaf:Bool)(h1:1≤t)(h2:t≤5)(w:World):C0 145 #[V0 t,.bool leaf] w (Ret (V0 (Nb t leaf:Int)) w):=by
 obtain rfl|rfl|rfl|rfl|rfl:t=1∨t=2∨t=3∨t=4∨t=5:=by omega
 all_goals cases leaf
 ·exact Bk w
 ·exact Bo w
 ·exact Lz w
 ·exact Bn w
 ·exact Lr w
 ·exact Lv w
 ·exact Lp w
 ·exact Ln w
 ·exact Lm w
 ·exact Bp w
theorem Td(t:Int)(leaf:Bool)(h1:1≤t)(h2:t≤5)(w:World):C0 85 #[V0 t,.bool leaf] w (Ret (V0 (Vg t leaf:Int)) w):=by
 obtain rfl|rfl|rfl|rfl|rfl:t=1∨t=2∨t=3∨t=4∨t=5:=by omega
 all_goals cases leaf
 ·exact Zfc w
 ·exact Zfh w
 ·exact Zf1 w
 ·exact Ze9 w
 ·exact Zgr w
 ·exact Zgj w
 ·exact Zga w
 ·exact Zgi w
 ·exact Zfb w
 ·exact Zha w
theorem Yu(t:Int)(leaf:Bool):1≤Vg t leaf∧Vg t leaf≤18:=by
 unfold Vg;repeat' split
 all_goals decide
theorem run_quo{P:Program}{a:Act}{o:Oper}{t:TypeId}{x y:Operand}{t2:TypeId}{p q r:Int}{k:IntKind}(ho:o.op=.binOp .quo t x y t2)(hx:a.eval x=.int k p)(hy:a.eval y=.int k q)(hq:q≠0)(hr:k.wrap (Int.tdiv p q)=r)(w:World) :
 (execOp a.eval o).run P w=.ok (.value (.int k r)) w:=by
 subst hr
 have hb:(binOp .quo t (.int k p) (.int k q)).run P w=.ok (.int k (k.wrap (p.tdiv q))) w:=by
  simp[binOp,Op.intDiv,hq]
 have hg:(eqGuard .quo t x y (.int k p) (.int k q)).run P w=.ok () w:=rfl
 simp only[execOp,ho,hx,hy,B8,hg,C9,hb]
 rfl
def ovN (n m:Nat):Nat:=max 1 ((n+m-1)/m)
theorem max_cast(a b:Nat):(if(b:Int)>(a:Int) then(b:Int) else(a:Int))=((max a b:Nat):Int):=by split<;>omega
theorem Qs(n m:Nat):1≤ovN n m:=by unfold ovN;omega
theorem Dy(n m:Nat)(hm:1≤m):ovN n m≤n+1:=by
 have:(n+m-1)/m≤n:=by
  rw[H6 M0]
  have:=Nat.le_mul_of_pos_left n hm
  omega
 unfold ovN;omega
theorem ov18{x:Nat}(h:2≤x):ovN x 18≤x/2:=by unfold ovN;omega
theorem Ew(n m:Nat)(w:World)(hn:n≤1000000)(hm:1≤m)(hm2:m≤1000000) :
 C0 86 #[V0 (n:Int),V0 (m:Int)] w (Ret (V0 (ovN n m:Int)) w):=by
 refine zin 12 Tryz.func86 ?_
 refine xwm 9 ((n:Int)+(m:Int)) (↑(n+m):Int) ?_
 refine xwm 0 ((↑(n+m):Int)-1) (↑((n+m)-1):Int) ?_
 refine xbo 1 (t:=3) (t2:=3) (fun _ _ _ _ zo zx zy V hV=>run_quo (r:=(↑((n+m-1)/m):Int)) zo zx zy M0 (Zjk (n+m-1) m M0 M0) V) ?_
 refine xq 0 (congrArg V0 (show(if(↑((n+m-1)/m):Int)>(1:Int) then(↑((n+m-1)/m):Int) else(1:Int):Int)=(↑(ovN n m):Int) from max_cast 1 ((n+m-1)/m))) ?_
 exact xe 4 (V0 (↑(ovN n m):Int)) ⟨rfl,(B4 w)⟩
def lenOf:Value→Nat
 | .slice _ n _=>n
 | _=>0
def nv (n:Nat):Value:=V0 (n:Int)
def Fz(x:Nat):List Nat:=if h:x≤1 then [x] else x::Fz (ovN x 18)
termination_by x
decreasing_by have:=ov18 (x:=x) M0;omega
theorem Kq{x:Nat}(h:x≤1):Fz x=[x]:=by rw[Fz];simp[h]
theorem Ke{x:Nat}(h:¬ x≤1):Fz x=x::Fz (ovN x 18):=by rw[Fz];simp[h]
theorem levs_sum{x:Nat}(h:1≤x):(Fz x).sum≤2*x:=by
 induction x using Nat.strongRecOn with
 | _ x ih =>
  by_cases h1:x≤1
  ·rw[Kq h1];simp;omega
  ·rw[Ke h1,H8]
   have h2:=ov18 (x:=x) M0
   have:=ih (ovN x 18) M0 (Qs _ _)
   omega
theorem levs_len{x:Nat}(h:1≤x):(Fz x).length≤x:=by
 induction x using Nat.strongRecOn with
 | _ x ih =>
  by_cases h1:x≤1
  ·rw[Kq h1];simpa using h
  ·rw[Ke h1,E4]
   have h2:=ov18 (x:=x) M0
   have:=ih (ovN x 18) M0 (Qs _ _)
   omega
theorem Jv{w:World}{b:O0}{n c:Nat}{l:List Nat}(h:Sl w (.slice b n c) n (l.map nv))(hl:l.length=n){k:Nat}(hk:k<n):b.isSome=true∧w.cell? (Xa b (k*1))=some (V0 ((l.getD k 0:Nat):Int)):=by
 have e:l.map nv=(l.map fun x:Nat=>(x:Int)).map V0:=by simp[nv]
 rw[e] at h
 have:=IntsN.elem h (by simpa using hl) hk
 rw[show(l.map fun x:Nat=>(x:Int)).getD k 0=((l.getD k 0:Nat):Int) by simp[List.getD,B5 (show k<l.length by omega)]] at this
 exact this
theorem Ou{xs:List Nat}{x j:Nat}(h:xs.length=j):(xs++[x]).getD j 0=x:=by subst h;simp[List.getD]
theorem Cm{L:List Nat}{k:Nat}(h:k<L.length):(L.take (k+1)).sum=(L.take k).sum+L.getD k 0:=by
 rw[List.take_add_one,F8];simp[List.getD,B5 h]
theorem Zky{L:List Nat}(k:Nat):(L.take k).sum≤L.sum:=by
 conv=>rhs;rw[←G3 k L,F8]
 omega
def Qv(t:Int)(n:Nat):List Nat:=Fz (ovN n (Vg t true))
def Zw(t:Int)(n:Nat):Nat:=(Qv t n).sum
theorem Zdr(t:Int)(n:Nat):(Qv t n).length≤n+1:=by
 have:=levs_len (Qs n (Vg t true));have:=Dy n (Vg t true) (Yu t true).1;unfold Qv;omega
theorem Yp(t:Int)(n:Nat):Zw t n≤2*n+2:=by
 have:=levs_sum (Qs n (Vg t true));have:=Dy n (Vg t true) (Yu t true).1;unfold Zw Qv;omega
theorem Za0(t:Int)(n:Nat)(w:World)(h1:1≤t)(h2:t≤5)(hn:n≤32768) :
 C0 40 #[V0 t,V0 (n:Int)] w (Qo (fun w' r=>∃ p c,r=.slice p (Qv t n).length c∧w'.ownsRow w.heap.size 3 1 (.slice p (Qv t n).length c) (Qv t n).length ((Qv t n).map nv)) w):=by
 have b0:=(Yu t true).1
 have c8:=(Yu t true).2
 have d1:=Dy n (Vg t true) b0
 have c1:=Qs n (Vg t true)
 refine zin 45 Tryz.func40 ?_
 refine xr 8 (args:=#[V0 t,.bool true]) (Td t true h1 h2 _) fun W1 b3=>?_
 refine xr 1 (args:=#[V0 t,.bool false]) (Td t false h1 h2 _) fun W2 b5=>?_
 refine xgk 10 [13,14] (show(((↑(Vg t true):Int)==(0:Int)):Bool)=false from by simp;omega) ?_
 refine xgk 4 [16,17,18] (show(decide ((n:Int)<(0:Int)):Bool)=false from decide_eq_false M0) ?_
 refine xk 5 (show(decide ((n:Int)>(32768:Int)):Bool)=false from decide_eq_false M0) ?_
 refine xr 6 (args:=#[V0 (n:Int),V0 (↑(Vg t true):Int)]) (Ew n (Vg t true) _ M0 b0 M0) fun W5 b1=>?_
 refine xbs 0 1 [V0 (↑(ovN n (Vg t true)):Int)] 3 fun b6 W6 n6=>?_
 have g6:=n6.ge (bln (bln b3 b5) b1)
 have hB:=bln (bln (bln b3 b5) b1) n6.below
 refine zl 5 45 (fun zm b8 V=>∃ (j x:Nat) (xs:List Nat) (p:O0) (c:Nat),b8=[(4,S0),(6,V0 18),(7,.slice p (j+1) c)]∧zm=40000-(j+1)∧B3 w V∧V.ownsRow w.heap.size 3 1 (.slice p (j+1) c) (j+1) ((xs++[x]).map nv)∧xs.length=j∧1≤x∧x≤32769∧xs++Fz x=Qv t n∧j+x≤40000) ⟨0,(ovN n (Vg t true)),[],_,_,rfl,rfl,hB,Zz (size:=1) (n:=1) n6.blk g6 rfl (by unfold maxLen;decide),rfl,c1,by omega,rfl,by omega⟩ ?_
 rintro _ _ W7 ⟨j,x,xs,p,c,rfl,rfl,a2,ho,a0,c5,c6,b4,hj⟩ J7 c4 r7
 refine xwm 6 ((↑(j+1):Int)-1) (j:Int) ?_
 refine xx 0 _ (j+1) j 1 (Jv (Ze ho) (by simp[a0]) (k:=j) M0).1 ?_
 refine xl 0 (by have:=(Jv (Ze ho) (by simp[a0]) (k:=j) M0).2;rwa [Ou a0] at this) ?_
 refine xid 3 ((x:Int)>(1:Int)) (fun b9=>?_) (fun b9=>?_)
 ·refine xwm 8 ((↑(j+1):Int)-1) (j:Int) ?_
  refine xx 0 _ (j+1) j 1 (Jv (Ze ho) (by simp[a0]) (k:=j) M0).1 ?_
  refine xl 0 (by have:=(Jv (Ze ho) (by simp[a0]) (k:=j) M0).2;rwa [Ou a0] at this) ?_
  refine xr 1 (args:=#[V0 (x:Int),V0 18]) (Ew x 18 _ M0 Do Do) fun W9 b2=>?_
  refine xbs 0 1 [V0 (↑(ovN x 18):Int)] 3 fun c9 c7 a3=>?_
  have a4:=bln a2 b2
  have d2:=a3.ge a4
  have a1:=Za ho b2
  have a8:=Zg a1 a3
  have a7:=Za a1 a3.below
  have a5:=bln a4 a3.below
  refine xbi 0 fun _ _ _ _ zJ zQ zo zx zy zK=>Zr (m:=1) (news:=[V0 (↑(ovN x 18):Int)]) (V0 0) 1 8 (j+1+1) (((xs++[x])++[ovN x 18]).map nv) zo Tryz.underlying27 K0 rfl Do zx a7 zy (a3.blk.sl 1 1 Do Do) rfl (by simp[Value.oneCell']) (by unfold maxLen;omega) M0 a5.size (by rfl) (by simp[nv]) fun c2 c0 d0 b7 c3 a6=>?_
  refine zK _ _ ?_
  have d3:=ov18 (x:=x) M0
  have a9:=a5.trans a6
  exact ze 3 (c4 _ _ _ ⟨j+1,(ovN x 18),xs++[x],_,_,rfl,rfl,a9,b7,by simp[a0],Qs _ _,by omega,by rw[←b4,Ke (x:=x) M0];simp,by omega⟩ M0)
 refine xe 12 (.slice p (j+1) c) ?_
 have e:Qv t n=xs++[x]:=by rw[←b4,Kq (x:=x) M0]
 have el:(Qv t n).length=j+1:=by rw[e];simp[a0]
 exact⟨_,rfl,a2,p,c,by rw[el],by rw[el,e];exact ho⟩
theorem Yq(t:Int)(n:Nat)(w:World)(h1:1≤t)(h2:t≤5)(hn:n≤32768) :
 C0 13 #[V0 t,V0 (n:Int)] w (Ret (V0 (Zw t n:Int)) w):=by
 refine zin 21 Tryz.func13 ?_
 refine xc 15 (args:=#[V0 t,V0 (n:Int)]) (Za0 t n _ h1 h2 hn) ?_
 rintro _ W1 ⟨_,rfl,a3,p,c,rfl,ho⟩
 have a2:=A6 w.heap.size
 have a1:=Zf ho a2
 refine zl 5 21 (fun zm a5 V=>∃ (k:Nat),a5=[(4,V0 0),(5,V0 (↑((Qv t n).take k).sum:Int)),(10,.slice p ((Qv t n).length) c),(11,V0 (↑((Qv t n).length):Int)),(12,V0 (k:Int))]∧zm=(Qv t n).length-((k:Int)).toNat∧B3 w V∧V.ownsRow w.heap.size 3 1 (.slice p (Qv t n).length c) (Qv t n).length ((Qv t n).map nv)∧k≤(Qv t n).length) ⟨0,rfl,rfl,a3,a1,A3 _⟩ ?_
 rintro _ _ W2 ⟨k,rfl,rfl,a0,ho,hk⟩ J2 a6 r2
 have a8:=Zdr t n
 have a2:=Yp t n
 unfold Zw at a2
 have a9:=Zky (L:=Qv t n) (k+1)
 have a7:k<(Qv t n).length→((Qv t n).take (k+1)).sum=((Qv t n).take k).sum+(Qv t n).getD k 0:=Cm
 refine xid 6 ((k:Int)<(↑((Qv t n).length):Int)) (fun a4=>?_) (fun a4=>?_)
 ·refine xx 6 _ ((Qv t n).length) k 1 (Jv (Ze ho) rfl (k:=k) M0).1 ?_
  refine xl 0 ((Jv (Ze ho) rfl (k:=k) M0).2) ?_
  refine xwm 6 ((↑((Qv t n).take k).sum:Int)+(↑((Qv t n).getD k 0):Int)) (↑(((Qv t n).take k).sum+((Qv t n).getD k 0)):Int) ?_
  refine xwm 5 ((k:Int)+1) (↑(k+1):Int) ?_
  refine xv1 2 5 (show(V0 (↑(((Qv t n).take k).sum+((Qv t n).getD k 0)):Int):Value)=V0 (↑((Qv t n).take (k+1)).sum:Int) from by rw[Cm M0]) ?_
  exact ze 0 (a6 _ _ _ ⟨k+1,rfl,rfl,a0,ho,by omega⟩ M0)
 refine xe 12 (V0 (↑((Qv t n).take k).sum:Int)) ?_
 have e:k=(Qv t n).length:=by omega
 subst e
 rw[K1]
 exact⟨rfl,a0⟩
def Vv(n m i:Nat):Nat:=min m (n-i*m)
theorem Zja{n m i:Nat}(hm:1≤m)(h:i<ovN n m):i*m≤n:=by
 unfold ovN at h
 rcases F9 i with rfl|hi
 ·omega
 ·have h1:i+1≤(n+m-1)/m:=by omega
  have h2:=(Nat.le_div_iff_mul_le M0).1 h1
  rw[D6] at h2
  omega
def Ap(n m k:Nat):List Value:=(List.range (ovN n m)).map fun i=>V0 (if i<k then(Vv n m i:Int) else 0)
def sizL(n m:Nat):List Nat:=(List.range (ovN n m)).map (Vv n m)
theorem Zh4(n m:Nat):Hn (Value.int .i64 0).cells.toList (ovN n m)=Ap n m 0:=by
 rw[show(Value.int .i64 0).cells.toList=[Value.int .i64 0] from rfl,Hn,Ap]
 simp[List.map_const']
theorem sizK_all(n m:Nat):Ap n m (ovN n m)=(sizL n m).map nv:=by
 unfold Ap sizL nv
 rw[M2]
 apply H9
 intro i hi
 rw[D9] at hi
 simp[hi]
theorem sizK_set{n m k:Nat}(h:k<ovN n m):(Ap n m k).set k (V0 (Vv n m k:Int))=Ap n m (k+1):=by
 apply G0
 intro i
 by_cases hi:i<ovN n m
 ·by_cases e:k=i
  ·subst e
   rw[K8 (by simpa [Ap] using h)]
   simp[Ap,B7 h]
  ·rw[L0 e]
   simp only[Ap,B9,B7 hi,C7]
   by_cases e2:i<k
   ·simp[e2,show i<k+1 by omega]
   ·simp[e2,show ¬ i<k+1 by omega]
 ·rw[C5 (by simp[Ap];omega),C5 (by simp[Ap];omega)]
theorem sizL_len(n m:Nat):(sizL n m).length=ovN n m:=by simp[sizL]
theorem Zfe(n m:Nat)(w:World)(hn:n≤32768)(hm:1≤m)(hm2:m≤32768) :
 C0 259 #[V0 (n:Int),V0 (m:Int)] w (Qo (fun w' r=>∃ p c,r=.slice p (ovN n m) c∧w'.ownsRow w.heap.size 3 1 (.slice p (ovN n m) c) (ovN n m) ((sizL n m).map nv)) w):=by
 have a8:=Dy n m hm
 refine zin 40 Tryz.func259 ?_
 refine xgk 11 [8,9] (show(decide ((n:Int)<(0:Int)):Bool)=false from decide_eq_false M0) ?_
 refine xgk 4 [11,12,13] (show(decide ((n:Int)>(32768:Int)):Bool)=false from decide_eq_false M0) ?_
 refine xk 5 (show(decide ((m:Int)<(1:Int)):Bool)=false from decide_eq_false M0) ?_
 refine xq 5 (congrArg V0 (show(if(32768:Int)<(m:Int) then(32768:Int) else(m:Int):Int)=(m:Int) from if_neg M0)) ?_
 refine xr 7 (args:=#[V0 (n:Int),V0 (m:Int)]) (Ew n m _ M0 hm M0) fun W3 a3=>?_
 refine xmk 0 fun _ _ _ _ zJ zQ zo zx zy zK=>Kf (ovN n m) (V0 0) 1 8 (Ap n m 0) zo zx zy Tryz.underlying27 K0 rfl M0 M0 (Zh4 n m) fun b4 W4 n4=>?_
 refine zK _ _ ?_
 have hB:=bln a3 n4.below
 refine zl 12 40 (fun zm a4 V=>∃ (k:Nat),a4=[(0,V0 (n:Int)),(1,V0 (m:Int)),(4,S0),(5,.slice (S1 b4) (ovN n m) (ovN n m)),(24,V0 (↑(ovN n m):Int)),(25,V0 (k:Int))]∧zm=ovN n m-((k:Int)).toNat∧B3 w V∧Blk V b4 (Ap n m k) 3∧k≤ovN n m) ⟨0,rfl,rfl,hB,n4.blk,A3 _⟩ ?_
 rintro _ _ W5 ⟨k,rfl,rfl,a1,a0,hk⟩ J5 a5 r5
 have a7:k<ovN n m→k*m≤n:=Zja hm
 refine xid 6 ((k:Int)<(↑(ovN n m):Int)) (fun a6=>?_) (fun a6=>?_)
 ·refine xwm 17 ((k:Int)*(m:Int)) (↑(k*m):Int) ?_
  refine xwm 0 ((n:Int)-(↑(k*m):Int)) (↑(n-(k*m)):Int) ?_
  refine xxb 1 b4 0 (ovN n m) k 1 ?_
  refine xsg 0 a0 (0+k*1) (V0 (if(↑(n-(k*m)):Int)<(m:Int) then(↑(n-(k*m)):Int) else(m:Int))) (by simp[Ap];omega) fun W7 u7 k7=>?_
  replace k7:Blk W7 b4 (Ap n m (k+1)) 3:=by rw[←(show(Ap n m k).set (0+k*1) (V0 (if(↑(n-(k*m)):Int)<(m:Int) then(↑(n-(k*m)):Int) else(m:Int)))=Ap n m (k+1) from by rw[show 0+k*1=k by omega,show(if(↑(n-(k*m)):Int)<(m:Int) then(↑(n-(k*m)):Int) else(m:Int))=(↑(Vv n m k):Int) from Zcz m (n-k*m)];exact sizK_set M0)];exact k7
  have g4:=n4.ge a3
  refine xwm 4 ((k:Int)+1) (↑(k+1):Int) ?_
  have a2:=u7.below a1 g4
  exact ze 2 (a5 _ _ _ ⟨k+1,rfl,rfl,a2,k7,by omega⟩ M0)
 have g4:=n4.ge a3
 refine xe 12 (.slice (S1 b4) (ovN n m) (ovN n m)) ?_
 have e:k=ovN n m:=by omega
 subst e
 have ho:=Zz (size:=1) (n:=ovN n m) a0 g4 (by simp[Ap]) (by unfold maxLen;omega)
 rw[sizK_all] at ho
 exact⟨_,rfl,a1,_,_,rfl,ho⟩
end Go.Proofs.YtekomodnkfhihaaGreatDoor
namespace Go.Proofs.YtekomodnkfhihaaGreatDoor
set_option maxHeartbeats 8000000
set_option maxRecDepth 100000
open Go.RowKit
set_option linter.unusedVariables false
theorem Zid(bs:ByteArray)(i:Nat)(r:Bl):ByteArray.toList.loop bs i r=r.reverse++bs.data.toList.drop i:=by
 have hs:bs.data.toList.length=bs.size:=by rw[K2];rfl
 rw[ByteArray.toList.loop]
 split
 ·rename_i h
  have h':i<bs.data.toList.length:=by omega
  rw[Zid bs (i+1) _,I3 h']
  have e:bs.get! i=bs.data.toList[i]:=by
   have h2:i<bs.data.size:=by rw[←K2];exact h'
   show bs.data[i]! = _
   rw[getElem!_pos bs.data i h2];simp
  rw[e];simp
 ·rename_i h
  rw[D7 M0];simp
termination_by bs.size-i
theorem Zc8(a:Bl):(⟨a.toArray⟩:ByteArray).toList=a:=by
 unfold ByteArray.toList;rw[Zid];simp
theorem str_beq(a b:Bl):((⟨a.toArray⟩:ByteArray).toList==(⟨b.toArray⟩:ByteArray).toList)=(a==b):=by rw[Zc8,Zc8]
theorem Qy{b:Bool}(h:(!b)=true):b=false:=by simpa using h
theorem Vd{b:Bool}(h:(!b)=false):b=true:=by simpa using h
end Go.Proofs.YtekomodnkfhihaaGreatDoor
namespace Go.Proofs.YtekomodnkfhihaaGreatDoor
set_option maxHeartbeats 8000000
set_option maxRecDepth 100000
open Go.RowKit Go.Extern.Stop Go.Stop Go.Extern
set_option linter.unusedVariables false
attribute [local irreducible] wpList wpAnyH Code.wp Oper.wp Go
theorem Yt{P:Program}{a:Act}{o:Oper}{src dst e:TypeId}{x:Operand}{b:O0}{n c:Nat}{l:Bl}{w:World}(ho:o.op=.convert src dst x)(hx:a.eval x=.slice b n c)(h:Bys w (.slice b n c) l)(hl:l.length=n)
 (hs:P.underlying src=some (.slice e)) (he:P.underlying e=some (.int .u8)) (hd:P.underlying dst=some .string):(execOp a.eval o).run P w=.ok (.value (.string ⟨l.toArray⟩)) w:=by
 have hr:(convert src dst (.slice b n c)).run P w=.ok (.string ⟨l.toArray⟩) w:=by
  subst hl
  rcases Sl.at h with hn|⟨g,a0,rfl,hc⟩
  ·obtain rfl:l=[]:=by simpa using hn
   cases b with
   | none=>rw[run_convert_bytes_string w src dst e none _ c hs he hd];rfl
   | some p=>exact run_convert_bytes_back w src dst e p c [] hs he hd (fun j hj=>by simp at hj)
  ·exact run_convert_bytes_back w src dst e _ c l hs he hd (fun j hj=>by rw[Addr.add_mid];exact hc j _ (by simp[B5 hj,bv]))
 simp only[execOp,ho,hx,B8,hr];rfl
theorem Al.below{B ba b g n c:Nat}{pa:O0}{ca f N k:Nat}{l:Bl}{w W:World}(h:Al B ba b g n c pa ca f N k l w)(hb:B3 w W):Al B ba b g n c pa ca f N k l W:=⟨h.blkA.below hb,h.blkI.below hb,Za h.data hb,Za h.nums hb⟩
theorem Qf{w:World}{base n c size:Nat}{e:TypeId}{p:O0}{xs:List Value}(h:w.ownsRow base e size (.slice p n c) n xs)(hn:0<n):∃ g,p=some ⟨g,0,none⟩∧n≤c:=by
 rcases h.2 with ⟨_,h0⟩|⟨g,a0,a1,hv,_,_,hc,_⟩
 ·omega
 ·simp only[B6] at hv;exact⟨g,hv.1,by omega⟩
theorem Bys.cap{w:World}{a:O0}{n c:Nat}{l:Bl}(h:Bys w (.slice a n c) l)(hl:l.length=n):n≤c:=by
 rcases h with ⟨a',c',h1,h2,_⟩|⟨b,a0,cap,h1,h2,_,_⟩
 ·omega
 ·simp only[B6] at h1;omega
theorem Zf3(b:Nat)(p0:O0)(n c f N:Nat)(fi:Int)(hfi:fi=(f:Int))(hN:n/256-f=N)(w:World)(hk:Blk w b [.slice p0 n c] 108)(hn:n≤3686400)(h1:1≤f)(h2:f≤n/256) :
 C0 42 #[P0 b,V0 fi] w (Qo (fun w' r=>∃ ba p c2,r=.tuple #[P0 ba,.nilIface]∧w.heap.size≤ba∧Blk w' ba [.slice p N c2,V0 0,P0 b] 169∧w'.ownsRow w.heap.size 3 1 (.slice p N c2) N ((Qn f N).map V0)) w):=by
 subst hfi hN;exact Zlb b p0 n c f w hk hn h1 h2
end Go.Proofs.YtekomodnkfhihaaGreatDoor
namespace Go.Proofs.YtekomodnkfhihaaGreatDoor
set_option maxHeartbeats 8000000
set_option maxRecDepth 100000
open Go.RowKit Go.Extern.Stop Go.Stop Go.Extern
set_option linter.unusedVariables false
attribute [local irreducible] wpList wpAnyH Code.wp Oper.wp Go
section
variable {P:Program} {a:Act}
end
theorem Bys.cut{w:World}{b:O0}{n c:Nat}{l:Bl}(h:Bys w (.slice b n c) l)(hl:l.length=n)(k m:Nat)(hk:k≤m)(hm:m≤n):Bys w (.slice (Uf b k c 1) (m-k) (c-k)) ((l.drop k).take (m-k)):=by
 have a0:((l.drop k).take (m-k)).length=m-k:=by simp;omega
 have a2:=Bys.cap h hl
 rcases h with ⟨a',c',h1,h2,h3⟩|⟨g,a1,a3,h1,h2,h3,h4⟩
 ·obtain rfl:k=0:=by omega
  obtain rfl:m=0:=by omega
  refine .inl ⟨Uf b 0 c 1,c-0,?_,by simp,by simp⟩
  simp
 ·simp only[B6] at h1
  obtain⟨rfl,_,rfl⟩:=h1
  by_cases hz:m-k=0
  ·refine .inl ⟨Uf (some ⟨g,a1,none⟩) k c 1,c-k,by rw[hz],by omega,?_⟩
   rw[hz];rfl
  ·refine .inr ⟨g,a1+k*1,c-k,?_,by omega,by omega,fun j x hj=>?_⟩
   ·rw[Uf,if_neg M0,a0];simp[Addr.add]
   ·rw[B9,E8] at hj
    split at hj
    ·rw[Eq] at hj
     have:=h4 (k+j) x (by rw[B9];exact hj)
     rwa [D5,D4]
    ·cases hj
def Ku(kind no:Int):Bool:=decide (1≤kind∧kind≤4∧0≤no∧no<14400)
end Go.Proofs.YtekomodnkfhihaaGreatDoor
namespace Go.Proofs.YtekomodnkfhihaaGreatDoor
set_option maxHeartbeats 8000000
set_option maxRecDepth 100000
open Go.RowKit Go.Extern.Stop Go.Stop Go.Extern
set_option linter.unusedVariables false
section
variable {P:Program} {Q:Exit→Act→World→Prop} {a:Act} {w:World} {K:Act→World→Prop}
theorem Zd1{o:Oper}{d x:Operand}{dT sT e:TypeId}{base g off n cap dLen dCap:Nat}{xs:List Value}(l:Bl)(xs':List Value)(ho:o.op=.call { callee:=.builtin .copy,args:=#[d,x],argTypes:=#[dT,sT] })(hu:P.underlying dT=some (.slice e))(hsz:(P.info? e).map (·.size)=some 1)
 (hd:a.eval d=.slice (some ⟨g,off,none⟩) dLen dCap) (hs:a.eval x=.string ⟨l.toArray⟩) (hown:w.ownsRow base e 1 (.slice (S1 g) n cap) n xs) (hm:l.length≤dLen) (hfit:off+l.length≤n)
 (hbase:base≤w.heap.size) (hxs:xs.take off++l.map bv++xs.drop (off+l.length)=xs')
 (h:∀ W,W.ownsRow base e 1 (.slice (S1 g) n cap) n xs'→w.grownBy W (Value.slice (S1 g) n cap).ownBlock→Below base w W→K (a.put o.dst (V0 (l.length:Int))) W):o.wp P a w K Q:=by
 obtain⟨hl,hr⟩:=hown
 rcases hr with ⟨hv,_⟩|⟨g2,b2,a1,hv,a5,hh,a7,a8,a4,a9⟩
 ·cases hv
 simp only[B6,A0,Addr.mk.injEq] at hv
 obtain⟨⟨rfl,_,_⟩,_,rfl⟩:=hv
 have b1:xs.length=n:=by simpa using hl
 have a3:a1.toList.length=cap:=by simpa using a4
 have a6:(l.map bv).length=l.length:=by simp
 have b3:∀ W,W.heap[g]? = some (.cells (a1.toList.take off++l.map bv++a1.toList.drop (off+l.length)).toArray e (0,0))→w.grownBy W (some g)→K (a.put o.dst (V0 (l.length:Int))) W:=by
  intro W hW hg
  refine h W ⟨?_,.inr ⟨g,cap,_,rfl,a5,hW,a7,a8,?_,?_⟩⟩ hg (Vx (v:=.slice (S1 g) n cap) hg ⟨hl,.inr ⟨g,cap,a1,rfl,a5,hh,a7,a8,a4,a9⟩⟩ (A6 _) hbase)
  ·rw[←hxs];simp;omega
  ·simp only[G8,A5,D1,I5,a3,D5,a6];omega
  ·have hA:(a1.toList.take off++l.map bv).length=off+l.length:=by simp only[A5,D1,a3,a6];omega
   rw[←hxs,←a9]
   simp only[D5]
   rw[List.take_append,A1 (by rw[hA];omega),hA,List.take_take,F7 (by omega:off≤n),List.drop_take]
 have a0:(⟨l.toArray⟩:ByteArray).size=l.length:=by show l.toArray.size=l.length;simp
 have a2:=Go.Lib.run_copy_row_string (P:=P) w dT sT o.type e g off dLen dCap ⟨l.toArray⟩ a1 e hu hsz hh (by rw[a0];exact hm) (by rw[a0,a4];omega)
 rw[a0] at a2
 have b0:Go.Lib.byteCells (⟨l.toArray⟩:ByteArray).data.toList=l.map bv:=rfl
 rw[b0] at a2
 have h2:(execOp a.eval o).run P w=.ok (.value (V0 (l.length:Int))) (w.setRow g (a1.toList.take off++l.map bv++a1.toList.drop (off+l.length)).toArray):=by
  simp[execOp,ho,resolve,invoke,builtin,hd,hs,a2,Result.andThen,goInt]
 exact Hb h2 (b3 _ (setRow_heap w g _ _ e _ hh) ⟨rfl,rfl,rfl,by simp,fun k _ hk=>setRow_other w g k _ (fun e=>hk (by rw[e]))⟩)
theorem Sl.head{b:O0}{n c:Nat}{xs:List Value}(h:Sl w (.slice b n c) n xs)(hn:xs.length=n)(m:Nat)(hm:m≤n):Sl w (.slice b m c) m (xs.take m):=by
 rcases h with ⟨a',c',h1,h2,h3⟩|⟨b',a0,a2,h1,h2,h3,h4⟩
 ·obtain rfl:m=0:=by omega
  simp only[B6] at h1
  exact .inl ⟨b,c,rfl,rfl,by simp⟩
 ·simp only[B6] at h1
  obtain⟨rfl,_,rfl⟩:=h1
  refine .inr ⟨b',a0,c,rfl,by omega,h3,fun j x hj=>h4 j x ?_⟩
  have a1:j<m:=by have:=(List.getElem?_eq_some_iff.1 hj).1;simp at this;omega
  rwa [F5 a1] at hj
def sv (l:Bl):Value:=.string ⟨l.toArray⟩
theorem Strs.elem{b:O0}{n c:Nat}{V:List Bl}(h:Sl w (.slice b n c) n (V.map sv))(hl:V.length=n){k:Nat}(hk:k<n):b.isSome=true∧w.cell? (Xa b (k*1))=some (.string ⟨(V.getD k []).toArray⟩):=by
 rcases h with ⟨a',c',h1,h2,h3⟩|⟨b',a0,a1,h1,h2,h3,h4⟩
 ·omega
 ·simp only[B6] at h1
  obtain⟨rfl,_,rfl⟩:=h1
  refine⟨rfl,?_⟩
  have:=h4 k (sv (V.getD k [])) (by simp[List.getD,B5 (show k<V.length by omega)])
  rw[D5]
  show w.cell? ((⟨b',a0,none⟩:Addr).add k)=_
  rw[Addr.add_mid]
  exact this
end
end Go.Proofs.YtekomodnkfhihaaGreatDoor
namespace Go.Proofs.YtekomodnkfhihaaGreatDoor
set_option maxHeartbeats 8000000
set_option maxRecDepth 100000
open Go.RowKit Go.Extern.Stop Go.Stop Go.Extern
set_option linter.unusedVariables false
attribute [local irreducible] wpList wpAnyH Code.wp Oper.wp Go
theorem Sl.cap{w:World}{b:O0}{n c:Nat}{xs:List Value}(h:Sl w (.slice b n c) n xs):n≤c:=by
 rcases h with ⟨a',c',h1,h2,_⟩|⟨b',a0,cap,h1,h2,_,_⟩
 ·omega
 ·simp only[B6] at h1;omega
def Bt(b:Bool):Int:=if b then 1 else 0
theorem Zdz(b:Bool):0≤Bt b∧Bt b<256:=by cases b<;>decide
structure NodeOk(t:Int)(leaf:Bool)(n m v:Nat)(K:List Int)(Vs:List (List UInt8)):Prop where
 ht1:1≤t
 ht2:t≤5
 hm:Vg t leaf=m
 hv:Nb t leaf=v
 hK:K.length=n
 hV:Vs.length=n
 hn:n≤m
 hl:leaf=false→1≤n
 hk0:∀ i,i<n→0≤K.getD i 0∧K.getD i 0≤281474976710655
 hk1:∀ j,j+1<n→K.getD j 0<K.getD (j+1) 0
 hw:∀ i,i<n→(Vs.getD i []).length=v
theorem En(t:Int)(leaf:Bool):4≤Nb t leaf∧Nb t leaf≤24:=by
 unfold Nb
 repeat' split
 all_goals decide
theorem fitN(t:Int)(leaf:Bool):12+Vg t leaf*8+Vg t leaf*Nb t leaf≤244:=by
 unfold Nb Vg
 repeat' split
 all_goals decide
theorem Zaa{K:List Int}{i j:Nat}(h:j<i):(K.take i).getD j 0=K.getD j 0:=by simp[List.getD,F5 h]
theorem Da(t:Int)(leaf:Bool)(m:Nat)(hm:Vg t leaf=m)(h1:1≤t)(h2:t≤5)(w:World):C0 85 #[V0 t,.bool leaf] w (Ret (V0 (m:Int)) w):=by
 subst hm;exact Td t leaf h1 h2 w
theorem Ps(t:Int)(leaf:Bool)(v:Nat)(hv:Nb t leaf=v)(h1:1≤t)(h2:t≤5)(w:World):C0 145 #[V0 t,.bool leaf] w (Ret (V0 (v:Int)) w):=by
 subst hv;exact Zf5 t leaf h1 h2 w
theorem Zih(leaf:Bool)(w:World) :
 C0 280 #[.bool leaf] w (Ret (V0 (Bt leaf)) w):=by
 refine zin 4 Tryz.func280 ?_
 refine xi 11 leaf (fun a0=>?_) (fun a0=>?_)
 ·exact xe 7 (V0 1) ⟨by simp_all [Bt],(B4 w)⟩
 exact xe 8 (V0 0) ⟨by simp_all [Bt],(B4 w)⟩
theorem Zdd(a:O0)(i c:Nat)(L:List Int)(k:Int)(w:World)(hL:L.length=i)(h:Sl w (.slice a i c) i (L.map V0))(h1:0≤k)(h2:k≤281474976710655)(h3:∀ j,i=j+1→L.getD j 0<k)(hi:i≤1000) :
 C0 273 #[.slice a i c,V0 k] w (Ret (V0 0) w):=by
 refine zin 26 Tryz.func273 ?_
 refine xgk 12 [7,8] (show(decide (k<(0:Int)):Bool)=false from decide_eq_false M0) ?_
 refine xk 6 (show(decide (k>(281474976710655:Int)):Bool)=false from decide_eq_false M0) ?_
 refine xg 6 [15,16] (decide ((i:Int)>(0:Int))) (fun a0=>?_) (fun a0=>?_)
 ·have a0:=of_decide_eq_true a0
  refine xwm 3 ((i:Int)-1) (↑(i-1):Int) ?_
  refine xx 0 _ i (i-1) 1 (IntsN.elem h hL (k:=(i-1)) M0).1 ?_
  refine xl 0 ((IntsN.elem h hL (k:=(i-1)) M0).2) ?_
  refine xk 6 (show(decide ((L.getD (i-1) 0)≥k):Bool)=false from decide_eq_false (by have:=h3 (i-1) M0;omega)) ?_
  exact xe 9 (V0 0) ⟨rfl,(B4 w)⟩
 have a0:=of_decide_eq_false a0
 exact xe 22 (V0 0) ⟨rfl,(B4 w)⟩
theorem Zeb(t:Int)(leaf:Bool)(n m v:Nat)(K:List Int)(Vs:List Bl)(ak av:O0)(ck cv:Nat)(w:World)(N:NodeOk t leaf n m v K Vs)(hKs:Sl w (.slice ak n ck) n (K.map V0))(hVs:Sl w (.slice av n cv) n (Vs.map sv)) :
 C0 279 #[.agg #[V0 t,.bool leaf,.slice ak n ck,.slice av n cv]] w (Ret (.bool true) w):=by
 have c0:=N.ht1
 have b9:=N.ht2
 have c9:=N.hn
 have c2:=En t leaf
 rw[N.hv] at c2
 have c5:=Yu t leaf
 rw[N.hm] at c5
 have b4:=fitN t leaf
 rw[N.hm,N.hv] at b4
 have c6:=Sl.cap hKs
 refine zin 70 Tryz.func279 ?_
 refine xa 2 [V0 t,.bool leaf,.slice ak n ck,.slice av n cv] 191 fun b1 W1 n1=>?_
 refine xb 6 0 n1.blk ?_
 refine xb 1 1 n1.blk ?_
 refine xr 0 (args:=#[V0 t,.bool leaf]) (Ps t leaf v N.hv c0 b9 _) fun W2 b7=>?_
 refine xd 5 .z ?_
 refine xgk (.b [0,1,2]) [12,13] (show(((v:Int)==(0:Int)):Bool)=false from by simp;omega) ?_
 have a5:=(n1.blk.below b7).below (Zb W2)
 refine xb (.e [3] 4) 2 a5 ?_
 refine xb (.e [5,6] 7) 0 a5 ?_
 refine xb (.e [8] 9) 1 a5 ?_
 refine xr (.o [] 10) (args:=#[V0 t,.bool leaf]) (Da t leaf m N.hm c0 b9 _) fun W4 b8=>?_
 refine xgk (.b [11,12,13]) [22,23,24] (show(decide ((n:Int)>(m:Int)):Bool)=false from decide_eq_false M0) ?_
 have a1:=a5.below b8
 refine xb (.e [14] 15) 3 a1 ?_
 refine xb (.e [16,17] 18) 2 a1 ?_
 refine xgk (.b [19,20,21,22]) [31,32,33] (show(((n:Int) != (n:Int)):Bool)=false from by simp) ?_
 refine xb (.e [23] 24) 1 a1 ?_
 refine xg (.b [25,26]) [36,37] (!leaf) (fun c3=>?_) (fun c3=>?_)
 ·refine xb (.e [27] 28) 2 a1 ?_
  refine xk (.r [29,30,31,32] 2) (show(((n:Int)==(0:Int)):Bool)=false from by have:=N.hl (by simp_all);simp;omega) ?_
  refine xb 6 2 a1 ?_
  have hB:=bln (bln (bln n1.below b7) (Zb W2)) b8
  refine zl 5 70 (fun zm b3 V=>∃ (i:Nat),b3=[(1,P0 b1),(3,V0 (v:Int)),(45,.slice ak n ck),(46,V0 (n:Int)),(47,V0 (i:Int))]∧zm=n-((i:Int)).toNat∧B3 w V∧Blk V b1 ([V0 t,.bool leaf,.slice ak n ck,.slice av n cv]) 191∧i≤n) ⟨0,rfl,rfl,hB,a1,A3 _⟩ ?_
  rintro _ _ W8 ⟨i,rfl,rfl,a6,a7,hi⟩ J8 c4 r8
  refine xid 6 ((i:Int)<(n:Int)) (fun c1=>?_) (fun c1=>?_)
  ·refine xx 7 _ n i 1 (IntsN.elem hKs N.hK (k:=i) M0).1 ?_
   refine xl 0 ((IntsN.elem (hKs.below a6) N.hK (k:=i) M0).2) ?_
   refine xb 7 2 a7 ?_
   refine xsH 1 (fun _ _ _ _ zo zx zy V=>Gd (k:=i) (b:=ak) (n:=n) (c:=ck) (i:=(i:Int)) (ki:=.i64) zo zx zy rfl M0 Tryz.underlying27 K0 V) ?_
   refine xr 1 (args:=#[.slice ak i ck,V0 (K.getD i 0)]) (Zdd ak i ck (K.take i) (K.getD i 0) _ (by rw[D1,N.hK];omega) (by rw[Gt];exact(hKs.below a6).head (by simpa using N.hK) i M0) (N.hk0 i M0).1 (N.hk0 i M0).2 (fun j e=>by subst e;rw[Zaa M0];exact N.hk1 j M0) M0) fun c8 a8=>?_
   have a3:=a7.below a8
   refine xb 3 3 a3 ?_
   refine xx 1 _ n i 1 (Strs.elem hVs N.hV (k:=i) M0).1 ?_
   have a9:=bln a6 a8
   refine xl 0 ((Strs.elem (hVs.below a9) N.hV (k:=i) M0).2) ?_
   refine xk 6 (show(((↑(Vs.getD i []).length:Int) != (v:Int)):Bool)=false from by rw[N.hw i M0];simp) ?_
   refine xw 4 ((i:Int)+1) ?_
   exact ze 2 (c4 _ _ _ ⟨i+1,rfl,rfl,a9,a3,by omega⟩ M0)
  exact xe 11 (.bool true) ⟨rfl,a6⟩
 refine xb (.r [27,28,29,30,31,32] 9) 2 a1 ?_
 have hB:=bln (bln (bln n1.below b7) (Zb W2)) b8
 refine zl 5 70 (fun zm b3 V=>∃ (i:Nat),b3=[(1,P0 b1),(3,V0 (v:Int)),(45,.slice ak n ck),(46,V0 (n:Int)),(47,V0 (i:Int))]∧zm=n-((i:Int)).toNat∧B3 w V∧Blk V b1 ([V0 t,.bool leaf,.slice ak n ck,.slice av n cv]) 191∧i≤n) ⟨0,rfl,rfl,hB,a1,A3 _⟩ ?_
 rintro _ _ d1 ⟨i,rfl,rfl,a2,a4,hi⟩ c7 b5 d0
 refine xid 6 ((i:Int)<(n:Int)) (fun b6=>?_) (fun b6=>?_)
 ·refine xx 7 _ n i 1 (IntsN.elem hKs N.hK (k:=i) M0).1 ?_
  refine xl 0 ((IntsN.elem (hKs.below a2) N.hK (k:=i) M0).2) ?_
  refine xb 7 2 a4 ?_
  refine xsH 1 (fun _ _ _ _ zo zx zy V=>Gd (k:=i) (b:=ak) (n:=n) (c:=ck) (i:=(i:Int)) (ki:=.i64) zo zx zy rfl M0 Tryz.underlying27 K0 V) ?_
  refine xr 1 (args:=#[.slice ak i ck,V0 (K.getD i 0)]) (Zdd ak i ck (K.take i) (K.getD i 0) _ (by rw[D1,N.hK];omega) (by rw[Gt];exact(hKs.below a2).head (by simpa using N.hK) i M0) (N.hk0 i M0).1 (N.hk0 i M0).2 (fun j e=>by subst e;rw[Zaa M0];exact N.hk1 j M0) M0) fun d2 b0=>?_
  have a0:=a4.below b0
  refine xb 3 3 a0 ?_
  refine xx 1 _ n i 1 (Strs.elem hVs N.hV (k:=i) M0).1 ?_
  have b2:=bln a2 b0
  refine xl 0 ((Strs.elem (hVs.below b2) N.hV (k:=i) M0).2) ?_
  refine xk 6 (show(((↑(Vs.getD i []).length:Int) != (v:Int)):Bool)=false from by rw[N.hw i M0];simp) ?_
  refine xw 4 ((i:Int)+1) ?_
  exact ze 2 (b5 _ _ _ ⟨i+1,rfl,rfl,b2,a0,by omega⟩ M0)
 exact xe 11 (.bool true) ⟨rfl,a2⟩
end Go.Proofs.YtekomodnkfhihaaGreatDoor
namespace Go.Proofs.YtekomodnkfhihaaGreatDoor
set_option maxHeartbeats 8000000
set_option maxRecDepth 100000
open Go.RowKit Go.Extern.Stop Go.Stop Go.Extern
set_option linter.unusedVariables false
section
variable {P:Program} {a:Act} {w:World} {K:Act→World→Prop} {Q:Exit→Act→World→Prop}
theorem Zbb(l:Bl):Lib.strCells ⟨l.toArray⟩=l.map bv:=by
 unfold Lib.strCells bv
 simp
theorem Eo{o:Oper}{s x:Operand}{t u e:TypeId}{base:Nat}{v:Value}{n:Nat}{xs:List Value}(l:Bl)(n':Nat)(xs':List Value)(ho:o.op=.call { callee:=.builtin .append,args:=#[s,x],argTypes:=#[t,u] })
 (ht:P.underlying t=some (.slice e)) (hu:P.underlying u=some .string) (hi:(P.info? e).map (fun i=>(i.zero,i.size,i.bytes))=some (some (.int .u8 0),1,1)) (hs:a.eval s=v) (hown:w.ownsRow base e 1 v n xs) (hx:a.eval x=.string ⟨l.toArray⟩)
 (hb:n+l.length≤100000000) (hbase:base≤w.heap.size) (hn:n+l.length=n') (hxs:xs++l.map bv=xs')
 (h:∀ b c W,W.ownsRow base e 1 (.slice b n' c) n' xs'→w.grownBy W v.ownBlock→Below base w W→K (a.put o.dst (.slice b n' c)) W):o.wp P a w K Q:=by
 cases hq:P.info? e with
 | none=>simp[hq] at hi
 | some i =>
  simp only[hq,C7,A0,C8] at hi
  have a0:(⟨l.toArray⟩:ByteArray).size=l.length:=by simp[ByteArray.size]
  obtain⟨v',W,hr,h2,h3,_⟩:=Lib.run_append_own_string (P:=P) w base t u o.type e i ht hu hq hi.1 hi.2.1 hi.2.2 v n xs hown ⟨l.toArray⟩ (by rw[a0];unfold maxLen;omega) (by rw[a0];omega) hbase
  rw[a0,Zbb] at h2
  subst hn hxs
  obtain⟨b,c,rfl⟩:=(Ze h2).slice
  unfold Oper.wp execOp
  simp only[ho,resolve,invoke,builtin,B8,Ge,C9,Id,F4,I8,hs,hx,hr]
  exact h b c W h2 h3 (Vx h3 hown (A6 _) hbase)
theorem Ig(g k:Nat):Xa (S1 g) (k*1)=⟨g,k,none⟩:=by
 simp[Xa,Addr.add];exact fun h=>h.symm
theorem Xk{o:Oper}{t e:TypeId}{x y:Operand}{g n c k base:Nat}{xs:List Value}{v:Value}(ho:o.op=.store t x y)(hx:a.eval x=.pointer (some (Xa (S1 g) (k*1))))(hy:a.eval y=v)
 (hi:(P.info? t).map (·.size)=some 1) (h1:v.oneCell'=true) (hown:w.ownsRow base e 1 (.slice (S1 g) n c) n xs) (hk:k<n)
 (h:∀ W,Upd w g W→W.ownsRow base e 1 (.slice (S1 g) n c) n (xs.set k v)→K (a.put o.dst undef) W):o.wp P a w K Q:=by
 obtain⟨hl,h2⟩:=hown
 rcases h2 with ⟨h2,_⟩|⟨g',a3,a0,hv,hg,hh,hc,hm,a1,a2⟩
 ·cases h2
 ·simp only[B6,A0,Addr.mk.injEq] at hv
  obtain⟨⟨rfl,_⟩,_,rfl⟩:=hv
  have hb:Blk w g a0.toList e:=by unfold Blk;simpa using hh
  rw[Ig] at hx
  refine Wo ho hx hy hi h1 hb (by simp;omega) fun W hu hW=>h W hu ⟨by simpa using hl,.inr ⟨g,c,(a0.toList.set k v).toArray,rfl,hg,hW,hc,hm,by simpa using a1,?_⟩⟩
  rw[←a2]
  simp[List.take_set]
end
section
variable {P:Program} {ops:Array Oper} {Q:Exit→Act→World→Prop} {a a':Act} {w:World} {S:World→Prop} {md:Region.Mode} {L L':Array Bool} {fuel:Nat}
end
theorem Qa{w:World}{base e size g n c:Nat}{xs:List Value}(h:w.ownsRow base e size (.slice (S1 g) n c) n xs):base≤g:=(h.lt g rfl).1
theorem Dh{w:World}{base e size g n c:Nat}{xs:List Value}(h:w.ownsRow base e size (.slice (S1 g) n c) n xs):∃ cs,Blk w g cs e:=by
 rcases h.2 with ⟨h2,_⟩|⟨g',a1,a0,hv,hg,hh,_⟩
 ·cases h2
 ·simp only[B6,A0,Addr.mk.injEq] at hv
  obtain⟨⟨rfl,_⟩,_⟩:=hv
  exact⟨a0.toList,by unfold Blk;simpa using hh⟩
theorem Xd{w:World}{base e size g n c b:Nat}{t:TypeId}{xs cs:List Value}(k:Blk w b cs t)(h:w.ownsRow base e size (.slice (S1 g) n c) n xs)(hne:t≠e):b≠g:=by
 rintro rfl
 obtain⟨a0,k'⟩:=Dh h
 have h1:w.heap[b]? = some (.cells cs.toArray t (0,0)):=k
 rw[show w.heap[b]? = some (.cells a0.toArray e (0,0)) from k'] at h1
 simp only[A0,Obj.cells.injEq] at h1
 exact hne h1.2.1.symm
theorem Zd.of_updRow{T:List TypeId}{w W:World}{base e size g n c:Nat}{xs:List Value}(u:Upd w g W)(h:w.ownsRow base e size (.slice (S1 g) n c) n xs)(hT:T.contains e=true):Zd T w W:=by
 obtain⟨cs,k⟩:=Dh h
 exact Zd.of_upd u k hT
theorem Upd.ownRow{w W:World}{base base2 e e2 size size2 g n c n2:Nat}{v:Value}{xs ys:List Value}(u:Upd w g W)(h:w.ownsRow base2 e2 size2 v n2 ys)(o:w.ownsRow base e size (.slice (S1 g) n c) n xs)(hne:e2≠e):W.ownsRow base2 e2 size2 v n2 ys:=by
 obtain⟨cs,k⟩:=Dh o
 exact u.own2 h k hne
end Go.Proofs.YtekomodnkfhihaaGreatDoor
namespace Go.Proofs.YtekomodnkfhihaaGreatDoor
set_option maxHeartbeats 8000000
set_option maxRecDepth 100000
open Go.RowKit Go.Extern.Stop Go.Stop Go.Extern
set_option linter.unusedVariables false
attribute [local irreducible] wpList wpAnyH Code.wp Oper.wp Go
abbrev Ty:=Nat×Int×Int
def partC(p:Ty):List Value:=[V0 (p.1:Int),V0 p.2.1,V0 p.2.2]
theorem It(p:Ty):(partC p).length=3:=rfl
def Jb:Ty:=(4,0,0)
def Dq(ps:List Ty):Prop:=ps.length≤1000∧∀ i,i<ps.length→((ps.getD i Jb).1=4∨(ps.getD i Jb).1=8)∧0≤(ps.getD i Jb).2.1∧(ps.getD i Jb).2.2<9223372036854775808∧((ps.getD i Jb).1=4→(ps.getD i Jb).2.2<4294967296)
def inP (p:Ty)(n:Int):Bool:=decide (p.2.1≤n∧n≤p.2.2)
def Mb(ps:List Ty)(N:List Int)(k:Nat):Bool:=(List.range k).all fun i=>inP (ps.getD i Jb) (N.getD i 0)
theorem Zfy(ps:List Ty)(N:List Int)(k:Nat):Mb ps N (k+1)=(Mb ps N k&&inP (ps.getD k Jb) (N.getD k 0)):=by simp[Mb,C1]
theorem Rx{ps:List Ty}{N:List Int}{i k:Nat}(hi:i<k)(h:inP (ps.getD i Jb) (N.getD i 0)=false):Mb ps N k=false:=by
 unfold Mb
 rw[List.all_eq_false]
 exact⟨i,D9.2 hi,by rw[h];decide⟩
def Zgb(ps:List Ty)(N:List Int)(k:Nat):Bl:=(List.range k).flatMap fun i=>leB (N.getD i 0) (ps.getD i Jb).1
theorem Og(ps:List Ty)(N:List Int)(k:Nat):Zgb ps N (k+1)=Zgb ps N k++leB (N.getD k 0) (ps.getD k Jb).1:=by simp[Zgb,C1]
def wids(ps:List Ty)(k:Nat):List Nat:=(List.range k).map fun i=>(ps.getD i Jb).1
theorem Zan(ps:List Ty)(k:Nat):wids ps (k+1)=wids ps k++[(ps.getD k Jb).1]:=by simp[wids,C1]
theorem Cn(ps:List Ty)(N:List Int)(k:Nat):(Zgb ps N k).length=(wids ps k).sum:=by
 induction k with
 | zero=>rfl
 | succ k ih=>rw[Og,Zan,A5,Zj,ih];simp
theorem Pack_48(g w:Nat)(n:Int)(W:World)(hw:w=4∨w=8)(h0:0≤n)(hb:w=4→n<4294967296)(hk:Blk W g [V0 (w:Int),V0 n] 178):C0 97 #[.slice (S1 g) 1 1] W (Qo (fun w' r=>∃ p c,r=.tuple #[.slice p w c,V0 0]∧w'.ownsRow W.heap.size 5 1 (.slice p w c) w ((leB n w).map bv)) W):=by
 rcases hw with rfl|rfl
 ·exact Ef g n h0 (hb rfl) W hk
 ·exact Zkf g n h0 W hk
def ValPutP(ps:List Ty)(N:List Int)(w:World)(e:Ending)(w':World):Prop :=
 (Mb ps N ps.length=false∧e=.returned (.string ⟨#[]⟩)∧B3 w w')∨(Mb ps N ps.length=true∧e=.returned (.string ⟨(Zgb ps N ps.length).toArray⟩)∧B3 w w')
theorem Ze7(ps:List Ty)(N:List Int)(gl gn:O0)(cl cn:Nat)(w:World)(hps:Dq ps)(hNl:N.length=ps.length)(hP:Sts partC w (.slice gl ps.length cl) ps)(hN:Sl w (.slice gn ps.length cn) ps.length (N.map V0)) :
 C0 146 #[.slice gl ps.length cl,.slice gn ps.length cn] w (ValPutP ps N w):=by
 have c3:=hps.1
 refine zin 51 Tryz.func146 ?_
 have hB:=Below.refl w.heap.size w
 refine zl 19 51 (fun zm b2 V=>∃ (i m:Nat) (q:O0) (d:Nat),b2=[(1,.slice gn ps.length cn),(5,.slice q m d),(10,.slice gl ps.length cl),(11,V0 (ps.length:Int)),(12,V0 (i:Int))]∧zm=ps.length-((i:Int)).toNat∧B3 w V∧V.ownsRow w.heap.size 5 1 (.slice q m d) m ((Zgb ps N i).map bv)∧i≤ps.length∧m=(wids ps i).sum∧m≤i*8∧Mb ps N i=true) ⟨0,0,_,_,rfl,rfl,hB,A4 _ _ _ _,A3 _,rfl,A3 _,rfl⟩ ?_
 rintro _ _ W1 ⟨i,m,q,d,rfl,rfl,a1,ho,hi,hm,c0,a6⟩ J1 b6 r1
 refine xid 6 ((i:Int)<(ps.length:Int)) (fun b9=>?_) (fun b9=>?_)
 ·refine xx 7 _ ps.length i 3 (Sts.cell hP It Jb (k:=i) (i:=0) M0 rfl).1 ?_
  refine xlv 0 (Sts.rp (k:=i) (hP.below a1) It Jb M0 Do) ?_
  refine xa 0 [V0 0,V0 0,V0 0] 298 fun b3 W3 n3=>?_
  have g3:=n3.ge a1
  refine xsv 1 n3.blk [V0 (↑(ps.getD i Jb).1:Int),V0 ((ps.getD i Jb).2.1),V0 ((ps.getD i Jb).2.2)] fun W4 u4 k4=>?_
  refine xd 4 .z ?_
  refine xx (.e [0,1] 2) _ ps.length i 1 (IntsN.elem hN hNl (k:=i) M0).1 ?_
  have a0:=bln (u4.below (bln a1 n3.below) g3) (Zb W4)
  refine xl (.e [] 3) ((IntsN.elem (hN.below a0) hNl (k:=i) M0).2) ?_
  have a3:=k4.below (Zb W4)
  refine xb (.e [4] 5) 1 a3 ?_
  refine xg (.b [6,7]) [23,24] (decide ((N.getD i 0)<(ps.getD i Jb).2.1)) (fun a5=>?_) (fun a5=>?_)
  ·have a5:=of_decide_eq_true a5
   exact xe (.r [8,9,10,11,12,13,14,15] 15) (.string ⟨#[]⟩) (.inl ⟨Rx (i:=i) M0 (decide_eq_false M0),rfl,a0⟩)
  have a5:=of_decide_eq_false a5
  refine xx (.e [8,9] 10) _ ps.length i 1 (IntsN.elem hN hNl (k:=i) M0).1 ?_
  refine xl (.e [] 11) ((IntsN.elem (hN.below a0) hNl (k:=i) M0).2) ?_
  refine xb (.e [12] 13) 2 a3 ?_
  refine xid (.r [14,15] 2) ((N.getD i 0)>(ps.getD i Jb).2.2) (fun b8=>?_) (fun b8=>?_)
  ·exact xe 12 (.string ⟨#[]⟩) (.inl ⟨Rx (i:=i) M0 (decide_eq_false M0),rfl,a0⟩)
  refine xd 3 .z ?_
  have b0:=a3.below (Zb W4.drew)
  refine xb (.e [0] 1) 0 b0 ?_
  refine xx (.e [2,3] 4) _ ps.length i 1 (IntsN.elem hN hNl (k:=i) M0).1 ?_
  have a2:=bln a0 (Zb W4.drew)
  refine xl (.e [] 5) ((IntsN.elem (hN.below a2) hNl (k:=i) M0).2) ?_
  refine xbs (.o [6] 7) 1 [V0 (↑(ps.getD i Jb).1:Int),V0 (N.getD i 0)] 178 fun b7 W7 n7=>?_
  have g7:=n7.ge a2
  refine yc (.o [] 8) (args:=#[.slice (S1 b7) 1 1]) .z (Pack_48 b7 (ps.getD i Jb).1 (N.getD i 0) _ (hps.2 i M0).1 (by have:=(hps.2 i M0).2.1;omega) (fun q=>by have:=(hps.2 i M0).2.2.2 q;omega) n7.blk) ?_
  rintro _ W8 ⟨_,rfl,a9,p2,c2,rfl,h2⟩
  have b4:=(bln a2 n7.below).size
  refine⟨a9,?_⟩
  have b1:=Za (Za (Za (Za (u4.own2 (Za ho n3.below) n3.blk Do) (Zb W4)) (Zb W4.drew)) n7.below) a9
  have a7:=Zf h2 b4
  have a4:=bln (bln a2 n7.below) a9
  refine xbi (.r [9,10,11,12,13] 5) fun _ _ _ _ zJ zQ zo zx zy zK=>Zr (m:=(ps.getD i Jb).1) (news:=(leB (N.getD i 0) (ps.getD i Jb).1).map bv) (.int .u8 0) 1 1 ((m+(ps.getD i Jb).1)) (((Zgb ps N (i+1)).map bv)) zo Tryz.underlying50 K0 rfl Do zx b1 zy (Ze a7) (by simp[Zj]) (Xw _) (by unfold maxLen;have:=(hps.2 i M0).1;omega) (by have:=(hps.2 i M0).1;omega) a4.size (by rfl) (by rw[Og,A9]) fun c1 c5 W9 o9 c4 b5=>?_
  refine zK _ _ ?_
  refine xwm 5 ((i:Int)+1) (↑(i+1):Int) ?_
  have a8:=a4.trans b5
  exact ze 2 (b6 _ _ _ ⟨i+1,_,_,_,rfl,rfl,a8,o9,by omega,by rw[Zan,hm];simp,by have:=(hps.2 i M0).1;omega,by rw[Zfy,a6];exact decide_eq_true ⟨by omega,by omega⟩⟩ M0)
 refine Zj5 8 (fun _ _ _ zo zx=>Yt zo zx (Ya (Ze ho) (by rw[Cn];exact hm.symm)) (by rw[Cn];exact hm.symm) Tryz.underlying50 Tryz.underlying5 Tryz.underlying9) ?_
 refine xe 4 (.string ⟨(Zgb ps N i).toArray⟩) ?_
 obtain rfl:i=ps.length:=by omega
 exact .inr ⟨a6,rfl,a1⟩
theorem Zba(ps:List Ty)(N:List Int)(gl gn:O0)(cl cn n:Nat)(w:World)(hps:Dq ps)(hn:n=ps.length)(hNl:N.length=n)(hP:Sts partC w (.slice gl ps.length cl) ps)(hN:Sl w (.slice gn n cn) n (N.map V0)) :
 C0 146 #[.slice gl ps.length cl,.slice gn n cn] w (fun e w'=>(Mb ps N n=false∧e=.returned (.string ⟨#[]⟩)∧B3 w w')∨(Mb ps N n=true∧e=.returned (.string ⟨(Zgb ps N ps.length).toArray⟩)∧B3 w w')):=by
 subst hn;exact Ze7 ps N gl gn cl cn w hps hNl hP hN
def mapP:List Ty:=[(8,0,1099511627775)]
theorem mapP_ok:Dq mapP:=by
 refine⟨by decide,fun i hi=>?_⟩
 have a0:i<1:=hi
 obtain rfl:i=0:=by omega
 simp[mapP,List.getD]
def detP:List Ty:=[(8,0,16384),(8,0,2147483647),(4,0,16777215),(4,0,16777215)]
theorem Zh0:Dq detP:=by
 refine⟨by decide,fun i hi=>?_⟩
 have a0:i<4:=hi
 obtain rfl|rfl|rfl|rfl:i=0∨i=1∨i=2∨i=3:=by omega
 all_goals simp[detP,List.getD]
abbrev Mp:=Int×Int×Int
def Rp(m:Mp):List Value:=[V0 m.1,V0 m.2.1,V0 m.2.2]
theorem Xj(m:Mp):(Rp m).length=3:=rfl
abbrev Dv:=(Int×Int×Int×Int)×List Mp
structure MapsOk(data:Int)(M:List Mp):Prop where
 rise:M.Pairwise (fun x y=>x.1<y.1)
 each:∀ m∈M,(0≤m.1∧m.1≤281474976710655)∧(0≤m.2.1∧m.2.1<data)∧0≤m.2.2∧m.2.2≤16777215
theorem MapsOk.nil(data:Int):MapsOk data []:=⟨.nil,fun _ h=>by cases h⟩
structure DevOk(data:Int)(d:Dv):Prop where
 id:0≤d.1.1∧d.1.1≤16777215
 tx:0≤d.1.2.1∧d.1.2.1≤2147483647
 made:0≤d.1.2.2.1∧d.1.2.2.1≤16777215
 snap:0≤d.1.2.2.2∧d.1.2.2.2≤16777215
 maps:MapsOk data d.2
def Vo(L:List Dv):Nat:=(L.map fun d=>d.2.length).sum
structure DevsOk(data:Int)(L:List Dv):Prop where
 few:L.length≤4096
 sum:Vo L≤16384
 rise:L.Pairwise (fun x y=>x.1.1<y.1.1)
 each:∀ d∈L,DevOk data d
theorem DevsOk.nil(data:Int):DevsOk data []:=⟨by decide,by decide,.nil,fun _ h=>by cases h⟩
def mpD:Mp:=(0,0,0)
def inZ (n lo hi:Int):Bool:=decide (lo≤n∧n≤hi)
theorem Mc{n lo hi:Int}:inZ n lo hi=true↔lo≤n∧n≤hi:=decide_eq_true_iff
def dvE (d:Dv)(last:Int):Int:=if inZ d.1.1 0 16777215&&(inZ d.1.2.1 0 2147483647&&(inZ d.1.2.2.1 0 16777215&&inZ d.1.2.2.2 0 16777215)) then(if d.1.1≤last then 8 else 0) else 2
def mpE (data:Int)(m:Mp)(last:Int):Int:=if inZ m.1 0 281474976710655&&(inZ m.2.1 0 (data-1)&&inZ m.2.2 0 16777215) then(if m.1≤last then 8 else 0) else 2
def Wq(data:Int):List Mp→Int→Int
 | [],_=>0
 | m::r,last=>if mpE data m last≠0 then mpE data m last else Wq data r m.1
def Zd3(data:Int):List Dv→Int→Int
 | [],_=>0
 | d::r,last=>if dvE d last≠0 then dvE d last else if Wq data d.2 (-1)≠0 then Wq data d.2 (-1) else Zd3 data r d.1.1
def Zhc(L:List Dv):Int:=IntKind.i64.wrap (Vo L:Int)
def Yg(tx time unit data:Int)(L:List Dv):Int :=
 if(inZ tx 0 2147483647&&inZ time 0 16777215)&&(inZ unit 1 65536&&inZ data 0 65536) then(if 4096<L.length∨16384<Zhc L then 2 else Zd3 data L (-1)) else 2
theorem mpE_2{data:Int}{m:Mp}{last:Int}(h:(inZ m.1 0 281474976710655&&(inZ m.2.1 0 (data-1)&&inZ m.2.2 0 16777215))=false):mpE data m last=2:=if_neg (by rw[h];decide)
theorem mpE_8{data:Int}{m:Mp}{last:Int}(h:(inZ m.1 0 281474976710655&&(inZ m.2.1 0 (data-1)&&inZ m.2.2 0 16777215))=true)(h2:m.1≤last):mpE data m last=8:=(if_pos h).trans (if_pos h2)
theorem Zkn{data:Int}{m:Mp}{last:Int}(h:(inZ m.1 0 281474976710655&&(inZ m.2.1 0 (data-1)&&inZ m.2.2 0 16777215))=true)(h2:¬ m.1≤last):mpE data m last=0:=(if_pos h).trans (if_neg h2)
theorem dvE_2{d:Dv}{last:Int}(h:(inZ d.1.1 0 16777215&&(inZ d.1.2.1 0 2147483647&&(inZ d.1.2.2.1 0 16777215&&inZ d.1.2.2.2 0 16777215)))=false):dvE d last=2:=if_neg (by rw[h];decide)
theorem dvE_8{d:Dv}{last:Int}(h:(inZ d.1.1 0 16777215&&(inZ d.1.2.1 0 2147483647&&(inZ d.1.2.2.1 0 16777215&&inZ d.1.2.2.2 0 16777215)))=true)(h2:d.1.1≤last):dvE d last=8:=(if_pos h).trans (if_pos h2)
theorem dvE_0{d:Dv}{last:Int}(h:(inZ d.1.1 0 16777215&&(inZ d.1.2.1 0 2147483647&&(inZ d.1.2.2.1 0 16777215&&inZ d.1.2.2.2 0 16777215)))=true)(h2:¬ d.1.1≤last):dvE d last=0:=(if_pos h).trans (if_neg h2)
theorem mpE_ok{data:Int}{m:Mp}{last:Int}:mpE data m last=0↔((0≤m.1∧m.1≤281474976710655)∧(0≤m.2.1∧m.2.1<data)∧0≤m.2.2∧m.2.2≤16777215)∧last<m.1:=by
 unfold mpE
 simp only[D3,Mc]
 split
 ·split
  ·exact⟨fun h=>absurd h Do,fun h=>by omega⟩
  ·exact⟨fun _=>by omega,fun _=>rfl⟩
 ·exact⟨fun h=>absurd h Do,fun h=>by omega⟩
theorem dvE_ok{d:Dv}{last:Int}:dvE d last=0↔((0≤d.1.1∧d.1.1≤16777215)∧(0≤d.1.2.1∧d.1.2.1≤2147483647)∧(0≤d.1.2.2.1∧d.1.2.2.1≤16777215)∧0≤d.1.2.2.2∧d.1.2.2.2≤16777215)∧last<d.1.1:=by
 unfold dvE
 simp only[D3,Mc]
 split
 ·split
  ·exact⟨fun h=>absurd h Do,fun h=>by omega⟩
  ·exact⟨fun _=>by omega,fun _=>rfl⟩
 ·exact⟨fun h=>absurd h Do,fun h=>by omega⟩
theorem Zbj{data:Int}:∀ {M:List Mp} {last:Int},Wq data M last=0↔MapsOk data M∧∀ m∈M,last<m.1
 | [],last=>⟨fun _=>⟨.nil _,fun _ h=>by cases h⟩,fun _=>rfl⟩
 | m::r,last=>by
  have ih:=@Zbj data r m.1
  show(if mpE data m last≠0 then mpE data m last else Wq data r m.1)=0↔_
  by_cases h:mpE data m last=0
  ·rw[if_neg (fun q=>q h),ih]
   have h2:=mpE_ok.1 h
   constructor
   ·rintro⟨a,b⟩
    refine⟨⟨.cons b a.rise,fun x hx=>?_⟩,fun x hx=>?_⟩
    ·rcases E9.1 hx with rfl|hx
     ·exact h2.1
     ·exact a.each x hx
    ·rcases E9.1 hx with rfl|hx
     ·exact h2.2
     ·have:=b x hx;omega
   ·rintro⟨a,_⟩
    obtain⟨c1,c2⟩:=List.pairwise_cons.1 a.rise
    exact⟨⟨c2,fun x hx=>a.each x (D8 _ hx)⟩,c1⟩
  ·rw[if_pos h]
   exact⟨fun q=>absurd q h,fun q=>absurd (mpE_ok.2 ⟨q.1.each m (C2 ..),q.2 m (C2 ..)⟩) h⟩
theorem Zio{data:Int}:∀ {L:List Dv} {last:Int},Zd3 data L last=0↔(L.Pairwise (fun x y=>x.1.1<y.1.1)∧∀ d∈L,DevOk data d)∧∀ d∈L,last<d.1.1
  | [],last=>⟨fun _=>⟨⟨.nil,fun _ h=>by cases h⟩,fun _ h=>by cases h⟩,fun _=>rfl⟩
  | d :: r, last => by
    have ih:=@Zio data r d.1.1
    show(if dvE d last≠0 then dvE d last else if Wq data d.2 (-1)≠0 then Wq data d.2 (-1) else Zd3 data r d.1.1)=0↔_
    by_cases h:dvE d last=0
    · rw[if_neg (fun q=>q h)]
      have h2:=dvE_ok.1 h
      by_cases g:Wq data d.2 (-1)=0
      · rw[if_neg (fun q=>q g),ih]
        have g2:=Zbj.1 g
        constructor
        · rintro⟨⟨a1,a2⟩,b⟩
          refine⟨⟨.cons b a1,fun x hx=>?_⟩,fun x hx=>?_⟩
          · rcases E9.1 hx with rfl|hx
            · exact⟨h2.1.1,h2.1.2.1,h2.1.2.2.1,h2.1.2.2.2,g2.1⟩
            · exact a2 x hx
          · rcases E9.1 hx with rfl|hx
            · exact h2.2
            · have:=b x hx;omega
        · rintro⟨⟨a1,a2⟩,_⟩
          obtain⟨c1,c2⟩:=List.pairwise_cons.1 a1
          exact⟨⟨c2,fun x hx=>a2 x (D8 _ hx)⟩,c1⟩
      · rw[if_pos g]
        refine⟨fun q=>absurd q g,fun q=>absurd (Zbj.2 ⟨(q.1.2 d (C2 ..)).maps,fun m hm=>?_⟩) g⟩
        have:=(q.1.2 d (C2 ..)).maps.each m hm;omega
    · rw[if_pos h]
      refine⟨fun q=>absurd q h,fun q=>absurd (dvE_ok.2 ⟨?_,q.2 d (C2 ..)⟩) h⟩
      have:=q.1.2 d (C2 ..)
      exact⟨this.id,this.tx,this.made,this.snap⟩
structure PoolOk(tx time unit data:Int)(L:List Dv):Prop where
 htx:0≤tx∧tx≤2147483647
 htime:0≤time∧time≤16777215
 hunit:1≤unit∧unit≤65536
 hdata:0≤data∧data≤65536
 devs:DevsOk data L
theorem Zjp{M:List Mp}(h:M.Pairwise (fun x y=>x.1<y.1))(h0:∀ m∈M,0≤m.1):∀ i (hi:i<M.length),(i:Int)≤M[i].1
 | 0,hi=>h0 _ (E5 hi)
 | i+1,hi=>by
  have ih:=Zjp h h0 i M0
  have:=List.pairwise_iff_getElem.1 h i (i+1) M0 hi M0
  omega
theorem maps_few{data:Int}{M:List Mp}(h:MapsOk data M):M.length≤281474976710656:=by
 by_cases h0:M.length=0
 ·omega
 ·have h1:=Zjp h.rise (fun m hm=>(h.each m hm).1.1) (M.length-1) M0
  have h2:=(h.each _ (E5 (show M.length-1<M.length by omega))).1.2
  omega
theorem sum_few{L:List Dv}{k:Nat}(h:∀ d∈L,d.2.length≤k):Vo L≤L.length*k:=by
 induction L with
 | nil=>exact A3 _
 | cons d r ih =>
  have h1:=h d (C2 ..)
  have h2:=ih fun x hx=>h x (D8 _ hx)
  have e:Vo (d::r)=d.2.length+Vo r:=rfl
  rw[e,E4,D6];omega
theorem Zka{data:Int}{L:List Dv}(hf:L.length≤4096)(h:∀ d∈L,DevOk data d):Zhc L=(Vo L:Int):=by
 have h1:=sum_few fun d hd=>maps_few (h d hd).maps
 have h2:L.length*281474976710656≤4096*281474976710656:=E7 _ hf
 exact IntWalk.i64_in _ M0
theorem Zdu(a b:Int):IntKind.i64.wrap (IntKind.i64.wrap a+b)=IntKind.i64.wrap (a+b):=by
 simp only[IntKind.wrap,IntKind.signed,IntKind.bits]
 simp
 try omega
theorem Qx{tx time unit data:Int}{L:List Dv}:Yg tx time unit data L=0↔PoolOk tx time unit data L:=by
 unfold Yg
 simp only[D3,Mc]
 split
 ·rename_i h
  split
  ·rename_i g
   refine⟨fun q=>absurd q Do,fun q=>?_⟩
   have a:=q.devs.few
   have b:=q.devs.sum
   rw[Zka a q.devs.each] at g
   omega
  ·rename_i g
   rw[Zio]
   constructor
   ·rintro⟨⟨a,b⟩,_⟩
    have hw:=Zka (L:=L) M0 b
    exact⟨h.1.1,h.1.2,h.2.1,h.2.2,by omega,by omega,a,b⟩
   ·intro q
    exact⟨⟨q.devs.rise,q.devs.each⟩,fun d hd=>by have:=(q.devs.each d hd).id;omega⟩
 ·rename_i h
  exact⟨fun q=>absurd q Do,fun q=>absurd ⟨⟨q.htx,q.htime⟩,q.hunit,q.hdata⟩ h⟩
theorem Zk5{L:List Dv}{n:Nat}(h:n<L.length){x:Dv}:Vo (L.take (n+1))=Vo (L.take n)+(L.getD n x).2.length:=by
 unfold Vo
 rw[A8 h,A9,F8]
 simp[List.getD,h]
theorem Yd{data:Int}{M:List Mp}{i:Nat}{x:Mp}{last:Int}(h:i<M.length):Wq data (M.drop i) last=if mpE data (M.getD i x) last≠0 then mpE data (M.getD i x) last else Wq data (M.drop (i+1)) (M.getD i x).1:=by
 rw[I3 h,show M.getD i x=M[i] from by simp[List.getD,h]];rfl
theorem So{data:Int}{M:List Mp}{i:Nat}{last:Int}(h:M.length≤i):Wq data (M.drop i) last=0:=by
 rw[D7 h];rfl
theorem Zkl{data:Int}{L:List Dv}{i:Nat}{x:Dv}{last:Int}(h:i<L.length):Zd3 data (L.drop i) last=if dvE (L.getD i x) last≠0 then dvE (L.getD i x) last else if Wq data (L.getD i x).2 (-1)≠0 then Wq data (L.getD i x).2 (-1) else Zd3 data (L.drop (i+1)) (L.getD i x).1.1:=by
 rw[I3 h,show L.getD i x=L[i] from by simp[List.getD,h]];rfl
theorem Zcx{data:Int}{L:List Dv}{i:Nat}{last:Int}(h:L.length≤i):Zd3 data (L.drop i) last=0:=by
 rw[D7 h];rfl
abbrev Zv:=Dv×O0×Nat
def zvD:Zv:=(((0,0,0,0),[]),none,0)
def devZ(z:Zv):List Value:=[V0 z.1.1.1,V0 z.1.1.2.1,V0 z.1.1.2.2.1,V0 z.1.1.2.2.2,.slice z.2.1 z.1.2.length z.2.2]
theorem Xs(z:Zv):(devZ z).length=5:=rfl
structure DevsR(w:World)(p:Option Addr)(c:Nat)(Z:List Zv):Prop where
 row:Sts devZ w (.slice p Z.length c) Z
 each:∀ i,i<Z.length→Sts Rp w (.slice (Z.getD i zvD).2.1 (Z.getD i zvD).1.2.length (Z.getD i zvD).2.2) (Z.getD i zvD).1.2
theorem DevsR.below{w W:World}{p:O0}{c:Nat}{Z:List Zv}(h:DevsR w p c Z)(hb:B3 w W):DevsR W p c Z:=⟨h.row.below hb,fun i hi=>(h.each i hi).below hb⟩
theorem DevsR.rowN{w:World}{p:O0}{c n:Nat}{Z:List Zv}(h:DevsR w p c Z)(hn:Z.length=n):Sl w (.slice p n c) n (Z.flatMap devZ):=by subst hn;exact h.row
theorem DevsR.someN{w:World}{p:O0}{c n i:Nat}{Z:List Zv}(h:DevsR w p c Z)(hn:Z.length=n)(hi:i<n):p.isSome=true:=by subst hn;exact(Sts.cell h.row Xs zvD (k:=i) (i:=0) hi rfl).1
theorem Gm(n lo hi:Int)(w:World) :
 C0 36 #[V0 n,V0 lo,V0 hi] w (Ret (.bool (inZ n lo hi)) w):=by
 refine zin 15 Tryz.func36 ?_
 refine xg 11 [9,10] (decide (lo≤n)) (fun a0=>?_) (fun a0=>?_)
 ·have a0:=of_decide_eq_true a0
  exact xe 8 (.bool (decide (n≤hi))) ⟨by rw[show inZ n lo hi=decide (n≤hi) from by unfold inZ;exact decide_eq_decide.2 M0],(B4 w)⟩
 have a0:=of_decide_eq_false a0
 exact xe 8 (.bool false) ⟨by rw[show inZ n lo hi=false from decide_eq_false M0],(B4 w)⟩
theorem Px(t:Int)(w:World) :
 C0 84 #[V0 t] w (Ret (.bool !(inZ t 0 16777215)) w):=by
 refine zin 6 Tryz.func84 ?_
 refine xr 8 (args:=#[V0 t,V0 0,V0 16777215]) (Gm t 0 16777215 _) fun W1 a0=>?_
 exact xe 5 (.bool (!(inZ t 0 16777215))) ⟨rfl,a0⟩
theorem indexT1(t:Int)(b:Nat)(w:World)(k:Blk w b [V0 t] 3) :
 C0 144 #[.slice (S1 b) 1 1,.func (.func 84) #[] #[]] w ((fun e w'=>((inZ t 0 16777215)=true∧e=.returned (V0 (-1))∧B3 w w')∨((inZ t 0 16777215)=false∧∃ i:Nat,e=.returned (V0 (i:Int))∧B3 w w'))):=by
 refine zin 19 Tryz.func144 ?_
 refine xu 14 2 ?_
 refine xb 23 0 k ?_
 refine xr 0 (args:=#[V0 t]) (Px t _) fun W1 a0=>?_
 refine xi 2 (!(inZ t 0 16777215)) (fun a1=>?_) (fun a1=>?_)
 ·exact xe 12 (V0 0) (.inr ⟨by simp_all,0,rfl,a0⟩)
 exact xe 26 (V0 (-1)) (.inl ⟨by simp_all,rfl,a0⟩)
theorem Zg6(t:Int)(b:Nat)(w:World)(k:Blk w b [V0 t] 3) :
 C0 83 #[.slice (S1 b) 1 1,.func (.func 84) #[] #[]] w (Ret (.bool !(inZ t 0 16777215)) w):=by
 refine zin 9 Tryz.func83 ?_
 refine xc 9 (args:=#[.slice (S1 b) 1 1,.func (.func 84) #[] #[]]) (indexT1 t b _ k) ?_
 rintro e W1 a1
 rcases a1 with ⟨hz,rfl,a0⟩|⟨hz,i0,rfl,a0⟩
 ·exact xe 5 (.bool false) ⟨by first|(rw[hz];rfl)|(rw[hz,decide_eq_true M0];rfl),a0⟩
 exact xe 5 (.bool (decide ((i0:Int)≥(0:Int)))) ⟨by first|(rw[hz];rfl)|(rw[hz,decide_eq_true M0];rfl),a0⟩
theorem Iq(tx:Int)(t:Int)(b:Nat)(w:World)(k:Blk w b [V0 t] 3) :
 C0 35 #[V0 tx,.slice (S1 b) 1 1] w (Ret (.bool ((inZ tx 0 2147483647)&&(inZ t 0 16777215))) w):=by
 refine zin 12 Tryz.func35 ?_
 refine xr 8 (args:=#[V0 tx,V0 0,V0 2147483647]) (Gm tx 0 2147483647 _) fun W1 a0=>?_
 refine xg 1 [6,7] (inZ tx 0 2147483647) (fun a1=>?_) (fun a1=>?_)
 ·have a2:=k.below a0
  refine xr 1 (args:=#[.slice (S1 b) 1 1,.func (.func 84) #[] #[]]) (Zg6 t b _ a2) fun W3 a3=>?_
  have hB:=bln a0 a3
  exact xe 6 (.bool (!(!(inZ t 0 16777215)))) ⟨by simp_all,hB⟩
 exact xe 8 (.bool false) ⟨by simp_all,a0⟩
theorem indexT2(t u:Int)(b:Nat)(w:World)(k:Blk w b [V0 t,V0 u] 3) :
 C0 144 #[.slice (S1 b) 2 2,.func (.func 84) #[] #[]] w ((fun e w'=>(((inZ t 0 16777215)&&(inZ u 0 16777215))=true∧e=.returned (V0 (-1))∧B3 w w')∨(((inZ t 0 16777215)&&(inZ u 0 16777215))=false∧∃ i:Nat,e=.returned (V0 (i:Int))∧B3 w w'))):=by
 refine zin 19 Tryz.func144 ?_
 refine xu 14 3 ?_
 refine xb 23 0 k ?_
 refine xr 0 (args:=#[V0 t]) (Px t _) fun W1 a0=>?_
 refine xi 2 (!(inZ t 0 16777215)) (fun a2=>?_) (fun a2=>?_)
 ·exact xe 12 (V0 0) (.inr ⟨by simp_all,0,rfl,a0⟩)
 have a3:=k.below a0
 refine xb 31 1 a3 ?_
 refine xr 0 (args:=#[V0 u]) (Px u _) fun W3 a1=>?_
 refine xi 2 (!(inZ u 0 16777215)) (fun a4=>?_) (fun a4=>?_)
 ·have hB:=bln a0 a1
  exact xe 12 (V0 1) (.inr ⟨by simp_all,1,rfl,hB⟩)
 have hB:=bln a0 a1
 exact xe 26 (V0 (-1)) (.inl ⟨by simp_all,rfl,hB⟩)
theorem Zfp(t u:Int)(b:Nat)(w:World)(k:Blk w b [V0 t,V0 u] 3) :
 C0 83 #[.slice (S1 b) 2 2,.func (.func 84) #[] #[]] w (Ret (.bool !((inZ t 0 16777215)&&(inZ u 0 16777215))) w):=by
 refine zin 9 Tryz.func83 ?_
 refine xc 9 (args:=#[.slice (S1 b) 2 2,.func (.func 84) #[] #[]]) (indexT2 t u b _ k) ?_
 rintro e W1 a1
 rcases a1 with ⟨hz,rfl,a0⟩|⟨hz,i0,rfl,a0⟩
 ·exact xe 5 (.bool false) ⟨by first|(rw[hz];rfl)|(rw[hz,decide_eq_true M0];rfl),a0⟩
 exact xe 5 (.bool (decide ((i0:Int)≥(0:Int)))) ⟨by first|(rw[hz];rfl)|(rw[hz,decide_eq_true M0];rfl),a0⟩
theorem Ij(tx:Int)(t u:Int)(b:Nat)(w:World)(k:Blk w b [V0 t,V0 u] 3) :
 C0 35 #[V0 tx,.slice (S1 b) 2 2] w (Ret (.bool ((inZ tx 0 2147483647)&&((inZ t 0 16777215)&&(inZ u 0 16777215)))) w):=by
 refine zin 12 Tryz.func35 ?_
 refine xr 8 (args:=#[V0 tx,V0 0,V0 2147483647]) (Gm tx 0 2147483647 _) fun W1 a0=>?_
 refine xg 1 [6,7] (inZ tx 0 2147483647) (fun a1=>?_) (fun a1=>?_)
 ·have a2:=k.below a0
  refine xr 1 (args:=#[.slice (S1 b) 2 2,.func (.func 84) #[] #[]]) (Zfp t u b _ a2) fun W3 a3=>?_
  have hB:=bln a0 a3
  exact xe 6 (.bool (!(!((inZ t 0 16777215)&&(inZ u 0 16777215))))) ⟨by simp_all,hB⟩
 exact xe 8 (.bool false) ⟨by simp_all,a0⟩
theorem Zcj(d:Dv)(last:Int)(a:O0)(n c:Nat)(w:World) :
 C0 38 #[.agg #[V0 d.1.1,V0 d.1.2.1,V0 d.1.2.2.1,V0 d.1.2.2.2,.slice a n c],V0 last] w (Ret (V0 (dvE d last)) w):=by
 refine zin 26 Tryz.func38 ?_
 refine xa 2 [V0 d.1.1,V0 d.1.2.1,V0 d.1.2.2.1,V0 d.1.2.2.2,.slice a n c] 32 fun b1 W1 n1=>?_
 refine xb 8 0 n1.blk ?_
 refine xr 0 (args:=#[V0 d.1.1,V0 0,V0 16777215]) (Gm d.1.1 0 16777215 _) fun W2 a3=>?_
 refine xg 2 [9,10] (!(inZ d.1.1 0 16777215)) (fun a0=>?_) (fun a0=>?_)
 ·have a0:=Qy a0
  have hB:=bln n1.below a3
  exact xe 22 (V0 2) ⟨by rw[dvE_2 (by rw[a0];rfl)],hB⟩
 have a0:=Vd a0
 have a1:=n1.blk.below a3
 refine xb 1 1 a1 ?_
 refine xb 1 2 a1 ?_
 refine xb 1 3 a1 ?_
 refine xbs 0 2 [V0 d.1.2.2.1,V0 d.1.2.2.2] 3 fun b4 W4 n4=>?_
 refine xr 0 (args:=#[V0 d.1.2.1,.slice (S1 b4) 2 2]) (Ij d.1.2.1 d.1.2.2.1 d.1.2.2.2 b4 _ n4.blk) fun W5 a4=>?_
 refine xi 5 (!((inZ d.1.2.1 0 2147483647)&&((inZ d.1.2.2.1 0 16777215)&&(inZ d.1.2.2.2 0 16777215)))) (fun a2=>?_) (fun a2=>?_)
 ·have a2:=Qy a2
  have hB:=bln (bln (bln n1.below a3) n4.below) a4
  exact xe 8 (V0 2) ⟨by rw[dvE_2 (by rw[a0,a2];rfl)],hB⟩
 have a2:=Vd a2
 have a5:=(a1.below n4.below).below a4
 refine xb 3 0 a5 ?_
 refine xid 5 (d.1.1≤last) (fun a6=>?_) (fun a6=>?_)
 ·have hB:=bln (bln (bln n1.below a3) n4.below) a4
  exact xe 8 (V0 8) ⟨by rw[dvE_8 (by rw[a0,a2];rfl) M0],hB⟩
 have hB:=bln (bln (bln n1.below a3) n4.below) a4
 exact xe 9 (V0 0) ⟨by rw[dvE_0 (by rw[a0,a2];rfl) M0],hB⟩
theorem Zby(a:O0)(c:Nat)(L:List Mp)(data:Int)(w:World)(hd:0≤data∧data≤65536)(ha:Sts Rp w (.slice a L.length c) L) :
 C0 39 #[.slice a L.length c,V0 data] w (Ret (V0 (Wq data L (-1))) w):=by
 have c1:=Sl.len ha
 refine zin 41 Tryz.func39 ?_
 have hB:=Below.refl w.heap.size w
 refine zl 19 41 (fun zm b8 V=>∃ (i:Nat) (a4:Int),b8=[(1,V0 data),(5,V0 a4),(8,.slice a L.length c),(9,V0 (L.length:Int)),(10,V0 (i:Int))]∧zm=L.length-((i:Int)).toNat∧B3 w V∧i≤L.length∧Wq data L (-1)=Wq data (L.drop i) a4) ⟨0,(-1),rfl,rfl,hB,A3 _,rfl⟩ ?_
 rintro _ _ W1 ⟨i,a4,rfl,rfl,a1,hi,he⟩ J1 b9 r1
 refine xid 6 ((i:Int)<(L.length:Int)) (fun c0=>?_) (fun c0=>?_)
 ·refine xx 6 _ L.length i 3 (Sts.cell ha Xj mpD (k:=i) (i:=0) M0 rfl).1 ?_
  refine xlv 0 (Sts.rp (k:=i) (ha.below a1) Xj mpD M0 Do) ?_
  refine xa 0 [V0 0,V0 0,V0 0] 63 fun b3 W3 n3=>?_
  have g3:=n3.ge a1
  refine xsv 0 n3.blk [V0 ((L.getD i mpD).1),V0 ((L.getD i mpD).2.1),V0 ((L.getD i mpD).2.2)] fun W4 u4 k4=>?_
  refine xb 7 0 k4 ?_
  refine xr 0 (args:=#[V0 ((L.getD i mpD).1),V0 0,V0 281474976710655]) (Gm ((L.getD i mpD).1) 0 281474976710655 _) fun W5 a5=>?_
  refine xg 2 [18,19] (!(inZ ((L.getD i mpD).1) 0 281474976710655)) (fun a2=>?_) (fun a2=>?_)
  ·have a2:=Qy a2
   have b5:=bln (u4.below (bln a1 n3.below) g3) a5
   exact xe 30 (V0 2) ⟨by rw[he,Yd (x:=mpD) M0,mpE_2 (by rw[a2];rfl)];rfl,b5⟩
  have a2:=Vd a2
  have a7:=k4.below a5
  refine xb 1 1 a7 ?_
  refine xw 1 (data-1) ?_
  refine xr 0 (args:=#[V0 ((L.getD i mpD).2.1),V0 0,V0 (data-1)]) (Gm ((L.getD i mpD).2.1) 0 (data-1) _) fun W7 a9=>?_
  refine xg 3 [25,26,27] (!(inZ ((L.getD i mpD).2.1) 0 (data-1))) (fun a3=>?_) (fun a3=>?_)
  ·have a3:=Qy a3
   have b7:=bln (bln (u4.below (bln a1 n3.below) g3) a5) a9
   exact xe 22 (V0 2) ⟨by rw[he,Yd (x:=mpD) M0,mpE_2 (by rw[a2,a3];rfl)];rfl,b7⟩
  have a3:=Vd a3
  have a6:=a7.below a9
  refine xb 1 2 a6 ?_
  refine xr 0 (args:=#[V0 ((L.getD i mpD).2.2),V0 0,V0 16777215]) (Gm ((L.getD i mpD).2.2) 0 16777215 _) fun W9 b0=>?_
  refine xi 5 (!(inZ ((L.getD i mpD).2.2) 0 16777215)) (fun a0=>?_) (fun a0=>?_)
  ·have a0:=Qy a0
   have b6:=bln (bln (bln (u4.below (bln a1 n3.below) g3) a5) a9) b0
   exact xe 13 (V0 2) ⟨by rw[he,Yd (x:=mpD) M0,mpE_2 (by rw[a2,a3,a0];rfl)];rfl,b6⟩
  have a0:=Vd a0
  have a8:=a6.below b0
  refine xb 3 0 a8 ?_
  refine xid 5 ((L.getD i mpD).1≤a4) (fun b1=>?_) (fun b1=>?_)
  ·have b2:=bln (bln (bln (u4.below (bln a1 n3.below) g3) a5) a9) b0
   exact xe 13 (V0 8) ⟨by rw[he,Yd (x:=mpD) M0,mpE_8 (by rw[a2,a3,a0];rfl) M0];rfl,b2⟩
  refine xb 5 0 a8 ?_
  refine xwm 5 ((i:Int)+1) (↑(i+1):Int) ?_
  have b4:=bln (bln (bln (u4.below (bln a1 n3.below) g3) a5) a9) b0
  exact ze 2 (b9 _ _ _ ⟨i+1,(L.getD i mpD).1,rfl,rfl,b4,by omega,by rw[he,Yd (x:=mpD) M0,Zkn (by rw[a2,a3,a0];rfl) M0];rfl⟩ M0)
 exact xe 11 (V0 0) ⟨by rw[he,So M0],a1⟩
theorem Rn{Z:List Zv}{i:Nat}(h:i<Z.length)(x:Dv):(Z.map Prod.fst).getD i x=(Z.getD i zvD).1:=by simp[List.getD,h]
theorem Xr{data:Int}{Z:List Zv}{i:Nat}{last:Int}(h:i<Z.length):Zd3 data ((Z.map Prod.fst).drop i) last=if dvE (Z.getD i zvD).1 last≠0 then dvE (Z.getD i zvD).1 last else if Wq data (Z.getD i zvD).1.2 (-1)≠0 then Wq data (Z.getD i zvD).1.2 (-1) else Zd3 data ((Z.map Prod.fst).drop (i+1)) (Z.getD i zvD).1.1.1:=by
 rw[Zkl (x:=zvD.1) (by rw[At];exact h),Rn h]
theorem Ga{Z:List Zv}{i:Nat}(h:i<Z.length):Vo ((Z.map Prod.fst).take (i+1))=Vo ((Z.map Prod.fst).take i)+(Z.getD i zvD).1.2.length:=by
 rw[Zk5 (x:=zvD.1) (by rw[At];exact h),Rn h]
theorem Zf2(p:O0)(c n:Nat)(t u v x:Int)(Z:List Zv)(w:World)(hZ:Z.length=n)(hP:DevsR w p c Z) :
 C0 37 #[.agg #[V0 t,V0 u,V0 v,V0 x,.slice p n c]] w (Ret (V0 (Zhc (Z.map Prod.fst))) w):=by
 have a7:=Sl.len (hP.rowN hZ)
 refine zin 20 Tryz.func37 ?_
 refine xa 2 [V0 t,V0 u,V0 v,V0 x,.slice p n c] 24 fun b1 W1 n1=>?_
 refine xb 12 4 n1.blk ?_
 refine zl 5 20 (fun zm a5 V=>∃ (i:Nat),a5=[(2,V0 0),(3,V0 (IntKind.i64.wrap (↑(Vo ((Z.map Prod.fst).take i)):Int))),(7,.slice p n c),(8,V0 (n:Int)),(9,V0 (i:Int))]∧zm=n-((i:Int)).toNat∧B3 w V∧Blk V b1 ([V0 t,V0 u,V0 v,V0 x,.slice p n c]) 24∧i≤n) ⟨0,rfl,rfl,n1.below,n1.blk,A3 _⟩ ?_
 rintro _ _ W2 ⟨i,rfl,rfl,a1,a2,hi⟩ J2 a6 r2
 refine xid 6 ((i:Int)<(n:Int)) (fun a4=>?_) (fun a4=>?_)
 ·refine xx 6 _ n i 5 (hP.someN hZ (i:=i) M0) ?_
  refine xlv 0 (Sts.rp (k:=i) (hP.below a1).row Xs zvD M0 Do) ?_
  refine xa 0 [V0 0,V0 0,V0 0,V0 0,S0] 32 fun b4 W4 n4=>?_
  have g4:=n4.ge a1
  refine xsv 0 n4.blk [V0 ((Z.getD i zvD).1.1.1),V0 ((Z.getD i zvD).1.1.2.1),V0 ((Z.getD i zvD).1.1.2.2.1),V0 ((Z.getD i zvD).1.1.2.2.2),.slice ((Z.getD i zvD).2.1) ((Z.getD i zvD).1.2.length) ((Z.getD i zvD).2.2)] fun W5 u5 k5=>?_
  refine xb 5 4 k5 ?_
  refine xwm 7 ((i:Int)+1) (↑(i+1):Int) ?_
  refine xv1 2 3 (show(V0 (IntKind.i64.wrap ((IntKind.i64.wrap (↑(Vo ((Z.map Prod.fst).take i)):Int))+(↑((Z.getD i zvD).1.2.length):Int))):Value)=V0 (IntKind.i64.wrap (↑(Vo ((Z.map Prod.fst).take (i+1))):Int)) from congrArg V0 ((Zdu _ _).trans (congrArg IntKind.i64.wrap (by have:=Ga (Z:=Z) (i:=i) M0;omega)))) ?_
  have a3:=u5.below (bln a1 n4.below) g4
  have a0:=u5.blkT (a2.below n4.below) n4.blk Do
  exact ze 0 (a6 _ _ _ ⟨i+1,rfl,rfl,a3,a0,by omega⟩ M0)
 exact xe 12 (V0 (IntKind.i64.wrap (↑(Vo ((Z.map Prod.fst).take i)):Int))) ⟨by unfold Zhc;rw[A1 (by rw[At];omega)],a1⟩
theorem Jq{tx time unit data:Int}{L:List Dv}(h:((inZ tx 0 2147483647&&inZ time 0 16777215)&&(inZ unit 1 65536&&inZ data 0 65536))=false):Yg tx time unit data L=2:=if_neg (by rw[h];decide)
theorem Nw{tx time unit data:Int}{L:List Dv}(h:((inZ tx 0 2147483647&&inZ time 0 16777215)&&(inZ unit 1 65536&&inZ data 0 65536))=true)(h2:4096<L.length∨16384<Zhc L):Yg tx time unit data L=2:=(if_pos h).trans (if_pos h2)
theorem Xv{tx time unit data:Int}{L:List Dv}(h:((inZ tx 0 2147483647&&inZ time 0 16777215)&&(inZ unit 1 65536&&inZ data 0 65536))=true)(h2:¬ (4096<L.length∨16384<Zhc L)):Yg tx time unit data L=Zd3 data L (-1):=(if_pos h).trans (if_neg h2)
theorem Ko(p:O0)(c n:Nat)(t u v x:Int)(Z:List Zv)(w:World)(hZ:Z.length=n)(hP:DevsR w p c Z) :
 C0 12 #[.agg #[V0 t,V0 u,V0 v,V0 x,.slice p n c]] w (Ret (V0 (Yg t u v x (Z.map Prod.fst))) w):=by
 have f0:=Sl.len (hP.rowN hZ)
 refine zin 60 Tryz.func12 ?_
 refine xa 2 [V0 t,V0 u,V0 v,V0 x,.slice p n c] 24 fun b1 W1 n1=>?_
 refine xb 7 0 n1.blk ?_
 refine xb 1 1 n1.blk ?_
 refine xbs 0 1 [V0 u] 3 fun b2 W2 n2=>?_
 refine xr 0 (args:=#[V0 t,.slice (S1 b2) 1 1]) (Iq t u b2 _ n2.blk) fun W3 b9=>?_
 refine xg 2 [14,15] (!((inZ t 0 2147483647)&&(inZ u 0 16777215))) (fun a3=>?_) (fun a3=>?_)
 ·have a3:=Qy a3
  have hB:=bln (bln n1.below n2.below) b9
  exact xe 21 (V0 2) ⟨by rw[Jq (by rw[a3];rfl)],hB⟩
 have a3:=Vd a3
 have c6:=(n1.blk.below n2.below).below b9
 refine xb 1 2 c6 ?_
 refine xr 0 (args:=#[V0 v,V0 1,V0 65536]) (Gm v 1 65536 _) fun W5 c2=>?_
 refine xg 3 [19,20,21] (!(inZ v 1 65536)) (fun a5=>?_) (fun a5=>?_)
 ·have a5:=Qy a5
  have hB:=bln (bln (bln n1.below n2.below) b9) c2
  exact xe 15 (V0 2) ⟨by rw[Jq (by rw[a3,a5];rfl)],hB⟩
 have a5:=Vd a5
 have c8:=c6.below c2
 refine xb 1 3 c8 ?_
 refine xr 0 (args:=#[V0 x,V0 0,V0 65536]) (Gm x 0 65536 _) fun W7 c7=>?_
 refine xi 4 (!(inZ x 0 65536)) (fun a4=>?_) (fun a4=>?_)
 ·have a4:=Qy a4
  have hB:=bln (bln (bln (bln n1.below n2.below) b9) c2) c7
  exact xe 7 (V0 2) ⟨by rw[Jq (by rw[a3,a5,a4];rfl)],hB⟩
 have a4:=Vd a4
 have b6:=c8.below c7
 refine xb 6 4 b6 ?_
 refine xg 3 [30,31] (decide ((n:Int)>(4096:Int))) (fun c4=>?_) (fun c4=>?_)
 ·have c4:=of_decide_eq_true c4
  have hB:=bln (bln (bln (bln n1.below n2.below) b9) c2) c7
  exact xe 14 (V0 2) ⟨by rw[Nw (by rw[a3,a5,a4];rfl) (by rw[At];omega)],hB⟩
 have c4:=of_decide_eq_false c4
 refine xlv 0 b6.rp ?_
 have hB:=bln (bln (bln (bln n1.below n2.below) b9) c2) c7
 refine xr 0 (args:=#[.agg #[V0 t,V0 u,V0 v,V0 x,.slice p n c]]) (Zf2 p c n t u v x Z _ hZ (hP.below hB)) fun e6 b0=>?_
 refine xid 4 ((Zhc (Z.map Prod.fst))>(16384:Int)) (fun d1=>?_) (fun d1=>?_)
 ·have d6:=bln hB b0
  exact xe 7 (V0 2) ⟨by rw[Nw (by rw[a3,a5,a4];rfl) (by rw[At];omega)],d6⟩
 have d4:¬ (4096<(Z.map Prod.fst).length∨16384<Zhc (Z.map Prod.fst)):=by rw[At];omega
 have c5:=b6.below b0
 refine xb 11 4 c5 ?_
 have d9:=bln hB b0
 have d3:=(((n2.blk.below b9).below c2).below c7).below b0
 refine zl 5 60 (fun zm e2 V=>∃ (i:Nat) (a2:Int),e2=[(1,P0 b1),(3,V0 a2),(37,.slice p n c),(38,V0 (n:Int)),(39,V0 (i:Int))]∧zm=n-((i:Int)).toNat∧B3 w V∧Blk V b1 ([V0 t,V0 u,V0 v,V0 x,.slice p n c]) 24∧Blk V b2 ([V0 u]) 3∧i≤n∧Zd3 x (Z.map Prod.fst) (-1)=Zd3 x ((Z.map Prod.fst).drop i) a2) ⟨0,(-1),rfl,rfl,d9,c5,d3,A3 _,rfl⟩ ?_
 rintro _ _ e3 ⟨i,a2,rfl,rfl,a0,c1,c0,hi,he⟩ e4 d8 e7
 have hx:=Mc.1 a4
 refine xid 6 ((i:Int)<(n:Int)) (fun d2=>?_) (fun d2=>?_)
 ·refine xx 6 _ n i 5 (hP.someN hZ (i:=i) M0) ?_
  refine xlv 0 (Sts.rp (k:=i) (hP.below a0).row Xs zvD M0 Do) ?_
  refine xa 0 [V0 0,V0 0,V0 0,V0 0,S0] 32 fun e5 e8 b5=>?_
  have e1:=b5.ge a0
  refine xsv 0 b5.blk [V0 ((Z.getD i zvD).1.1.1),V0 ((Z.getD i zvD).1.1.2.1),V0 ((Z.getD i zvD).1.1.2.2.1),V0 ((Z.getD i zvD).1.1.2.2.2),.slice ((Z.getD i zvD).2.1) ((Z.getD i zvD).1.2.length) ((Z.getD i zvD).2.2)] fun f1 c9 e0=>?_
  refine xlv 5 e0.rp ?_
  refine xr 1 (args:=#[.agg #[V0 ((Z.getD i zvD).1.1.1),V0 ((Z.getD i zvD).1.1.2.1),V0 ((Z.getD i zvD).1.1.2.2.1),V0 ((Z.getD i zvD).1.1.2.2.2),.slice ((Z.getD i zvD).2.1) ((Z.getD i zvD).1.2.length) ((Z.getD i zvD).2.2)],V0 a2]) (Zcj (Z.getD i zvD).1 a2 _ _ _ _) fun f2 a8=>?_
  refine xin 9 (dvE (Z.getD i zvD).1 a2) (0:Int) (fun b3=>?_) (fun b3=>?_)
  ·have d7:=bln (c9.below (bln a0 b5.below) e1) a8
   exact xe 13 (V0 (dvE (Z.getD i zvD).1 a2)) ⟨by rw[Xv (by rw[a3,a5,a4];rfl) d4,he,Xr M0,if_pos b3],d7⟩
  have b4:=e0.below a8
  refine xb 6 4 b4 ?_
  have a1:=(c9.blkT (c1.below b5.below) b5.blk Do).below a8
  refine xb 1 3 a1 ?_
  have b7:=bln (c9.below (bln a0 b5.below) e1) a8
  refine xr 0 (args:=#[.slice ((Z.getD i zvD).2.1) ((Z.getD i zvD).1.2.length) ((Z.getD i zvD).2.2),V0 x]) (Zby _ _ (Z.getD i zvD).1.2 x _ hx ((hP.below b7).each i M0)) fun e9 a7=>?_
  refine xin 9 (Wq x (Z.getD i zvD).1.2 (-1)) (0:Int) (fun b8=>?_) (fun b8=>?_)
  ·have d5:=bln b7 a7
   exact xe 13 (V0 (Wq x (Z.getD i zvD).1.2 (-1))) ⟨by rw[Xv (by rw[a3,a5,a4];rfl) d4,he,Xr M0,if_neg (fun q=>q b3),if_pos b8],d5⟩
  have c3:=b4.below a7
  refine xb 4 0 c3 ?_
  refine xwm 5 ((i:Int)+1) (↑(i+1):Int) ?_
  have d0:=bln b7 a7
  have a9:=a1.below a7
  have a6:=((c9.blkT (c0.below b5.below) b5.blk Do).below a8).below a7
  exact ze 2 (d8 _ _ _ ⟨i+1,(Z.getD i zvD).1.1.1,rfl,rfl,d0,a9,a6,by omega,by rw[he,Xr M0,if_neg (fun q=>q b3),if_neg (fun q=>q b8)]⟩ M0)
 exact xe 11 (V0 0) ⟨by rw[Xv (by rw[a3,a5,a4];rfl) d4,he,Zcx (by rw[At];omega)],a0⟩
def Qi(t:Int)(leaf:Bool)(n m v:Nat):Bl:=leB (Bt leaf) 1++leB t 1++leB (n:Int) 2++leB (v:Int) 2++leB (m:Int) 2++leB 0 4
theorem Up(t:Int)(leaf:Bool)(n m v:Nat):(Qi t leaf n m v).length=12:=by simp[Qi,Zj]
def Jz(m v:Nat)(H:Bl)(K:List Int)(Vs:List Bl):Nat→Bl
 | 0=>Km (List.replicate 244 0) 0 H
 | i+1=>Km (Km (Jz m v H K Vs i) (12+i*8) (leB (K.getD i 0) 8)) (12+m*8+i*v) (Vs.getD i [])
theorem Zah{m v:Nat}{H:Bl}{K:List Int}{Vs:List Bl}(hH:H.length=12)(hf:12+m*8+m*v≤244):∀ {i:Nat},i≤m→(∀ j,j<i→(Vs.getD j []).length=v)→(Jz m v H K Vs i).length=244
 | 0,_,_=>by rw[Jz,Kk (by rw[A7];omega),A7]
 | i+1,hi,hV=>by
  have ih:=Zah (K:=K) hH hf (i:=i) M0 (fun j hj=>hV j M0)
  have h1:=hV i M0
  have h2:(i+1)*v≤m*v:=E7 v hi
  rw[D6,E0] at h2
  have h3:(Km (Jz m v H K Vs i) (12+i*8) (leB (K.getD i 0) 8)).length=244:=by rw[Kk (by rw[Zj,ih];omega),ih]
  rw[Jz,Kk (by rw[h1,h3];omega),h3]
theorem node_Put(t:Int)(leaf:Bool)(n m v:Nat)(K:List Int)(Vs:List Bl)(ak av:O0)(ck cv:Nat)(w:World)(N:NodeOk t leaf n m v K Vs)(hKs:Sl w (.slice ak n ck) n (K.map V0))(hVs:Sl w (.slice av n cv) n (Vs.map sv)) :
 C0 260 #[.agg #[V0 t,.bool leaf,.slice ak n ck,.slice av n cv]] w (Qo (fun w' r=>∃ p c,r=.tuple #[.slice p 244 c,V0 0]∧w'.ownsRow w.heap.size 5 1 (.slice p 244 c) 244 ((Jz m v (Qi t leaf n m v) K Vs n).map bv)) w):=by
 have e7:=N.ht1
 have e0:=N.ht2
 have g0:=N.hn
 have f1:=En t leaf
 rw[N.hv] at f1
 have f5:=Yu t leaf
 rw[N.hm] at f5
 have d4:=fitN t leaf
 rw[N.hm,N.hv] at d4
 have f6:=Sl.cap hKs
 refine zin 90 Tryz.func260 ?_
 refine xa 2 [V0 t,.bool leaf,.slice ak n ck,.slice av n cv] 191 fun b1 W1 n1=>?_
 refine xlv 7 n1.blk.rp ?_
 refine xr 0 (args:=#[.agg #[V0 t,.bool leaf,.slice ak n ck,.slice av n cv]]) (Zeb t leaf n m v K Vs ak av ck cv _ N (hKs.below n1.below) (hVs.below n1.below)) fun W2 e6=>?_
 refine xd 7 .z ?_
 have a5:=(n1.blk.below e6).below (Zb W2)
 refine xb (.e [0] 1) 0 a5 ?_
 refine xb (.e [2] 3) 1 a5 ?_
 refine xb (.e [5] 6) 0 a5 ?_
 refine xb (.e [7] 8) 1 a5 ?_
 refine xr (.o [] 4) (args:=#[V0 t,.bool leaf]) (Ps t leaf v N.hv e7 e0 _) fun W3 e3=>?_
 refine xr (.o [] 9) (args:=#[V0 t,.bool leaf]) (Da t leaf m N.hm e7 e0 _) fun W4 e9=>?_
 refine xd (.r [10,11] 3) .z ?_
 have a8:=((a5.below e3).below e9).below (Zb W4)
 refine xb (.e [0] 1) 1 a8 ?_
 refine xb (.e [4] 5) 0 a8 ?_
 refine xb (.e [6,7] 8) 2 a8 ?_
 refine xr (.o [9,10,11,12,13,14,15] 2) (args:=#[.bool leaf]) (Zih leaf _) fun W5 e1=>?_
 refine xbs (.o [3] 16) 6 [V0 1,V0 (Bt leaf),V0 1,V0 t,V0 2,V0 (n:Int),V0 2,V0 (v:Int),V0 2,V0 (m:Int),V0 4,V0 0] 178 fun b6 W6 n6=>?_
 have b4:=bln (bln (bln (bln (bln (bln n1.below e6) (Zb W2)) e3) e9) (Zb W4)) e1
 have g6:=n6.ge b4
 refine yc (.o [] 17) (args:=#[.slice (S1 b6) 6 6]) .z (Ziz b6 (Bt leaf) t (n:Int) (v:Int) (m:Int) (Zdz leaf).1 (Zdz leaf).2 M0 M0 M0 M0 M0 M0 M0 M0 _ n6.blk) ?_
 rintro _ W7 ⟨_,rfl,c8,p2,c2,rfl,h2⟩
 have f3:=(bln b4 n6.below).size
 refine⟨c8,?_⟩
 refine xmk (.r [18,19,20,21,22] 4) fun _ _ _ _ zJ zQ zo zx zy zK=>Kf 244 (.int .u8 0) 1 1 ((List.replicate 244 (0:UInt8)).map bv) zo zx zy Tryz.underlying50 K0 rfl M0 M0 (Ea 244) fun b8 W8 n8=>?_
 have c6:=bln (bln b4 n6.below) c8
 have g8:=n8.ge c6
 have b7:=Zf h2 f3
 have e4:=Zg b7 n8
 refine zK _ _ ?_
 have o8:=Zz (size:=1) (n:=244) n8.blk g8 (by rw[At,A7]) (by unfold maxLen;omega)
 have c9:=Za b7 n8.below
 have c1:=bln c6 n8.below
 refine xbi 7 (t2:=50) fun _ _ _ _ zJ zQ zo zx zy zK=>We (dLen:=244) (dCap:=244) (off:=0) 12 ((Qi t leaf n m v).map bv) ((Jz m v (Qi t leaf n m v) K Vs 0).map bv) zo Tryz.underlying50 K0 zx zy (Ze c9) o8 (by simp[Up]) M0 M0 (Xw _) c1.size (by simp[Jz,Km,Up]) fun W9 o9 e8 e2=>?_
 refine zK _ _ ?_
 have b9:=((((a8.below e1).below n6.below).below c8).below n8.below).grown e8 o8 Do
 refine xb 6 2 b9 ?_
 have d3:=c1.trans e2
 have d7:=((n6.blk.below c8).below n8.below).grown e8 o8 Do
 refine zl 5 90 (fun zm f2 V=>∃ (i:Nat),f2=[(1,P0 b1),(2,S0),(3,V0 0),(4,V0 (v:Int)),(5,V0 (m:Int)),(8,.slice (S1 b8) 244 244),(52,.slice ak n ck),(53,V0 (n:Int)),(54,V0 (i:Int))]∧zm=n-((i:Int)).toNat∧B3 w V∧Blk V b1 ([V0 t,.bool leaf,.slice ak n ck,.slice av n cv]) 191∧Blk V b6 ([V0 1,V0 (Bt leaf),V0 1,V0 t,V0 2,V0 (n:Int),V0 2,V0 (v:Int),V0 2,V0 (m:Int),V0 4,V0 0]) 178∧V.ownsRow w.heap.size 5 1 (.slice (S1 b8) 244 244) 244 ((Jz m v (Qi t leaf n m v) K Vs i).map bv)∧i≤n) ⟨0,rfl,rfl,d3,b9,d7,o9,A3 _⟩ ?_
 rintro _ _ f9 ⟨i,rfl,rfl,a1,b5,a6,ho,hi⟩ g2 d0 f7
 have e2:i<n→i*v+v≤m*v:=fun h=>by have h9:(i+1)*v≤m*v:=E7 v M0;rw[D6,E0] at h9;exact h9
 refine xid 6 ((i:Int)<(n:Int)) (fun d2=>?_) (fun d2=>?_)
 ·refine xx 7 _ n i 1 (IntsN.elem hKs N.hK (k:=i) M0).1 ?_
  refine xl 0 ((IntsN.elem (hKs.below a1) N.hK (k:=i) M0).2) ?_
  refine xbs 8 1 [V0 8,V0 (K.getD i 0)] 178 fun e5 f8 a9=>?_
  have d6:=a9.ne a6
  have g1:=a9.ge a1
  refine xc 0 (args:=#[.slice (S1 e5) 1 1]) (Zkf e5 (K.getD i 0) (N.hk0 i M0).1 _ a9.blk) ?_
  rintro _ g5 ⟨_,rfl,a7,p3,c3,rfl,h3⟩
  have d5:=(bln a1 a9.below).size
  refine xwm 11 ((i:Int)*8) (↑(i*8):Int) ?_
  refine xwm 0 (12+(↑(i*8):Int)) (↑(12+(i*8)):Int) ?_
  refine xsL 0 (fun _ _ _ _ zo zx zy V=>Wt (k:=(12+(i*8))) (b:=b8) (off:=0) (n:=244) (c:=244) (i:=(↑(12+(i*8)):Int)) (ki:=.i64) 1 zo zx zy rfl M0 M0 Tryz.underlying50 K0 V) ?_
  have b3:=Za (Za ho a9.below) a7
  have d1:=Zf h3 d5
  have c0:=bln (bln a1 a9.below) a7
  refine xbi 1 (t2:=50) fun _ _ _ _ zJ zQ zo zx zy zK=>We (dLen:=(244-(12+(i*8)))) (dCap:=(244-(12+(i*8)))) (off:=(0+(12+(i*8))*1)) 8 ((leB (K.getD i 0) 8).map bv) ((Km (Jz m v (Qi t leaf n m v) K Vs i) (12+i*8) (leB (K.getD i 0) 8)).map bv) zo Tryz.underlying50 K0 zx zy (Ze d1) b3 (by simp[Zj]) M0 M0 (Xw _) c0.size (by simp[Km,Zj,Gt,H7]) fun c7 f0 c4 d9=>?_
  refine zK _ _ ?_
  refine xd 2 (.t w.heap.size [5]) ?_
  refine xwm (.e [0,1] 2) ((m:Int)*8) (↑(m*8):Int) ?_
  refine xwm (.e [] 3) (12+(↑(m*8):Int)) (↑(12+(m*8)):Int) ?_
  refine xwm (.e [4,5] 6) ((i:Int)*(v:Int)) (↑(i*v):Int) ?_
  refine xwm (.e [] 7) ((↑(12+(m*8)):Int)+(↑(i*v):Int)) (↑((12+(m*8))+(i*v)):Int) ?_
  refine xsL (.e [] 8) (fun _ _ _ _ zo zx zy V=>Wt (k:=((12+(m*8))+(i*v))) (b:=b8) (off:=0) (n:=244) (c:=244) (i:=(↑((12+(m*8))+(i*v)):Int)) (ki:=.i64) 1 zo zx zy rfl M0 M0 Tryz.underlying50 K0 V) ?_
  have a0:=(((b5.below a9.below).below a7).grown c4 b3 Do).below (Zb c7)
  refine xbt (.e [9] 10) 3 w.heap.size [5] a0 ?_
  refine xx (.e [11] 12) _ n i 1 (Strs.elem hVs N.hV (k:=i) M0).1 ?_
  have b0:=bln (c0.trans d9) (Zb c7)
  refine xlt (.e [] 13) (.t w.heap.size [5]) (fun V hV=>(Strs.elem (hVs.below (Vm b0 hV (A6 _))) N.hV (k:=i) M0).2) ?_
  have a2:=Za f0 (Zb c7)
  refine ybi (.o [] 14) (t2:=9) (.t w.heap.size [5]) fun _ _ _ _ zJ zQ zo zx zy zK=>Zd1 (dLen:=(244-((12+(m*8))+(i*v)))) (dCap:=(244-((12+(m*8))+(i*v)))) (off:=(0+((12+(m*8))+(i*v))*1)) (Vs.getD i []) ((Jz m v (Qi t leaf n m v) K Vs (i+1)).map bv) zo Tryz.underlying50 K0 zx zy a2 (by rw[N.hw i M0];omega) (by rw[N.hw i M0];omega) b0.size (by simp[Jz,Km,Gt,H7]) fun g3 f4 b2 c5=>?_
  refine zK _ _ (Zt c5 b2 a2 Do) ?_
  refine xwm 4 ((i:Int)+1) (↑(i+1):Int) ?_
  have d8:=b0.trans c5
  have a4:=a0.grown b2 a2 Do
  have a3:=((((a6.below a9.below).below a7).grown c4 b3 Do).below (Zb c7)).grown b2 a2 Do
  exact ze 2 (d0 _ _ _ ⟨i+1,rfl,rfl,d8,a4,a3,f4,by omega⟩ M0)
 refine xe 13 (.tuple #[.slice (S1 b8) 244 244,V0 0]) ?_
 have e:i=n:=by omega
 subst e
 exact⟨_,rfl,a1,_,_,rfl,ho⟩
theorem Pw(ba b:Nat)(v x:Value)(w:World)(hk:Blk w ba [v,x,P0 b] 169) :
 C0 151 #[P0 ba] w (Ret (P0 b) w):=by
 refine zin 9 Tryz.func151 ?_
 refine xr 9 (args:=#[P0 ba]) (Kz ba b _ _ _ hk) fun W1 a1=>?_
 have a0:=hk.below a1
 refine xb 10 2 a0 ?_
 exact xe 4 (P0 b) ⟨rfl,a1⟩
abbrev Ent:=Int×Bl×Int
def Xt:Ent:=(0,[],0)
def Yo(x:Ent):List Value:=[V0 x.1,.string ⟨x.2.1.toArray⟩,V0 x.2.2]
theorem Xg(x:Ent):(Yo x).length=3:=rfl
def Bv(l:List Ent):Nat→Int
 | 0=>-1
 | i+1=>(l.getD i Xt).1
structure EntsOk(v:Nat)(l:List Ent):Prop where
 hk:∀ i,i<l.length→0≤(l.getD i Xt).1∧(l.getD i Xt).1≤281474976710655
 hs:∀ j,j+1<l.length→(l.getD j Xt).1<(l.getD (j+1) Xt).1
 hw:∀ i,i<l.length→(l.getD i Xt).2.1.length=v
theorem EntsOk.last{v:Nat}{l:List Ent}(E:EntsOk v l){i:Nat}(h:i<l.length):Bv l i<(l.getD i Xt).1:=by
 cases i with
 | zero=>have:=(E.hk 0 h).1;simp only[Bv];omega
 | succ j=>exact E.hs j h
theorem Mz(x:Nat):x≤(Fz x).sum:=by
 by_cases h:x≤1
 ·rw[Kq h];simp
 ·rw[Ke h];simp
theorem Yx(t:Int)(n:Nat):1≤Zw t n:=by
 have h1:=Mz (ovN n (Vg t true));have h2:=Qs n (Vg t true);unfold Zw Qv;omega
theorem Za2(t:Int)(v:Nat)(a:O0)(c:Nat)(l:List Ent)(w:World)(ht1:1≤t)(ht2:t≤5)(hv:Nb t true=v)(E:EntsOk v l)(h:Sts Yo w (.slice a l.length c) l)(hn:l.length≤32768) :
 C0 213 #[V0 t,.slice a l.length c] w (Ret (.bool true) w):=by
 have a5:=En t true
 rw[hv] at a5
 have a8:=Yx t l.length
 refine zin 45 Tryz.func213 ?_
 refine xr 8 (args:=#[V0 t,.bool true]) (Ps t true v hv ht1 ht2 _) fun W1 a3=>?_
 refine xgk 9 [12,13] (show(((v:Int)==(0:Int)):Bool)=false from by simp;omega) ?_
 refine xr 3 (args:=#[V0 t,V0 (l.length:Int)]) (Yq t l.length _ ht1 ht2 hn) fun W3 a7=>?_
 refine xk 4 (show(((↑(Zw t l.length):Int)==(0:Int)):Bool)=false from by simp;omega) ?_
 have hB:=bln a3 a7
 refine zl 16 45 (fun zm a6 V=>∃ (i:Nat),a6=[(5,V0 (v:Int)),(6,V0 (Bv l i)),(20,.slice a l.length c),(21,V0 (l.length:Int)),(22,V0 (i:Int))]∧zm=l.length-((i:Int)).toNat∧B3 w V∧i≤l.length) ⟨0,rfl,rfl,hB,A3 _⟩ ?_
 rintro _ _ W4 ⟨i,rfl,rfl,a0,hi⟩ J4 a4 r4
 refine xid 6 ((i:Int)<(l.length:Int)) (fun a2=>?_) (fun a2=>?_)
 ·refine xx 6 _ l.length i 3 (Sts.cell h Xg Xt (k:=i) (i:=0) M0 rfl).1 ?_
  refine xlv 0 (Sts.rp (k:=i) (h.below a0) Xg Xt M0 Do) ?_
  refine xa 0 [V0 0,.string ⟨#[]⟩,V0 0] 124 fun b6 W6 n6=>?_
  have g6:=n6.ge a0
  refine xsv 0 n6.blk [V0 ((l.getD i Xt).1),.string ⟨((l.getD i Xt).2.1).toArray⟩,V0 ((l.getD i Xt).2.2)] fun W7 u7 k7=>?_
  refine xb 6 0 k7 ?_
  refine xgk 3 [29,30] (show(decide ((l.getD i Xt).1≤(Bv l i)):Bool)=false from decide_eq_false (by have:=E.last (i:=i) M0;omega)) ?_
  refine xb 1 0 k7 ?_
  refine xgk 3 [33,34,35] (show(decide ((l.getD i Xt).1>(281474976710655:Int)):Bool)=false from decide_eq_false (by have:=(E.hk i M0).2;omega)) ?_
  refine xb 1 1 k7 ?_
  refine xk 6 (show(((↑((l.getD i Xt).2.1).length:Int) != (v:Int)):Bool)=false from by rw[E.hw i M0];simp) ?_
  refine xb 4 0 k7 ?_
  refine xw 5 ((i:Int)+1) ?_
  have a1:=u7.below (bln a0 n6.below) g6
  exact ze 2 (a4 _ _ _ ⟨i+1,rfl,rfl,a1,by omega⟩ M0)
 exact xe 11 (.bool true) ⟨rfl,a0⟩
theorem Zea(w:World) :
 C0 149 #[] w (Qo (fun w' r=>∃ b,r=.slice (S1 b) 1 1∧w.heap.size≤b∧Blk w' b [V0 4,V0 1,V0 14399] 298) w):=by
 refine zin 3 Tryz.func149 ?_
 refine xbs 8 1 [V0 4,V0 1,V0 14399] 298 fun b1 W1 n1=>?_
 have g1:=n1.ge (B4 w)
 exact xe 4 (.slice (S1 b1) 1 1) ⟨_,rfl,n1.below,_,rfl,g1,n1.blk⟩
theorem Zgw(gl gn:Nat)(n:Int)(h1:1≤n)(h2:n≤14399)(w:World)(hl:Blk w gl [V0 4,V0 1,V0 14399] 298)(hn:Blk w gn [V0 n] 3) :
 C0 146 #[.slice (S1 gl) 1 1,.slice (S1 gn) 1 1] w (Ret (.string ⟨(leB n 4).toArray⟩) w):=by
 have b2:=h1
 have b3:=h2
 clear h2
 refine zin 51 Tryz.func146 ?_
 refine xu 19 2 ?_
 refine xlv 15 hl.rp ?_
 refine xa 0 [V0 0,V0 0,V0 0] 298 fun b1 W1 n1=>?_
 have a7:=n1.ne hl
 refine xsv 1 n1.blk [V0 4,V0 1,V0 14399] fun W2 u2 k2=>?_
 have g1:=n1.ge (B4 w)
 refine xd 4 .z ?_
 have a1:=(u2.blkT (hn.below n1.below) n1.blk Do).below (Zb W2)
 refine xb (.e [0,1,2] 3) 0 a1 ?_
 have a0:=k2.below (Zb W2)
 refine xb (.e [4] 5) 1 a0 ?_
 refine xgk (.b [6,7]) [23,24] (show(decide (n<(1:Int)):Bool)=false from decide_eq_false M0) ?_
 refine xb (.e [8,9,10] 11) 0 a1 ?_
 refine xb (.e [12] 13) 2 a0 ?_
 refine xk (.r [14,15] 2) (show(decide (n>(14399:Int)):Bool)=false from decide_eq_false M0) ?_
 refine xd 3 .z ?_
 have a5:=a0.below (Zb W2.drew)
 refine xb (.e [0] 1) 0 a5 ?_
 have a4:=a1.below (Zb W2.drew)
 refine xb (.e [2,3,4] 5) 0 a4 ?_
 refine xbs (.o [6] 7) 1 [V0 4,V0 n] 178 fun b4 W4 n4=>?_
 refine yc (.o [] 8) (args:=#[.slice (S1 b4) 1 1]) .z (Ef b4 n M0 M0 _ n4.blk) ?_
 rintro _ W5 ⟨_,rfl,a6,p2,c2,rfl,h2⟩
 have a9:=(bln (bln (bln (u2.below n1.below g1) (Zb W2)) (Zb W2.drew)) n4.below).size
 refine⟨a6,?_⟩
 have o6:=A4 W5 w.heap.size 5 1
 have a2:=Zf h2 a9
 have hB:=bln (bln (bln (bln (u2.below n1.below g1) (Zb W2)) (Zb W2.drew)) n4.below) a6
 refine xbi (.r [9,10,11,12,13] 5) fun _ _ _ _ zJ zQ zo zx zy zK=>Zr (m:=4) (news:=(leB n 4).map bv) (.int .u8 0) 1 1 (4) ((leB n 4).map bv) zo Tryz.underlying50 K0 rfl Do zx o6 zy (Ze a2) (by simp[Zj]) (Xw _) (by unfold maxLen;omega) M0 hB.size (by rfl) (by simp) fun b5 b0 W7 o7 b6 a8=>?_
 refine zK _ _ ?_
 refine Zj5 24 (fun _ _ _ zo zx=>Yt zo zx (Ya (Ze o7) (Zj _ _)) (Zj _ _) Tryz.underlying50 Tryz.underlying5 Tryz.underlying9) ?_
 have a3:=hB.trans a8
 exact xe 4 (.string ⟨(leB n 4).toArray⟩) ⟨rfl,a3⟩
theorem Rt(n:Int)(h1:1≤n)(h2:n≤14399)(w:World) :
 C0 90 #[V0 n] w (Ret (.string ⟨(leB n 4).toArray⟩) w):=by
 refine zin 7 Tryz.func90 ?_
 refine xc 7 (args:=#[]) (Zea _) ?_
 rintro _ W1 ⟨_,rfl,a1,gl,rfl,gg,kl⟩
 refine xbs 1 1 [V0 n] 3 fun b2 W2 n2=>?_
 have a0:=kl.below n2.below
 refine xr 0 (args:=#[.slice (S1 gl) 1 1,.slice (S1 b2) 1 1]) (Zgw gl b2 n h1 h2 _ a0 n2.blk) fun W3 a2=>?_
 have hB:=bln (bln a1 n2.below) a2
 exact xe 4 (.string ⟨(leB n 4).toArray⟩) ⟨rfl,hB⟩
theorem Sts.cut{α:Type}{f:α→List Value}{m:Nat}{w:World}{b:O0}{c:Nat}{l:List α}(hm:∀ x,(f x).length=m)(h:Sts f w (.slice b l.length c) l)(k:Nat)(hk:k≤l.length):Sts f w (.slice (Uf b k c m) (l.drop k).length (c-k)) (l.drop k):=by
 have a0:(l.drop k).length=l.length-k:=by simp
 have a2:=Sl.cap h
 by_cases hkn:k=l.length
 ·refine .inl ⟨Uf b k c m,c-k,by rw[show(l.drop k).length=0 by omega],by omega,?_⟩
  rw[D7 M0];rfl
 rcases h with ⟨a',c',h1,h2,h3⟩|⟨g,a1,a4,h1,h2,h3,h4⟩
 ·omega
 ·simp only[B6] at h1
  obtain⟨rfl,_,rfl⟩:=h1
  refine .inr ⟨g,a1+k*m,c-k,?_,by omega,by omega,fun j x hj=>?_⟩
  ·rw[Uf,if_neg M0];simp[Addr.add]
  ·have a3:(l.drop k).flatMap f=(l.flatMap f).drop (k*m):=by
    conv=>rhs;rw[←G3 k l,E1]
    rw[List.drop_left' (by rw[Cs hm,D1,F7 hk])]
   rw[a3,Eq] at hj
   have:=h4 _ _ hj
   rwa [←D4] at this
theorem Al.only{B ba b g n c:Nat}{pa:O0}{ca f N k:Nat}{l:Bl}{w W:World}{T:List TypeId}(h:Al B ba b g n c pa ca f N k l w)(hO:Zd T w W)(hT:(T.contains 169||T.contains 108||T.contains 5||T.contains 3)=false):Al B ba b g n c pa ca f N k l W:=by
 simp only[L1] at hT
 exact⟨h.blkA.only hO hT.1.1.1,h.blkI.only hO hT.1.1.2,Zi h.data hO hT.1.2,Zi h.nums hO hT.2⟩
def Zn(l:List Ent)(m i:Nat):List Ent:=(l.drop (i*m)).take m
def Xu(c:List Ent):List Int:=c.map (·.1)
def Ym(c:List Ent):List Bl:=c.map (·.2.1)
def Zhe(t:Int)(leaf:Bool)(m v:Nat)(c:List Ent):Bl:=Jz m v (Qi t leaf c.length m v) (Xu c) (Ym c) c.length
def Zal(t:Int)(leaf:Bool)(m v:Nat)(l:List Ent)(q:Nat)(bs:Bl):Nat→Bl
 | 0=>bs
 | i+1=>Km (Zal t leaf m v l q bs i) ((q+i)*256) (Ja 2 ((q+i:Nat):Int) (Zhe t leaf m v (Zn l m i)))
def upX (l:List Ent)(m q i:Nat):Ent:=(((Zn l m i).getD 0 Xt).1,leB ((q+i:Nat):Int) 4,((q+i:Nat):Int))
def upE (l:List Ent)(m q j:Nat):List Ent:=(List.range j).map (upX l m q)
theorem upE_succ(l:List Ent)(m q j:Nat):upE l m q (j+1)=upE l m q j++[upX l m q j]:=by simp[upE,C1]
theorem Xl(l:List Ent)(m q j:Nat):(upE l m q j).length=j:=by simp[upE]
theorem Hr{l:List Ent}{m q j i:Nat}(h:i<j):(upE l m q j).getD i Xt=upX l m q i:=by simp[upE,List.getD,B7 h]
theorem Vi(l:List Ent)(m i:Nat):(Zn l m i).length=Vv l.length m i:=by simp[Zn,Vv]
theorem Uh{l:List Ent}{m i j:Nat}(h:j<Vv l.length m i):(Zn l m i).getD j Xt=l.getD (i*m+j) Xt:=by
 unfold Vv at h
 simp[Zn,List.getD,F5 (show j<m by omega),Eq]
theorem Ir{c:List Ent}{j:Nat}(h:j<c.length):(Xu c).getD j 0=(c.getD j Xt).1:=by simp[Xu,List.getD,h]
theorem Zjg{c:List Ent}{j:Nat}(h:j<c.length):(Ym c).getD j []=(c.getD j Xt).2.1:=by simp[Ym,List.getD,h]
theorem Yh(c:List Ent):(Xu c).length=c.length:=by simp[Xu]
theorem Gh(c:List Ent):(Ym c).length=c.length:=by simp[Ym]
theorem Zj7{n m i:Nat}(hm:1≤m)(hn:1≤n)(h:i<ovN n m):i*m<n:=by
 unfold ovN at h
 rcases F9 i with rfl|hi
 ·omega
 have h2:i<(n+m-1)/m:=by omega
 have h3:=(Nat.lt_div_iff_mul_lt M0).1 h2
 omega
theorem Mj{t:Int}{leaf:Bool}{m v:Nat}{l:List Ent}(E:EntsOk v l)(h1:1≤t)(h2:t≤5)(hm:Vg t leaf=m)(hv:Nb t leaf=v)(hl:leaf=false→1≤l.length){i:Nat}(hi:i<ovN l.length m):NodeOk t leaf (Zn l m i).length m v (Xu (Zn l m i)) (Ym (Zn l m i)):=by
 have a5:=(Yu t leaf).1
 rw[hm] at a5
 have a0:=Vi l m i
 have a6:=Zja a5 hi
 have a7:(Zn l m i).length≤l.length-i*m:=by rw[a0];unfold Vv;omega
 have a4:∀ j,j<(Zn l m i).length→i*m+j<l.length∧(Xu (Zn l m i)).getD j 0=(l.getD (i*m+j) Xt).1∧(Ym (Zn l m i)).getD j []=(l.getD (i*m+j) Xt).2.1:=fun j hj=>by
  refine⟨by omega,?_,?_⟩
  ·rw[Ir hj,Uh M0]
  ·rw[Zjg hj,Uh M0]
 refine⟨h1,h2,hm,hv,Yh _,Gh _,by rw[a0];unfold Vv;omega,fun h=>?_,fun j hj=>?_,fun j hj=>?_,fun j hj=>?_⟩
 ·have:=Zj7 a5 (hl h) hi
  rw[a0];unfold Vv;omega
 ·obtain⟨a1,a2,_⟩:=a4 j hj
  rw[a2];exact E.hk _ a1
 ·obtain⟨a1,a2,_⟩:=a4 j M0
  obtain⟨b1,b2,_⟩:=a4 (j+1) hj
  rw[a2,b2];exact E.hs _ M0
 ·obtain⟨a1,_,a3⟩:=a4 j hj
  rw[a3];exact E.hw _ a1
theorem Mi{t:Int}{leaf:Bool}{m v:Nat}{c:List Ent}(N:NodeOk t leaf c.length m v (Xu c) (Ym c)):(Zhe t leaf m v c).length=244:=by
 have hf:=fitN t leaf
 rw[N.hm,N.hv] at hf
 exact Zah (Up _ _ _ _ _) hf N.hn (fun j hj=>N.hw j hj)
theorem Zdc{w:World}{b:O0}{n m c:Nat}(h:Sl w (.slice b (ovN n m) c) (ovN n m) ((sizL n m).map nv)){k:Nat}(hk:k<ovN n m):b.isSome=true∧w.cell? (Xa b (k*1))=some (V0 ((Vv n m k:Nat):Int)):=by
 have:=Jv h (sizL_len n m) hk
 rwa [show(sizL n m).getD k 0=Vv n m k from by simp[sizL,List.getD,B7 hk]] at this
theorem Uo{l:List Ent}{j:Nat}(h:j<l.length):((Xu l).take (j+1)).map V0=((Xu l).take j).map V0++[V0 (l.getD j Xt).1]:=by
 rw[A8 (by rw[Yh];exact h)]
 simp[Xu,List.getD,h]
theorem Ki{l:List Ent}{j:Nat}(h:j<l.length):((Ym l).take (j+1)).map sv=((Ym l).take j).map sv++[.string ⟨(l.getD j Xt).2.1.toArray⟩]:=by
 rw[A8 (by rw[Gh];exact h)]
 simp[Ym,List.getD,h,sv]
theorem Zeu{l:List Ent}{m i s:Nat}(hs:Vv l.length m i=s):(Xu (l.drop (i*m))).take s=Xu (Zn l m i):=by
 subst hs
 unfold Xu Zn Vv
 rw[←Gt]
 congr 1
 rw[Lt];simp
theorem Zeq{l:List Ent}{m i s:Nat}(hs:Vv l.length m i=s):(Ym (l.drop (i*m))).take s=Ym (Zn l m i):=by
 subst hs
 unfold Ym Zn Vv
 rw[←Gt]
 congr 1
 rw[Lt];simp
theorem EntsOk.mono{v:Nat}{l:List Ent}(E:EntsOk v l):∀ {a b:Nat},a<b→b<l.length→(l.getD a Xt).1<(l.getD b Xt).1:=by
 intro a b h hb
 induction b with
 | zero=>omega
 | succ b ih =>
  have h1:=E.hs b M0
  rcases C3 a b with h2|h2
  ·have:=ih h2 M0;omega
  ·obtain rfl:a=b:=by omega
   exact h1
theorem Zho{v:Nat}{l:List Ent}{m:Nat}(hm:1≤m)(hl:1≤l.length){i q:Nat}(hi:i<ovN l.length m):(upX l m q i).1=(l.getD (i*m) Xt).1∧i*m<l.length:=by
 have h:=Zj7 hm hl hi
 refine⟨?_,h⟩
 unfold upX
 rw[Uh (by unfold Vv;omega)];rfl
theorem up_ok{v:Nat}{l:List Ent}(E:EntsOk v l){m q:Nat}(hm:1≤m):EntsOk 4 (upE l m q (ovN l.length m)):=by
 rcases F9 l.length with h0|hl
 ·have h1:ovN l.length m=1:=by
   rw[h0];unfold ovN
   have:(0+m-1)/m=0:=Nat.div_eq_of_lt M0
   omega
  have a0:l=[]:=G4 h0
  subst a0
  constructor
  ·intro i hi;rw[Xl,h1] at hi;rw[Hr M0];simp[upX,Zn,Xt]
  ·intro j hj;rw[Xl,h1] at hj;omega
  ·intro i hi;rw[Xl,h1] at hi;rw[Hr M0];simp[upX,Zj]
 constructor
 ·intro i hi
  rw[Xl] at hi
  obtain⟨h1,h2⟩:=Zho (v:=v) (q:=q) hm hl hi
  rw[Hr hi,h1];exact E.hk _ h2
 ·intro j hj
  rw[Xl] at hj
  obtain⟨h1,h2⟩:=Zho (v:=v) (q:=q) hm hl hj
  obtain⟨h3,h4⟩:=Zho (v:=v) (q:=q) hm hl (show j<ovN l.length m by omega)
  rw[Hr hj,Hr M0,h1,h3]
  refine E.mono ?_ h2
  rw[D6];omega
 ·intro i hi
  rw[Xl] at hi
  rw[Hr hi];simp[upX,Zj]
def Uu(t:Int)(u:List Ent)(q:Nat)(bs:Bl):Int×Bl :=
 if h:u.length≤1 then((u.getD 0 Xt).2.2,bs)
 else Uu t (upE u 18 q (ovN u.length 18)) (q+ovN u.length 18) (Zal t false 18 4 u q bs (ovN u.length 18))
termination_by u.length
decreasing_by rw[Xl];have:=ov18 (x:=u.length) M0;omega
theorem Mq{t:Int}{u:List Ent}{q:Nat}{bs:Bl}(h:u.length≤1):Uu t u q bs=((u.getD 0 Xt).2.2,bs):=by rw[Uu];simp[h]
theorem Pm{t:Int}{u:List Ent}{q:Nat}{bs:Bl}(h:¬ u.length≤1):Uu t u q bs=Uu t (upE u 18 q (ovN u.length 18)) (q+ovN u.length 18) (Zal t false 18 4 u q bs (ovN u.length 18)):=by rw[Uu];simp[h]
def Vl(t:Int)(l:List Ent)(q:Nat)(bs:Bl):Int×Bl :=
 Uu t (upE l (Vg t true) q (ovN l.length (Vg t true))) (q+ovN l.length (Vg t true)) (Zal t true (Vg t true) (Nb t true) l q bs (ovN l.length (Vg t true)))
theorem Zb1{t:Int}{u:List Ent}{q:Nat}{bs:Bl}(h1:1≤u.length)(hu:(u.getD (u.length-1) Xt).2.2=((q-1:Nat):Int))(hq:1≤q):(Uu t u q bs).1=((q-1+((Fz u.length).sum-u.length):Nat):Int):=by
 induction hx:u.length using Nat.strongRecOn generalizing u q bs with
 | _ x ih =>
  subst hx
  by_cases h:u.length≤1
  ·rw[Mq h,Kq h]
   rw[show u.length-1=0 by omega] at hu
   show(u.getD 0 Xt).2.2=_
   rw[hu];simp
  ·have a0:=ov18 (x:=u.length) M0
   have hp:=Qs u.length 18
   rw[Pm h,ih (ovN u.length 18) M0 (u:=upE u 18 q (ovN u.length 18)) (q:=q+ovN u.length 18) (by rw[Xl];exact hp) ?_ M0 (Xl _ _ _ _),Ke h]
   ·have a1:=Mz (ovN u.length 18)
    simp only[H8]
    congr 1
    omega
   ·rw[Xl,Hr M0]
    simp only[upX]
    congr 1
    omega
def LaidQ(B ba b g n c:Nat)(pa:O0)(ca f N k:Nat)(l:Bl)(kind:Int)(li:Bl)(q:Nat)(w:World)(e:Ending)(w':World):Prop :=
 e=.returned (.tuple #[V0 (q:Int),.nilIface])∧Below B w w'∧Zd [169,5] w w'∧Fr [ba,g] w w'∧Al B ba b g n c pa ca f N (k+1) (Km l (q*256) (Ja kind (q:Int) li)) w'
theorem Wp(B ba b g n c:Nat)(p:O0)(ca f N k:Nat)(l:Bl)(kind:Int)(a:O0)(ci:Nat)(li:Bl)(q n':Nat)(w:World)(hq:f+k=q)(hn':li.length=n')(hC:AlC B ba n c ca f N)(hA:Al B ba b g n c p ca f N k l w)(hkN:k<N)(h1:1≤kind)(h2:kind≤4)(hin:∀ W,Below B w W→Zd [169] w W→Bys W (.slice a n' ci) li)(hl:n'≤244)(hBw:B≤w.heap.size) :
 C0 161 #[P0 ba,V0 kind,.slice a n' ci] w (LaidQ B ba b g n c p ca f N k l kind li q w):=by
 subst hq hn';exact Zk9 B ba b g n c p ca f N k l kind a ci li w hC hA hkN h1 h2 hin hl hBw
theorem Pi{l:List Ent}{m q i:Nat}{key:Int}(hk:key=((Zn l m i).getD 0 Xt).1):(upE l m q i).flatMap Yo++[V0 key,.string ⟨(leB ((q+i:Nat):Int) 4).toArray⟩,V0 ((q+i:Nat):Int)]=(upE l m q (i+1)).flatMap Yo:=by
 subst hk;rw[upE_succ];simp[Yo,upX]
theorem Un{l:List Ent}{m i j:Nat}(hs:Vv l.length m i=j)(hj:0<j):((Xu (Zn l m i))).getD 0 0=((Zn l m i).getD 0 Xt).1:=Ir (by rw[Vi];omega)
theorem Jj{l:List Ent}{m i j:Nat}(hs:Vv l.length m i=j)(hj:j=0):(0:Int)=((Zn l m i).getD 0 Xt).1:=by
 have:Zn l m i=[]:=G4 (by rw[Vi];omega)
 rw[this];rfl
def bmN (n:Nat):Nat:=(n+959)/960
theorem bmN_lt{n i:Nat}(h:i<bmN n):i*960<n:=by unfold bmN at h;omega
theorem bmN_done{n i:Nat}(h:i=bmN n):n≤i*960:=by subst h;unfold bmN;omega
def mn3 (n:Int):Int:=if n<3 then n else 3
def Zh(l:List Int):List Int:=l.map mn3
theorem Jg(l:List Int):(Zh l).length=l.length:=by simp[Zh]
theorem Zf6{l:List Int}{k:Nat}(h:k<l.length):Zh (l.take (k+1))=Zh (l.take k)++[mn3 (l.getD k 0)]:=by
 unfold Zh
 rw[A8 h,A9,show l.getD k 0=l[k] from by simp[List.getD,h]]
 rfl
def ovX (l:List Int)(k:Nat):List Ent:=if 3≤l.getD k 0 then [((k:Int),leB (l.getD k 0) 4,0)] else []
def Zl(l:List Int)(k:Nat):List Ent:=(List.range k).flatMap (ovX l)
theorem Rj(l:List Int)(k:Nat):Zl l (k+1)=Zl l k++ovX l k:=by simp[Zl,C1]
theorem Vj{l:List Int}{k:Nat}(h:3≤l.getD k 0):Zl l (k+1)=Zl l k++[((k:Int),leB (l.getD k 0) 4,0)]:=by rw[Rj];unfold ovX;rw[if_pos h]
theorem Qw{l:List Int}{k:Nat}(h:¬ 3≤l.getD k 0):Zl l (k+1)=Zl l k:=by rw[Rj];unfold ovX;rw[if_neg h];simp
theorem overK_ok(l:List Int)(k:Nat):(Zl l k).Pairwise (fun a b=>a.1<b.1)∧∀ x∈Zl l k,0≤x.1∧x.1<k∧x.2.1.length=4:=by
 induction k with
 | zero=>simp[Zl]
 | succ k ih =>
  by_cases h3:3≤l.getD k 0
  ·rw[Vj h3]
   refine⟨List.pairwise_append.2 ⟨ih.1,by simp,fun a ha b hb=>?_⟩,fun x hx=>?_⟩
   ·simp only[E2] at hb;subst hb;exact(ih.2 a ha).2.1
   ·rcases List.mem_append.1 hx with h|h
    ·have:=ih.2 x h;exact⟨this.1,by have:=this.2.1;omega,this.2.2⟩
    ·simp only[E2] at h;subst h;exact⟨F2 _,by show(k:Int)<((k+1:Nat):Int);omega,Zj _ _⟩
  ·rw[Qw h3]
   exact⟨ih.1,fun x hx=>by have:=ih.2 x hx;exact⟨this.1,by have:=this.2.1;omega,this.2.2⟩⟩
theorem Ji(l:List Int)(k:Nat):(Zl l k).length≤k:=by
 induction k with
 | zero=>simp[Zl]
 | succ k ih =>
  by_cases h3:3≤l.getD k 0
  ·rw[Vj h3];simp;exact ih
  ·rw[Qw h3];omega
theorem Nm{l:List Ent}{i:Nat}(h:i<l.length):l.getD i Xt=l[i]:=by simp[List.getD,h]
theorem Nd(l:List Int)(k:Nat)(hk:k≤65536):EntsOk 4 (Zl l k):=by
 have h:=overK_ok l k
 refine⟨fun i hi=>?_,fun j hj=>?_,fun i hi=>?_⟩
 ·rw[Nm hi];have:=h.2 _ (E5 hi);omega
 ·rw[Nm hj,Nm M0];exact List.pairwise_iff_getElem.1 h.1 j (j+1) M0 hj M0
 ·rw[Nm hi];exact(h.2 _ (E5 hi)).2.2
def Kr(n:Int):Prop:=0≤n∧n≤2147483647
instance (n:Int):Decidable (Kr n):=by unfold Kr;infer_instance
def Qd(l:List Int):Int:=if 65536<l.length then 1 else if ∀ k,k<l.length→Kr (l.getD k 0) then 0 else 2
theorem Gj{l:List Int}(h:Qd l=0):l.length≤65536∧∀ k,k<l.length→Kr (l.getD k 0):=by
 unfold Qd at h
 split at h
 ·simp at h
 ·split at h
  ·exact⟨by omega,by assumption⟩
  ·simp at h
def Vk(l:List Int)(i:Nat):List Int:=(l.drop (i*960)).take 960
def Zo(l:List Int)(n:Nat):List (List Int):=(List.range n).map (Vk l)
theorem Xq(l:List Int)(n:Nat):(Zo l n).length=n:=by simp[Zo]
theorem Es{l:List Int}{n i:Nat}(h:i<n):(Zo l n).getD i []=Vk l i:=by simp[Zo,List.getD,h]
theorem Oy(l:List Int)(n:Nat):Zo l (n+1)=Zo l n++[Vk l n]:=by simp[Zo,C1]
theorem Hu(l:List Int)(i:Nat):(Vk l i).length=min 960 (l.length-i*960):=by simp[Vk]
def Hp(l:List Int):Prop:=∀ n∈l,0≤n∧n≤3
theorem Zcw{l:List Int}(h:∀ k,k<l.length→Kr (l.getD k 0)):Hp (Zh l):=by
 intro n hn
 obtain⟨m,hm,rfl⟩:=List.mem_map.1 hn
 obtain⟨k,hk,rfl⟩:=List.getElem_of_mem hm
 have:=h k hk
 rw[show l.getD k 0=l[k] from by simp[List.getD,hk]] at this
 unfold Kr at this
 unfold mn3;split<;>omega
theorem Fg{l:List Int}(h:Hp l)(i:Nat):Hp (Vk l i):=fun n hn=>h n (List.mem_of_mem_drop (I4 hn))
def atI (l:List Int)(i j:Nat):Int:=if j<i then l.getD j 0 else 0
def g4 (l:List Int)(i k:Nat):Int:=atI l i (4*k)+4*atI l i (4*k+1)+16*atI l i (4*k+2)+64*atI l i (4*k+3)
def g4B (l:List Int)(i k:Nat):UInt8:=UInt8.ofNat (g4 l i k).toNat
def Nz(l:List Int)(i:Nat):Bl:=leB l.length 4++(List.range 240).map (g4B l i)
theorem Jr(l:List Int)(i:Nat):(Nz l i).length=244:=by simp[Nz,Zj]
def Zfl(l:List Int):Bl:=Nz l l.length
def Zat(l:List Int)(k:Nat):Nat:=((l.take k).filter fun n=>n==0).length
def Ye(l:List Int):Nat:=Zat l l.length
def Xe(l:List Int):Nat:=l.findIdx fun n=>n==0
theorem Rg{l:List Int}{k:Nat}(h:k<l.length):Zat l (k+1)=Zat l k+(if l.getD k 0=0 then 1 else 0):=by
 unfold Zat
 rw[A8 h,List.filter_append,A5]
 simp only[List.getD,B5 h,Option.getD_some]
 by_cases e:l[k]=0<;>simp[e]
theorem Wl(l:List Int)(k:Nat):Zat l k≤k:=N0 (H4 _ _) (by simp;omega)
theorem Ma(l:List Int):Xe l≤l.length:=List.findIdx_le_length
theorem Cz{l:List Int}{i:Nat}(h:i<l.length)(h0:l.getD i 0=0)(hp:∀ j,j<i→l.getD j 0≠0):Xe l=i:=by
 unfold Xe
 refine(List.findIdx_eq h).2 ⟨?_,fun j hj=>?_⟩
 ·rw[List.getD,B5 h] at h0;simpa using h0
 ·have:=hp j hj
  rw[List.getD,B5 M0] at this;simpa using this
theorem Pt{l:List Int}(hp:∀ j,j<l.length→l.getD j 0≠0):Xe l=l.length:=by
 unfold Xe
 rw[List.findIdx_eq_length]
 intro n hn
 obtain⟨k,hk,rfl⟩:=List.getElem_of_mem hn
 have:=hp k hk
 rw[List.getD,B5 hk] at this;simpa using this
def slotB(n f g:Int):Bl:=leB n 8++leB f 4++leB g 4
theorem Zjl(n f g:Int):(slotB n f g).length=16:=by simp[slotB,Zj]
def Kn(L:List (List Int))(q:Nat)(bs:Bl):Nat→Bl
 | 0=>bs
 | i+1=>Km (Kn L q bs i) ((q+i)*256) (Ja 3 ((q+i:Nat):Int) (Zfl (L.getD i [])))
def Zf9(L:List (List Int))(q i:Nat):Ent:=((i:Int),slotB ((q+i:Nat):Int) (Ye (L.getD i []):Int) (Xe (L.getD i []):Int),0)
def Xy(L:List (List Int))(q j:Nat):List Ent:=(List.range j).map (Zf9 L q)
theorem Qh(L:List (List Int))(q j:Nat):(Xy L q j).length=j:=by simp[Xy]
theorem Dp(L:List (List Int))(q j:Nat):Xy L q (j+1)=Xy L q j++[Zf9 L q j]:=by simp[Xy,C1]
theorem Wj{L:List (List Int)}{q j i:Nat}(h:i<j):(Xy L q j).getD i Xt=Zf9 L q i:=by simp[Xy,List.getD,h]
theorem Rh(L:List (List Int))(q j:Nat)(hj:j≤65536):EntsOk 16 (Xy L q j):=by
 refine⟨fun i hi=>?_,fun i hi=>?_,fun i hi=>?_⟩<;>rw[Qh] at hi
 ·rw[Wj hi];simp only[Zf9];omega
 ·rw[Wj hi,Wj M0];simp only[Zf9];omega
 ·rw[Wj hi];exact Zjl _ _ _
def Zce(l:List Int)(q:Nat)(bs:Bl):Int×Int×Bl :=
 let L:=Zo (Zh l) (bmN l.length)
 let x:=Vl 4 (Xy L q (bmN l.length)) (q+bmN l.length) (Kn L q bs (bmN l.length))
 let y:=Vl 5 (Zl l l.length) (q+bmN l.length+Zw 4 (bmN l.length)) x.2
 (x.1,y.1,y.2)
def Hl(l:List Int):Nat:=bmN l.length+Zw 4 (bmN l.length)+Zw 5 (Zl l l.length).length
theorem Mh{l:List Int}(h:Hp l)(i j:Nat):0≤atI l i j∧atI l i j≤3:=by
 unfold atI
 split
 ·by_cases hj:j<l.length
  ·rw[show l.getD j 0=l[j] from by simp[List.getD,hj]];exact h _ (E5 hj)
  ·rw[show l.getD j 0=0 from by simp[List.getD,Nat.le_of_not_lt hj]];omega
 ·omega
theorem Gz{l:List Int}(h:Hp l)(j:Nat):0≤l.getD j 0∧l.getD j 0≤3:=by
 have:=Mh h (j+1) j
 unfold atI at this
 rwa [if_pos M0] at this
theorem Jd{l:List Int}{i j:Nat}(h:j≠i):atI l (i+1) j=atI l i j:=by
 unfold atI
 by_cases q:j<i
 ·rw[if_pos q,if_pos M0]
 ·rw[if_neg q,if_neg M0]
theorem Zd0(l:List Int)(i:Nat):atI l (i+1) i=l.getD i 0:=by unfold atI;rw[if_pos M0]
theorem Pd{l:List Int}{i j:Nat}(h:i≤j):atI l i j=0:=by unfold atI;rw[if_neg M0]
theorem g4_ne{l:List Int}{i k:Nat}(h:k≠i/4):g4 l (i+1) k=g4 l i k:=by
 unfold g4
 rw[Jd M0,Jd M0,Jd M0,Jd M0]
theorem g4_at{l:List Int}(h:Hp l){i q r:Nat}(hi:i=4*q+r)(hr:r<4):g4 l (i+1) q=g4 l i q+l.getD i 0*4 ^ r∧0≤g4 l i q∧g4 l i q<4 ^ r:=by
 have b0:=Mh h i (4*q)
 have b1:=Mh h i (4*q+1)
 have b2:=Mh h i (4*q+2)
 have b3:=Mh h i (4*q+3)
 unfold g4
 obtain rfl|rfl|rfl|rfl:r=0∨r=1∨r=2∨r=3:=by omega
 ·rw[show 4*q=i from by omega,Zd0,Jd M0,Jd M0,Jd M0,Pd (A6 i),Pd (Le i 1),Pd (Le i 2),Pd (Le i 3)]
  omega
 ·have e2:atI l i (4*q+2)=0:=Pd M0
  have e3:atI l i (4*q+3)=0:=Pd M0
  have e1:atI l i (4*q+1)=0:=Pd M0
  rw[Jd (j:=4*q) M0,Jd (j:=4*q+2) M0,Jd (j:=4*q+3) M0,e1,e2,e3,←hi,Zd0]
  omega
 ·have e2:atI l i (4*q+2)=0:=Pd M0
  have e3:atI l i (4*q+3)=0:=Pd M0
  rw[Jd (j:=4*q) M0,Jd (j:=4*q+1) M0,Jd (j:=4*q+3) M0,e2,e3,←hi,Zd0]
  omega
 ·have e3:atI l i (4*q+3)=0:=Pd M0
  rw[Jd (j:=4*q) M0,Jd (j:=4*q+1) M0,Jd (j:=4*q+2) M0,e3,←hi,Zd0]
  omega
theorem g4B_at{l:List Int}(h:Hp l){i:Nat}:((g4B l (i+1) (i/4)).toNat:Int)=((g4B l i (i/4)).toNat:Int)+l.getD i 0*4 ^ (i%4)∧(g4B l i (i/4)).toNat<4 ^ (i%4):=by
 obtain⟨h1,h2,h3⟩:=g4_at h (show i=4*(i/4)+i%4 by omega) M0
 have hn:=Gz h i
 have hp:(4:Int) ^ (i%4)≤64:=by
  have:i%4<4:=by omega
  obtain e|e|e|e:i%4=0∨i%4=1∨i%4=2∨i%4=3:=by omega
  all_goals rw[e];decide
 have a0:(0:Int)<4 ^ (i%4):=Int.pow_pos Do
 generalize hP:(4:Int) ^ (i%4)=Pq at *
 have hq:l.getD i 0*Pq≤3*Pq:=Int.mul_le_mul_of_nonneg_right hn.2 M0
 have a2:0≤l.getD i 0*Pq:=Int.mul_nonneg hn.1 M0
 generalize l.getD i 0*Pq=M at *
 have a1:((4 ^ (i%4):Nat):Int)=Pq:=by rw[←hP];simp
 unfold g4B
 rw[UInt8.toNat_ofNat',UInt8.toNat_ofNat',h1]
 omega
def Bq(gs:List (Nat×Nat))(L:List (List Int))(i:Nat):Value:=.slice (some ⟨(gs.getD i (0,0)).1,0,none⟩) (L.getD i []).length (gs.getD i (0,0)).2
structure Lists(w:World)(base:Nat)(v:Value)(gs:List (Nat×Nat))(L:List (List Int)):Prop where
 row:w.ownsRow base 27 1 v L.length ((List.range L.length).map (Bq gs L))
 each:∀ i,i<L.length→w.ownsRow base 3 1 (Bq gs L i) (L.getD i []).length ((L.getD i []).map (Value.int .i64))
theorem Lists.below{w W:World}{base:Nat}{v:Value}{gs:List (Nat×Nat)}{L:List (List Int)}(h:Lists w base v gs L)(hb:B3 w W):Lists W base v gs L:=⟨Za h.row hb,fun i hi=>Za (h.each i hi) hb⟩
theorem Lists.only{T:List TypeId}{w W:World}{base:Nat}{v:Value}{gs:List (Nat×Nat)}{L:List (List Int)}(h:Lists w base v gs L)(hO:Zd T w W)(hT:T.contains 27=false∧T.contains 3=false):Lists W base v gs L:=⟨Zi h.row hO hT.1,fun i hi=>Zi (h.each i hi) hO hT.2⟩
theorem Lists.elem{w:World}{base:Nat}{p:O0}{n c:Nat}{gs:List (Nat×Nat)}{L:List (List Int)}(h:Lists w base (.slice p n c) gs L)(hn:L.length=n){k:Nat}(hk:k<n):p.isSome=true∧w.cell? (Xa p (k*1))=some (Bq gs L k):=by
 subst hn
 rw[D5]
 exact Sl.elem (Ze h.row) (by simp[hk])
theorem Lists.mono{w:World}{base base':Nat}{v:Value}{gs:List (Nat×Nat)}{L:List (List Int)}(h:Lists w base' v gs L)(hb:base≤base'):Lists w base v gs L:=⟨Zf h.row hb,fun i hi=>Zf (h.each i hi) hb⟩
def FrB (B:Nat)(S:List Nat)(w W:World):Prop:=w.heap.size≤W.heap.size∧∀ k,k<B→k∉S→W.heap[k]? = w.heap[k]?
theorem Fr.trans_B{S S':List Nat}{a w W:World}(h:Fr S a w)(k:FrB a.heap.size S' w W)(hs:∀ k∈S',k∈S):Fr S a W:=⟨N0 h.size k.1,fun i hi hn=>(k.2 i hi fun q=>hn (hs i q)).trans (h.block i hi hn)⟩
theorem or_step:∀ r:Fin 4,∀ n:Fin 4,∀ o:Fin 64,o.val<4 ^ r.val→o.val ||| (n.val*4 ^ r.val)=o.val+n.val*4 ^ r.val:=by decide
def Xn(K:List Int)(n:Nat)(i:Nat):Bl:=(List.range i).flatMap fun j=>if j<n then leB (K.getD j 0) 8 else List.replicate 8 0
theorem Qe(K:List Int)(n i:Nat):Xn K n (i+1)=Xn K n i++(if i<n then leB (K.getD i 0) 8 else List.replicate 8 0):=by
 unfold Xn;rw[C1,E1];simp
theorem Rd(K:List Int)(n i:Nat):(Xn K n i).length=i*8:=by
 induction i with
 | zero=>rfl
 | succ i ih=>rw[Qe,A5,ih];split<;>simp[Zj]<;>omega
def Yi(Vs:List Bl)(i:Nat):Bl:=(List.range i).flatMap fun j=>Vs.getD j []
theorem Gx(Vs:List Bl)(i:Nat):Yi Vs (i+1)=Yi Vs i++Vs.getD i []:=by
 unfold Yi;rw[C1,E1];simp
theorem Rl{Vs:List Bl}{v:Nat}:∀ {i:Nat},(∀ j,j<i→(Vs.getD j []).length=v)→(Yi Vs i).length=i*v
 | 0,_=>by simp[Yi]
 | i+1,h=>by rw[Gx,A5,Rl fun j hj=>h j M0,h i M0,D6,E0]
theorem Tn{P z Q x:Bl}{k:Nat}(hk:P.length=k)(hz:z.length=x.length):Km (P++z++Q) k x=P++x++Q:=by
 unfold Km
 subst hk
 rw[C6 P z Q,List.take_left' rfl,←hz]
 have e:P++(z++Q)=(P++z)++Q:=(C6 _ _ _).symm
 rw[e,List.drop_left' (by simp)]
theorem Ub(K:List Int)(i:Nat):∀ d,Xn K i (i+d)=Xn K i i++List.replicate (d*8) 0
 | 0=>by simp
 | d+1=>by
  rw[←D4,Qe,Ub K i d,if_neg M0,C6,List.replicate_append_replicate,D6,E0]
theorem Ms(K:List Int)(n:Nat):∀ i,i≤n→Xn K n i=Xn K i i
 | 0,_=>rfl
 | i+1,h=>by
  rw[Qe,Qe,if_pos M0,if_pos M0,Ms K n i M0,Ms K (i+1) i M0]
theorem Ac(a b:Nat):List.replicate (a+b) (0:UInt8)=List.replicate a 0++List.replicate b 0:=List.replicate_append_replicate.symm
theorem Mu{m v:Nat}{H:Bl}{K:List Int}{Vs:List Bl}(hH:H.length=12)(hf:12+m*8+m*v≤244):∀ {i:Nat},i≤m→(∀ j,j<i→(Vs.getD j []).length=v) →
  Jz m v H K Vs i=H++Xn K i m++Yi Vs i++List.replicate (232-m*8-i*v) 0
 | 0,_,_=>by
  have e1:=Ub K 0 m
  rw[F1] at e1
  rw[Jz,e1]
  have h1:(232-m*8-0*v)=232-m*8:=by omega
  rw[h1,show(244:Nat)=12+(m*8+(232-m*8)) by omega,Ac,Ac]
  have:=Tn (P:=[]) (z:=List.replicate 12 (0:UInt8)) (Q:=List.replicate (m*8) 0++List.replicate (232-m*8) 0) (x:=H) (k:=0) rfl (by simp[hH])
  rw[G9,G9] at this
  rw[this]
  simp[Xn,Yi]
 | i+1,hi,hV=>by
  have ih:=Mu (K:=K) hH hf (i:=i) M0 (fun j hj=>hV j M0)
  have a0:=hV i M0
  have h2:(i+1)*v≤m*v:=E7 v hi
  rw[D6,E0] at h2
  obtain⟨d,hd⟩:∃ d,m=i+(d+1):=⟨m-i-1,by omega⟩
  have ek:Xn K i m=Xn K i i++List.replicate 8 0++List.replicate (d*8) 0:=by
   rw[hd,Ub,show(d+1)*8=8+d*8 by omega,Ac,C6]
  have a3:Xn K (i+1) m=Xn K i i++leB (K.getD i 0) 8++List.replicate (d*8) 0:=by
   rw[show m=(i+1)+d by omega,Ub,Qe,if_pos M0,Ms K (i+1) i M0]
  have er:List.replicate (232-m*8-i*v) (0:UInt8)=List.replicate v 0++List.replicate (232-m*8-(i*v+v)) 0:=by
   rw[←Ac];congr 1;omega
  have a4:(Yi Vs i).length=i*v:=Rl fun j hj=>hV j M0
  rw[Jz,ih,ek,er]
  have s1:=Tn (P:=H++Xn K i i) (z:=List.replicate 8 (0:UInt8)) (Q:=List.replicate (d*8) 0++(Yi Vs i++(List.replicate v 0++List.replicate (232-m*8-(i*v+v)) 0))) (x:=leB (K.getD i 0) 8) (k:=12+i*8) (by rw[A5,hH,Rd]) (by simp[Zj])
  have a1:H++(Xn K i i++List.replicate 8 0++List.replicate (d*8) 0)++Yi Vs i++(List.replicate v 0++List.replicate (232-m*8-(i*v+v)) 0)=H++Xn K i i++List.replicate 8 0++(List.replicate (d*8) 0++(Yi Vs i++(List.replicate v 0++List.replicate (232-m*8-(i*v+v)) 0))):=by simp only[C6]
  rw[a1,s1]
  have s2:=Tn (P:=H++Xn K (i+1) m++Yi Vs i) (z:=List.replicate v (0:UInt8)) (Q:=List.replicate (232-m*8-(i*v+v)) 0) (x:=Vs.getD i []) (k:=12+m*8+i*v) (by rw[A5,A5,hH,Rd,a4]) (by rw[A7,a0])
  have a2:H++Xn K i i++leB (K.getD i 0) 8++(List.replicate (d*8) 0++(Yi Vs i++(List.replicate v 0++List.replicate (232-m*8-(i*v+v)) 0)))=H++Xn K (i+1) m++Yi Vs i++List.replicate v 0++List.replicate (232-m*8-(i*v+v)) 0:=by rw[a3];simp only[C6]
  rw[a2,s2,Gx,D6,E0]
  simp only[C6]
end Go.Proofs.YtekomodnkfhihaaGreatDoor
namespace Go.Proofs.YtekomodnkfhihaaGreatDoor
set_option maxHeartbeats 8000000
set_option maxRecDepth 100000
open Go.RowKit Go.Extern.Stop Go.Stop Go.Extern
set_option linter.unusedVariables false
attribute [local irreducible] wpList wpAnyH Code.wp Oper.wp Go
section
variable {P:Program} {a:Act}
end
theorem Va(n k:Nat)(hn:n<9223372036854775808)(hk:0<k):IntKind.i64.wrap (Int.tdiv (n:Int) (k:Int))=((n/k:Nat):Int):=by
 rw[Int.tdiv_eq_ediv_of_nonneg (F2 _),←Int.natCast_ediv]
 exact Cv (Is (K3 _ _) hn)
theorem Nv(n k:Nat):Int.tmod (n:Int) (k:Int)=((n%k:Nat):Int):=by
 rw[Int.tmod_eq_emod_of_nonneg (F2 _),←Int.natCast_emod]
end Go.Proofs.YtekomodnkfhihaaGreatDoor
namespace Go.Proofs.YtekomodnkfhihaaGreatDoor
set_option maxHeartbeats 8000000
set_option maxRecDepth 100000
open Go.RowKit
theorem Blk.ty{w:World}{b:Nat}{cs cs':List Value}{t t':TypeId}(k:Blk w b cs t)(q:Blk w b cs' t'):t=t':=by
 have h1:w.heap[b]? = some (.cells cs.toArray t (0,0)):=k
 have h2:w.heap[b]? = some (.cells cs'.toArray t' (0,0)):=q
 rw[h1] at h2
 simp only[A0,Obj.cells.injEq] at h2
 exact h2.2.1
theorem Gl.upd{w W:World}{b:Nat}{cs:List Value}{t:TypeId}{l:List (Option Int)}{c:Option Int}{v:Value}(h:Gl w l c v)(u:Upd w b W)(k:Blk w b cs t)(hne:t≠204):Gl W l c v :=
 h.kept fun _ _ q=>u.blk q (by rintro rfl;exact hne (k.ty q))
theorem Gl.grown{w W:World}{e:TypeId}{base size n:Nat}{s:Value}{xs:List Value}{l:List (Option Int)}{c:Option Int}{v:Value}(h:Gl w l c v)(hg:w.grownBy W s.ownBlock)(hown:w.ownsRow base e size s n xs)(hne:e≠204):Gl W l c v :=
 h.kept fun _ _ q=>q.grown hg hown hne
theorem Gl.only{T:List TypeId}{w W:World}{l:List (Option Int)}{c:Option Int}{v:Value}(h:Gl w l c v)(k:Zd T w W)(hne:T.contains 204=false):Gl W l c v:=h.kept fun _ _ q=>q.only k hne
end Go.Proofs.YtekomodnkfhihaaGreatDoor
namespace Go.Proofs.YtekomodnkfhihaaGreatDoor
set_option maxHeartbeats 8000000
set_option maxRecDepth 100000
open Go.RowKit Go.Extern.Stop Go.Stop Go.Extern
set_option linter.unusedVariables false
attribute [local irreducible] wpList wpAnyH Code.wp Oper.wp Go
structure ImgR(B b:Nat)(p:Option Addr)(n c:Nat)(l:List UInt8)(w:World):Prop where
 blk:Blk w b [.slice p n c] 108
 row:w.ownsRow B 5 1 (.slice p n c) n (l.map bv)
 hn:n≤3686400
theorem ImgR.below{B b:Nat}{p:O0}{n c:Nat}{l:Bl}{w W:World}(h:ImgR B b p n c l w)(hb:B3 w W):ImgR B b p n c l W:=⟨h.blk.below hb,Za h.row hb,h.hn⟩
theorem ImgR.only{B b:Nat}{p:O0}{n c:Nat}{l:Bl}{w W:World}{T:List TypeId}(h:ImgR B b p n c l w)(hO:Zd T w W)(hT:T.contains 108=false∧T.contains 5=false):ImgR B b p n c l W:=⟨h.blk.only hO hT.1,Zi h.row hO hT.2,h.hn⟩
theorem ImgR.len{B b:Nat}{p:O0}{n c:Nat}{l:Bl}{w:World}(h:ImgR B b p n c l w):l.length=n:=by have:=h.row.1;simpa using this
theorem ImgR.base{B b:Nat}{p:O0}{n c:Nat}{l:Bl}{w:World}(h:ImgR B b p n c l w)(hn:0<n):∃ g,p=some ⟨g,0,none⟩∧n≤c:=by
 rcases h.row.2 with ⟨_,h0⟩|⟨g,a0,a1,hv,_,_,hc,_⟩
 ·omega
 ·simp only[B6] at hv
  obtain⟨rfl,_,rfl⟩:=hv
  exact⟨g,rfl,hc⟩
def Sv(l:Bl)(j:Nat):Bl:=(l.drop (j*256)).take 256
theorem Wm{l:Bl}{j:Nat}(h:j<l.length/256):(Sv l j).length=256:=by simp[Sv];omega
theorem Bys.mid{w:World}{g off n c:Nat}{l:Bl}(h:Bys w (.slice (some ⟨g,off,none⟩) n c) l)(hl:l.length=n)(k m:Nat)(hm:0<m)(hk:k+m≤n):Bys w (.slice (some ⟨g,off+k,none⟩) m m) ((l.drop k).take m):=by
 have a0:((l.drop k).take m).length=m:=by simp;omega
 rcases h with ⟨a',c',h1,h2,h3⟩|⟨g',a1,a2,h1,h2,h3,h4⟩
 ·omega
 ·simp only[B6,A0,Addr.mk.injEq] at h1
  obtain⟨⟨rfl,rfl,_⟩,_,rfl⟩:=h1
  refine .inr ⟨g,off+k,m,by rw[a0],by omega,by omega,fun j x hj=>?_⟩
  rw[B9,E8] at hj
  split at hj
  ·rw[Eq] at hj
   have:=h4 (k+j) x (by rw[B9];exact hj)
   rwa [←D4] at this
  ·cases hj
theorem ImgR.part{B b g:Nat}{n c:Nat}{l:Bl}{w:World}(h:ImgR B b (S1 g) n c l w){j:Nat}(hj:j<n/256):Bys w (.slice (some ⟨g,j*256,none⟩) 256 256) (Sv l j):=by
 have:=Bys.mid (Ya (Ze h.row) h.len) h.len (j*256) 256 Do M0
 rwa [F1] at this
theorem Tc{l l':Bl}(h:l.length=l'.length)(h2:∀ j,j<l.length→l.getD j 0=l'.getD j 0):l=l':=by
 apply G5 h
 intro j h3 h4
 have:=h2 j h3
 simpa [List.getD,h3,h4] using this
theorem Wv{l:Bl}{k:Nat}{x:Bl}(h:k+x.length≤l.length)(j:Nat):(Km l k x).getD j 0=if k≤j∧j<k+x.length then x.getD (j-k) 0 else l.getD j 0:=by
 unfold Km
 simp only[List.getD]
 rw[C6,G6,G6]
 have e:(l.take k).length=k:=by simp;omega
 rw[e]
 by_cases h1:j<k
 ·rw[if_pos h1,if_neg M0,E8,if_pos h1]
 ·rw[if_neg h1]
  by_cases h2:j-k<x.length
  ·rw[if_pos h2,if_pos M0]
  ·rw[if_neg h2,if_neg M0,Eq,show k+x.length+(j-k-x.length)=j by omega]
theorem Io(n j:Nat):(List.replicate n (0:UInt8)).getD j 0=0:=by
 simp[List.getD,I6];split<;>rfl
theorem blkB_put{l x:Bl}{k:Nat}(hx:x.length=256)(hk:k<l.length/256):Sv (Km l (k*256) x) k=x:=by
 have a0:k*256+256≤l.length:=by omega
 have hp:=Kk (l:=l) (k:=k*256) (x:=x) M0
 apply Tc
 ·rw[Wm (by rw[hp];exact hk),hx]
 ·intro j hj
  rw[Wm (by rw[hp];exact hk)] at hj
  have e:(Sv (Km l (k*256) x) k).getD j 0=(Km l (k*256) x).getD (k*256+j) 0:=by
   simp only[Sv,List.getD];rw[E8,if_pos hj,Eq]
  rw[e,Wv M0,if_pos M0,show k*256+j-k*256=j by omega]
theorem Ra{l x:Bl}{k i:Nat}(hx:x.length=256)(hk:k<l.length/256)(hne:i≠k)(hi:i<l.length/256):Sv (Km l (k*256) x) i=Sv l i:=by
 have a0:k*256+256≤l.length:=by omega
 have hp:=Kk (l:=l) (k:=k*256) (x:=x) M0
 apply Tc
 ·rw[Wm (by rw[hp];exact hi),Wm hi]
 ·intro j hj
  rw[Wm (by rw[hp];exact hi)] at hj
  have e:∀ l:Bl,(Sv l i).getD j 0=l.getD (i*256+j) 0:=fun l=>by
   simp only[Sv,List.getD];rw[E8,if_pos hj,Eq]
  rw[e,e,Wv M0,if_neg M0]
def Ze5(m:Mp):Bl:=Zgb mapP [m.2.1*16777216+m.2.2] 1
theorem mapV_len(m:Mp):(Ze5 m).length=8:=by unfold Ze5;rw[Cn];rfl
def Kt(n:Int)(d:Dv):Bl:=Zgb detP [n,d.1.2.1,d.1.2.2.1,d.1.2.2.2] 4
theorem Ze4(n:Int)(d:Dv):(Kt n d).length=24:=by unfold Kt;rw[Cn];rfl
def Jy(M:List Mp):List Ent:=M.map fun m=>(m.1,Ze5 m,0)
theorem Qu(M:List Mp):(Jy M).length=M.length:=At ..
def dvD:Dv:=((0,0,0,0),[])
def Gc(L:List Dv)(R:Nat→Nat):List Ent:=(List.range L.length).map fun i=>((L.getD i dvD).1.1,leB (R i:Int) 4,0)
def Hy(L:List Dv)(C:Nat→Int):List Ent:=(List.range L.length).map fun i=>((L.getD i dvD).1.1,Kt (C i) (L.getD i dvD),0)
theorem Ys(L:List Dv)(R:Nat→Nat):(Gc L R).length=L.length:=by simp[Gc]
theorem Yv(L:List Dv)(C:Nat→Int):(Hy L C).length=L.length:=by simp[Hy]
theorem Jo{L:List Dv}{R:Nat→Nat}{i:Nat}(h:i<L.length):(Gc L R).getD i Xt=((L.getD i dvD).1.1,leB (R i:Int) 4,0):=by simp[Gc,List.getD,B7 h]
theorem Jm{L:List Dv}{C:Nat→Int}{i:Nat}(h:i<L.length):(Hy L C).getD i Xt=((L.getD i dvD).1.1,Kt (C i) (L.getD i dvD),0):=by simp[Hy,List.getD,B7 h]
theorem Ht{M:List Mp}{i:Nat}(h:i<M.length):(Jy M).getD i Xt=((M.getD i (0,0,0)).1,Ze5 (M.getD i (0,0,0)),0):=by simp[Jy,List.getD,h]
theorem mapEs_ok{data:Int}{M:List Mp}(h:MapsOk data M):EntsOk 8 (Jy M):=by
 refine⟨fun i hi=>?_,fun j hj=>?_,fun i hi=>?_⟩
 ·rw[Qu] at hi
  rw[Ht hi]
  have:=h.each (M.getD i (0,0,0)) (by simp[List.getD,hi])
  exact this.1
 ·rw[Qu] at hj
  rw[Ht M0,Ht hj]
  have:=List.pairwise_iff_getElem.1 h.rise j (j+1) M0 hj M0
  simpa [List.getD,hj,show j<M.length by omega] using this
 ·rw[Qu] at hi
  rw[Ht hi];exact mapV_len _
theorem Zdg{data:Int}{L:List Dv}(h:DevsOk data L):(∀ i,i<L.length→0≤(L.getD i dvD).1.1∧(L.getD i dvD).1.1≤281474976710655)∧∀ j,j+1<L.length→(L.getD j dvD).1.1<(L.getD (j+1) dvD).1.1:=by
 refine⟨fun i hi=>?_,fun j hj=>?_⟩
 ·have:=(h.each (L.getD i dvD) (by simp[List.getD,hi])).id;omega
 ·have:=List.pairwise_iff_getElem.1 h.rise j (j+1) M0 hj M0
  simpa [List.getD,hj,show j<L.length by omega] using this
theorem topEs_ok{data:Int}{L:List Dv}{R:Nat→Nat}(h:DevsOk data L):EntsOk 4 (Gc L R):=by
 obtain⟨h1,h2⟩:=Zdg h
 refine⟨fun i hi=>?_,fun j hj=>?_,fun i hi=>?_⟩
 ·rw[Ys] at hi
  rw[Jo hi];exact h1 i hi
 ·rw[Ys] at hj
  rw[Jo M0,Jo hj];exact h2 j hj
 ·rw[Ys] at hi
  rw[Jo hi];exact Zj _ _
theorem detEs_ok{data:Int}{L:List Dv}{C:Nat→Int}(h:DevsOk data L):EntsOk 24 (Hy L C):=by
 obtain⟨h1,h2⟩:=Zdg h
 refine⟨fun i hi=>?_,fun j hj=>?_,fun i hi=>?_⟩
 ·rw[Yv] at hi
  rw[Jm hi];exact h1 i hi
 ·rw[Yv] at hj
  rw[Jm M0,Jm hj];exact h2 j hj
 ·rw[Yv] at hi
  rw[Jm hi];exact Ze4 _ _
def Zk3(B ba b g nn cc:Nat)(pa:O0)(ca f N k0:Nat)(bs:Bl)(t:Int)(leaf:Bool)(m v:Nat)(l:List Ent)(w:World)(e:Ending)(w':World):Prop :=
 ∃ p c,e=.returned (.tuple #[.slice p (ovN l.length m) c,.nilIface])∧Below B w w'∧Zd [169,5] w w'∧Fr [ba,g] w w'∧Al B ba b g nn cc pa ca f N (k0+ovN l.length m) (Zal t leaf m v l (f+k0) bs (ovN l.length m)) w'∧w'.ownsRow w.heap.size 124 3 (.slice p (ovN l.length m) c) (ovN l.length m) ((upE l m (f+k0) (ovN l.length m)).flatMap Yo)
theorem Zax(B ba b g nn cc:Nat)(pa:O0)(ca f N k0:Nat)(bs:Bl)(t:Int)(leaf:Bool)(m v:Nat)(a:O0)(c:Nat)(l:List Ent)(w:World)(hC:AlC B ba nn cc ca f N)(hA:Al B ba b g nn cc pa ca f N k0 bs w)(ht1:1≤t)(ht2:t≤5)(hm:Vg t leaf=m)(hv:Nb t leaf=v)(E:EntsOk v l)(hl:leaf=false→1≤l.length)(hn:l.length≤32768)(hf1:1≤f)(hk:k0+ovN l.length m≤N)(hin:∀ W,Below B w W→Zd [169,5] w W→Sts Yo W (.slice a l.length c) l)(hBw:B≤w.heap.size) :
 C0 215 #[P0 ba,V0 t,.bool leaf,.slice a l.length c] w (Zk3 B ba b g nn cc pa ca f N k0 bs t leaf m v l w):=by
 have m6:=Yu t leaf
 rw[hm] at m6
 have q9:=hC.hf
 have r1:=hC.hn
 refine zin 96 Tryz.func215 ?_
 refine xr 18 (args:=#[V0 t,.bool leaf]) (Da t leaf m hm ht1 ht2 _) fun W1 h0=>?_
 refine xc 0 (args:=#[V0 (l.length:Int),V0 (m:Int)]) (Zfe l.length m _ hn M0 M0) ?_
 rintro _ W2 ⟨_,rfl,i8,ps,cs,rfl,e5⟩
 have m4:=(blB (Below.refl B w) hBw h0).size
 have h9:=Zf e5 m4
 have j9:=(hA.below h0).below i8
 have hB:=blB (blB (Below.refl B w) hBw h0) hBw i8
 have hX:=(show Fr [ba,g] w _ from(Fr.of_below h0)).trans (Fr.of_below i8)
 have hO:=(show Zd [169,5] w _ from(Zd.of_below h0)).trans (Zd.of_below i8)
 refine zl 5 96 (fun zm j5 V=>∃ (i:Nat) (a2:O0) (c2:Nat) (l2:List Ent) (p4:O0) (c4:Nat),j5=[(0,P0 ba),(1,V0 t),(2,.bool leaf),(3,.slice a2 l2.length c2),(10,.slice p4 i c4),(26,.slice ps (ovN l.length m) cs),(27,V0 (↑(ovN l.length m):Int)),(28,V0 (i:Int))]∧zm=ovN l.length m-((i:Int)).toNat∧Below B w V∧Fr [ba,g] w V∧Zd [169,5] w V∧V.ownsRow w.heap.size 3 1 (.slice ps (ovN l.length m) cs) (ovN l.length m) ((sizL l.length m).map nv)∧V.ownsRow w.heap.size 124 3 (.slice p4 i c4) i ((upE l m (f+k0) i).flatMap Yo)∧Al B ba b g nn cc pa ca f N (k0+i) (Zal t leaf m v l (f+k0) bs i) V∧(∀ W,Below B w W→Zd [169,5] w W→Sts Yo W (.slice a2 l2.length c2) l2)∧i≤ovN l.length m∧l2=l.drop (i*m)) ⟨0,a,c,l,none,0,rfl,rfl,hB,hX,hO,h9,A4 _ _ _ _,j9,?_,A3 _,by simp⟩ ?_
 ·exact hin
 rintro _ _ W3 ⟨i,a2,c2,l2,p4,c4,rfl,rfl,d7,h8,e2,e5,l8,hA,i7,hi,f9⟩ J3 m1 r3
 have n2:=Sl.cap (i7 _ d7 e2)
 have r6:i<ovN l.length m→i*m≤l.length:=Zja M0
 have l4:l2.length=l.length-i*m:=by rw[f9];simp
 have f5:Vv l.length m i≤l2.length:=by rw[l4];unfold Vv;omega
 refine xid 6 ((i:Int)<(↑(ovN l.length m):Int)) (fun n9=>?_) (fun n9=>?_)
 ·refine xx 6 _ (ovN l.length m) i 1 (Zdc (Ze e5) (k:=i) M0).1 ?_
  refine xl 0 ((Zdc (Ze e5) (k:=i) M0).2) ?_
  have i9:=d7
  have d1:=e2
  have d5:=h8
  refine xa 8 [V0 0,.bool false,S0,S0] 191 fun b6 W6 n6=>?_
  refine xsv 0 n6.blk [V0 t,.bool leaf,S0,S0] fun W7 u7 k7=>?_
  have g6:=n6.ge (B4 W3)
  refine xsH 7 (fun _ _ _ _ zo zx zy V=>Gd (k:=(Vv l.length m i)) (b:=a2) (n:=l2.length) (c:=c2) (i:=(↑(Vv l.length m i):Int)) (ki:=.i64) zo zx zy rfl M0 Tryz.underlying99 K0 V) ?_
  have hB:=u7.below n6.below g6
  refine zl 5 96 (fun zm j5 V=>∃ (j:Nat) (kp:O0) (kc:Nat) (vp:O0) (vc:Nat),j5=[(0,P0 ba),(1,V0 t),(2,.bool leaf),(3,.slice a2 l2.length c2),(10,.slice p4 i c4),(12,V0 (↑(Vv l.length m i):Int)),(13,P0 b6),(26,.slice ps (ovN l.length m) cs),(27,V0 (↑(ovN l.length m):Int)),(28,V0 (i:Int)),(37,.slice a2 (Vv l.length m i) c2),(38,V0 (↑(Vv l.length m i):Int)),(39,V0 (j:Int))]∧zm=Vv l.length m i-((j:Int)).toNat∧B3 W3 V∧Blk V b6 ([V0 t,.bool leaf,.slice kp j kc,.slice vp j vc]) 191∧V.ownsRow W3.heap.size 3 1 (.slice kp j kc) j (((Xu l2).take j).map V0)∧V.ownsRow W3.heap.size 9 1 (.slice vp j vc) j (((Ym l2).take j).map sv)∧j≤Vv l.length m i) ⟨0,none,0,none,0,rfl,rfl,hB,k7,A4 _ _ _ _,A4 _ _ _ _,A3 _⟩ ?_
  rintro _ _ W8 ⟨j,kp,kc,vp,vc,rfl,rfl,c8,b4,hK,hV,hj⟩ J8 n8 r8
  refine xid 6 ((j:Int)<(↑(Vv l.length m i):Int)) (fun m3=>?_) (fun m3=>?_)
  ·have b0:=i7 _ i9 d1
   refine xx 6 _ (Vv l.length m i) j 3 (Sts.cell b0 Xg Xt (k:=j) (i:=0) M0 rfl).1 ?_
   refine xlv 0 (Sts.rp (k:=j) (b0.below c8) Xg Xt M0 Do) ?_
   refine xa 0 [V0 0,.string ⟨#[]⟩,V0 0] 124 fun q4 o4 c0=>?_
   have m7:=c0.ge c8
   refine xsv 0 c0.blk [V0 ((l2.getD j Xt).1),.string ⟨((l2.getD j Xt).2.1).toArray⟩,V0 ((l2.getD j Xt).2.2)] fun q6 j1 l9=>?_
   have b2:=j1.blkT (b4.below c0.below) c0.blk Do
   refine xb 5 2 b2 ?_
   refine xb 1 0 l9 ?_
   refine xbs 0 1 [V0 ((l2.getD j Xt).1)] 3 fun o7 q2 d4=>?_
   have h4:=j1.below (bln c8 c0.below) m7
   have r5:=d4.ge h4
   have f1:=j1.own2 (Za hK c0.below) c0.blk Do
   have k5:=Zg f1 d4
   have b9:=Za f1 d4.below
   have g8:=bln h4 d4.below
   refine xbi 0 fun _ _ _ _ zJ zQ zo zx zy zK=>Zr (m:=1) (news:=[V0 ((l2.getD j Xt).1)]) (V0 0) 1 8 (j+1) (((Xu l2).take (j+1)).map V0) zo Tryz.underlying27 K0 rfl Do zx b9 zy (d4.blk.sl 1 1 Do Do) rfl (by simp[Value.oneCell']) (by unfold maxLen;omega) M0 g8.size (by rfl) ((Uo M0).symm) fun h5 g9 p1 o2 d9 k1=>?_
   refine zK _ _ ?_
   have a1:=(b2.below d4.below).grown d9 b9 Do
   refine xs 1 a1 [V0 t,.bool leaf,.slice h5 (j+1) g9,.slice vp j vc] fun o5 i6 m2=>?_
   refine xb 4 3 m2 ?_
   have e8:=i6.blkT ((l9.below d4.below).grown d9 b9 Do) a1 Do
   refine xb 1 1 e8 ?_
   refine xbs 0 1 [.string ⟨((l2.getD j Xt).2.1).toArray⟩] 9 fun p9 o9 e1=>?_
   have i2:=i6.below (g8.trans k1) g6
   have q5:=e1.ge i2
   have g7:=i6.own2 (Zp (Za (j1.own2 (Za hV c0.below) c0.blk Do) d4.below) d9 b9 Do) a1 Do
   have k6:=Zg g7 e1
   have e0:=Za g7 e1.below
   have f8:=bln i2 e1.below
   refine xbi 0 fun _ _ _ _ zJ zQ zo zx zy zK=>Zr (m:=1) (news:=[.string ⟨((l2.getD j Xt).2.1).toArray⟩]) (.string ⟨#[]⟩) 1 16 (j+1) (((Ym l2).take (j+1)).map sv) zo Tryz.underlying109 K0 rfl Do zx e0 zy (e1.blk.sl 1 1 Do Do) rfl (by simp[Value.oneCell']) (by unfold maxLen;omega) M0 f8.size (by rfl) ((Ki M0).symm) fun j3 l5 p0 n0 g0 l1=>?_
   refine zK _ _ ?_
   have b3:=(m2.below e1.below).grown g0 e0 Do
   refine xs 1 b3 [V0 t,.bool leaf,.slice h5 (j+1) g9,.slice j3 (j+1) l5] fun o3 l0 n7=>?_
   refine xwm 4 ((j:Int)+1) (↑(j+1):Int) ?_
   have l3:=l0.below (f8.trans l1) g6
   have i0:=l0.own2 (Zp (Za (i6.own2 o2 a1 Do) e1.below) g0 e0 Do) b3 Do
   have i1:=l0.own2 n0 b3 Do
   exact ze 2 (n8 _ _ _ ⟨j+1,_,_,_,_,rfl,rfl,l3,n7,i0,i1,by omega⟩ M0)
  refine xsL 9 (fun _ _ _ _ zo zx zy V=>Py (k:=(Vv l.length m i)) (b:=a2) (n:=l2.length) (c:=c2) (i:=(↑(Vv l.length m i):Int)) (ki:=.i64) 3 zo zx zy rfl M0 Tryz.underlying99 K0 V) ?_
  refine xlv 5 b4.rp ?_
  have a5:B3 W3 W8:=c8
  have f0:w.heap.size≤W3.heap.size:=i9.size
  have f3:Vv l.length m i=j:=by omega
  have n3:(Xu l2).take j=Xu (Zn l m i):=by rw[f9];exact Zeu f3
  have m8:(Ym l2).take j=Ym (Zn l m i):=by rw[f9];exact Zeq f3
  have j0:(Zn l m i).length=j:=by rw[Vi,f3]
  have e3:=Zf hK f0
  rw[n3] at e3
  have e7:=Zf hV f0
  rw[m8] at e7
  have hN:=Mj E ht1 ht2 hm hv hl (show i<ovN l.length m by omega)
  have h3:=Mi hN
  rw[j0] at hN
  have n5:Jz m v (Qi t leaf j m v) (Xu (Zn l m i)) (Ym (Zn l m i)) j=Zhe t leaf m v (Zn l m i):=by rw[←j0];rfl
  refine xc 0 (args:=#[.agg #[V0 t,.bool leaf,.slice kp j kc,.slice vp j vc]]) (node_Put t leaf j m v (Xu (Zn l m i)) (Ym (Zn l m i)) kp vp kc vc _ hN (Ze e3) (Ze e7)) ?_
  rintro _ q7 ⟨_,rfl,a4,p6,c6,rfl,h6⟩
  have j8:=(blB i9 hBw a5).size
  have f7:=Zf h6 j8
  rw[n5] at f7
  have j4:=(hA.below a5).below a4
  have hO:=(d1.trans (Zd.of_below a5)).trans (Zd.of_below a4)
  have hB:=blB (blB i9 hBw a5) hBw a4
  refine xc 21 (args:=#[P0 ba,V0 2,.slice p6 244 c6]) (Wp B ba b g nn cc pa ca f N (k0+i) (Zal t leaf m v l (f+k0) bs i) 2 p6 c6 (Zhe t leaf m v (Zn l m i)) (f+k0+i) 244 _ (D4 _ _ _).symm h3 hC j4 M0 Do Do (fun W _ hO=>Ya (Ze (Zi f7 hO Do)) h3) Do (N0 hBw hB.size)) ?_
  rintro _ q8 ⟨rfl,k2,a9,f2,hA⟩
  refine xr 20 (args:=#[V0 (↑(f+k0+i):Int)]) (Rt ((f+k0+i:Nat):Int) M0 M0 _) fun r4 a0=>?_
  refine xa 2 [V0 0,.string ⟨#[]⟩,V0 0] 124 fun r0 p8 a3=>?_
  have d8:=blB (hB.trans k2) hBw a0
  have c3:=a3.ge0 d8
  have b5:=Za (Zi (Za (Za l8 a5) a4) a9 Do) a0
  have a6:=Zg b5 a3
  refine xsv 0 a3.blk [V0 0,.string ⟨(leB (↑(f+k0+i):Int) 4).toArray⟩,V0 (↑(f+k0+i):Int)] fun o8 b1 g5=>?_
  refine xid 9 ((↑(Vv l.length m i):Int)>(0:Int)) (fun k4=>?_) (fun k4=>?_)
  ·have g1:((Xu (Zn l m i))).getD 0 0=((Zn l m i).getD 0 Xt).1:=Un f3 M0
   have c1:=b1.blkT ((((b4.below a4).only a9 Do).below a0).below a3.below) a3.blk Do
   refine xb 2 2 c1 ?_
   have f4:=b1.own2 (Za (Za (Zi (Za e3 a4) a9 Do) a0) a3.below) a3.blk Do
   refine xx 0 _ j 0 1 (IntsN.elem (Ze f4) (by rw[Yh,j0]) (k:=0) M0).1 ?_
   refine xl 0 ((IntsN.elem (Ze f4) (by rw[Yh,j0]) (k:=0) M0).2) ?_
   refine xs 1 g5 [V0 ((Xu (Zn l m i)).getD 0 0),.string ⟨(leB (↑(f+k0+i):Int) 4).toArray⟩,V0 (↑(f+k0+i):Int)] fun q3 e6 m0=>?_
   refine xlv 4 m0.rp ?_
   refine xbs 0 1 [V0 ((Xu (Zn l m i)).getD 0 0),.string ⟨(leB (↑(f+k0+i):Int) 4).toArray⟩,V0 (↑(f+k0+i):Int)] 124 fun p3 q0 b7=>?_
   have i4:=b7.ne m0
   have g2:=e6.below (b1.below (blB d8 hBw a3.below) (N0 hBw c3)) (N0 hBw c3)
   have p7:=b7.ge0 g2
   have d6:=e6.own3 (b1.own3 (Za b5 a3.below) a6) a6
   have j2:=Zg d6 b7
   have a8:=Za d6 b7.below
   have f6:=blB g2 hBw b7.below
   refine xbi 0 fun _ _ _ _ zJ zQ zo zx zy zK=>Zr (m:=1) (news:=[V0 ((Xu (Zn l m i)).getD 0 0),.string ⟨(leB (↑(f+k0+i):Int) 4).toArray⟩,V0 (↑(f+k0+i):Int)]) (.agg #[V0 0,.string ⟨#[]⟩,V0 0]) 3 32 (i+1) ((upE l m (f+k0) (i+1)).flatMap Yo) zo Tryz.underlying99 K0 rfl Do zx a8 zy (b7.blk.sl 1 1 Do Do) rfl (by simp[Value.oneCell']) (by unfold maxLen;omega) M0 f6.size (by rfl) (Pi (by first|exact g1|exact c9)) fun m5 n1 o6 o1 c7 l7=>?_
   refine zK _ _ ?_
   refine xwm 5 ((i:Int)+1) (↑(i+1):Int) ?_
   refine xv1 2 3 (show(.slice (Uf a2 (Vv l.length m i) c2 3) (l2.length-(Vv l.length m i)) (c2-(Vv l.length m i)):Value)=.slice (Uf a2 (Vv l.length m i) c2 3) ((l2.drop (Vv l.length m i)).length) (c2-Vv l.length m i) from by rw[I5]) ?_
   have l6:=(((((hA.below a0).below a3.below).only (Zd.of_upd (T:=[124]) b1 a3.blk Do) Do).only (Zd.of_upd (T:=[124]) e6 g5 Do) Do).below b7.below).only (Zd.of_grown (T:=[124]) c7 a8 Do) Do
   have e4:l2.drop (Vv l.length m i)=l.drop ((i+1)*m):=by
    rw[f9,L7,D6,E0]
    unfold Vv
    rcases Nat.le_total m (l.length-i*m) with q|q
    ·rw[F7 q]
    ·rw[Nat.min_eq_right q,D7 M0,D7 M0]
   have j6:=f6.trans (l7.mono hBw)
   have hX:=(Fr.grown_new ((Fr.upd_new (Fr.upd_new (((((d5.trans (Fr.of_below a5)).trans (Fr.of_below a4)).trans (f2.mono (by simp))).trans (Fr.of_below a0)).trans (Fr.of_below a3.below)) b1 c3) e6 c3).trans (Fr.of_below b7.below)) c7 a8)
   have k8:=(Zd.grown_new ((Zd.upd_new (Zd.upd_new (((hO.trans a9).trans (Zd.of_below a0)).trans (Zd.of_below a3.below)) b1 c3) e6 c3).trans (Zd.of_below b7.below)) c7 a8)
   have e9:=Zp (Za (e6.own2 (b1.own2 (Za (Za (Zi (Za (Za e5 a5) a4) a9 Do) a0) a3.below) a3.blk Do) g5 Do) b7.below) c7 a8 Do
   exact ze 0 (m1 _ _ _ ⟨i+1,_,_,(l2.drop (Vv l.length m i)),_,_,rfl,rfl,j6,hX,k8,e9,o1,l6,fun W h1 h2=>Sts.cut Xg (i7 W h1 h2) _ f5,by omega,e4⟩ M0)
  have c9:(0:Int)=((Zn l m i).getD 0 Xt).1:=Jj f3 M0
  refine xlv 4 g5.rp ?_
  refine xbs 0 1 [V0 0,.string ⟨(leB (↑(f+k0+i):Int) 4).toArray⟩,V0 (↑(f+k0+i):Int)] 124 fun r2 p2 b8=>?_
  have i5:=b8.ne g5
  have d2:=b1.below (blB d8 hBw a3.below) (N0 hBw c3)
  have p5:=b8.ge0 d2
  have d3:=b1.own3 (Za b5 a3.below) a6
  have i3:=Zg d3 b8
  have a7:=Za d3 b8.below
  have d0:=blB d2 hBw b8.below
  refine xbi 0 fun _ _ _ _ zJ zQ zo zx zy zK=>Zr (m:=1) (news:=[V0 0,.string ⟨(leB (↑(f+k0+i):Int) 4).toArray⟩,V0 (↑(f+k0+i):Int)]) (.agg #[V0 0,.string ⟨#[]⟩,V0 0]) 3 32 (i+1) ((upE l m (f+k0) (i+1)).flatMap Yo) zo Tryz.underlying99 K0 rfl Do zx a7 zy (b8.blk.sl 1 1 Do Do) rfl (by simp[Value.oneCell']) (by unfold maxLen;omega) M0 d0.size (by rfl) (Pi (by first|exact g1|exact c9)) fun o0 n4 q1 m9 c5 k3=>?_
  refine zK _ _ ?_
  refine xwm 5 ((i:Int)+1) (↑(i+1):Int) ?_
  refine xv1 2 3 (show(.slice (Uf a2 (Vv l.length m i) c2 3) (l2.length-(Vv l.length m i)) (c2-(Vv l.length m i)):Value)=.slice (Uf a2 (Vv l.length m i) c2 3) ((l2.drop (Vv l.length m i)).length) (c2-Vv l.length m i) from by rw[I5]) ?_
  have j7:=((((hA.below a0).below a3.below).only (Zd.of_upd (T:=[124]) b1 a3.blk Do) Do).below b8.below).only (Zd.of_grown (T:=[124]) c5 a7 Do) Do
  have e4:l2.drop (Vv l.length m i)=l.drop ((i+1)*m):=by
   rw[f9,L7,D6,E0]
   unfold Vv
   rcases Nat.le_total m (l.length-i*m) with q|q
   ·rw[F7 q]
   ·rw[Nat.min_eq_right q,D7 M0,D7 M0]
  have h7:=d0.trans (k3.mono hBw)
  have hX:=(Fr.grown_new ((Fr.upd_new (((((d5.trans (Fr.of_below a5)).trans (Fr.of_below a4)).trans (f2.mono (by simp))).trans (Fr.of_below a0)).trans (Fr.of_below a3.below)) b1 c3).trans (Fr.of_below b8.below)) c5 a7)
  have k9:=(Zd.grown_new ((Zd.upd_new (((hO.trans a9).trans (Zd.of_below a0)).trans (Zd.of_below a3.below)) b1 c3).trans (Zd.of_below b8.below)) c5 a7)
  have g3:=Zp (Za (b1.own2 (Za (Za (Zi (Za (Za e5 a5) a4) a9 Do) a0) a3.below) a3.blk Do) b8.below) c5 a7 Do
  exact ze 0 (m1 _ _ _ ⟨i+1,_,_,(l2.drop (Vv l.length m i)),_,_,rfl,rfl,h7,hX,k9,g3,m9,j7,fun W h1 h2=>Sts.cut Xg (i7 W h1 h2) _ f5,by omega,e4⟩ M0)
 refine xe 13 (.tuple #[.slice p4 i c4,.nilIface]) ?_
 obtain rfl:i=ovN l.length m:=by omega
 exact⟨_,_,rfl,d7,e2,h8,hA,l8⟩
theorem Zkb{w w':World}(h:Zd [169,5] w w'):Zd [169,5,39] w w':=h.mono fun t ht=>by simp at ht ⊢;exact⟨ht.1,ht.2.1⟩
def Zkj(B ba b g nn cc:Nat)(pa:O0)(ca f N k0:Nat)(bs:Bl)(t:Int)(leaf:Bool)(m v:Nat)(l:List Ent)(b8:Nat)(w:World)(e:Ending)(w':World):Prop :=
 ∃ p c,e=.returned (.slice p (ovN l.length m) c)∧Below B w w'∧Zd [169,5,39] w w'∧Fr [ba,g,b8] w w'∧Blk w' b8 [.nilIface] 39∧Al B ba b g nn cc pa ca f N (k0+ovN l.length m) (Zal t leaf m v l (f+k0) bs (ovN l.length m)) w'∧w'.ownsRow w.heap.size 124 3 (.slice p (ovN l.length m) c) (ovN l.length m) ((upE l m (f+k0) (ovN l.length m)).flatMap Yo)
theorem Cx(B ba b g nn cc:Nat)(pa:O0)(ca f N k0:Nat)(bs:Bl)(t:Int)(leaf:Bool)(m v:Nat)(a:O0)(c:Nat)(l:List Ent)(b3 b4 b8:Nat)(w:World)(k3:Blk w b3 [P0 ba] 77)(k4:Blk w b4 [V0 t] 3)(k8:Blk w b8 [.nilIface] 39)(h38:b3≠b8)(h48:b4≠b8)(hB8:B≤b8)(hC:AlC B ba nn cc ca f N)(hA:Al B ba b g nn cc pa ca f N k0 bs w)(ht1:1≤t)(ht2:t≤5)(hm:Vg t leaf=m)(hv:Nb t leaf=v)(E:EntsOk v l)(hl:leaf=false→1≤l.length)(hn:l.length≤32768)(hf1:1≤f)(hk:k0+ovN l.length m≤N)(hin:∀ W,Below B w W→Zd [169,5,39] w W→Sts Yo W (.slice a l.length c) l)(hBw:B≤w.heap.size) :
 C0 214 #[.bool leaf,.slice a l.length c,P0 b3,P0 b4,P0 b8] w (Zkj B ba b g nn cc pa ca f N k0 bs t leaf m v l b8 w):=by
 refine zin 20 Tryz.func214 ?_
 refine xb 7 0 k3 ?_
 refine xb 0 0 k4 ?_
 refine xc 2 (args:=#[P0 ba,V0 t,.bool leaf,.slice a l.length c]) (Zax B ba b g nn cc pa ca f N k0 bs t leaf m v a c l _ hC hA ht1 ht2 hm hv E hl hn hf1 hk (fun W h1 h2=>hin W ((Below.refl B _).trans h1) ((Zd.refl _ _).trans (Zkb h2))) (N0 hBw (Below.refl B _).size)) ?_
 rintro _ W1 ⟨p4,c4,rfl,a4,a3,a6,hA,a7⟩
 have a5:=A6 w.heap.size
 have a0:=k8.only a3 Do
 refine xs 10 a0 [.nilIface] fun W2 u2 k2=>?_
 have hB:=u2.below a4 hB8
 have hO:=(show Zd [169,5,39] w _ from(Zkb a3)).trans (Zd.of_upd u2 a0 Do)
 have hX:=(show Fr [ba,g,b8] w _ from(a6.mono (by simp))).trans (Fr.of_upd u2 (by simp))
 have a2:=hA.only (Zd.of_upd (T:=[39]) u2 a0 Do) Do
 have a1:=u2.own2 (Zf a7 a5) a0 Do
 exact xe 9 (.slice p4 (ovN l.length m) c4) ⟨_,_,rfl,hB,hO,hX,k2,a2,a1⟩
def Zc0(B ba b g nn cc:Nat)(pa:O0)(ca f N k0:Nat)(bs:Bl)(t:Int)(l:List Ent)(w:World)(e:Ending)(w':World):Prop :=
 e=.returned (.tuple #[V0 (Vl t l (f+k0) bs).1,.nilIface])∧Below B w w'∧Zd [169,5,39] w w'∧Fr [ba,g] w w'∧Al B ba b g nn cc pa ca f N (k0+Zw t l.length) (Vl t l (f+k0) bs).2 w'
theorem Zg3(B ba b g nn cc:Nat)(pa:O0)(ca f N k0:Nat)(bs:Bl)(t:Int)(a:O0)(c:Nat)(l:List Ent)(w:World)(hC:AlC B ba nn cc ca f N)(hA:Al B ba b g nn cc pa ca f N k0 bs w)(ht1:1≤t)(ht2:t≤5)(E:EntsOk (Nb t true) l)(hn:l.length≤32768)(hf1:1≤f)(hkN:k0≤N)(hk:k0+Zw t l.length≤N)(hin:∀ W,Below B w W→Zd [169,5,39] w W→Sts Yo W (.slice a l.length c) l)(hBw:B≤w.heap.size) :
 C0 148 #[P0 ba,V0 t,.slice a l.length c] w (Zc0 B ba b g nn cc pa ca f N k0 bs t l w):=by
 have g1:=Yx t l.length
 have f8:(ovN l.length (Vg t true))≤Zw t l.length:=Mz _
 have g5:=Dy l.length (Vg t true) (Yu t true).1
 have f4:=Qs l.length (Vg t true)
 have f6:=hC.hf
 have f9:=hC.hn
 refine zin 52 Tryz.func148 ?_
 refine xa 2 [P0 ba] 77 fun b1 W1 n1=>?_
 refine xa 0 [V0 t] 3 fun b2 W2 n2=>?_
 have k1:=n1.blk.below n2.below
 refine xb 8 0 k1 ?_
 have c3:=(hA.below n1.below).below n2.below
 refine xr 0 (args:=#[P0 ba]) (Pw ba b _ _ _ c3.blkA) fun W3 b5=>?_
 have k2:=n2.blk.below b5
 refine xb 7 0 k2 ?_
 have hB:=blB (blB (blB (Below.refl B w) hBw n1.below) hBw n2.below) hBw b5
 have hO:=((show Zd [169,5,39] w _ from(Zd.of_below n1.below)).trans (Zd.of_below n2.below)).trans (Zd.of_below b5)
 refine xr 1 (args:=#[V0 t,.slice a l.length c]) (Za2 t (Nb t true) a c l _ ht1 ht2 rfl E (hin _ hB hO) hn) fun W4 b8=>?_
 refine xd 6 .z ?_
 have c4:=((k1.below b5).below b8).below (Zb W4)
 refine xb (.e [] 0) 0 c4 ?_
 have b9:=(k2.below b8).below (Zb W4)
 refine xb (.e [] 2) 0 b9 ?_
 have c7:=((c3.below b5).below b8).below (Zb W4)
 refine xr (.o [3,4] 1) (args:=#[P0 ba]) (Ll ba b pa N ca k0 _ c7.blkA hkN) fun W5 b4=>?_
 refine xr (.o [] 5) (args:=#[V0 t,V0 (l.length:Int)]) (Yq t l.length _ ht1 ht2 hn) fun W6 b6=>?_
 refine xk (.r [6,7] 2) (show(decide ((↑(N-k0):Int)<(↑(Zw t l.length):Int)):Bool)=false from decide_eq_false M0) ?_
 refine xa 5 [.nilIface] 39 fun b7 W7 n7=>?_
 have a7:=blB (blB (blB (blB hB hBw b8) hBw (Zb W4)) hBw b4) hBw b6
 have g7:=n7.ge0 a7
 have b3:=((c4.below b4).below b6).below n7.below
 have a8:=((b9.below b4).below b6).below n7.below
 have e5:=((c7.below b4).below b6).below n7.below
 have b0:=blB a7 hBw n7.below
 have c1:=((((hO.trans (Zd.of_below b8)).trans (Zd.of_below (Zb W4))).trans (Zd.of_below b4)).trans (Zd.of_below b6)).trans (Zd.of_below n7.below)
 refine xc 12 (args:=#[.bool true,.slice a l.length c,P0 b1,P0 b2,P0 b7]) (Cx B ba b g nn cc pa ca f N k0 bs t true (Vg t true) (Nb t true) a c l b1 b2 b7 _ b3 a8 n7.blk (Blk.tne b3 n7.blk Do) (Blk.tne a8 n7.blk Do) (N0 hBw g7) hC e5 ht1 ht2 rfl rfl E (by simp) hn hf1 M0 (fun W h1 h2=>hin W (b0.trans h1) (c1.trans h2)) (N0 hBw b0.size)) ?_
 rintro _ W8 ⟨e1,d8,rfl,f2,d3,e9,d9,hA,a9⟩
 have f1:=(blB a7 hBw n7.below).size
 refine xv1 5 10 (show(.slice e1 (ovN l.length (Vg t true)) d8:Value)=.slice e1 ((upE l (Vg t true) (f+k0) (ovN l.length (Vg t true))).length) d8 from by rw[Xl]) ?_
 have c6:=Zf a9 f1
 have e3:=b0.trans f2
 have hX:=(Fr.trans_new ((((((((show Fr [ba,g] w _ from(Fr.of_below n1.below)).trans (Fr.of_below n2.below)).trans (Fr.of_below b5)).trans (Fr.of_below b8)).trans (Fr.of_below (Zb W4))).trans (Fr.of_below b4)).trans (Fr.of_below b6)).trans (Fr.of_below n7.below)) e9 g7)
 have e2:=c1.trans d3
 have d2:=b3.only d3 Do
 have d6:=a8.only d3 Do
 refine zl 0 52 (fun zm f0 V=>∃ (u:List Ent) (K:Nat) (c9:Bl) (p:O0) (c2:Nat),f0=[(6,V0 0),(7,.nilIface),(8,P0 b7),(9,.func (.func 214) #[] #[P0 b1,P0 b2,P0 b7]),(10,.slice p u.length c2)]∧zm=u.length∧Below B w V∧Fr [ba,g] w V∧Zd [169,5,39] w V∧Blk V b1 ([P0 ba]) 77∧Blk V b2 ([V0 t]) 3∧Blk V b7 ([.nilIface]) 39∧V.ownsRow w.heap.size 124 3 (.slice p u.length c2) u.length (u.flatMap Yo)∧Al B ba b g nn cc pa ca f N K c9 V∧K+(Fz u.length).sum=k0+Zw t l.length+u.length∧1≤u.length∧u.length≤32768∧EntsOk 4 u∧Uu t u (f+K) c9=Vl t l (f+k0) bs) ⟨(upE l (Vg t true) (f+k0) (ovN l.length (Vg t true))),(k0+(ovN l.length (Vg t true))),(Zal t true (Vg t true) (Nb t true) l (f+k0) bs (ovN l.length (Vg t true))),e1,d8,rfl,rfl,e3,hX,e2,d2,d6,d9,(by rw[Xl];exact c6),hA,(by rw[Xl];unfold Zw Qv;omega),(by rw[Xl];exact f4),(by rw[Xl];omega),up_ok E (Yu t true).1,(by rw[←D4];rfl)⟩ ?_
 rintro _ _ W9 ⟨u,K,c9,p,c2,rfl,rfl,a4,c5,c8,a2,a1,a0,a9,hA,hK,f3,g2,hE,d0⟩ J9 f5 r9
 have g0:¬ u.length≤1→(Fz u.length).sum=u.length+(Fz (ovN u.length 18)).sum:=fun h=>by rw[Ke h];rfl
 have f7:=Mz (ovN u.length 18)
 have g6:2≤u.length→ovN u.length 18≤u.length/2:=ov18
 have e0:=Qs u.length 18
 refine xb 3 0 a0 ?_
 refine xid 8 ((u.length:Int)>(1:Int)) (fun d1=>?_) (fun d1=>?_)
 ·refine xc 6 (args:=#[.bool false,.slice p u.length c2,P0 b1,P0 b2,P0 b7]) (Cx B ba b g nn cc pa ca f N K c9 t false 18 4 p c2 u b1 b2 b7 _ a2 a1 a0 (Blk.tne a2 a0 Do) (Blk.tne a1 a0 Do) (N0 hBw g7) hC hA ht1 ht2 rfl rfl hE (fun _=>f3) M0 hf1 M0 (fun W _ h2=>Ze (Zi a9 h2 Do)) (N0 hBw a4.size)) ?_
  rintro _ g3 ⟨e7,e8,rfl,d7,a6,e4,d9,hA,a9⟩
  refine xv1 3 10 (show(.slice e7 (ovN u.length 18) e8:Value)=.slice e7 ((upE u 18 (f+K) (ovN u.length 18)).length) e8 from by rw[Xl]) ?_
  have c0:=Zf a9 a4.size
  have d5:=a4.trans d7
  have d4:=(Fr.trans_new c5 e4 g7)
  have e6:=c8.trans a6
  have a3:=a2.only a6 Do
  have a5:=a1.only a6 Do
  refine ze 0 (f5 _ _ _ ⟨(upE u 18 (f+K) (ovN u.length 18)),(K+ovN u.length 18),_,_,_,rfl,rfl,d5,d4,e6,a3,a5,d9,(by rw[Xl];exact c0),hA,(by rw[Xl];omega),(by rw[Xl];exact e0),(by rw[Xl];omega),up_ok hE Do,(by rw[←d0,←D4];exact(Pm M0).symm)⟩ ?_)
  show((upE u 18 (f+K) (ovN u.length 18)).length)<u.length
  rw[Xl];omega
 refine xb 8 0 a0 ?_
 refine xx 9 _ u.length 0 3 (Sts.cell (Ze a9) Xg Xt (k:=0) (i:=0) M0 rfl).1 ?_
 refine xl 1 ((Sts.cell (Ze a9) Xg Xt (k:=0) (i:=2) M0 rfl).2) ?_
 refine xe 5 (.tuple #[V0 ((u.getD 0 Xt).2.2),.nilIface]) ?_
 have h1:u.length≤1:=by omega
 rw[Mq h1] at d0
 rw[Kq h1] at hK
 simp only[H8,List.sum_nil] at hK
 obtain rfl:K=k0+Zw t l.length:=by omega
 refine⟨by rw[←d0],a4,c8,c5,by rw[←d0];exact hA⟩
theorem Al.mono{B B' ba b g n c:Nat}{pa:O0}{ca f N k:Nat}{l:Bl}{w:World}(h:Al B' ba b g n c pa ca f N k l w)(hB:B≤B'):Al B ba b g n c pa ca f N k l w:=⟨h.blkA,h.blkI,Zf h.data hB,Zf h.nums hB⟩
theorem AlC.mono{B B' ba n c ca f N:Nat}(h:AlC B' ba n c ca f N)(hB:B≤B'):AlC B ba n c ca f N:=⟨h.hn,h.hc,h.hca,h.hf,N0 hB h.hB⟩
theorem row_at{w:World}{base g n c size:Nat}{e:TypeId}{xs:List Value}(h:w.ownsRow base e size (.slice (S1 g) n c) n xs):∃ cur,w.heap[g]? = some (.cells cur e (0,0)):=by
 rcases h.2 with ⟨hv,_⟩|⟨g2,a0,cur,hv,_,hh,_⟩
 ·cases hv
 ·simp only[B6,A0,Addr.mk.injEq] at hv
  obtain⟨⟨rfl,_,_⟩,_⟩:=hv
  exact⟨cur,hh⟩
theorem Al.ne{B ba b g n c:Nat}{pa:O0}{ca f N k:Nat}{l:Bl}{B2 ba2 b2 g2 n2 c2:Nat}{pa2:O0}{ca2 f2 N2 k2:Nat}{l2:Bl}{w:World}(h:Al B ba b g n c pa ca f N k l w)(h2:Al B2 ba2 b2 g2 n2 c2 pa2 ca2 f2 N2 k2 l2 w):b2≠ba∧b2≠g:=by
 constructor
 ·rintro rfl
  exact absurd (h.blkA.ty h2.blkI) Do
 ·rintro rfl
  obtain⟨a0,hh⟩:=row_at h.data
  have h3:w.heap[b2]? = some (.cells [.slice (S1 g2) n2 c2].toArray 108 (0,0)):=h2.blkI
  rw[hh] at h3
  simp only[A0,Obj.cells.injEq] at h3
  exact absurd h3.2.1 Do
theorem Al.apart{B2 ba2 b2 g2 n2 c2:Nat}{pa2:O0}{ca2 f2 N2 k2:Nat}{l2:Bl}{w W:World}{ba g:Nat}(h:Al B2 ba2 b2 g2 n2 c2 pa2 ca2 f2 N2 k2 l2 w)(hC:AlC B2 ba2 n2 c2 ca2 f2 N2)(h1:ba<B2)(h2:g<B2)(hne:b2≠ba∧b2≠g)(hX:Fr [ba,g] w W):Al B2 ba2 b2 g2 n2 c2 pa2 ca2 f2 N2 k2 l2 W:=by
 have hB:=hC.hB
 refine⟨h.blkA.fr hX (by simp;omega),h.blkI.fr hX (by simp;exact hne),Zkt h.data hX fun k hk=>?_,Zkt h.nums hX fun k hk=>?_⟩
 ·have:=(h.data.lt k hk).1;simp;omega
 ·have:=(h.nums.lt k hk).1;simp;omega
theorem Gw(B ba b g nn cc:Nat)(pa:O0)(ca f N k0:Nat)(bs:Bl)(t:Int)(a:O0)(c:Nat)(l:List Ent)(n:Nat)(w:World)(hl:l.length=n)(hC:AlC B ba nn cc ca f N)(hA:Al B ba b g nn cc pa ca f N k0 bs w)(ht1:1≤t)(ht2:t≤5)(E:EntsOk (Nb t true) l)(hn:n≤32768)(hf1:1≤f)(hkN:k0≤N)(hk:k0+Zw t n≤N)(hin:∀ W,Below B w W→Zd [169,5,39] w W→Sts Yo W (.slice a l.length c) l)(hBw:B≤w.heap.size) :
 C0 148 #[P0 ba,V0 t,.slice a n c] w (Zc0 B ba b g nn cc pa ca f N k0 bs t l w):=by
 subst hl;exact Zg3 B ba b g nn cc pa ca f N k0 bs t a c l w hC hA ht1 ht2 E hn hf1 hkN hk hin hBw
theorem Hz{t:Int}{l:List Ent}{q:Nat}{bs:Bl}(hq:1≤q):(Vl t l q bs).1=((q+Zw t l.length-1:Nat):Int):=by
 have hp:=Qs l.length (Vg t true)
 have hg:=Mz (ovN l.length (Vg t true))
 unfold Vl
 rw[Zb1 (by rw[Xl];exact hp) (by rw[Xl,Hr M0];simp only[upX];congr 1;omega) M0,Xl]
 unfold Zw Qv
 congr 1;omega
abbrev Kv:=Int×List Ent
def Nx(x:Kv):Prop:=1≤x.1∧x.1≤5∧EntsOk (Nb x.1 true) x.2∧x.2.length≤32768
def Cu(x:Kv):Nat:=Zw x.1 x.2.length
def Xm:List Kv→Nat
 | []=>0
 | x::r=>Cu x+Xm r
def Fo:List Kv→Nat→Bl→Bl
 | [],_,bs=>bs
 | x::r,q,bs=>Fo r (q+Cu x) (Vl x.1 x.2 q bs).2
theorem Zcf(a b:List Kv):Xm (a++b)=Xm a+Xm b:=by
 induction a with
 | nil=>simp[Xm]
 | cons x a ih=>simp only[H1,Xm,ih];omega
theorem Zbk(a b:List Kv):∀ (q:Nat) (bs:Bl),Fo (a++b) q bs=Fo b (q+Xm a) (Fo a q bs):=by
 induction a with
 | nil=>intro q bs;simp[Fo,Xm]
 | cons x a ih =>
  intro q bs
  simp only[H1,Fo,Xm,ih]
  rw[show q+Cu x+Xm a=q+(Cu x+Xm a) by omega]
theorem Zb8{α:Type}{a b:List α}(d:α)(hl:a.length=b.length)(h:∀ i,i<a.length→a.getD i d=b.getD i d):a=b:=by
 refine G5 hl fun i h1 h2=>?_
 have:=h i h1
 simpa [List.getD,h1,h2] using this
theorem Zae(L:List Dv)(i:Nat):Vo (L.take i)≤Vo L:=by
 conv=>rhs;rw[←G3 i L]
 unfold Vo
 rw[A9,F8];omega
theorem Md{α:Type}{l:List α}{k:Nat}(d:α)(h:k<l.length):l.getD k d∈l:=by
 rw[show l.getD k d=l[k] from by simp[List.getD,h]];exact E5 _
def devT(L:List Dv):List Kv:=L.map fun d=>(2,Jy d.2)
theorem Zfr{l:List Nat}{a:Nat}(h:a∈l):a≤l.sum:=by
 induction l with
 | nil=>cases h
 | cons b l ih =>
  rw[H8]
  rcases E9.1 h with rfl|h
  ·omega
  ·have:=ih h;omega
theorem devT_ok{data:Int}{L:List Dv}(h:DevsOk data L):∀ x∈devT L,Nx x:=by
 intro x hx
 obtain⟨d,hd,rfl⟩:=List.mem_map.1 hx
 have hs:d.2.length≤Vo L:=by
  unfold Vo
  exact Zfr (List.mem_map.2 ⟨d,hd,rfl⟩)
 have:=h.sum
 exact⟨show(1:Int)≤2 by decide,show(2:Int)≤5 by decide,mapEs_ok (h.each d hd).maps,by rw[Qu];omega⟩
theorem forN_one(x:Kv):Xm [x]=Cu x:=by show Cu x+0=_;omega
theorem Kg(F:List Kv)(x:Kv):Xm (F++[x])=Xm F+Cu x:=by rw[Zcf,forN_one]
theorem Ov(F:List Kv)(x:Kv)(q:Nat)(bs:Bl):Fo (F++[x]) q bs=(Vl x.1 x.2 (q+Xm F) (Fo F q bs)).2:=by rw[Zbk];rfl
theorem Ni(x:Kv):1≤Cu x:=Yx _ _
def AlF (B ba b g nn cc:Nat)(pa:O0)(ca N:Nat)(bs:Bl)(F:List Kv)(w:World):Prop:=Al B ba b g nn cc pa ca 1 N (Xm F) (Fo F 1 bs) w
theorem AlF.below{B ba b g nn cc:Nat}{pa:O0}{ca N:Nat}{bs:Bl}{F:List Kv}{w W:World}(h:AlF B ba b g nn cc pa ca N bs F w)(hb:B3 w W):AlF B ba b g nn cc pa ca N bs F W:=Al.below h hb
theorem AlF.only{B ba b g nn cc:Nat}{pa:O0}{ca N:Nat}{bs:Bl}{F:List Kv}{w W:World}{T:List TypeId}(h:AlF B ba b g nn cc pa ca N bs F w)(hO:Zd T w W)(hT:(T.contains 169||(T.contains 108||(T.contains 5||T.contains 3)))=false):AlF B ba b g nn cc pa ca N bs F W:=by
 simp only[L1] at hT
 exact⟨h.blkA.only hO hT.1,h.blkI.only hO hT.2.1,Zi h.data hO hT.2.2.1,Zi h.nums hO hT.2.2.2⟩
theorem build_F(B ba b g nn cc:Nat)(pa:O0)(ca N:Nat)(bs:Bl)(F:List Kv)(t:Int)(a:O0)(c n:Nat)(l:List Ent)(w:World)(hl:l.length=n)(hC:AlC B ba nn cc ca 1 N)(hA:AlF B ba b g nn cc pa ca N bs F w)(hok:Nx (t,l))(hr:Xm (F++[(t,l)])≤N)
 (hin:∀ W,Below B w W→Zd [169,5,39] w W→Sl W (.slice a n c) n (l.flatMap Yo)) (hBw:B≤w.heap.size) :
 C0 148 #[P0 ba,V0 t,.slice a n c] w (fun e w'=>e=.returned (.tuple #[V0 (Xm (F++[(t,l)]):Int),.nilIface])∧Below B w w'∧Zd [169,5,39] w w'∧Fr [ba,g] w w'∧AlF B ba b g nn cc pa ca N bs (F++[(t,l)]) w'):=by
 subst hl
 have hn:=Ni (t,l)
 rw[Kg] at hr
 refine(Gw B ba b g nn cc pa ca 1 N (Xm F) (Fo F 1 bs) t a c l l.length w rfl hC hA hok.1 hok.2.1 hok.2.2.1 (N0 hok.2.2.2 Do) (A6 _) M0 hr hin hBw).mono ?_
 rintro e w' ⟨rfl,hb,hO,hX,a1⟩
 have a0:(Vl t l (1+Xm F) (Fo F 1 bs)).1=((Xm (F++[(t,l)]):Nat):Int):=by
  rw[Hz M0,Kg]
  show((1+Xm F+Cu (t,l)-1:Nat):Int)=_
  omega
 refine⟨by rw[a0],hb,hO,hX,?_⟩
 unfold AlF
 rw[Kg,Ov]
 exact a1
theorem Zjb{data:Int}{L:List Dv}{R:Nat→Nat}(h:DevsOk data L):Nx (1,Gc L R):=by
 have:=h.few
 exact⟨show(1:Int)≤1 by decide,show(1:Int)≤5 by decide,topEs_ok h,by rw[Ys];omega⟩
theorem Zj1{data:Int}{L:List Dv}{C:Nat→Int}(h:DevsOk data L):Nx (3,Hy L C):=by
 have:=h.few
 exact⟨show(1:Int)≤3 by decide,show(3:Int)≤5 by decide,detEs_ok h,by rw[Yv];omega⟩
theorem Ug{E:List Ent}{i:Nat}(h:i<E.length){x:Ent}(hx:E.getD i Xt=x):(E.take i).flatMap Yo++Yo x=(E.take (i+1)).flatMap Yo:=by
 subst hx
 rw[A8 h,E1]
 simp[List.getD,h]
theorem Rr{data:Int}{L:List Dv}(hD:DevsOk data L){i:Nat}(h:i<L.length):Nx (2,Jy (L.getD i dvD).2):=devT_ok hD _ (List.mem_map.2 ⟨L.getD i dvD,by simp[List.getD,h],rfl⟩)
theorem He{L:List Dv}{i:Nat}(h:i<L.length):(L.getD i dvD).2.length≤Vo L:=by
 have a:=Zae L (i+1)
 have e:Vo (L.take (i+1))=Vo (L.take i)+(L.getD i dvD).2.length:=by
  unfold Vo
  rw[A8 h,A9,F8]
  simp[List.getD,h]
 omega
def Kc(L:List Dv):Nat→Int:=fun i=>((L.getD i dvD).2.length:Int)
def Tg(cs:List Nat)(k:Int):List Nat:=cs.set k.toNat (cs.getD k.toNat 0+1)
theorem Wg(cs:List Nat)(k:Int):(Tg cs k).length=cs.length:=by simp[Tg]
theorem sum_set{cs:List Nat}{k:Nat}(h:k<cs.length)(v:Nat):(cs.set k v).sum+cs.getD k 0=cs.sum+v:=by
 induction cs generalizing k with
 | nil=>exact absurd h (by simp)
 | cons a cs ih =>
  cases k with
  | zero=>simp[List.getD];omega
  | succ k =>
   have:=ih (k:=k) (by simpa using h)
   simp only[List.set_cons_succ,H8,L5]
   omega
theorem Zdx{cs:List Nat}{k:Int}(h0:0≤k)(h:k<cs.length):(Tg cs k).sum=cs.sum+1:=by
 have:=sum_set (cs:=cs) (k:=k.toNat) M0 (cs.getD k.toNat 0+1)
 unfold Tg;omega
def Jp(cs:List Nat)(S:List Nat):List Nat:=S.foldl (fun(c:List Nat) (b:Nat)=>Tg c (b:Int)) cs
theorem Mx(cs:List Nat)(b:Nat)(S:List Nat):Jp cs (b::S)=Jp (Tg cs (b:Int)) S:=rfl
theorem Zaj(cs S T:List Nat):Jp cs (S++T)=Jp (Jp cs S) T:=List.foldl_append
theorem Oj(S:List Nat):∀ cs:List Nat,(Jp cs S).length=cs.length:=by
 induction S with
 | nil=>intro cs;rfl
 | cons b S ih=>intro cs;rw[Mx,ih,Wg]
theorem Zia{cs:List Nat}{k:Nat}(hk:k<cs.length)(i:Nat):(Tg cs (k:Int)).getD i 0=cs.getD i 0+if k=i then 1 else 0:=by
 unfold Tg
 rw[C4]
 by_cases e:k=i
 ·subst e;simp[List.getD,hk]
 ·rw[if_neg e];simp[List.getD,e]
theorem Az(S:List Nat):∀ cs:List Nat,(∀ b∈S,b<cs.length)→∀ i,(Jp cs S).getD i 0=cs.getD i 0+S.count i:=by
 induction S with
 | nil=>intro cs _ i;simp[Jp]
 | cons b S ih =>
  intro cs h i
  rw[Mx,ih _ (fun x hx=>by rw[Wg];exact h x (D8 _ hx)),Zia (h b C2),List.count_cons]
  by_cases e:b=i
  ·subst e;simp;omega
  ·rw[if_neg e,if_neg (by simpa using e)];omega
def Vc:Nat→List Dv→List (Nat×Mp)
 | _,[]=>[]
 | i,d::r=>d.2.map (fun m=>(i,m))++Vc (i+1) r
theorem Uv(L:List Dv):∀ i,(Vc i L).length=Vo L:=by
 induction L with
 | nil=>intro i;rfl
 | cons d r ih=>intro i;rw[Vc,A5,At,ih];rfl
theorem Zd4(L:List Dv):∀ (b i:Nat),i≤L.length→(Vc b L).drop (Vo (L.take i))=Vc (b+i) (L.drop i):=by
 induction L with
 | nil =>
  intro b i hi;obtain rfl:i=0:=by simpa using hi
  rfl
 | cons d r ih =>
   intro b i hi
   cases i with
   | zero=>rfl
   | succ i =>
    have e:Vo ((d::r).take (i+1))=d.2.length+Vo (r.take i):=rfl
    rw[e,Vc,List.drop_append,At,show d.2.length+Vo (r.take i)-d.2.length=Vo (r.take i) by omega,D7 (by rw[At];omega),G9,ih (b+1) i (by simpa using hi)]
    rw[show b+1+i=b+(i+1) by omega];rfl
theorem Zcr{L:List Dv}{i j:Nat}(hi:i<L.length)(hj:j<(L.getD i dvD).2.length):(Vc 0 L)[Vo (L.take i)+j]? = some (i,(L.getD i dvD).2.getD j (0,0,0)):=by
 have h:=Zd4 L 0 i M0
 rw[←Eq,h,I3 hi,Vc,F1]
 have e:L.getD i dvD=L[i]:=by simp[List.getD,hi]
 rw[e] at hj ⊢
 rw[I2 (by rw[At];exact hj),B9,B5 hj]
 simp[List.getD,hj]
def Ha(cs:List Nat)(R:List (Nat×Mp)):List Nat:=R.foldl (fun c x=>Tg c x.2.2.1) cs
def Yn(data:Nat)(L:List Dv):List Nat:=Ha (List.replicate data 0) (Vc 0 L)
theorem Fh(R:List (Nat×Mp)):∀ cs,(Ha cs R).length=cs.length:=by
 induction R with
 | nil=>intro cs;rfl
 | cons x r ih=>intro cs;show(Ha (Tg cs x.2.2.1) r).length=_;rw[ih,Wg]
theorem Yk(data:Nat)(L:List Dv):(Yn data L).length=data:=by unfold Yn;rw[Fh,A7]
theorem Ru(cs:List Nat)(R:List (Nat×Mp)){k:Nat}{x:Nat×Mp}(h:R[k]? = some x):Ha cs (R.take (k+1))=Tg (Ha cs (R.take k)) x.2.2.1:=by
 have hk:k<R.length:=by
  rcases C3 k R.length with q|q
  ·exact q
  ·rw[C5 q] at h;cases h
 rw[B5 hk,A0] at h
 unfold Ha
 rw[A8 hk,List.foldl_append,h];rfl
theorem Zad{data:Int}:∀ (L:List Dv),(∀ d∈L,DevOk data d)→∀ (b:Nat),∀ x∈Vc b L,0≤x.2.2.1∧x.2.2.1<data
 | [],_,_,x,hx=>by cases hx
 | d::r,he,b,x,hx=>by
  rw[Vc] at hx
  rcases List.mem_append.1 hx with hx|hx
  ·obtain⟨m,hm,rfl⟩:=List.mem_map.1 hx
   exact((he d (C2 ..)).maps.each m hm).2.1
  ·exact Zad r (fun y hy=>he y (D8 _ hy)) (b+1) x hx
theorem Am{data:Int}{L:List Dv}(h:DevsOk data L)(b:Nat):∀ x∈Vc b L,0≤x.2.2.1∧x.2.2.1<data:=Zad L h.each b
theorem Fd{data:Nat}(R:List (Nat×Mp))(h:∀ x∈R,0≤x.2.2.1∧x.2.2.1<(data:Int)):∀ cs,cs.length=data→(Ha cs R).sum=cs.sum+R.length:=by
 induction R with
 | nil=>intro cs _;rfl
 | cons x r ih =>
  intro cs hc
  have hx:=h x (C2 ..)
  show(Ha (Tg cs x.2.2.1) r).sum=_
  rw[ih (fun y hy=>h y (D8 _ hy)) _ (by rw[Wg];exact hc),Zdx hx.1 M0,E4];omega
theorem Cw{data:Nat}{L:List Dv}(h:DevsOk (data:Int) L):(Yn data L).sum=Vo L:=by
 unfold Yn
 rw[Fd _ (Am h 0) _ A7,K9,Uv];omega
theorem Pu(l:List Nat)(i:Nat):l.getD i 0≤l.sum:=by
 induction l generalizing i with
 | nil=>simp[List.getD]
 | cons a l ih =>
  cases i with
  | zero=>simp[List.getD]
  | succ i=>have:=ih i;simp only[L5,H8];omega
def Yl(data:Nat)(L:List Dv):List Int:=(Yn data L).map fun n:Nat=>(n:Int)
theorem Yy(data:Nat)(L:List Dv):(Yl data L).length=data:=by unfold Yl;rw[At,Yk]
theorem Ep(data:Nat)(L:List Dv)(i:Nat):(Yl data L).getD i 0=((Yn data L).getD i 0:Nat):=by
 unfold Yl
 simp only[List.getD,B9]
 cases (Yn data L)[i]? <;> rfl
theorem Pk{data:Nat}{L:List Dv}(hd:data≤65536)(h:DevsOk (data:Int) L):Qd (Yl data L)=0:=by
 unfold Qd
 rw[Yy,if_neg M0,if_pos]
 intro k hk
 rw[Ep]
 have a:=Pu (Yn data L) k
 rw[Cw h] at a
 have b:=h.sum
 unfold Kr;omega
def Yc(cs:List Nat)(k:Nat):Nat:=((cs.take k).filter fun n=>decide (3≤n)).length
theorem Kj{cs:List Nat}{k:Nat}(h:k<cs.length):Yc cs (k+1)=Yc cs k+if 3≤cs.getD k 0 then 1 else 0:=by
 unfold Yc
 rw[A8 h,List.filter_append,A5,show cs.getD k 0=cs[k] from by simp[List.getD,h]]
 congr 1
 by_cases q:3≤cs[k]<;>simp[q]
theorem Cg(cs:List Nat):∀ k,k≤cs.length→3*Yc cs k≤(cs.take k).sum
 | 0,_=>by simp[Yc]
 | k+1,h=>by
  have ih:=Cg cs k M0
  rw[Kj M0,A8 M0,F8]
  have e:cs.getD k 0=cs[k]:=by simp[List.getD,show k<cs.length by omega]
  rw[e]
  simp only[H8,List.sum_nil,I0]
  split<;>omega
theorem Zc5(data:Nat)(L:List Dv):∀ k,k≤data→(Zl (Yl data L) k).length=Yc (Yn data L) k
 | 0,_=>by simp[Zl,Yc]
 | k+1,h=>by
  have ih:=Zc5 data L k M0
  rw[Kj (by rw[Yk];omega),←ih]
  by_cases q:3≤(Yl data L).getD k 0
  ·rw[Vj q,A5,if_pos (by rw[Ep] at q;omega)];rfl
  ·rw[Qw q,if_neg (by rw[Ep] at q;omega),I0]
def Zag(data:Nat)(L:List Dv):Nat:=Yc (Yn data L) data
theorem Wd(data:Nat)(L:List Dv):(Zl (Yl data L) (Yl data L).length).length=Zag data L:=by rw[Yy];exact Zc5 data L data (A6 _)
theorem Wr{data:Nat}{L:List Dv}(h:DevsOk (data:Int) L):Zag data L≤5462:=by
 have a:=Cg (Yn data L) data (by rw[Yk];exact A6 _)
 rw[A1 (by rw[Yk];exact A6 _),Cw h] at a
 have:=h.sum
 unfold Zag;omega
def Qj(L:List Dv):Nat:=(L.map fun d=>Zw 2 d.2.length).sum
def Ho(data:Nat)(L:List Dv):Nat:=1+Zw 3 L.length+Zw 1 L.length+Qj L+bmN data+Zw 4 (bmN data)+Zw 5 (Zag data L)
theorem Sh{L:List Dv}{i:Nat}(h:i<L.length):Qj (L.take (i+1))=Qj (L.take i)+Zw 2 (L.getD i dvD).2.length:=by
 unfold Qj
 rw[A8 h,A9,F8,show L.getD i dvD=L[i] from by simp[List.getD,h]]
 simp
def Nh(m:Nat):Nat:=m+(m-1)/959+1
theorem Sk{L:List Dv}:Qj L≤2*Vo L+2*L.length:=by
 induction L with
 | nil=>exact A3 _
 | cons d r ih =>
  have e2:Qj (d::r)=Zw 2 d.2.length+Qj r:=rfl
  have e3:Vo (d::r)=d.2.length+Vo r:=rfl
  have:=Yp 2 d.2.length
  rw[e2,e3,E4];omega
theorem Sm{data:Nat}{L:List Dv}(hd:data≤65536)(h:DevsOk (data:Int) L):1≤Ho data L∧Ho data L≤100000:=by
 have a:=Yp 3 L.length
 have b:=Yp 1 L.length
 have c:=@Sk L
 have d:=Yp 4 (bmN data)
 have e:=Yp 5 (Zag data L)
 have f:=Wr h
 have g:=h.few
 have i:=h.sum
 have j:bmN data≤69:=by unfold bmN;omega
 unfold Ho;omega
theorem Zig{m n:Nat}(h0:1≤m)(h1:m≤n)(h2:n<Nh m):n<m+bmN n:=by unfold Nh at h2;unfold bmN;omega
theorem Ik{m n:Nat}(h:Nh m≤n):m+bmN n≤n:=by unfold Nh at h;unfold bmN;omega
/-! ### numerals tell numbers -/
theorem Tf{n:Nat}(h:n<10):(UInt8.ofNat (48+n)).toNat=48+n:=by
 rw[UInt8.toNat_ofNat'];omega
def valD(l:Bl):Nat:=l.foldl (fun a d=>a*10+(d.toNat-48)) 0
theorem Zk0(l:Bl)(d:UInt8):valD (l++[d])=valD l*10+(d.toNat-48):=by unfold valD;rw[List.foldl_append];rfl
theorem Mr(u:Nat):valD (Lib.decDigits u)=u∧∀ d∈Lib.decDigits u,48≤d.toNat:=by
 induction u using Nat.strongRecOn with
 | _ u ih =>
  rw[Lib.decDigits]
  by_cases h:u<10
  ·rw[dif_pos h]
   refine⟨?_,fun d hd=>?_⟩
   ·show 0*10+((UInt8.ofNat (48+u)).toNat-48)=u
    rw[Tf h];omega
   ·rw[E2.1 hd,Tf h];omega
  ·rw[dif_neg h]
   obtain⟨h1,h2⟩:=ih (u/10) M0
   refine⟨?_,fun d hd=>?_⟩
   ·rw[Zk0,h1,Tf M0];omega
   ·rcases List.mem_append.1 hd with hd|hd
    ·exact h2 d hd
    ·rw[E2.1 hd,Tf M0];omega
theorem Zke{a b:Nat}(h:Lib.decDigits a=Lib.decDigits b):a=b:=by rw[←(Mr a).1,h,(Mr b).1]
theorem Zgt(n:Int):∀ d∈Lib.itoa n,d.toNat=45∨48≤d.toNat:=by
 intro d hd
 unfold Lib.itoa at hd
 split at hd
 ·rcases E9.1 hd with rfl|hd
  ·exact .inl rfl
  ·exact .inr ((Mr _).2 d hd)
 ·exact .inr ((Mr _).2 d hd)
theorem itoa_inj{a b:Int}(h:Lib.itoa a=Lib.itoa b):a=b:=by
 unfold Lib.itoa at h
 split at h<;>split at h
 ·have:=Zke (List.cons.inj h).2;omega
 ·have q:=(Mr b.toNat).2 45 (by rw[←h];exact C2)
  exact absurd q Do
 ·have q:=(Mr a.toNat).2 45 (by rw[h];exact C2)
  exact absurd q Do
 ·have:=Zke h;omega
theorem Zcs:∀ {a b r s:Bl},(∀ d∈a,d≠32)→(∀ d∈b,d≠32)→a++32::r=b++32::s→a=b∧r=s
 | [],[],r,s,_,_,h=>⟨rfl,(List.cons.inj h).2⟩
 | [],y::b,r,s,_,hb,h=>absurd (List.cons.inj h).1.symm (hb y C2)
 | x::a,[],r,s,ha,_,h=>absurd (List.cons.inj h).1 (ha x C2)
 | x::a,y::b,r,s,ha,hb,h=>by
  obtain⟨h1,h2⟩:=List.cons.inj h
  obtain⟨h3,h4⟩:=Zcs (fun d hd=>ha d (D8 _ hd)) (fun d hd=>hb d (D8 _ hd)) h2
  exact⟨by rw[h1,h3],h4⟩
def txtN(n:Int):Bl:=Lib.itoa n++[32]
theorem Ts{a b:Int}{r s:Bl}(h:txtN a++r=txtN b++s):a=b∧r=s:=by
 unfold txtN at h
 rw[C6,C6] at h
 have ne:∀ n:Int,∀ d∈Lib.itoa n,d≠32:=fun n d hd q=>by
  subst q
  rcases Zgt n _ hd with q|q
  ·exact absurd q Do
  ·exact absurd q Do
 obtain⟨h1,h2⟩:=Zcs (ne a) (ne b) h
 exact⟨itoa_inj h1,h2⟩
theorem Tu{n:Int}(h0 : -9223372036854775808≤n)(h1:n≤9223372036854775807):(txtN n).length≤22:=by
 unfold txtN;rw[A5];have:=Lib.itoa_length_le n h0 h1;simp;omega
def Zdw(m:Mp):Bl:=txtN m.1++(txtN m.2.1++txtN m.2.2)
def txt (M:List Mp):Bl:=M.flatMap Zdw
theorem Zjm(m:Mp):Zdw m≠[]:=by
 unfold Zdw txtN
 intro h
 have:=congrArg List.length h
 simp at this
theorem txtM_inj{a b:Mp}{r s:Bl}(h:Zdw a++r=Zdw b++s):a=b∧r=s:=by
 unfold Zdw at h
 simp only[C6] at h
 obtain⟨h1,h⟩:=Ts h
 obtain⟨h2,h⟩:=Ts h
 obtain⟨h3,h⟩:=Ts h
 exact⟨Prod.ext h1 (Prod.ext h2 h3),h⟩
theorem Zbw:∀ {a b:List Mp},txt a=txt b→a=b
 | [],[],_=>rfl
 | [],y::b,h=>by
  have:Zdw y++txt b=[]:=h.symm
  exact absurd (List.append_eq_nil_iff.1 this).1 (Zjm y)
 | x::a,[],h=>by
  have:Zdw x++txt a=[]:=h
  exact absurd (List.append_eq_nil_iff.1 this).1 (Zjm x)
 | x::a,y::b,h=>by
  obtain⟨h1,h2⟩:=txtM_inj (show Zdw x++txt a=Zdw y++txt b from h)
  rw[h1,Zbw h2]
def InI (n:Int):Prop:=-9223372036854775808≤n∧n≤9223372036854775807
def MpR (m:Mp):Prop:=InI m.1∧InI m.2.1∧InI m.2.2
theorem txt_len{M:List Mp}(h:∀ m∈M,MpR m):(txt M).length≤66*M.length:=by
 induction M with
 | nil=>exact A3 _
 | cons m r ih =>
  have a:=ih fun x hx=>h x (D8 _ hx)
  obtain⟨h1,h2,h3⟩:=h m C2
  have e:txt (m::r)=Zdw m++txt r:=rfl
  rw[e,A5,E4]
  unfold Zdw
  rw[A5,A5]
  have:=Tu h1.1 h1.2
  have:=Tu h2.1 h2.2
  have:=Tu h3.1 h3.2
  omega
theorem txt_take{M:List Mp}{i:Nat}(h:i<M.length):txt (M.take (i+1))=txt (M.take i)++Zdw (M.getD i mpD):=by
 unfold txt
 rw[A8 h,E1,show M.getD i mpD=M[i] from by simp[List.getD,h]]
 simp
/-! ### owners -/
def Xo(L:List Dv)(i:Nat):Nat:=L.findIdx fun d=>decide (d.2=(L.getD i dvD).2)
theorem Gp{L:List Dv}{i:Nat}(h:i<L.length):Xo L i≤i∧(L.getD (Xo L i) dvD).2=(L.getD i dvD).2:=by
 have e:L.getD i dvD=L[i]:=by simp[List.getD,h]
 have h1:Xo L i<L.length:=List.findIdx_lt_length_of_exists ⟨L[i],E5 h,by rw[e];simp⟩
 refine⟨?_,?_⟩
 ·rcases C3 i (Xo L i) with q|q
  ·have h9:=List.not_of_lt_findIdx q
   have h8:decide ((L[i]).2=(L.getD i dvD).2)=true:=by rw[e];exact decide_eq_true rfl
   exact absurd h8 (by simpa using h9)
  ·exact q
 ·have h2:=List.findIdx_getElem (p:=fun d:Dv=>decide (d.2=(L.getD i dvD).2)) (w:=h1)
  have e2:L.getD (Xo L i) dvD=L[Xo L i]:=by simp[List.getD,h1]
  rw[e2];exact of_decide_eq_true h2
theorem Dc{L:List Dv}{i k:Nat}(hk:k<Xo L i):(L.getD k dvD).2≠(L.getD i dvD).2:=by
 have hl:k<L.length:=D0 hk List.findIdx_le_length
 have:=List.not_of_lt_findIdx hk
 rw[show L.getD k dvD=L[k] from by simp[List.getD,hl]]
 simpa using this
theorem Oc{L:List Dv}{i k:Nat}(hi:i<L.length)(h1:(L.getD k dvD).2=(L.getD i dvD).2)(h2:∀ j,j<k→(L.getD j dvD).2≠(L.getD i dvD).2):k=Xo L i:=by
 rcases Nat.lt_trichotomy k (Xo L i) with q|q|q
 ·exact absurd h1 (Dc q)
 ·exact q
 ·exact absurd (Gp hi).2 (h2 _ q)
theorem Cr{L:List Dv}{i:Nat}(hi:i<L.length):Xo L (Xo L i)=Xo L i:=by
 have h:=Gp hi
 have hl:Xo L i<L.length:=by omega
 exact(Oc hl (by rfl) fun j hj=>by rw[h.2];exact Dc hj).symm
def owL (L:List Dv):List Nat:=(List.range L.length).map (Xo L)
theorem Jc(L:List Dv):(owL L).length=L.length:=by unfold owL;rw[At,List.length_range]
theorem Zik{L:List Dv}{i:Nat}(h:i<L.length):(owL L).getD i 0=Xo L i:=by
 unfold owL
 simp[List.getD,h]
def Fn(L:List Dv)(i:Nat):List (Bl×Nat):=((List.range i).filter fun k=>Xo L k==k).map fun k=>(txt (L.getD k dvD).2,k)
theorem Fm(L:List Dv)(i:Nat):Fn L (i+1)=if Xo L i=i then Fn L i++[(txt (L.getD i dvD).2,i)] else Fn L i:=by
 unfold Fn
 rw[C1,List.filter_append,A9]
 by_cases q:Xo L i=i<;>simp[q]
def ItT (w : World) : Prop := Lib.TabIs Tryz.prog w "internal/strconv.uint64pow10" .u64 Lib.pow10Tab
theorem ItT.below{w W:World}(h:ItT w)(hb:B3 w W):ItT W:=by
 unfold ItT Lib.TabIs World.var? at h ⊢
 cases hg : Tryz.prog.globalNamed "internal/strconv.uint64pow10" with
 | none=>rw[hg] at h;cases h
 | some g =>
  rw[hg] at h
  simp only[Option.bind_some] at h ⊢
  rcases C3 g w.heap.size with q|q
  ·rw[hb.block g q];exact h
  ·rw[Array.getElem?_eq_none q] at h;cases h
theorem Pv(w:World):∀ k,B3 w (w.drewN k)
 | 0=>Below.refl _ _
 | k+1=>by
  have h:=Pv w k
  first|exact bln h (Zb _)|exact bln (Zb w) (Pv w.drew k)
theorem Zfv(w:World)(os:Array Obj):B3 w (Go.Sort.grow w os):=⟨rfl,rfl,rfl,by simp[Go.Sort.grow],fun k hk=>by simp[Go.Sort.grow,Array.getElem?_append,hk]⟩
theorem Tq{n:Int}(hn:InI n)(w:World)(h:ItT w):C0 77 #[V0 n] w (Ret (.string ⟨(Lib.itoa n).toArray⟩) w):=by
 refine(Dk n hn.1 hn.2 w h).mono ?_
 rintro e W ⟨rfl,k,os,rfl⟩
 exact⟨rfl,bln (Pv w k) (Zfv _ os)⟩
def Bld (B b:Nat)(l:Bl)(w:World):Prop:=∃ v q c,(v=.pointer none∨v=P0 b)∧B≤b∧Blk w b [v,.slice q l.length c] 155∧w.ownsRow B 5 1 (.slice q l.length c) l.length (l.map bv)
theorem Bld.below{B b:Nat}{l:Bl}{w W:World}(h:Bld B b l w)(hb:B3 w W):Bld B b l W:=by
 obtain⟨v,q,c,h1,h2,h3,h4⟩:=h
 exact⟨v,q,c,h1,h2,h3.below hb,Za h4 hb⟩
theorem Bld.only{B b:Nat}{l:Bl}{w W:World}{T:List TypeId}(h:Bld B b l w)(hO:Zd T w W)(hT:(T.contains 155||T.contains 5)=false):Bld B b l W:=by
 obtain⟨v,q,c,h1,h2,h3,h4⟩:=h
 simp only[L1] at hT
 exact⟨v,q,c,h1,h2,h3.only hO hT.1,Zi h4 hO hT.2⟩
theorem Bld.zero{B b:Nat}{w:World}(hB:B≤b)(k:Blk w b [.pointer none,S0] 155):Bld B b [] w :=
 ⟨_,none,0,.inl rfl,hB,k,A4 _ _ _ _⟩
theorem Zhj(b:Nat)(x:Value)(w:World)(k:Blk w b [P0 b,x] 155) :
 C0 142 #[P0 b] w fun e w'=>e=.returned (.tuple #[])∧w'=w:=by
 have h0:w.cell? ⟨b,0,none⟩=some (P0 b):=k.cell (i:=0) rfl
 obtain⟨j,hj,_⟩:=Option.map_eq_some_iff.1 Yw.sizeBuilder
 go_enter Tryz.func142,Tryz.ntmps142
 go_wp2
 rw[Lib.run_neq_ptr_same w _ Tryz.underlying153 hj]
 go_wp2
 go_end0
 exact⟨rfl,rfl⟩
theorem Zey(b:Nat)(x:Value)(w:World)(k:Blk w b [.pointer none,x] 155) :
 C0 142 #[P0 b] w fun e w'=>e=.returned (.tuple #[])∧w'=w.setCell ⟨b,0,none⟩ (P0 b):=by
 have h0:w.cell? ⟨b,0,none⟩=some (.pointer none):=k.cell (i:=0) rfl
 have a2:w.frozen? ⟨b,0,none⟩=false:=k.frozen 0
 have a0:w.shape? b=some (155,2):=by
  have:w.heap[b]? = some (.cells #[.pointer none,x] 155 (0,0)):=k
  simp[World.shape?,this]
 obtain⟨j,hj,a1⟩:=Option.map_eq_some_iff.1 Yw.sizeBuilder
 go_enter Tryz.func142,Tryz.ntmps142
 go_wp2
 rw[Lib.run_to_unsafe w ⟨b,0,none⟩ Tryz.underlying153 Tryz.underlying233 hj (by rw[a1];decide) a0 (Nat.zero_lt_succ 1)]
 simp only[Result.andThen]
 rw[Oper.upon_value]
 go_wp2
 rw[run_callFunc_extern Tryz.func211 K0 K0 K0 (e:=Extern.AbiNoEscape.same) K0]
 rw[Lib.run_noEscape]
 simp only[Result.andThen]
 rw[Oper.upon_value]
 go_wp2
 rw[Lib.run_from_unsafe w ⟨b,0,none⟩ Tryz.underlying233 Tryz.underlying153 hj a0 Yw.liesBuilder]
 simp only[Result.andThen]
 rw[Oper.upon_value]
 go_wp2
 go_end0
 exact⟨rfl,rfl⟩
theorem Zdn(B b:Nat)(v x:Value)(w:World)(hv:v=.pointer none∨v=P0 b)(hB:B≤b)(k:Blk w b [v,x] 155) :
 C0 142 #[P0 b] w fun e w'=>e=.returned (.tuple #[])∧Below B w w'∧Zd [155] w w'∧Blk w' b [P0 b,x] 155:=by
 rcases hv with rfl|rfl
 ·refine(Zey b x w k).mono ?_
  rintro e W ⟨rfl,rfl⟩
  have u:=Upd.setCell w b 0 (P0 b)
  exact⟨rfl,u.below (Below.refl _ _) hB,Zd.of_upd u k Do,k.set 0 _⟩
 ·refine(Zhj b x w k).mono ?_
  rintro e W ⟨rfl,rfl⟩
  exact⟨rfl,Below.refl _ _,Zd.refl _ _,k⟩
theorem bldStr(B b:Nat)(v:Value)(q:O0)(c n:Nat)(l:Bl)(s:Bl)(w:World)(hv:v=.pointer none∨v=P0 b)(hbB:B≤b)(kb:Blk w b [v,.slice q n c] 155)(ho:w.ownsRow B 5 1 (.slice q n c) n (l.map bv))(hn:l.length=n)(hl:n+s.length≤100000000)(hBw:B≤w.heap.size) :
 C0 76 #[P0 b,.string ⟨s.toArray⟩] w ((fun e w'=>∃ q c,e=.returned (.tuple #[V0 (s.length:Int),.nilIface])∧Below B w w'∧Zd [155,5] w w'∧Blk w' b [P0 b,.slice q (n+s.length) c] 155∧w'.ownsRow B 5 1 (.slice q (n+s.length) c) (n+s.length) ((l++s).map bv))):=by
 refine zin 19 Tryz.func76 ?_
 refine xc 9 (args:=#[P0 b]) (Zdn B b v (.slice q n c) _ hv hbB kb) ?_
 rintro _ W1 ⟨rfl,a4,a7,a6⟩
 refine xb 8 1 a6 ?_
 have a1:=Zi ho a7 Do
 refine xbi 1 (t2:=9) fun _ _ _ _ zJ zQ zo zx zy zK=>Eo s (n+s.length) (((l++s).map bv)) zo Tryz.underlying50 Tryz.underlying9 K0 zx a1 zy M0 (N0 hBw a4.size) (by rfl) (by rw[A9]) fun a8 b0 W2 o2 a5 a9=>?_
 refine zK _ _ ?_
 have a0:=a6.grown a5 a1 Do
 refine xs 2 a0 [P0 b,.slice a8 (n+s.length) b0] fun W3 u3 k3=>?_
 have a2:=u3.own2 o2 a0 Do
 have a3:=u3.below (a4.trans a9) hbB
 have hO:=((show Zd [155,5] w _ from(a7.wide Do)).trans (Zd.of_grown a5 a1 Do)).trans (Zd.of_upd u3 a0 Do)
 exact xe 11 (.tuple #[V0 (s.length:Int),.nilIface]) ⟨_,_,rfl,a3,hO,k3,a2⟩
theorem bldByte(B b:Nat)(v:Value)(q:O0)(c n:Nat)(l:Bl)(x:UInt8)(w:World)(hv:v=.pointer none∨v=P0 b)(hbB:B≤b)(kb:Blk w b [v,.slice q n c] 155)(ho:w.ownsRow B 5 1 (.slice q n c) n (l.map bv))(hn:l.length=n)(hl:n+1≤100000000)(hBw:B≤w.heap.size) :
 C0 78 #[P0 b,(bv x)] w ((fun e w'=>∃ q c,e=.returned (.nilIface)∧Below B w w'∧Zd [155,5] w w'∧Blk w' b [P0 b,.slice q (n+1) c] 155∧w'.ownsRow B 5 1 (.slice q (n+1) c) (n+1) ((l++[x]).map bv))):=by
 refine zin 17 Tryz.func78 ?_
 refine xc 8 (args:=#[P0 b]) (Zdn B b v (.slice q n c) _ hv hbB kb) ?_
 rintro _ W1 ⟨rfl,a9,a8,a6⟩
 refine xb 8 1 a6 ?_
 refine xbs 1 1 [(bv x)] 5 fun b2 W2 n2=>?_
 have a2:=Zi ho a8 Do
 have a7:=Zg a2 n2
 have a1:=Za a2 n2.below
 have hB:=blB a9 hBw n2.below
 refine xbi 0 fun _ _ _ _ zJ zQ zo zx zy zK=>Zr (m:=1) (news:=[(bv x)]) (.int .u8 0) 1 1 (n+1) (((l++[x]).map bv)) zo Tryz.underlying50 K0 rfl Do zx a1 zy (n2.blk.sl 1 1 Do Do) rfl (Xw [x]) (by unfold maxLen;omega) M0 (N0 hBw hB.size) (by rfl) (by rw[A9];rfl) fun b1 b0 W3 o3 a5 b3=>?_
 refine zK _ _ ?_
 have a0:=(a6.below n2.below).grown a5 a1 Do
 refine xs 2 a0 [P0 b,.slice b1 (n+1) b0] fun W4 u4 k4=>?_
 have a3:=u4.own2 o3 a0 Do
 have a4:=u4.below (hB.trans b3) hbB
 have hO:=(((show Zd [155,5] w _ from(a8.wide Do)).trans (Zd.of_below n2.below)).trans (Zd.of_grown a5 a1 Do)).trans (Zd.of_upd u4 a0 Do)
 exact xe 8 .nilIface ⟨_,_,rfl,a4,hO,k4,a3⟩
def BldP(B b:Nat)(l:Bl)(v:Value)(w:World)(e:Ending)(w':World):Prop:=e=.returned v∧Below B w w'∧Zd [155,5] w w'∧Bld B b l w'
theorem Zca{B b:Nat}{l:Bl}(s:Bl)(w:World)(h:Bld B b l w)(hl:l.length+s.length≤100000000)(hBw:B≤w.heap.size) :
 C0 76 #[P0 b,.string ⟨s.toArray⟩] w (BldP B b (l++s) (.tuple #[V0 (s.length:Int),.nilIface]) w):=by
 obtain⟨v,q,c,h1,h2,h3,h4⟩:=h
 refine(bldStr B b v q c l.length l s w h1 h2 h3 h4 rfl hl hBw).mono ?_
 rintro e W ⟨q2,c2,rfl,hb,hO,k,ho⟩
 rw[←A5] at k ho
 exact⟨rfl,hb,hO,_,q2,c2,.inr rfl,h2,k,ho⟩
theorem bld_Byte{B b:Nat}{l:Bl}(x:UInt8)(w:World)(h:Bld B b l w)(hl:l.length+1≤100000000)(hBw:B≤w.heap.size) :
 C0 78 #[P0 b,bv x] w (BldP B b (l++[x]) .nilIface w):=by
 obtain⟨v,q,c,h1,h2,h3,h4⟩:=h
 refine(bldByte B b v q c l.length l x w h1 h2 h3 h4 rfl hl hBw).mono ?_
 rintro e W ⟨q2,c2,rfl,hb,hO,k,ho⟩
 have e:l.length+1=(l++[x]).length:=by simp
 rw[e] at k ho
 exact⟨rfl,hb,hO,_,q2,c2,.inr rfl,h2,k,ho⟩
theorem bld_End{B b:Nat}{l:Bl}(w:World)(h:Bld B b l w)(hBw:B≤w.heap.size) :
 C0 79 #[P0 b] w (fun e w'=>e=.returned (.string ⟨l.toArray⟩)∧Below B w w'):=by
 obtain⟨v,q,c,h1,h2,h3,h4⟩:=h
 have hx:Lib.BuilderAtF 155 5 B b v (Lib.byteCells l) w:=by
  refine⟨h2,_,h3,?_,fun e=>?_⟩
  ·rw[Lib.byteCells_length];exact World.ownsRowF_of h4
  ·rcases h4.2 with ⟨h5,_⟩|⟨g,a0,a1,h5,_,h6,_⟩
   ·rw[h5] at e;cases e
   ·rw[h5] at e
    obtain rfl:g=b:=Option.some.inj e
    rw[show w.heap[g]? = _ from h3] at h6
    cases h6
 refine(Gu B b l w (by rcases h1 with rfl|rfl;exact .inl hx;exact .inr hx) hBw).mono ?_
 rintro e W ⟨rfl,_,hb,_⟩
 exact⟨rfl,hb⟩
end Go.Proofs.YtekomodnkfhihaaGreatDoor
