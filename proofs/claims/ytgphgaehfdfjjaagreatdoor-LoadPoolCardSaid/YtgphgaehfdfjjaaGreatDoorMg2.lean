/- More rules for printed walks. No program is named here. -/
import Derived.Deep.MidRow
import Derived.Lib.BufferWrite
import Derived.Laws.IdiomStrings
import Derived.Test.YtgphgaehfdfjjaaGreatDoorMg1
namespace Go.Proofs.YtgphgaehfdfjjaaGreatDoor
set_option maxHeartbeats 8000000
set_option maxRecDepth 100000
open Go.RowKit
set_option linter.unusedVariables false
section
variable {P:Program} {Q:Exit→Act→World→Prop} {a:Act} {w:World} {K:Act→World→Prop}
theorem Zfi{o:Oper}{t e:TypeId}{x y y2 y3:Operand}{b off n k h c:Nat}{i j j2:Int}{ki kj kj2:IntKind}(size off' d:Nat)(ho:o.op=.slice t x (some y) (some y2) (some y3))(hx:a.eval x=.slice (some ⟨b,off,none⟩) n c)(hy:a.eval y=.int ki i)(hi:i=(k:Int))(hy2:a.eval y2=.int kj j)(hj:j=(h:Int))(hy3:a.eval y3=.int kj2 j2)(hj2:j2=(h:Int))
 (hk:k<h) (hc:h≤c) (hoff:off+k*size=off') (hd:h-k=d) (ht:P.underlying t=some (.slice e)) (hs:(P.info? e).map (·.size)=some size) (w:World):(execOp a.eval o).run P w=.ok (.value (.slice (some ⟨b,off',none⟩) d d)) w:=by
 cases hq:P.info? e with
 | none=>simp[hq] at hs
 | some q =>
  have hj:q.size=size:=by simpa [hq] using hs
  subst hi hj hj2 hoff hd
  have h1:(0:Int)≤(k:Int):=by omega
  have h2:(0:Int)≤(h:Int):=by omega
  have h3:(k:Int)≤(h:Int):=by omega
  have h4:(h:Int)≤(c:Int):=by omega
  have h5:¬ h=k:=by omega
  simp_all [execOp,Instr.sliceAt,Instr.slice,Instr.sliceBounds,Instr.sliceBound,asIntOf,run_underlying ht,sizeOf,typeInfo,Addr.add_mid]
def Qz(b:O0)(k c size:Nat):O0:=if c=k then b else b.map (·.add (k*size))
theorem Yu{o:Oper}{t e:TypeId}{x y:Operand}{b:O0}{n k c:Nat}{i:Int}{ki:IntKind}(size:Nat)(ho:o.op=.slice t x (some y) none none)(hx:a.eval x=.slice b n c)(hy:a.eval y=.int ki i)(hi:i=(k:Int))(hk:k≤n)
 (ht:P.underlying t=some (.slice e)) (hs:(P.info? e).map (·.size)=some size) (w:World):(execOp a.eval o).run P w=.ok (.value (.slice (Qz b k c size) (n-k) (c-k))) w:=by
 cases hq:P.info? e with
 | none=>simp[hq] at hs
 | some j =>
  have hj:j.size=size:=by simpa [hq] using hs
  subst hi
  have h1:(0:Int)≤(k:Int):=by omega
  have h2:(k:Int)≤(n:Int):=by omega
  by_cases h3:c=k
  ·simp[execOp,ho,hx,hy,Instr.sliceAt,Instr.slice,Instr.sliceBounds,Instr.sliceBound,asIntOf,run_underlying ht,sizeOf,typeInfo,hq,hk,h3,Qz]
  ·simp[execOp,ho,hx,hy,Instr.sliceAt,Instr.slice,Instr.sliceBounds,Instr.sliceBound,asIntOf,run_underlying ht,sizeOf,typeInfo,hq,hj,hk,h3,Qz]
end
end Go.Proofs.YtgphgaehfdfjjaaGreatDoor
namespace Go.Proofs.YtgphgaehfdfjjaaGreatDoor
set_option maxHeartbeats 8000000
set_option maxRecDepth 100000
open Go.RowKit Go.Extern.Stop Go.Stop Go.Extern
set_option linter.unusedVariables false
theorem errno_eq{P:Program}(w:World){ti tn:TypeId}{ms:Array (String×TypeId)}{i:TypeInfo}{k:IntKind}(a b:Int)
 (hi:P.underlying ti=some (.interface ms)) (hn:P.underlying tn=some (.int k)) (hinfo:P.info? tn=some i) (hcomp:i.comparable=true) :
 (binOp .eql ti (.iface tn (.int k a)) (.iface tn (.int k b))).run P w=.ok (.bool (a==b)) w:=by
 have h:∀ d:Nat,(Op.equalIn (d+2) ti (.iface tn (.int k a)) (.iface tn (.int k b))).run P w=.ok (a==b) w:=fun d=>by simp[Op.equalIn,run_underlying hi,run_underlying hn,typeInfo,hinfo,hcomp]
 simp only[binOp]
 simp[Op.equal,Op.maxDepth,h 9998]
theorem Tryz.eqN(a b:Int)(w:World):(binOp .eql 30 (.iface 33 (V0 a)) (.iface 33 (V0 b))).run Tryz.prog w=.ok (.bool (a==b)) w:=by
 obtain⟨i,h1,h2⟩:=Option.map_eq_some_iff.1 (show(Tryz.prog.info? 33).map (·.comparable)=some true by kernel_rfl)
 exact errno_eq w a b Tryz.underlying30 Tryz.underlying33 h1 h2
theorem Tryz.methComparable (h : Value) (w : World) : (Go.method 486 237 (.agg #[h]) "Comparable").run Tryz.prog w = .ok (252, .agg #[h]) w := by kernel_rfl
theorem Tryz.comparableN(w:World):(callFunc 252 #[.agg #[.pointer (some ⟨1,33,none⟩)]]).run Tryz.prog w=.ok (Next.value (.bool true)) w:=by kernel_rfl
theorem errors_isN(c d:Int)(w:World):C0 174 #[.iface 33 (V0 c),.iface 33 (V0 d),.bool true] w (Ret (.bool (c==d)) w):=by
 have y1:=Tryz.eqN
 have y2:=Tryz.noIsN
 have y3:=Tryz.noUnwrapN
 have y4:=Tryz.noUnwrapsN
 go_enter Tryz.func174,Tryz.ntmps174
 go_wp2_with fail
 go_loopw [0] (fun v wr=>v=.iface 33 (V0 c)∧wr=w) (fun _ _=>0)
 case atStart=>exact⟨rfl,rfl⟩
 case round =>
  obtain⟨rfl,rfl⟩:=hrel
  by_cases h:c=d
  ·have h':(c==d)=true:=by simpa using h
   have HH:=Lib.hid h;clear h
   go_wp2_with fail
   go_ret
   exact⟨by rw[h'];rfl,Below.refl _ _⟩
  ·have h':(c==d)=false:=by simpa using h
   have HH:=Lib.hid h;clear h
   go_wp2_with fail
   go_ret
   exact⟨by rw[h'];rfl,Below.refl _ _⟩
theorem Tf(c d:Int)(w:World):C0 126 #[.iface 33 (V0 c),.iface 33 (V0 d)] w (Ret (.bool (c==d)) w):=by
 have a0:=@run_callFunc_extern Tryz.prog 122 _ ReflectliteType.typeOf Tryz.func122 (by kernel_rfl) (by kernel_rfl) (by kernel_rfl) (by kernel_rfl)
 have y1:=Tryz.typeOfN
 have y2:=Tryz.methComparable
 have y3:=Tryz.comparableN
 go_enter Tryz.func126,Tryz.ntmps126
 go_wp2_with fail
 refine(errors_isN c d _).mono ?_
 rintro e w' ⟨rfl,hb⟩
 go_wp2_with fail
 go_ret
 exact⟨rfl,hb⟩
theorem Yr(no c:Int)(w:World):C0 73 #[V0 no,.iface 33 (V0 c)] w (Vy (fun w' r=>Vw w' (if c=0 then [] else [some no]) (if c=0 then none else some c) r) w):=by
 by_cases h:c=0
 ·subst h
  go_enter Tryz.func73,Tryz.ntmps73
  go_wp2_with fail
  refine(Tf 0 0 _).mono ?_
  rintro e w1 ⟨rfl,hb⟩
  rw[show((0:Int)==0)=true from rfl]
  go_wp2_with fail
  go_ret
  exact⟨_,rfl,hb,rfl⟩
 ·have h':(c==0)=false:=by simpa using h
  simp only[h,if_false]
  have HC:=Lib.hid h;clear h
  go_enter Tryz.func73,Tryz.ntmps73
  go_wp2_with fail
  refine(Tf c 0 _).mono ?_
  rintro e w1 ⟨rfl,hb⟩
  rw[h']
  go_wp2_with fail
  refine(Qx no (some c) [] _ w1 rfl).mono ?_
  rintro e w2 ⟨r,rfl,a0,h2⟩
  go_wp2_with fail
  go_ret
  exact⟨_,rfl,bln hb a0,h2⟩
theorem Blk.range{w:World}{b:Nat}{cs:List Value}{t:TypeId}(h:Blk w b cs t):w.rangeAt b 0 cs:=fun j v hj=>by rw[Nat.zero_add];exact h.cell hj
theorem Blk.there{w:World}{b:Nat}{cs:List Value}{t:TypeId}(h:Blk w b cs t){n:Nat}(hn:n=cs.length):w.there b 0 n:=fun j hj=>by
 rw[Nat.zero_add]
 exact⟨by rw[h.cell (List.getElem?_eq_getElem (by omega))];rfl,h.frozen j⟩
end Go.Proofs.YtgphgaehfdfjjaaGreatDoor
namespace Go.Proofs.YtgphgaehfdfjjaaGreatDoor
set_option maxHeartbeats 8000000
set_option maxRecDepth 100000
open Go.RowKit Go.Extern.Stop Go.Stop Go.Extern
set_option linter.unusedVariables false
attribute [local irreducible] wpList wpAnyH Code.wp Oper.wp Go
theorem Zcl(n k:Nat)(hn:n<9223372036854775808)(hk:0<k):IntKind.i64.wrap (Int.tdiv (n:Int) (k:Int))=((n/k:Nat):Int):=by
 rw[Int.tdiv_eq_ediv_of_nonneg (Int.natCast_nonneg _),←Int.natCast_ediv]
 exact Hs (Nat.lt_of_le_of_lt (Nat.div_le_self _ _) hn)
theorem Zea(a b:Nat):(if(b:Int)<(a:Int) then(b:Int) else(a:Int))=((min a b:Nat):Int):=by split<;>omega
theorem Jv(b:Nat)(p:O0)(n c:Nat)(w:World)(hk:Blk w b [.slice p n c] 72)(hn:n≤100000000) :
 C0 48 #[P0 b] w (Ret (V0 ((n/256:Nat):Int)) w):=by
 refine zin 11 Tryz.func48 ?_
 refine xb 20 0 hk ?_
 refine xq 1 (congrArg V0 (show(IntKind.i64.wrap (Int.tdiv (n:Int) 256):Int)=(↑(n/256):Int) from Zcl n 256 (by omega) (by decide))) ?_
 exact xe 4 (V0 (↑(n/256):Int)) ⟨rfl,(B3 w)⟩
theorem Zd8(a:O0)(c:Nat)(l:Bl)(w:World)(h:Bys w (.slice a l.length c) l)(hl:l.length≤100000000)(hc:l.length≤c) :
 C0 6 #[.slice a l.length c] w (Vy (fun w' r=>∃ b p c,r=P0 b∧w.heap.size≤b∧Blk w' b [.slice p (min (l.length/256) 14400*256) c] 72∧w'.ownsRow w.heap.size 5 1 (.slice p (min (l.length/256) 14400*256) c) (min (l.length/256) 14400*256) ((l.take (min (l.length/256) 14400*256)).map bv)) w):=by
 refine zin 15 Tryz.func6 ?_
 refine xq 9 (congrArg V0 (show(IntKind.i64.wrap (Int.tdiv (l.length:Int) 256):Int)=(↑(l.length/256):Int) from Zcl l.length 256 (by omega) (by decide))) ?_
 refine xq 0 (congrArg V0 (show(if(14400:Int)<(↑(l.length/256):Int) then(14400:Int) else(↑(l.length/256):Int):Int)=(↑(min (l.length/256) 14400):Int) from Zea (l.length/256) 14400)) ?_
 refine xwm 7 ((↑(min (l.length/256) 14400):Int)*256) (↑((min (l.length/256) 14400)*256):Int) ?_
 refine xsH 0 (fun _ _ _ _ zo zx zy V=>Ys (k:=((min (l.length/256) 14400)*256)) (b:=a) (n:=l.length) (c:=c) (i:=(↑((min (l.length/256) 14400)*256):Int)) (ki:=.i64) zo zx zy rfl (by omega) Tryz.underlying22 (by kernel_rfl) V) ?_
 refine xc 0 (args:=#[.slice a ((min (l.length/256) 14400)*256) c]) (Vn a (min (l.length/256) 14400*256) c (l.take (min (l.length/256) 14400*256)) _ (by simp;omega) ((h.take rfl _ (by omega)).below (B3 w)) (by omega)) ?_
 rintro _ W1 ⟨_,rfl,a2,ho⟩
 have a3:=Nat.le_refl w.heap.size
 have a0:=Zg ho a3
 unfold Nb at a0
 rw[show(l.take (min (l.length/256) 14400*256)).length=min (l.length/256) 14400*256 by simp;omega] at a0
 obtain⟨pd,cd,rfl⟩:=(Zh a0).slice
 refine xa 1 [.slice pd (min (l.length/256) 14400*256) cd] 72 fun b2 W2 n2=>?_
 have hB:=bln a2 n2.below
 have g2:=n2.ge a2
 have a1:=Zb a0 n2.below
 exact xe 4 (P0 b2) ⟨_,rfl,hB,_,_,_,rfl,g2,n2.blk,a1⟩
theorem Rc(b g:Nat)(n c k:Nat)(w:World)(hk:Blk w b [.slice (S1 g) n c] 72)(hn:n≤100000000)(hc:n≤c)(hkn:k<n/256) :
 C0 125 #[P0 b,V0 (k:Int)] w (Ret (.tuple #[.slice (some ⟨g,k*256,none⟩) 256 256,V0 0]) w):=by
 refine zin 33 Tryz.func125 ?_
 refine xgk 21 [13,14] (show(decide ((k:Int)<(0:Int)):Bool)=false from decide_eq_false (by omega)) ?_
 refine xr 2 (args:=#[P0 b]) (Jv b _ n c _ (hk.below (B3 w)) hn) fun W2 a1=>?_
 refine xk 5 (show(decide ((k:Int)≥(↑(n/256):Int)):Bool)=false from decide_eq_false (by omega)) ?_
 refine xwm 6 ((k:Int)*256) (↑(k*256):Int) ?_
 refine xwm 1 ((k:Int)+1) (↑(k+1):Int) ?_
 refine xwm 0 ((↑(k+1):Int)*256) (↑((k+1)*256):Int) ?_
 have a0:=hk.below a1
 refine xb 9 0 a0 ?_
 refine xs3 3 (fun _ _ _ _ _ _ zo zx zy zz zm V=>Zfi (k:=(k*256)) (h:=((k+1)*256)) (b:=g) (off:=0) (n:=n) (c:=c) (i:=(↑(k*256):Int)) (ki:=.i64) (j:=(↑((k+1)*256):Int)) (kj:=.i64) (j2:=(↑((k+1)*256):Int)) (kj2:=.i64) 1 (k*256) 256 zo zx zy rfl zz rfl zm rfl (by omega) (by omega) (by omega) (by omega) Tryz.underlying22 (by kernel_rfl) V) ?_
 exact xe 5 (.tuple #[.slice (some ⟨g,(k*256),none⟩) 256 256,V0 0]) ⟨rfl,a1⟩
def WroteB(B g n c:Nat)(l:Bl)(v:Value)(w:World)(e:Ending)(w':World):Prop :=
 e=.returned v∧Below B w w'∧Zf [5] w w'∧Fr [g] w w'∧w'.ownsRow B 5 1 (.slice (S1 g) n c) n (l.map bv)
theorem Zcy(B b g:Nat)(n c k:Nat)(l:Bl)(a:O0)(cx:Nat)(lx:Bl)(w:World)(hk:Blk w b [.slice (S1 g) n c] 72)(ho:w.ownsRow B 5 1 (.slice (S1 g) n c) n (l.map bv))(hn:n≤100000000)(hc:n≤c)(hkn:k<n/256)(hx:Bys w (.slice a 256 cx) lx)(hlx:lx.length=256)(hBw:B≤w.heap.size) :
 C0 171 #[P0 b,V0 (k:Int),.slice a 256 cx] w (WroteB B g n c (Jd l (k*256) lx) (V0 0) w):=by
 replace hx:Sl w (.slice a 256 cx) 256 (lx.map bv):=by
  have:=hx
  unfold Bys at this
  rwa [hlx] at this
 refine zin 24 Tryz.func171 ?_
 refine xr 9 (args:=#[P0 b,V0 (k:Int)]) (Rc b g n c k _ hk hn hc hkn) fun W1 a0=>?_
 have a1:=Zb ho a0
 have a2:=hx.below a0
 have hB:=blB (Below.refl B w) hBw a0
 refine xbi 32 (t2:=22) fun _ _ _ _ zJ zQ zo zx zy zK=>Nv (dLen:=256) (dCap:=256) (off:=(k*256)) 256 (lx.map bv) ((Jd l (k*256) lx).map bv) zo Tryz.underlying22 (by kernel_rfl) zx zy a2 a1 (by simpa using hlx) (by omega) (by omega) (Kf _) (Nat.le_trans hBw hB.size) (by simp[Jd,hlx,List.map_take,List.map_drop]) fun W2 o2 a4 a5=>?_
 refine zK _ _ ?_
 have a3:=hB.trans a5
 have hO:=(show Zf [5] w _ from(Zf.of_below a0)).trans (Zf.of_grown a4 a1 (by decide))
 have hX:=(show Fr [g] w _ from(Fr.of_below a0)).trans (Fr.of_grown a4 (by simp))
 exact xe 8 (V0 0) ⟨rfl,a3,hO,hX,o2⟩
theorem Zcz(B b g:Nat)(n c k:Nat)(l:Bl)(kind:Int)(a:O0)(ca:Nat)(li:Bl)(w:World)(hk:Blk w b [.slice (S1 g) n c] 72)(ho:w.ownsRow B 5 1 (.slice (S1 g) n c) n (l.map bv))(hn:n≤3686400)(hc:n≤c)(hkn:k<n/256)(h1:1≤kind)(h2:kind≤4)(hin:Bys w (.slice a li.length ca) li)(hl:li.length≤244)(hBw:B≤w.heap.size) :
 C0 116 #[P0 b,V0 (k:Int),V0 kind,.slice a li.length ca] w (WroteB B g n c (Jd l (k*256) (Vh kind k li)) .nilIface w):=by
 refine zin 28 Tryz.func116 ?_
 refine xc 10 (args:=#[V0 kind,V0 (k:Int),.slice a li.length ca]) (seal_Seal kind k h1 h2 (by omega) (by omega) a ca li _ hl hin) ?_
 rintro _ W1 ⟨_,rfl,a0,p,c2,rfl,o⟩
 have a8:=Nat.le_refl w.heap.size
 have a4:=hk.below a0
 have a3:=Zb ho a0
 have a9:=Zg o a8
 have hB:=blB (Below.refl B w) hBw a0
 refine xc 19 (args:=#[P0 b,V0 (k:Int),.slice p 256 c2]) (Zcy B b g n c k l p c2 (Vh kind k li) _ a4 a3 (by omega) hc hkn (Ko (Zh a9) (Ga hl)) (Ga hl) (Nat.le_trans hBw hB.size)) ?_
 rintro _ W2 ⟨rfl,a7,b1,a6,b0⟩
 refine xc 8 (args:=#[V0 (k:Int),.iface 33 (V0 0)]) (Yr k 0 _) ?_
 rintro _ W3 ⟨r,rfl,a2,hr⟩
 obtain rfl:r=.nilIface:=hr
 have a5:=blB (hB.trans a7) hBw a2
 have hO:=((show Zf [5] w _ from(Zf.of_below a0)).trans b1).trans (Zf.of_below a2)
 have hX:=((show Fr [g] w _ from(Fr.of_below a0)).trans (a6.mono (by simp))).trans (Fr.of_below a2)
 have a1:=Zb b0 a2
 exact xe 4 .nilIface ⟨rfl,a5,hO,hX,a1⟩
def Zhd(f j:Nat):List Int:=(List.range j).map fun i=>((f+i:Nat):Int)
theorem rngJ_succ(f j:Nat):Zhd f (j+1)=Zhd f j++[((f+j:Nat):Int)]:=by simp[Zhd,List.range_succ]
theorem rngJ_get{f N k:Nat}(h:k<N):(Zhd f N).getD k 0=((f+k:Nat):Int):=by simp[Zhd,List.getD,List.getElem?_range h]
theorem rngJ_len(f j:Nat):(Zhd f j).length=j:=by simp[Zhd]
structure Al(B ba b g n c:Nat)(pa:Option Addr)(ca f N k:Nat)(l:List UInt8)(w:World):Prop where
 blkA:Blk w ba [.slice pa N ca,.int .i64 (k:Int),.pointer (some ⟨b,0,none⟩)] 125
 blkI:Blk w b [.slice (some ⟨g,0,none⟩) n c] 72
 data:w.ownsRow B 5 1 (.slice (some ⟨g,0,none⟩) n c) n (l.map bv)
 nums:w.ownsRow B 3 1 (.slice pa N ca) N ((Zhd f N).map (Value.int .i64))
structure AlC(B ba n c ca f N:Nat):Prop where
 hn:n≤3686400
 hc:n≤c
 hca:N≤ca
 hf:f+N≤n/256
 hB:B≤ba
theorem alloc_New(b:Nat)(p0:O0)(n c f:Nat)(w:World)(hk:Blk w b [.slice p0 n c] 72)(hn:n≤3686400)(h1:1≤f)(h2:f≤n/256) :
 C0 20 #[P0 b,V0 (f:Int)] w (Vy (fun w' r=>∃ ba p c2,r=.tuple #[P0 ba,.nilIface]∧w.heap.size≤ba∧Blk w' ba [.slice p (n/256-f) c2,V0 0,P0 b] 125∧w'.ownsRow w.heap.size 3 1 (.slice p (n/256-f) c2) (n/256-f) ((Zhd f (n/256-f)).map V0)) w):=by
 refine zin 37 Tryz.func20 ?_
 refine xgk 16 [12,13,14] (show(decide ((f:Int)<(1:Int)):Bool)=false from decide_eq_false (by omega)) ?_
 refine xr 2 (args:=#[P0 b]) (Jv b p0 n c _ hk (by omega)) fun W2 b3=>?_
 refine xk 4 (show(decide ((f:Int)>(↑(n/256):Int)):Bool)=false from decide_eq_false (by omega)) ?_
 have b1:=hk.below b3
 refine zl 15 37 (fun zm c1 V=>∃ (j:Nat) (p:O0) (c2:Nat),c1=[(0,P0 b),(4,.pointer none),(5,.nilIface),(6,.slice p j c2),(7,V0 (↑(f+j):Int))]∧zm=n/256-((↑(f+j):Int)).toNat∧B0 w V∧Blk V b ([.slice p0 n c]) 72∧V.ownsRow w.heap.size 3 1 (.slice p j c2) j ((Zhd f j).map V0)∧f+j≤n/256) ⟨0,_,_,rfl,rfl,b3,b1,World.ownsRow_nil _ _ _ _,by omega⟩ ?_
 rintro _ _ W3 ⟨j,p,c2,rfl,rfl,a3,a6,ho,hj⟩ J3 b7 r3
 refine xr 5 (args:=#[P0 b]) (Jv b p0 n c _ a6 (by omega)) fun W4 a1=>?_
 refine xid 3 ((↑(f+j):Int)<(↑(n/256):Int)) (fun c0=>?_) (fun c0=>?_)
 ·refine xbs 7 1 [V0 (↑(f+j):Int)] 3 fun b6 W6 n6=>?_
  have a5:=bln a3 a1
  have g6:=n6.ge a5
  have a2:=Zb ho a1
  have b4:=Zw a2 n6
  have a4:=Zb a2 n6.below
  have a7:=bln a5 n6.below
  refine xbi 0 fun _ _ _ _ zJ zQ zo zx zy zK=>Zu (m:=1) (news:=[V0 (↑(f+j):Int)]) (V0 0) 1 8 (j+1) ((Zhd f (j+1)).map V0) zo Tryz.underlying28 (by kernel_rfl) rfl (by decide) zx a4 zy (n6.blk.sl 1 1 (by decide) (by decide)) rfl (by simp[Value.oneCell']) (by unfold maxLen;omega) (by omega) a7.size (by rfl) (by rw[rngJ_succ];simp) fun c3 c4 W7 o7 b5 b9=>?_
  refine zK _ _ ?_
  refine xwm 6 ((↑(f+j):Int)+1) (↑((f+j)+1):Int) ?_
  have b0:=a7.trans b9
  have a0:=((a6.below a1).below n6.below).grown b5 a4 (by decide)
  exact ze 2 (b7 _ _ _ ⟨j+1,_,_,rfl,rfl,b0,a0,o7,by omega⟩ (by omega))
 refine xa 11 [.slice p j c2,V0 0,P0 b] 125 fun b8 W8 n8=>?_
 have a8:=bln a3 a1
 have g8:=n8.ge a8
 have a9:=bln a8 n8.below
 have b2:=Zb (Zb ho a1) n8.below
 refine xe 5 (.tuple #[P0 b8,.nilIface]) ?_
 obtain rfl:j=n/256-f:=by omega
 exact⟨_,rfl,a9,_,_,_,rfl,g8,n8.blk,b2⟩
theorem Wg(ba b:Nat)(v x:Value)(w:World)(hk:Blk w ba [v,x,P0 b] 125) :
 C0 64 #[P0 ba] w (Ret (.bool false) w):=by
 refine zin 12 Tryz.func64 ?_
 refine xb 13 2 hk ?_
 exact xe 6 (.bool false) ⟨rfl,(B3 w)⟩
theorem Zfu(ba:Nat)(p:O0)(N c k:Nat)(m:Value)(w:World)(hk:Blk w ba [.slice p N c,V0 (k:Int),m] 125)(h1:k≤N) :
 C0 105 #[P0 ba] w (Ret (.slice (Qz p k c 1) (N-k) (c-k)) w):=by
 refine zin 12 Tryz.func105 ?_
 refine xd 6 .z ?_
 have a0:=hk.below (Za w)
 refine xb (.e [0,1,2] 3) 0 a0 ?_
 refine xb (.e [4,5,6] 7) 1 a0 ?_
 refine xsL (.e [] 8) (fun _ _ _ _ zo zx zy V=>Yu (k:=k) (b:=p) (n:=N) (c:=c) (i:=(k:Int)) (ki:=.i64) 1 zo zx zy rfl (by omega) Tryz.underlying28 (by kernel_rfl) V) ?_
 have hB:=(Za w)
 exact xe (.r [9] 3) (.slice (Qz p k c 1) (N-k) (c-k)) ⟨rfl,hB⟩
theorem Zfw(ba b:Nat)(p:O0)(N c k:Nat)(w:World)(hk:Blk w ba [.slice p N c,V0 (k:Int),P0 b] 125)(h1:k≤N) :
 C0 50 #[P0 ba] w (Ret (V0 ((N-k:Nat):Int)) w):=by
 refine zin 10 Tryz.func50 ?_
 refine xr 9 (args:=#[P0 ba]) (Wg ba b _ _ _ hk) fun W1 a1=>?_
 have a0:=hk.below a1
 refine xr 10 (args:=#[P0 ba]) (Zfu ba p N c k _ _ a0 h1) fun W2 a2=>?_
 have hB:=bln a1 a2
 exact xe 5 (V0 (↑(N-k):Int)) ⟨rfl,hB⟩
def Took(B ba:Nat)(p:O0)(N c k:Nat)(m:Value)(L:List Int)(v:Value)(w:World)(e:Ending)(w':World):Prop :=
 e=.returned v∧Below B w w'∧Zf [125] w w'∧Fr [ba] w w'∧Blk w' ba [.slice p N c,V0 ((k+1:Nat):Int),m] 125∧w'.ownsRow B 3 1 (.slice p N c) N (L.map V0)
theorem IntsN.elem{w:World}{b:O0}{n c:Nat}{l:List Int}(h:Sl w (.slice b n c) n (l.map V0))(hl:l.length=n){k:Nat}(hk:k<n):b.isSome=true∧w.cell? (Xj b (k*1))=some (V0 (l.getD k 0)):=by
 subst hl;exact Ints.elem h hk
theorem Zfp(B ba:Nat)(p:O0)(N c k:Nat)(L:List Int)(hL:L.length=N)(m:Value)(w:World)(hk:Blk w ba [.slice p N c,V0 (k:Int),m] 125)(ho:w.ownsRow B 3 1 (.slice p N c) N (L.map V0))(hB0:B≤ba)(hBw:B≤w.heap.size)(hN:N≤1000000)(hkN:k<N) :
 C0 169 #[P0 ba] w (Took B ba p N c k m L (.tuple #[V0 (L.getD k 0),.bool true]) w):=by
 refine zin 32 Tryz.func169 ?_
 refine xd 8 .z ?_
 have a0:=hk.below (Za w)
 refine xb (.e [0,1,2] 3) 1 a0 ?_
 refine xb (.e [4,5,6] 7) 0 a0 ?_
 refine xk (.r [8,9] 2) (show(decide ((k:Int)≥(N:Int)):Bool)=false from decide_eq_false (by omega)) ?_
 refine xb 7 1 a0 ?_
 refine xwm 0 ((k:Int)+1) (↑(k+1):Int) ?_
 refine xs 2 a0 [.slice p N c,V0 (↑(k+1):Int),m] fun W1 u1 k1=>?_
 refine xd 3 .z ?_
 have a2:=k1.below (Za W1)
 refine xb (.e [0,1,2] 3) 0 a2 ?_
 refine xb (.e [4,5,6] 7) 1 a2 ?_
 refine xwm (.e [] 8) ((↑(k+1):Int)-1) (k:Int) ?_
 have a1:=Zb (u1.own2 (Zb ho (Za w)) a0 (by decide)) (Za W1)
 refine xx (.e [] 9) _ N k 1 (IntsN.elem (Zh a1) hL (k:=k) (by omega)).1 ?_
 refine xl (.e [] 10) ((IntsN.elem (Zh a1) hL (k:=k) (by omega)).2) ?_
 have hB:=blB (u1.below (blB (Below.refl B w) hBw (Za w)) hB0) hBw (Za W1)
 have hO:=((show Zf [125] w _ from(Zf.of_below (Za w))).trans (Zf.of_upd u1 a0 (by decide))).trans (Zf.of_below (Za W1))
 have hX:=((show Fr [ba] w _ from(Fr.of_below (Za w))).trans (Fr.of_upd u1 (by simp))).trans (Fr.of_below (Za W1))
 exact xe (.r [11,12] 3) (.tuple #[V0 (L.getD k 0),.bool true]) ⟨rfl,hB,hO,hX,a2,a1⟩
theorem Zgn(B ba:Nat)(p:O0)(N c k:Nat)(L:List Int)(hL:L.length=N)(b q:Nat)(hq:L.getD k 0=(q:Int))(w:World)(hk:Blk w ba [.slice p N c,V0 (k:Int),P0 b] 125)(ho:w.ownsRow B 3 1 (.slice p N c) N (L.map V0))(hB0:B≤ba)(hBw:B≤w.heap.size)(hN:N≤1000000)(hkN:k<N) :
 C0 115 #[P0 ba] w (Took B ba p N c k (P0 b) L (.tuple #[V0 (q:Int),.nilIface]) w):=by
 refine zin 20 Tryz.func115 ?_
 refine xr 10 (args:=#[P0 ba]) (Wg ba b _ _ _ hk) fun W1 a0=>?_
 have a1:=hk.below a0
 have a2:=Zb ho a0
 have hB:=blB (Below.refl B w) hBw a0
 refine xc 10 (args:=#[P0 ba]) (Zfp B ba p N c k L hL _ _ a1 a2 hB0 (Nat.le_trans hBw hB.size) hN hkN) ?_
 rintro _ W2 ⟨rfl,a5,a6,a4,kA,ho⟩
 rw[hq]
 have a3:=hB.trans a5
 have hO:=(show Zf [125] w _ from(Zf.of_below a0)).trans a6
 have hX:=(show Fr [ba] w _ from(Fr.of_below a0)).trans (a4.mono (by simp))
 exact xe 25 (.tuple #[V0 (q:Int),.nilIface]) ⟨rfl,a3,hO,hX,kA,ho⟩
def Laid(B ba b g n c:Nat)(pa:O0)(ca f N k:Nat)(l:Bl)(kind:Int)(li:Bl)(w:World)(e:Ending)(w':World):Prop :=
 e=.returned (.tuple #[V0 ((f+k:Nat):Int),.nilIface])∧Below B w w'∧Zf [125,5] w w'∧Fr [ba,g] w w'∧Al B ba b g n c pa ca f N (k+1) (Jd l ((f+k)*256) (Vh kind ((f+k:Nat):Int) li)) w'
theorem Zf.mono{T T':List TypeId}{w w':World}(h:Zf T w w')(hT:∀ t,T'.contains t=false→T.contains t=false):Zf T' w w':=fun k cs t fr hk ht=>h k cs t fr hk (hT t ht)
theorem only_aa{w w':World}(h:Zf [125] w w'):Zf [125,5] w w':=h.mono fun t ht=>by simp at ht ⊢;exact ht.1
theorem only_ab{w w':World}(h:Zf [5] w w'):Zf [125,5] w w':=h.mono fun t ht=>by simp at ht ⊢;exact ht.2
theorem alloc_Lay(B ba b g n c:Nat)(p:O0)(ca f N k:Nat)(l:Bl)(kind:Int)(a:O0)(ci:Nat)(li:Bl)(w:World)(hC:AlC B ba n c ca f N)(hA:Al B ba b g n c p ca f N k l w)(hkN:k<N)(h1:1≤kind)(h2:kind≤4)(hin:∀ W,Below B w W→Zf [125] w W→Bys W (.slice a li.length ci) li)(hl:li.length≤244)(hBw:B≤w.heap.size) :
 C0 63 #[P0 ba,V0 kind,.slice a li.length ci] w (Laid B ba b g n c p ca f N k l kind li w):=by
 obtain⟨hk,hi,hd,ho⟩:=hA
 refine zin 35 Tryz.func63 ?_
 refine xc 9 (args:=#[P0 ba]) (Zgn B ba p N ca k (Zhd f N) (rngJ_len f N) b (f+k) (rngJ_get hkN) _ hk ho hC.hB (Nat.le_trans hBw (Below.refl B _).size) (by have:=hC.hf;have:=hC.hn;omega) hkN) ?_
 rintro _ W1 ⟨rfl,a3,a1,b0,kA,ho⟩
 replace hin:=hin _ a3 a1
 refine xb 23 2 kA ?_
 have a0:=hi.only a1 (by decide)
 have a6:=Zl hd a1 (by decide)
 refine xc 3 (args:=#[P0 b,V0 (↑(f+k):Int),V0 kind,.slice a li.length ci]) (Zcz B b g n c (f+k) l kind a ci li _ a0 a6 hC.hn hC.hc (by have:=hC.hf;omega) h1 h2 hin hl (Nat.le_trans hBw a3.size)) ?_
 rintro _ W2 ⟨rfl,b1,a2,a9,hd⟩
 have a8:=a3.trans b1
 have hO:=(show Zf [125,5] w _ from(only_aa a1)).trans (only_ab a2)
 have hX:=(show Fr [ba,g] w _ from(b0.mono (by simp))).trans (a9.mono (by simp))
 have a5:=kA.only a2 (by decide)
 have a4:=a0.only a2 (by decide)
 have a7:=Zl ho a2 (by decide)
 exact xe 20 (.tuple #[V0 (↑(f+k):Int),.nilIface]) ⟨rfl,a8,hO,hX,a5,a4,hd,a7⟩
theorem Cj(w:World) :
 C0 76 #[V0 1,.bool true] w (Ret (V0 4) w):=by
 refine zin 31 Tryz.func76 ?_
 exact xe 94 (V0 4) ⟨rfl,(B3 w)⟩
theorem Zf6(w:World) :
 C0 77 #[V0 1,.bool true] w (Ret (V0 18) w):=by
 refine zin 16 Tryz.func77 ?_
 refine xr 9 (args:=#[V0 1,.bool true]) (Cj _) fun W1 a0=>?_
 exact xe 24 (V0 18) ⟨rfl,a0⟩
theorem Bf(w:World) :
 C0 76 #[V0 1,.bool false] w (Ret (V0 4) w):=by
 refine zin 31 Tryz.func76 ?_
 exact xe 41 (V0 4) ⟨rfl,(B3 w)⟩
theorem Zfx(w:World) :
 C0 77 #[V0 1,.bool false] w (Ret (V0 18) w):=by
 refine zin 16 Tryz.func77 ?_
 refine xr 9 (args:=#[V0 1,.bool false]) (Bf _) fun W1 a0=>?_
 exact xe 24 (V0 18) ⟨rfl,a0⟩
theorem Ch(w:World) :
 C0 76 #[V0 2,.bool true] w (Ret (V0 8) w):=by
 refine zin 31 Tryz.func76 ?_
 exact xe 101 (V0 8) ⟨rfl,(B3 w)⟩
theorem Zgq(w:World) :
 C0 77 #[V0 2,.bool true] w (Ret (V0 12) w):=by
 refine zin 16 Tryz.func77 ?_
 refine xr 9 (args:=#[V0 2,.bool true]) (Ch _) fun W1 a0=>?_
 exact xe 24 (V0 12) ⟨rfl,a0⟩
theorem Br(w:World) :
 C0 76 #[V0 2,.bool false] w (Ret (V0 4) w):=by
 refine zin 31 Tryz.func76 ?_
 exact xe 41 (V0 4) ⟨rfl,(B3 w)⟩
theorem Zfn(w:World) :
 C0 77 #[V0 2,.bool false] w (Ret (V0 18) w):=by
 refine zin 16 Tryz.func77 ?_
 refine xr 9 (args:=#[V0 2,.bool false]) (Br _) fun W1 a0=>?_
 exact xe 24 (V0 18) ⟨rfl,a0⟩
theorem Bo(w:World) :
 C0 76 #[V0 3,.bool true] w (Ret (V0 24) w):=by
 refine zin 31 Tryz.func76 ?_
 exact xe 93 (V0 24) ⟨rfl,(B3 w)⟩
theorem Zgs(w:World) :
 C0 77 #[V0 3,.bool true] w (Ret (V0 6) w):=by
 refine zin 16 Tryz.func77 ?_
 refine xr 9 (args:=#[V0 3,.bool true]) (Bo _) fun W1 a0=>?_
 exact xe 24 (V0 6) ⟨rfl,a0⟩
theorem Ck(w:World) :
 C0 76 #[V0 3,.bool false] w (Ret (V0 4) w):=by
 refine zin 31 Tryz.func76 ?_
 exact xe 41 (V0 4) ⟨rfl,(B3 w)⟩
theorem node_Max3i(w:World) :
 C0 77 #[V0 3,.bool false] w (Ret (V0 18) w):=by
 refine zin 16 Tryz.func77 ?_
 refine xr 9 (args:=#[V0 3,.bool false]) (Ck _) fun W1 a0=>?_
 exact xe 24 (V0 18) ⟨rfl,a0⟩
theorem Bz(w:World) :
 C0 76 #[V0 4,.bool true] w (Ret (V0 16) w):=by
 refine zin 31 Tryz.func76 ?_
 exact xe 98 (V0 16) ⟨rfl,(B3 w)⟩
theorem node_Max4l(w:World) :
 C0 77 #[V0 4,.bool true] w (Ret (V0 9) w):=by
 refine zin 16 Tryz.func77 ?_
 refine xr 9 (args:=#[V0 4,.bool true]) (Bz _) fun W1 a0=>?_
 exact xe 24 (V0 9) ⟨rfl,a0⟩
theorem Bw(w:World) :
 C0 76 #[V0 4,.bool false] w (Ret (V0 4) w):=by
 refine zin 31 Tryz.func76 ?_
 exact xe 41 (V0 4) ⟨rfl,(B3 w)⟩
theorem Zfz(w:World) :
 C0 77 #[V0 4,.bool false] w (Ret (V0 18) w):=by
 refine zin 16 Tryz.func77 ?_
 refine xr 9 (args:=#[V0 4,.bool false]) (Bw _) fun W1 a0=>?_
 exact xe 24 (V0 18) ⟨rfl,a0⟩
theorem Cb(w:World) :
 C0 76 #[V0 5,.bool true] w (Ret (V0 4) w):=by
 refine zin 31 Tryz.func76 ?_
 exact xe 94 (V0 4) ⟨rfl,(B3 w)⟩
theorem Zg6(w:World) :
 C0 77 #[V0 5,.bool true] w (Ret (V0 18) w):=by
 refine zin 16 Tryz.func77 ?_
 refine xr 9 (args:=#[V0 5,.bool true]) (Cb _) fun W1 a0=>?_
 exact xe 24 (V0 18) ⟨rfl,a0⟩
theorem Cc(w:World) :
 C0 76 #[V0 5,.bool false] w (Ret (V0 4) w):=by
 refine zin 31 Tryz.func76 ?_
 exact xe 41 (V0 4) ⟨rfl,(B3 w)⟩
theorem Zfj(w:World) :
 C0 77 #[V0 5,.bool false] w (Ret (V0 18) w):=by
 refine zin 16 Tryz.func77 ?_
 refine xr 9 (args:=#[V0 5,.bool false]) (Cc _) fun W1 a0=>?_
 exact xe 24 (V0 18) ⟨rfl,a0⟩
def Uh(t:Int)(leaf:Bool):Nat:=if leaf=false then 4 else if t=2 then 8 else if t=3 then 24 else if t=4 then 16 else 4
def Kj(t:Int)(leaf:Bool):Nat:=if leaf=false then 18 else if t=2 then 12 else if t=3 then 6 else if t=4 then 9 else 18
theorem Ss(t:Int)(leaf:Bool)(h1:1≤t)(h2:t≤5)(w:World):C0 76 #[V0 t,.bool leaf] w (Ret (V0 (Uh t leaf:Int)) w):=by
 obtain rfl|rfl|rfl|rfl|rfl:t=1∨t=2∨t=3∨t=4∨t=5:=by omega
 all_goals cases leaf
 ·exact Bf w
 ·exact Cj w
 ·exact Br w
 ·exact Ch w
 ·exact Ck w
 ·exact Bo w
 ·exact Bw w
 ·exact Bz w
 ·exact Cc w
 ·exact Cb w
theorem Da(t:Int)(leaf:Bool)(h1:1≤t)(h2:t≤5)(w:World):C0 77 #[V0 t,.bool leaf] w (Ret (V0 (Kj t leaf:Int)) w):=by
 obtain rfl|rfl|rfl|rfl|rfl:t=1∨t=2∨t=3∨t=4∨t=5:=by omega
 all_goals cases leaf
 ·exact Zfx w
 ·exact Zf6 w
 ·exact Zfn w
 ·exact Zgq w
 ·exact node_Max3i w
 ·exact Zgs w
 ·exact Zfz w
 ·exact node_Max4l w
 ·exact Zfj w
 ·exact Zg6 w
theorem Qb(t:Int)(leaf:Bool):1≤Kj t leaf∧Kj t leaf≤18:=by
 unfold Kj;repeat' split
 all_goals decide
theorem run_quo{P:Program}{a:Act}{o:Oper}{t:TypeId}{x y:Operand}{t2:TypeId}{p q r:Int}{k:IntKind}(ho:o.op=.binOp .quo t x y t2)(hx:a.eval x=.int k p)(hy:a.eval y=.int k q)(hq:q≠0)(hr:k.wrap (Int.tdiv p q)=r)(w:World) :
 (execOp a.eval o).run P w=.ok (.value (.int k r)) w:=by
 subst hr
 have hb:(binOp .quo t (.int k p) (.int k q)).run P w=.ok (.int k (k.wrap (p.tdiv q))) w:=by
  simp[binOp,Op.intDiv,hq]
 have hg:(eqGuard .quo t x y (.int k p) (.int k q)).run P w=.ok () w:=rfl
 simp only[execOp,ho,hx,hy,Sem.run_bind,hg,Result.andThen_ok,hb]
 rfl
def ovN (n m:Nat):Nat:=max 1 ((n+m-1)/m)
theorem max_cast(a b:Nat):(if(b:Int)>(a:Int) then(b:Int) else(a:Int))=((max a b:Nat):Int):=by split<;>omega
theorem Qn(n m:Nat):1≤ovN n m:=by unfold ovN;omega
theorem Zal(n m:Nat)(hm:1≤m):ovN n m≤n+1:=by
 have:(n+m-1)/m≤n:=by
  rw[Nat.div_le_iff_le_mul_add_pred (by omega)]
  have:=Nat.le_mul_of_pos_left n hm
  omega
 unfold ovN;omega
theorem ov18{x:Nat}(h:2≤x):ovN x 18≤x/2:=by unfold ovN;omega
theorem Fd(n m:Nat)(w:World)(hn:n≤1000000)(hm:1≤m)(hm2:m≤1000000) :
 C0 159 #[V0 (n:Int),V0 (m:Int)] w (Ret (V0 (ovN n m:Int)) w):=by
 refine zin 12 Tryz.func159 ?_
 refine xwm 9 ((n:Int)+(m:Int)) (↑(n+m):Int) ?_
 refine xwm 0 ((↑(n+m):Int)-1) (↑((n+m)-1):Int) ?_
 refine xbo 1 (t:=3) (t2:=3) (fun _ _ _ _ zo zx zy V hV=>run_quo (r:=(↑((n+m-1)/m):Int)) zo zx zy (by omega) (Zcl (n+m-1) m (by omega) (by omega)) V) ?_
 refine xq 0 (congrArg V0 (show(if(↑((n+m-1)/m):Int)>(1:Int) then(↑((n+m-1)/m):Int) else(1:Int):Int)=(↑(ovN n m):Int) from max_cast 1 ((n+m-1)/m))) ?_
 exact xe 4 (V0 (↑(ovN n m):Int)) ⟨rfl,(B3 w)⟩
def lenOf:Value→Nat
 | .slice _ n _=>n
 | _=>0
def nv (n:Nat):Value:=V0 (n:Int)
def Gf(x:Nat):List Nat:=if h:x≤1 then [x] else x::Gf (ovN x 18)
termination_by x
decreasing_by have:=ov18 (x:=x) (by omega);omega
theorem Jr{x:Nat}(h:x≤1):Gf x=[x]:=by rw[Gf];simp[h]
theorem Vo{x:Nat}(h:¬ x≤1):Gf x=x::Gf (ovN x 18):=by rw[Gf];simp[h]
theorem levs_sum{x:Nat}(h:1≤x):(Gf x).sum≤2*x:=by
 induction x using Nat.strongRecOn with
 | _ x ih =>
  by_cases h1:x≤1
  ·rw[Jr h1];simp;omega
  ·rw[Vo h1,List.sum_cons]
   have h2:=ov18 (x:=x) (by omega)
   have:=ih (ovN x 18) (by omega) (Qn _ _)
   omega
theorem levs_len{x:Nat}(h:1≤x):(Gf x).length≤x:=by
 induction x using Nat.strongRecOn with
 | _ x ih =>
  by_cases h1:x≤1
  ·rw[Jr h1];simpa using h
  ·rw[Vo h1,List.length_cons]
   have h2:=ov18 (x:=x) (by omega)
   have:=ih (ovN x 18) (by omega) (Qn _ _)
   omega
theorem Zm{w:World}{b:O0}{n c:Nat}{l:List Nat}(h:Sl w (.slice b n c) n (l.map nv))(hl:l.length=n){k:Nat}(hk:k<n):b.isSome=true∧w.cell? (Xj b (k*1))=some (V0 ((l.getD k 0:Nat):Int)):=by
 have e:l.map nv=(l.map fun x:Nat=>(x:Int)).map V0:=by simp[nv]
 rw[e] at h
 have:=IntsN.elem h (by simpa using hl) hk
 rw[show(l.map fun x:Nat=>(x:Int)).getD k 0=((l.getD k 0:Nat):Int) by simp[List.getD,List.getElem?_eq_getElem (show k<l.length by omega)]] at this
 exact this
theorem Ow{xs:List Nat}{x j:Nat}(h:xs.length=j):(xs++[x]).getD j 0=x:=by subst h;simp[List.getD]
theorem Ik{L:List Nat}{k:Nat}(h:k<L.length):(L.take (k+1)).sum=(L.take k).sum+L.getD k 0:=by
 rw[List.take_add_one,List.sum_append];simp[List.getD,List.getElem?_eq_getElem h]
theorem take_le{L:List Nat}(k:Nat):(L.take k).sum≤L.sum:=by
 conv=>rhs;rw[←List.take_append_drop k L,List.sum_append]
 omega
def Hw(t:Int)(n:Nat):List Nat:=Gf (ovN n (Kj t true))
def Gg(t:Int)(n:Nat):Nat:=(Hw t n).sum
theorem levL_len(t:Int)(n:Nat):(Hw t n).length≤n+1:=by
 have:=levs_len (Qn n (Kj t true));have:=Zal n (Kj t true) (Qb t true).1;unfold Hw;omega
theorem nodN_le(t:Int)(n:Nat):Gg t n≤2*n+2:=by
 have:=levs_sum (Qn n (Kj t true));have:=Zal n (Kj t true) (Qb t true).1;unfold Gg Hw;omega
theorem Zcg(t:Int)(n:Nat)(w:World)(h1:1≤t)(h2:t≤5)(hn:n≤32768) :
 C0 106 #[V0 t,V0 (n:Int)] w (Vy (fun w' r=>∃ p c,r=.slice p (Hw t n).length c∧w'.ownsRow w.heap.size 3 1 (.slice p (Hw t n).length c) (Hw t n).length ((Hw t n).map nv)) w):=by
 have b3:=(Qb t true).1
 have d1:=(Qb t true).2
 have d0:=Zal n (Kj t true) b3
 have c2:=Qn n (Kj t true)
 refine zin 45 Tryz.func106 ?_
 refine xr 8 (args:=#[V0 t,.bool true]) (Da t true h1 h2 _) fun W1 b4=>?_
 refine xr 1 (args:=#[V0 t,.bool false]) (Da t false h1 h2 _) fun W2 b0=>?_
 refine xgk 10 [13,14] (show(((↑(Kj t true):Int)==(0:Int)):Bool)=false from by simp;omega) ?_
 refine xgk 4 [16,17,18] (show(decide ((n:Int)<(0:Int)):Bool)=false from decide_eq_false (by omega)) ?_
 refine xk 5 (show(decide ((n:Int)>(32768:Int)):Bool)=false from decide_eq_false (by omega)) ?_
 refine xr 6 (args:=#[V0 (n:Int),V0 (↑(Kj t true):Int)]) (Fd n (Kj t true) _ (by omega) b3 (by omega)) fun W5 b1=>?_
 refine xbs 0 1 [V0 (↑(ovN n (Kj t true)):Int)] 3 fun b6 W6 n6=>?_
 have g6:=n6.ge (bln (bln b4 b0) b1)
 have hB:=bln (bln (bln b4 b0) b1) n6.below
 refine zl 5 45 (fun zm c3 V=>∃ (j x:Nat) (xs:List Nat) (p:O0) (c:Nat),c3=[(4,S0),(6,V0 18),(7,.slice p (j+1) c)]∧zm=40000-(j+1)∧B0 w V∧V.ownsRow w.heap.size 3 1 (.slice p (j+1) c) (j+1) ((xs++[x]).map nv)∧xs.length=j∧1≤x∧x≤32769∧xs++Gf x=Hw t n∧j+x≤40000) ⟨0,(ovN n (Kj t true)),[],_,_,rfl,rfl,hB,Xa (size:=1) (n:=1) n6.blk g6 rfl (by unfold maxLen;decide),rfl,c2,by omega,rfl,by omega⟩ ?_
 rintro _ _ W7 ⟨j,x,xs,p,c,rfl,rfl,a2,ho,a0,c5,c6,b2,hj⟩ J7 c4 r7
 refine xwm 6 ((↑(j+1):Int)-1) (j:Int) ?_
 refine xx 0 _ (j+1) j 1 (Zm (Zh ho) (by simp[a0]) (k:=j) (by omega)).1 ?_
 refine xl 0 (by have:=(Zm (Zh ho) (by simp[a0]) (k:=j) (by omega)).2;rwa [Ow a0] at this) ?_
 refine xid 3 ((x:Int)>(1:Int)) (fun c0=>?_) (fun c0=>?_)
 ·refine xwm 8 ((↑(j+1):Int)-1) (j:Int) ?_
  refine xx 0 _ (j+1) j 1 (Zm (Zh ho) (by simp[a0]) (k:=j) (by omega)).1 ?_
  refine xl 0 (by have:=(Zm (Zh ho) (by simp[a0]) (k:=j) (by omega)).2;rwa [Ow a0] at this) ?_
  refine xr 1 (args:=#[V0 (x:Int),V0 18]) (Fd x 18 _ (by omega) (by decide) (by decide)) fun W9 b5=>?_
  refine xbs 0 1 [V0 (↑(ovN x 18):Int)] 3 fun d2 c8 a4=>?_
  have a3:=bln a2 b5
  have c7:=a4.ge a3
  have a1:=Zb ho b5
  have a8:=Zw a1 a4
  have a7:=Zb a1 a4.below
  have a5:=bln a3 a4.below
  refine xbi 0 fun _ _ _ _ zJ zQ zo zx zy zK=>Zu (m:=1) (news:=[V0 (↑(ovN x 18):Int)]) (V0 0) 1 8 (j+1+1) (((xs++[x])++[ovN x 18]).map nv) zo Tryz.underlying28 (by kernel_rfl) rfl (by decide) zx a7 zy (a4.blk.sl 1 1 (by decide) (by decide)) rfl (by simp[Value.oneCell']) (by unfold maxLen;omega) (by omega) a5.size (by rfl) (by simp[nv]) fun c1 b7 c9 b8 b9 a9=>?_
  refine zK _ _ ?_
  have d3:=ov18 (x:=x) (by omega)
  have a6:=a5.trans a9
  exact ze 3 (c4 _ _ _ ⟨j+1,(ovN x 18),xs++[x],_,_,rfl,rfl,a6,b8,by simp[a0],Qn _ _,by omega,by rw[←b2,Vo (x:=x) (by omega)];simp,by omega⟩ (by omega))
 refine xe 12 (.slice p (j+1) c) ?_
 have e:Hw t n=xs++[x]:=by rw[←b2,Jr (x:=x) (by omega)]
 have el:(Hw t n).length=j+1:=by rw[e];simp[a0]
 exact⟨_,rfl,a2,p,c,by rw[el],by rw[el,e];exact ho⟩
theorem Aa(t:Int)(n:Nat)(w:World)(h1:1≤t)(h2:t≤5)(hn:n≤32768) :
 C0 51 #[V0 t,V0 (n:Int)] w (Ret (V0 (Gg t n:Int)) w):=by
 refine zin 21 Tryz.func51 ?_
 refine xc 15 (args:=#[V0 t,V0 (n:Int)]) (Zcg t n _ h1 h2 hn) ?_
 rintro _ W1 ⟨_,rfl,a3,p,c,rfl,ho⟩
 have a2:=Nat.le_refl w.heap.size
 have a1:=Zg ho a2
 refine zl 5 21 (fun zm a5 V=>∃ (k:Nat),a5=[(4,V0 0),(5,V0 (↑((Hw t n).take k).sum:Int)),(10,.slice p ((Hw t n).length) c),(11,V0 (↑((Hw t n).length):Int)),(12,V0 (k:Int))]∧zm=(Hw t n).length-((k:Int)).toNat∧B0 w V∧V.ownsRow w.heap.size 3 1 (.slice p (Hw t n).length c) (Hw t n).length ((Hw t n).map nv)∧k≤(Hw t n).length) ⟨0,rfl,rfl,a3,a1,Nat.zero_le _⟩ ?_
 rintro _ _ W2 ⟨k,rfl,rfl,a0,ho,hk⟩ J2 a6 r2
 have a7:=levL_len t n
 have a2:=nodN_le t n
 unfold Gg at a2
 have a8:=take_le (L:=Hw t n) (k+1)
 have a9:k<(Hw t n).length→((Hw t n).take (k+1)).sum=((Hw t n).take k).sum+(Hw t n).getD k 0:=Ik
 refine xid 6 ((k:Int)<(↑((Hw t n).length):Int)) (fun a4=>?_) (fun a4=>?_)
 ·refine xx 6 _ ((Hw t n).length) k 1 (Zm (Zh ho) rfl (k:=k) (by omega)).1 ?_
  refine xl 0 ((Zm (Zh ho) rfl (k:=k) (by omega)).2) ?_
  refine xwm 6 ((↑((Hw t n).take k).sum:Int)+(↑((Hw t n).getD k 0):Int)) (↑(((Hw t n).take k).sum+((Hw t n).getD k 0)):Int) ?_
  refine xwm 5 ((k:Int)+1) (↑(k+1):Int) ?_
  refine xv1 2 5 (show(V0 (↑(((Hw t n).take k).sum+((Hw t n).getD k 0)):Int):Value)=V0 (↑((Hw t n).take (k+1)).sum:Int) from by rw[Ik (by omega)]) ?_
  exact ze 0 (a6 _ _ _ ⟨k+1,rfl,rfl,a0,ho,by omega⟩ (by omega))
 refine xe 12 (V0 (↑((Hw t n).take k).sum:Int)) ?_
 have e:k=(Hw t n).length:=by omega
 subst e
 rw[List.take_length]
 exact⟨rfl,a0⟩
def Qe(n m i:Nat):Nat:=min m (n-i*m)
theorem Zas{n m i:Nat}(hm:1≤m)(h:i<ovN n m):i*m≤n:=by
 unfold ovN at h
 rcases Nat.eq_zero_or_pos i with rfl|hi
 ·omega
 ·have h1:i+1≤(n+m-1)/m:=by omega
  have h2:=(Nat.le_div_iff_mul_le (by omega)).1 h1
  rw[Nat.add_mul] at h2
  omega
def Of(n m k:Nat):List Value:=(List.range (ovN n m)).map fun i=>V0 (if i<k then(Qe n m i:Int) else 0)
def sizL(n m:Nat):List Nat:=(List.range (ovN n m)).map (Qe n m)
theorem sizK_zero(n m:Nat):Gi (Value.int .i64 0).cells.toList (ovN n m)=Of n m 0:=by
 rw[show(Value.int .i64 0).cells.toList=[Value.int .i64 0] from rfl,Gi,Of]
 simp[List.map_const']
theorem sizK_all(n m:Nat):Of n m (ovN n m)=(sizL n m).map nv:=by
 unfold Of sizL nv
 rw[List.map_map]
 apply List.map_congr_left
 intro i hi
 rw[List.mem_range] at hi
 simp[hi]
theorem sizK_set{n m k:Nat}(h:k<ovN n m):(Of n m k).set k (V0 (Qe n m k:Int))=Of n m (k+1):=by
 apply List.ext_getElem?
 intro i
 by_cases hi:i<ovN n m
 ·by_cases e:k=i
  ·subst e
   rw[List.getElem?_set_self (by simpa [Of] using h)]
   simp[Of,List.getElem?_range h]
  ·rw[List.getElem?_set_ne e]
   simp only[Of,List.getElem?_map,List.getElem?_range hi,Option.map_some]
   by_cases e2:i<k
   ·simp[e2,show i<k+1 by omega]
   ·simp[e2,show ¬ i<k+1 by omega]
 ·rw[List.getElem?_eq_none (by simp[Of];omega),List.getElem?_eq_none (by simp[Of];omega)]
theorem sizL_len(n m:Nat):(sizL n m).length=ovN n m:=by simp[sizL]
theorem Zgz(n m:Nat)(w:World)(hn:n≤32768)(hm:1≤m)(hm2:m≤32768) :
 C0 107 #[V0 (n:Int),V0 (m:Int)] w (Vy (fun w' r=>∃ p c,r=.slice p (ovN n m) c∧w'.ownsRow w.heap.size 3 1 (.slice p (ovN n m) c) (ovN n m) ((sizL n m).map nv)) w):=by
 have a7:=Zal n m hm
 refine zin 40 Tryz.func107 ?_
 refine xgk 11 [8,9] (show(decide ((n:Int)<(0:Int)):Bool)=false from decide_eq_false (by omega)) ?_
 refine xgk 4 [11,12,13] (show(decide ((n:Int)>(32768:Int)):Bool)=false from decide_eq_false (by omega)) ?_
 refine xk 5 (show(decide ((m:Int)<(1:Int)):Bool)=false from decide_eq_false (by omega)) ?_
 refine xq 5 (congrArg V0 (show(if(32768:Int)<(m:Int) then(32768:Int) else(m:Int):Int)=(m:Int) from if_neg (by omega))) ?_
 refine xr 7 (args:=#[V0 (n:Int),V0 (m:Int)]) (Fd n m _ (by omega) hm (by omega)) fun W3 a3=>?_
 refine xmk 0 fun _ _ _ _ zJ zQ zo zx zy zK=>Gn (ovN n m) (V0 0) 1 8 (Of n m 0) zo zx zy Tryz.underlying28 (by kernel_rfl) rfl (by omega) (by omega) (sizK_zero n m) fun b4 W4 n4=>?_
 refine zK _ _ ?_
 have hB:=bln a3 n4.below
 refine zl 12 40 (fun zm a5 V=>∃ (k:Nat),a5=[(0,V0 (n:Int)),(1,V0 (m:Int)),(4,S0),(5,.slice (S1 b4) (ovN n m) (ovN n m)),(24,V0 (↑(ovN n m):Int)),(25,V0 (k:Int))]∧zm=ovN n m-((k:Int)).toNat∧B0 w V∧Blk V b4 (Of n m k) 3∧k≤ovN n m) ⟨0,rfl,rfl,hB,n4.blk,Nat.zero_le _⟩ ?_
 rintro _ _ W5 ⟨k,rfl,rfl,a1,a0,hk⟩ J5 a6 r5
 have a8:k<ovN n m→k*m≤n:=Zas hm
 refine xid 6 ((k:Int)<(↑(ovN n m):Int)) (fun a4=>?_) (fun a4=>?_)
 ·refine xwm 17 ((k:Int)*(m:Int)) (↑(k*m):Int) ?_
  refine xwm 0 ((n:Int)-(↑(k*m):Int)) (↑(n-(k*m)):Int) ?_
  refine xxb 1 b4 0 (ovN n m) k 1 ?_
  refine xsg 0 a0 (0+k*1) (V0 (if(↑(n-(k*m)):Int)<(m:Int) then(↑(n-(k*m)):Int) else(m:Int))) (by simp[Of];omega) fun W7 u7 k7=>?_
  replace k7:Blk W7 b4 (Of n m (k+1)) 3:=by rw[←(show(Of n m k).set (0+k*1) (V0 (if(↑(n-(k*m)):Int)<(m:Int) then(↑(n-(k*m)):Int) else(m:Int)))=Of n m (k+1) from by rw[show 0+k*1=k by omega,show(if(↑(n-(k*m)):Int)<(m:Int) then(↑(n-(k*m)):Int) else(m:Int))=(↑(Qe n m k):Int) from Zea m (n-k*m)];exact sizK_set (by omega))];exact k7
  have g4:=n4.ge a3
  refine xwm 4 ((k:Int)+1) (↑(k+1):Int) ?_
  have a2:=u7.below a1 g4
  exact ze 2 (a6 _ _ _ ⟨k+1,rfl,rfl,a2,k7,by omega⟩ (by omega))
 have g4:=n4.ge a3
 refine xe 12 (.slice (S1 b4) (ovN n m) (ovN n m)) ?_
 have e:k=ovN n m:=by omega
 subst e
 have ho:=Xa (size:=1) (n:=ovN n m) a0 g4 (by simp[Of]) (by unfold maxLen;omega)
 rw[sizK_all] at ho
 exact⟨_,rfl,a1,_,_,rfl,ho⟩
def Zi(l:Bl):Nat→Nat→Nat
 | _,0=>0
 | k,w+1=>(l.getD k 0).toNat+256*Zi l (k+1) w
theorem Ba(l:Bl):∀ (w k:Nat),Zi l k w<256 ^ w
 | 0,k=>by simp[Zi]
 | w+1,k=>by
  have:=Ba l w (k+1)
  have h:=(l.getD k 0).toNat_lt
  rw[Zi,Nat.pow_succ];omega
theorem Zdk(l:Bl)(k w:Nat)(hw:w≤7):Zi l k w<72057594037927936:=Nat.lt_of_lt_of_le (Ba l w k) (by rw[show(72057594037927936:Nat)=256 ^ 7 from rfl];exact Nat.pow_le_pow_right (by decide) hw)
theorem Ym(l:Bl)(k w:Nat)(hw:w≤4):Zi l k w<4294967296:=Nat.lt_of_lt_of_le (Ba l w k) (by rw[show(4294967296:Nat)=256 ^ 4 from rfl];exact Nat.pow_le_pow_right (by decide) hw)
theorem Zeo{n b:Nat}(hn:n<72057594037927936)(hb:b<256):IntKind.u64.wrap (↑(BitVec.ofInt 64 (IntKind.u64.wrap ((n:Int)*2 ^ 8)) ||| BitVec.ofInt 64 (b:Int)).toNat:Int)=((b+256*n:Nat):Int):=by
 have h1:IntKind.u64.wrap ((n:Int)*2 ^ 8)=((n*2 ^ 8:Nat):Int):=by
  rw[show(n:Int)*2 ^ 8=((n*2 ^ 8:Nat):Int) by omega];exact IntWalk.u64_in _ (by constructor<;>omega)
 rw[h1,BitVec.ofInt_natCast,BitVec.ofInt_natCast,BitVec.toNat_or,BitVec.toNat_ofNat,BitVec.toNat_ofNat,Nat.mod_eq_of_lt (by omega),Nat.mod_eq_of_lt (by omega)]
 rw[←Nat.shiftLeft_eq,←Nat.shiftLeft_add_eq_or_of_lt (by exact hb:b<2 ^ 8),Nat.shiftLeft_eq,IntWalk.u64_in _ (by constructor<;>omega)]
 congr 1;omega
theorem u64_nat{n:Nat}(h:n<18446744073709551616):IntKind.u64.wrap (n:Int)=(n:Int):=IntWalk.u64_in _ (by constructor<;>omega)
theorem Ze6(a:O0)(m c k w:Nat)(hw:w=1∨w=2∨w=4∨w=8)(hk:k+w≤m)(hm:m≤100000000)(W:World) :
 C0 139 #[.slice a m c,V0 (k:Int),V0 (w:Int)] W (Ret (V0 0) W):=by
 rcases hw with rfl|rfl|rfl|rfl
 ·exact there_1 a m c k hk hm W
 ·exact there_2 a m c k hk hm W
 ·exact there_4 a m c k hk hm W
 ·exact there_8 a m c k hk hm W
theorem Zdu(a:O0)(c k w:Nat)(l:Bl)(W:World)(hw:w=1∨w=2∨w=4∨w=8)(hk:k+w≤l.length)(hl:l.length≤100000000)(h:Bys W (.slice a l.length c) l)(hq:Zi l k w<9223372036854775808) :
 C0 79 #[.slice a l.length c,V0 (k:Int),V0 (w:Int)] W (Ret (.tuple #[V0 (Zi l k w:Int),V0 0]) W):=by
 refine zin 38 Tryz.func79 ?_
 refine xr 12 (args:=#[.slice a l.length c,V0 (k:Int),V0 (w:Int)]) (Ze6 a l.length c k w hw hk hl _) fun W1 a1=>?_
 refine xw 21 ((w:Int)-1) ?_
 refine zl 4 38 (fun zm a3 V=>∃ (j r:Nat),a3=[(0,.slice a l.length c),(1,V0 (k:Int)),(6,V0 0),(7,V0 0),(9,.int .u64 (↑(Zi l (k+j) r):Int)),(10,V0 ((j:Int)-1))]∧zm=(((j:Int)-1)+1).toNat∧B0 W V∧j+r=w) ⟨w,0,rfl,rfl,a1,by omega⟩ ?_
 rintro _ _ W2 ⟨j,r,rfl,rfl,a0,a5⟩ J2 a4 r2
 refine xid 7 ((j:Int)-1≥(0:Int)) (fun a2=>?_) (fun a2=>?_)
 ·refine xq 10 (congrArg V0 (show IntKind.i64.wrap ((k:Int)+((j:Int)-1))=(↑(k+(j-1)):Int) from(show IntKind.i64.wrap ((k:Int)+((j:Int)-1))=((k:Int)+((j:Int)-1)) from by first|exact IntWalk.i64_in _ (by omega)|(simp only[IntKind.wrap];omega)).trans (by omega))) ?_
  refine xx 0 _ l.length (k+(j-1)) 1 (Bys.elem h (k:=(k+(j-1))) (by omega)).1 ?_
  refine xl 0 ((Bys.elem (h.below a0) (k:=(k+(j-1))) (by omega)).2) ?_
  refine xq 0 (congrArg (Value.int .u64) (show(IntKind.u64.wrap (↑(l.getD (k+(j-1)) 0).toNat:Int):Int)=(↑(l.getD (k+(j-1)) 0).toNat:Int) from u64_nat (by have:=(l.getD (k+(j-1)) 0).toNat_lt;omega))) ?_
  refine xq 0 (congrArg (Value.int .u64) (show(IntKind.u64.wrap (↑(BitVec.ofInt 64 (IntKind.u64.wrap ((↑(Zi l (k+j) r):Int)*2 ^ 8)) ||| BitVec.ofInt 64 (↑(l.getD (k+(j-1)) 0).toNat:Int)).toNat:Int):Int)=(↑(Zi l (k+(j-1)) (r+1)):Int) from(Zeo (Zdk l (k+j) r (by omega)) (l.getD (k+(j-1)) 0).toNat_lt).trans (congrArg (fun x:Nat=>(x:Int)) (by rw[Zi,show k+(j-1)+1=k+j by omega])))) ?_
  refine xq 6 (congrArg V0 (show IntKind.i64.wrap ((j:Int)-1-1)=((↑(j-1:Nat):Int)-1) from(show IntKind.i64.wrap ((j:Int)-1-1)=((j:Int)-1-1) from by first|exact IntWalk.i64_in _ (by omega)|(simp only[IntKind.wrap];omega)).trans (by omega))) ?_
  exact ze 2 (a4 _ _ _ ⟨j-1,r+1,rfl,rfl,a0,by omega⟩ (by omega))
 refine xk 12 (show(decide ((↑(Zi l (k+j) r):Int)≥(9223372036854775808:Int)):Bool)=false from by rw[(show Zi l (k+j) r=Zi l k w from by rw[show j=0 by omega,show r=w by omega];rfl)];exact decide_eq_false (by omega)) ?_
 refine xq 5 (congrArg V0 (show(IntKind.i64.wrap (↑(Zi l (k+j) r):Int):Int)=(↑(Zi l k w):Int) from by rw[(show Zi l (k+j) r=Zi l k w from by rw[show j=0 by omega,show r=w by omega];rfl)];exact Hs hq)) ?_
 exact xe 5 (.tuple #[V0 (↑(Zi l k w):Int),V0 0]) ⟨rfl,a0⟩
theorem Get_big(a:O0)(c k w:Nat)(l:Bl)(W:World)(hw:w=1∨w=2∨w=4∨w=8)(hk:k+w≤l.length)(hl:l.length≤100000000)(h:Bys W (.slice a l.length c) l)(hq:¬ Zi l k w<9223372036854775808) :
 C0 79 #[.slice a l.length c,V0 (k:Int),V0 (w:Int)] W (Ret (.tuple #[V0 0,V0 2]) W):=by
 refine zin 38 Tryz.func79 ?_
 refine xr 12 (args:=#[.slice a l.length c,V0 (k:Int),V0 (w:Int)]) (Ze6 a l.length c k w hw hk hl _) fun W1 a1=>?_
 refine xw 21 ((w:Int)-1) ?_
 refine zl 4 38 (fun zm a3 V=>∃ (j r:Nat),a3=[(0,.slice a l.length c),(1,V0 (k:Int)),(6,V0 0),(7,V0 0),(9,.int .u64 (↑(Zi l (k+j) r):Int)),(10,V0 ((j:Int)-1))]∧zm=(((j:Int)-1)+1).toNat∧B0 W V∧j+r=w) ⟨w,0,rfl,rfl,a1,by omega⟩ ?_
 rintro _ _ W2 ⟨j,r,rfl,rfl,a0,a5⟩ J2 a4 r2
 refine xid 7 ((j:Int)-1≥(0:Int)) (fun a2=>?_) (fun a2=>?_)
 ·refine xq 10 (congrArg V0 (show IntKind.i64.wrap ((k:Int)+((j:Int)-1))=(↑(k+(j-1)):Int) from(show IntKind.i64.wrap ((k:Int)+((j:Int)-1))=((k:Int)+((j:Int)-1)) from by first|exact IntWalk.i64_in _ (by omega)|(simp only[IntKind.wrap];omega)).trans (by omega))) ?_
  refine xx 0 _ l.length (k+(j-1)) 1 (Bys.elem h (k:=(k+(j-1))) (by omega)).1 ?_
  refine xl 0 ((Bys.elem (h.below a0) (k:=(k+(j-1))) (by omega)).2) ?_
  refine xq 0 (congrArg (Value.int .u64) (show(IntKind.u64.wrap (↑(l.getD (k+(j-1)) 0).toNat:Int):Int)=(↑(l.getD (k+(j-1)) 0).toNat:Int) from u64_nat (by have:=(l.getD (k+(j-1)) 0).toNat_lt;omega))) ?_
  refine xq 0 (congrArg (Value.int .u64) (show(IntKind.u64.wrap (↑(BitVec.ofInt 64 (IntKind.u64.wrap ((↑(Zi l (k+j) r):Int)*2 ^ 8)) ||| BitVec.ofInt 64 (↑(l.getD (k+(j-1)) 0).toNat:Int)).toNat:Int):Int)=(↑(Zi l (k+(j-1)) (r+1)):Int) from(Zeo (Zdk l (k+j) r (by omega)) (l.getD (k+(j-1)) 0).toNat_lt).trans (congrArg (fun x:Nat=>(x:Int)) (by rw[Zi,show k+(j-1)+1=k+j by omega])))) ?_
  refine xq 6 (congrArg V0 (show IntKind.i64.wrap ((j:Int)-1-1)=((↑(j-1:Nat):Int)-1) from(show IntKind.i64.wrap ((j:Int)-1-1)=((j:Int)-1-1) from by first|exact IntWalk.i64_in _ (by omega)|(simp only[IntKind.wrap];omega)).trans (by omega))) ?_
  exact ze 2 (a4 _ _ _ ⟨j-1,r+1,rfl,rfl,a0,by omega⟩ (by omega))
 refine xk 12 (show(decide ((↑(Zi l (k+j) r):Int)≥(9223372036854775808:Int)):Bool)=true from by rw[(show Zi l (k+j) r=Zi l k w from by rw[show j=0 by omega,show r=w by omega];rfl)];exact decide_eq_true (by omega)) ?_
 exact xe 8 (.tuple #[V0 0,V0 2]) ⟨rfl,a0⟩
def Hf(l:Bl):Nat→List Nat→List Nat
 | _,[]=>[]
 | k,w::r=>Zi l k w::Hf l (k+w) r
theorem Ih(l:Bl):∀ (ws:List Nat) (k:Nat),(Hf l k ws).length=ws.length
 | [],k=>rfl
 | w::r,k=>by simp[Hf,Ih l r]
theorem Wi(l:Bl)(w:Nat):∀ (ws:List Nat) (k:Nat),Hf l k (ws++[w])=Hf l k ws++[Zi l (k+ws.sum) w]
 | [],k=>by simp[Hf]
 | x::r,k=>by simp[Hf,Wi l w r,Nat.add_assoc]
theorem Po(l:Bl):∀ (ws:List Nat) (k i:Nat),i<ws.length→(Hf l k ws).getD i 0=Zi l (k+(ws.take i).sum) (ws.getD i 0)
 | [],k,i,h=>by simp at h
 | w::r,k,0,h=>by simp[Hf]
 | w::r,k,i+1,h=>by
  have:=Po l r (k+w) i (by simpa using h)
  simp only[List.getD_eq_getElem?_getD] at this ⊢
  simp[Hf,this,Nat.add_assoc]
theorem Ju{ws:List Nat}{i:Nat}(h:i<ws.length):ws.take (i+1)=ws.take i++[ws.getD i 0]:=by
 rw[List.take_succ_eq_append_getElem h];simp[List.getD,h]
theorem Up{ws:List Nat}{i:Nat}(h:i<ws.length):(ws.take i).sum+ws.getD i 0≤ws.sum:=by
 have h1:=Ik h;have h2:=take_le (L:=ws) (i+1);omega
def Zhf(l:Bl)(k w:Nat):Int:=if Zi l k w<9223372036854775808 then(Zi l k w:Int) else 0
def Zbs(l:Bl)(k w:Nat):Int:=if Zi l k w<9223372036854775808 then 0 else 2
theorem Zbe{l:Bl}{k w:Nat}(h:Zbs l k w=0):Zi l k w<9223372036854775808:=by unfold Zbs at h;split at h;assumption;cases h
theorem Zdl{l:Bl}{k w:Nat}(h:Zbs l k w≠0):¬ Zi l k w<9223372036854775808∧Zbs l k w=2:=by unfold Zbs at h ⊢;split at h;exact absurd rfl h;rename_i h2;exact⟨h2,if_neg h2⟩
theorem Av{l:Bl}{k w:Nat}(h:Zi l k w<9223372036854775808):Zbs l k w=0:=if_pos h
theorem Li{l:Bl}{k w:Nat}(h:Zi l k w<9223372036854775808):Zhf l k w=(Zi l k w:Int):=if_pos h
theorem Get_gen(a:O0)(c k w:Nat)(l:Bl)(W:World)(hw:w=1∨w=2∨w=4∨w=8)(hk:k+w≤l.length)(hl:l.length≤100000000)(h:Bys W (.slice a l.length c) l) :
 C0 79 #[.slice a l.length c,V0 (k:Int),V0 (w:Int)] W (Ret (.tuple #[V0 (Zhf l k w),V0 (Zbs l k w)]) W):=by
 by_cases hq:Zi l k w<9223372036854775808
 ·rw[Li hq,Av hq];exact Zdu a c k w l W hw hk hl h hq
 ·rw[Zhf,Zbs,if_neg hq,if_neg hq];exact Get_big a c k w l W hw hk hl h hq
theorem Ok(a:O0)(c:Nat)(l:Bl)(aw:O0)(cw:Nat)(ws:List Nat)(W:World)(hk:∀ i,i<ws.length→ws.getD i 0=1∨ws.getD i 0=2∨ws.getD i 0=4∨ws.getD i 0=8)(hs:ws.sum≤l.length)(hl:l.length≤100000000)(hw:ws.length≤1000)(h:Bys W (.slice a l.length c) l)(hws:Sl W (.slice aw ws.length cw) ws.length (ws.map nv))(hq:∀ i,i<ws.length→(Hf l 0 ws).getD i 0<9223372036854775808) :
 C0 136 #[.slice a l.length c,.slice aw ws.length cw] W (Vy (fun w' r=>∃ p c,r=.tuple #[.slice p ws.length c,V0 0]∧w'.ownsRow W.heap.size 3 1 (.slice p ws.length c) ws.length ((Hf l 0 ws).map nv)) W):=by
 refine zin 37 Tryz.func136 ?_
 have hB:=Below.refl W.heap.size W
 refine zl 25 37 (fun zm b0 V=>∃ (i:Nat) (p:O0) (c2:Nat),b0=[(0,.slice a l.length c),(6,.slice p i c2),(7,V0 (↑(ws.take i).sum:Int)),(12,.slice aw ws.length cw),(13,V0 (ws.length:Int)),(14,V0 (i:Int))]∧zm=ws.length-((i:Int)).toNat∧B0 W V∧V.ownsRow W.heap.size 3 1 (.slice p i c2) i ((Hf l 0 (ws.take i)).map nv)∧i≤ws.length) ⟨0,_,_,rfl,rfl,hB,World.ownsRow_nil _ _ _ _,Nat.zero_le _⟩ ?_
 rintro _ _ W1 ⟨i,p,c2,rfl,rfl,a0,ho,hi⟩ J1 a9 r1
 have b5:i<ws.length→(ws.take i).sum+ws.getD i 0≤ws.sum:=Up
 have a7:i<ws.length→(Hf l 0 ws).getD i 0=Zi l (ws.take i).sum (ws.getD i 0):=fun h=>by rw[Po l ws 0 i h,Nat.zero_add]
 refine xid 6 ((i:Int)<(ws.length:Int)) (fun b1=>?_) (fun b1=>?_)
 ·refine xx 6 _ ws.length i 1 (Zm hws rfl (k:=i) (by omega)).1 ?_
  refine xl 0 ((Zm (hws.below a0) rfl (k:=i) (by omega)).2) ?_
  refine xr 8 (args:=#[.slice a l.length c,V0 (↑(ws.take i).sum:Int),V0 (↑(ws.getD i 0):Int)]) (Get_gen a c (ws.take i).sum (ws.getD i 0) l _ (hk i (by omega)) (by omega) hl (h.below a0)) fun W3 a8=>?_
  refine xk 14 (show(((Zbs l (ws.take i).sum (ws.getD i 0)) != (0:Int)):Bool)=false from by rw[Av (by rw[←a7 (by omega)];exact hq i (by omega))];rfl) ?_
  refine xbs 6 1 [V0 (Zhf l (ws.take i).sum (ws.getD i 0))] 3 fun b4 W4 n4=>?_
  have a3:=bln a0 a8
  have g4:=n4.ge a3
  have a2:=Zb ho a8
  have a6:=Zw a2 n4
  have a4:=Zb a2 n4.below
  have a1:=bln a3 n4.below
  refine xbi 0 fun _ _ _ _ zJ zQ zo zx zy zK=>Zu (m:=1) (news:=[V0 (Zhf l (ws.take i).sum (ws.getD i 0))]) (V0 0) 1 8 (i+1) ((Hf l 0 (ws.take (i+1))).map nv) zo Tryz.underlying28 (by kernel_rfl) rfl (by decide) zx a4 zy (n4.blk.sl 1 1 (by decide) (by decide)) rfl (by simp[Value.oneCell']) (by unfold maxLen;omega) (by omega) a1.size (by rfl) (by rw[Ju (by omega),Wi,Nat.zero_add,List.map_append];simp only[List.map_cons,List.map_nil,nv];rw[Li (by rw[←a7 (by omega)];exact hq i (by omega))]) fun b3 b6 W5 o5 b7 b2=>?_
  refine zK _ _ ?_
  refine xwm 6 ((↑(ws.take i).sum:Int)+(↑(ws.getD i 0):Int)) (↑((ws.take i).sum+(ws.getD i 0)):Int) ?_
  refine xwm 5 ((i:Int)+1) (↑(i+1):Int) ?_
  refine xv1 2 7 (show(V0 (↑((ws.take i).sum+(ws.getD i 0)):Int):Value)=V0 (↑(ws.take (i+1)).sum:Int) from by rw[Ju (by omega),List.sum_append];simp) ?_
  have a5:=a1.trans b2
  exact ze 0 (a9 _ _ _ ⟨i+1,_,_,rfl,rfl,a5,o5,by omega⟩ (by omega))
 refine xe 13 (.tuple #[.slice p i c2,V0 0]) ?_
 obtain rfl:i=ws.length:=by omega
 rw[List.take_length] at ho
 exact⟨_,rfl,a0,_,_,rfl,ho⟩
theorem Zg3(a:O0)(c:Nat)(l:Bl)(aw:O0)(cw:Nat)(ws:List Nat)(W:World)(hk:∀ i,i<ws.length→ws.getD i 0=1∨ws.getD i 0=2∨ws.getD i 0=4∨ws.getD i 0=8)(hs:ws.sum≤l.length)(hl:l.length≤100000000)(hw:ws.length≤1000)(h:Bys W (.slice a l.length c) l)(hws:Sl W (.slice aw ws.length cw) ws.length (ws.map nv))(hq:¬ ∀ i,i<ws.length→(Hf l 0 ws).getD i 0<9223372036854775808) :
 C0 136 #[.slice a l.length c,.slice aw ws.length cw] W (Ret (.tuple #[S0,V0 2]) W):=by
 refine zin 37 Tryz.func136 ?_
 have hB:=Below.refl W.heap.size W
 refine zl 25 37 (fun zm b6 V=>∃ (i:Nat) (p:O0) (c2:Nat),b6=[(0,.slice a l.length c),(6,.slice p i c2),(7,V0 (↑(ws.take i).sum:Int)),(12,.slice aw ws.length cw),(13,V0 (ws.length:Int)),(14,V0 (i:Int))]∧zm=ws.length-((i:Int)).toNat∧B0 W V∧V.ownsRow W.heap.size 3 1 (.slice p i c2) i ((Hf l 0 (ws.take i)).map nv)∧i≤ws.length∧(∀ j,j<i→(Hf l 0 ws).getD j 0<9223372036854775808)) ⟨0,_,_,rfl,rfl,hB,World.ownsRow_nil _ _ _ _,Nat.zero_le _,?_⟩ ?_
 ·exact fun j hj=>absurd hj (by omega)
 rintro _ _ W1 ⟨i,p,c2,rfl,rfl,a0,ho,hi,a4⟩ J1 b4 r1
 have c1:i<ws.length→(ws.take i).sum+ws.getD i 0≤ws.sum:=Up
 have b7:i<ws.length→(Hf l 0 ws).getD i 0=Zi l (ws.take i).sum (ws.getD i 0):=fun h=>by rw[Po l ws 0 i h,Nat.zero_add]
 refine xid 6 ((i:Int)<(ws.length:Int)) (fun b2=>?_) (fun b2=>?_)
 ·refine xx 6 _ ws.length i 1 (Zm hws rfl (k:=i) (by omega)).1 ?_
  refine xl 0 ((Zm (hws.below a0) rfl (k:=i) (by omega)).2) ?_
  refine xr 8 (args:=#[.slice a l.length c,V0 (↑(ws.take i).sum:Int),V0 (↑(ws.getD i 0):Int)]) (Get_gen a c (ws.take i).sum (ws.getD i 0) l _ (hk i (by omega)) (by omega) hl (h.below a0)) fun W3 a6=>?_
  refine xin 14 (Zbs l (ws.take i).sum (ws.getD i 0)) (0:Int) (fun a9=>?_) (fun a9=>?_)
  ·have a5:=Zdl a9
   have a8:=bln a0 a6
   refine xe 14 (.tuple #[S0,V0 (Zbs l (ws.take i).sum (ws.getD i 0))]) ?_
   rw[a5.2];exact⟨rfl,a8⟩
  have a5:=Zbe a9
  refine xbs 6 1 [V0 (Zhf l (ws.take i).sum (ws.getD i 0))] 3 fun b5 W5 n5=>?_
  have a3:=bln a0 a6
  have g5:=n5.ge a3
  have a1:=Zb ho a6
  have b1:=Zw a1 n5
  have a7:=Zb a1 n5.below
  have a2:=bln a3 n5.below
  refine xbi 0 fun _ _ _ _ zJ zQ zo zx zy zK=>Zu (m:=1) (news:=[V0 (Zhf l (ws.take i).sum (ws.getD i 0))]) (V0 0) 1 8 (i+1) ((Hf l 0 (ws.take (i+1))).map nv) zo Tryz.underlying28 (by kernel_rfl) rfl (by decide) zx a7 zy (n5.blk.sl 1 1 (by decide) (by decide)) rfl (by simp[Value.oneCell']) (by unfold maxLen;omega) (by omega) a2.size (by rfl) (by rw[Ju (by omega),Wi,Nat.zero_add,List.map_append];simp only[List.map_cons,List.map_nil,nv];rw[Li a5]) fun c0 b8 W6 o6 b9 b3=>?_
  refine zK _ _ ?_
  refine xwm 6 ((↑(ws.take i).sum:Int)+(↑(ws.getD i 0):Int)) (↑((ws.take i).sum+(ws.getD i 0)):Int) ?_
  refine xwm 5 ((i:Int)+1) (↑(i+1):Int) ?_
  refine xv1 2 7 (show(V0 (↑((ws.take i).sum+(ws.getD i 0)):Int):Value)=V0 (↑(ws.take (i+1)).sum:Int) from by rw[Ju (by omega),List.sum_append];simp) ?_
  have b0:=a2.trans b3
  exact ze 0 (b4 _ _ _ ⟨i+1,_,_,rfl,rfl,b0,o6,by omega,fun j hj=>(Nat.lt_or_ge j i).elim (fun q=>a4 j q) (fun q=>by obtain rfl:j=i:=(by omega);rw[b7 (by omega)];exact a5)⟩ (by omega))
 refine xe 13 (.tuple #[.slice p i c2,V0 0]) ?_
 exact absurd (fun j hj=>a4 j (by omega)) hq
end Go.Proofs.YtgphgaehfdfjjaaGreatDoor
namespace Go.Proofs.YtgphgaehfdfjjaaGreatDoor
set_option maxHeartbeats 8000000
set_option maxRecDepth 100000
open Go.RowKit
set_option linter.unusedVariables false
theorem loop_eq(bs:ByteArray)(i:Nat)(r:Bl):ByteArray.toList.loop bs i r=r.reverse++bs.data.toList.drop i:=by
 have hs:bs.data.toList.length=bs.size:=by rw[Array.length_toList];rfl
 rw[ByteArray.toList.loop]
 split
 ·rename_i h
  have h':i<bs.data.toList.length:=by omega
  rw[loop_eq bs (i+1) _,List.drop_eq_getElem_cons h']
  have e:bs.get! i=bs.data.toList[i]:=by
   have h2:i<bs.data.size:=by rw[←Array.length_toList];exact h'
   show bs.data[i]! = _
   rw[getElem!_pos bs.data i h2];simp
  rw[e];simp
 ·rename_i h
  rw[List.drop_eq_nil_of_le (by omega)];simp
termination_by bs.size-i
theorem Zds(a:Bl):(⟨a.toArray⟩:ByteArray).toList=a:=by
 unfold ByteArray.toList;rw[loop_eq];simp
theorem Lk(a b:Bl):((⟨a.toArray⟩:ByteArray).toList==(⟨b.toArray⟩:ByteArray).toList)=(a==b):=by rw[Zds,Zds]
theorem Fp(l:Bl):∀ (w k i:Nat),i<w→Zi l k w/256 ^ i%256=(l.getD (k+i) 0).toNat
 | 0,k,i,h=>absurd h (by omega)
 | w+1,k,0,_=>by
  have:=(l.getD k 0).toNat_lt
  rw[Zi];simp only[Nat.pow_zero,Nat.div_one,Nat.add_zero];omega
 | w+1,k,i+1,h=>by
  have:=(l.getD k 0).toNat_lt
  have ih:=Fp l w (k+1) i (by omega)
  rw[Zi,Nat.pow_succ,Nat.mul_comm (256 ^ i) 256,←Nat.div_div_eq_div_mul,show((l.getD k 0).toNat+256*Zi l (k+1) w)/256=Zi l (k+1) w by omega,ih,show k+1+i=k+(i+1) by omega]
theorem leB_raw{l:Bl}{k w:Nat}(h:k+w≤l.length):leB (Zi l k w:Int) w=(l.drop k).take w:=by
 apply List.ext_getElem
 ·simp[Zt];omega
 intro i h1 h2
 have hw:i<w:=by simpa [Zt] using h1
 have e:=Fp l w k i hw
 apply UInt8.toNat_inj.1
 simp only[leB,List.getElem_map,List.getElem_range,Xc,Int.toNat_natCast,UInt8.toNat_ofNat',List.getElem_take,List.getElem_drop]
 have e2:l.getD (k+i) 0=l[k+i]'(by omega):=by simp[List.getD,show k+i<l.length by omega]
 rw[e2] at e
 rw[←e]
theorem leB_inj{m n w:Nat}(hm:m<256 ^ w)(hn:n<256 ^ w)(h:leB (m:Int) w=leB (n:Int) w):m=n:=by
 have e:∀ i,i<w→m/256 ^ i%256=n/256 ^ i%256:=fun i hi=>by
  have:=congrArg (fun l=>(l.getD i 0).toNat) h
  simpa [leB,Xc,List.getD,List.getElem?_range hi,UInt8.toNat_ofNat'] using this
 clear h
 induction w generalizing m n with
 | zero=>simp at hm hn;omega
 | succ w ih =>
  have h0:=e 0 (by omega)
  have h1:m/256=n/256:=ih (by rw[Nat.pow_succ] at hm;omega) (by rw[Nat.pow_succ] at hn;omega) fun i hi=>by
   have:=e (i+1) (by omega)
   rw[Nat.pow_succ,Nat.mul_comm (256 ^ i) 256,←Nat.div_div_eq_div_mul,←Nat.div_div_eq_div_mul] at this
   exact this
  simp only[Nat.pow_zero,Nat.div_one] at h0
  omega
theorem Cx{b:Bool}(h:(!b)=true):b=false:=by simpa using h
theorem Cw{b:Bool}(h:(!b)=false):b=true:=by simpa using h
end Go.Proofs.YtgphgaehfdfjjaaGreatDoor
namespace Go.Proofs.YtgphgaehfdfjjaaGreatDoor
set_option maxHeartbeats 8000000
set_option maxRecDepth 100000
open Go.RowKit Go.Extern.Stop Go.Stop Go.Extern
set_option linter.unusedVariables false
attribute [local irreducible] wpList wpAnyH Code.wp Oper.wp Go
theorem Jf{P:Program}{a:Act}{o:Oper}{src dst e:TypeId}{x:Operand}{b:O0}{n c:Nat}{l:Bl}{w:World}(ho:o.op=.convert src dst x)(hx:a.eval x=.slice b n c)(h:Bys w (.slice b n c) l)(hl:l.length=n)
 (hs:P.underlying src=some (.slice e)) (he:P.underlying e=some (.int .u8)) (hd:P.underlying dst=some .string):(execOp a.eval o).run P w=.ok (.value (.string ⟨l.toArray⟩)) w:=by
 have hr:(convert src dst (.slice b n c)).run P w=.ok (.string ⟨l.toArray⟩) w:=by
  subst hl
  rcases Sl.at h with hn|⟨g,a0,rfl,hc⟩
  ·obtain rfl:l=[]:=by simpa using hn
   cases b with
   | none=>rw[run_convert_bytes_string w src dst e none _ c hs he hd];rfl
   | some p=>exact run_convert_bytes_back w src dst e p c [] hs he hd (fun j hj=>by simp at hj)
  ·exact run_convert_bytes_back w src dst e _ c l hs he hd (fun j hj=>by rw[Addr.add_mid];exact hc j _ (by simp[List.getElem?_eq_getElem hj,bv]))
 simp only[execOp,ho,hx,Sem.run_bind,hr];rfl
theorem Al.below{B ba b g n c:Nat}{pa:O0}{ca f N k:Nat}{l:Bl}{w W:World}(h:Al B ba b g n c pa ca f N k l w)(hb:B0 w W):Al B ba b g n c pa ca f N k l W:=⟨h.blkA.below hb,h.blkI.below hb,Zb h.data hb,Zb h.nums hb⟩
theorem own_someN{w:World}{base n c size:Nat}{e:TypeId}{p:O0}{xs:List Value}(h:w.ownsRow base e size (.slice p n c) n xs)(hn:0<n):∃ g,p=some ⟨g,0,none⟩∧n≤c:=by
 rcases h.2 with ⟨_,h0⟩|⟨g,a0,a1,hv,_,_,hc,_⟩
 ·omega
 ·simp only[Value.slice.injEq] at hv;exact⟨g,hv.1,by omega⟩
theorem Bys.cap{w:World}{a:O0}{n c:Nat}{l:Bl}(h:Bys w (.slice a n c) l)(hl:l.length=n):n≤c:=by
 rcases h with ⟨a',c',h1,h2,_⟩|⟨b,a0,cap,h1,h2,_,_⟩
 ·omega
 ·simp only[Value.slice.injEq] at h1;omega
theorem image_OfN(a:O0)(c n m:Nat)(l:Bl)(w:World)(hn:l.length=n)(hm:min (n/256) 14400*256=m)(h:Bys w (.slice a n c) l)(hl:n≤100000000)(hc:n≤c) :
 C0 6 #[.slice a n c] w (Vy (fun w' r=>∃ b p c,r=P0 b∧w.heap.size≤b∧Blk w' b [.slice p m c] 72∧w'.ownsRow w.heap.size 5 1 (.slice p m c) m ((l.take m).map bv)) w):=by
 subst hn hm;exact Zd8 a c l w h hl hc
theorem Zfv(b:Nat)(p0:O0)(n c f N:Nat)(fi:Int)(hfi:fi=(f:Int))(hN:n/256-f=N)(w:World)(hk:Blk w b [.slice p0 n c] 72)(hn:n≤3686400)(h1:1≤f)(h2:f≤n/256) :
 C0 20 #[P0 b,V0 fi] w (Vy (fun w' r=>∃ ba p c2,r=.tuple #[P0 ba,.nilIface]∧w.heap.size≤ba∧Blk w' ba [.slice p N c2,V0 0,P0 b] 125∧w'.ownsRow w.heap.size 3 1 (.slice p N c2) N ((Zhd f N).map V0)) w):=by
 subst hfi hN;exact alloc_New b p0 n c f w hk hn h1 h2
end Go.Proofs.YtgphgaehfdfjjaaGreatDoor
namespace Go.Proofs.YtgphgaehfdfjjaaGreatDoor
set_option maxHeartbeats 8000000
set_option maxRecDepth 100000
open Go.RowKit Go.Extern.Stop Go.Stop Go.Extern
set_option linter.unusedVariables false
attribute [local irreducible] wpList wpAnyH Code.wp Oper.wp Go
section
variable {P:Program} {a:Act}
theorem Qt{o:Oper}{t e:TypeId}{x y y2:Operand}{b:O0}{n k h c:Nat}{i j:Int}{ki kj:IntKind}(size:Nat)(ho:o.op=.slice t x (some y) (some y2) none)(hx:a.eval x=.slice b n c)(hy:a.eval y=.int ki i)(hi:i=(k:Int))(hy2:a.eval y2=.int kj j)(hj:j=(h:Int))(hk:k≤h)(hc:h≤c)
 (ht:P.underlying t=some (.slice e)) (hs:(P.info? e).map (·.size)=some size) (w:World):(execOp a.eval o).run P w=.ok (.value (.slice (Qz b k c size) (h-k) (c-k))) w:=by
 cases hq:P.info? e with
 | none=>simp[hq] at hs
 | some q =>
  have a0:q.size=size:=by simpa [hq] using hs
  subst hi hj
  have h1:(0:Int)≤(k:Int):=by omega
  have h2:(0:Int)≤(h:Int):=by omega
  have h3:(k:Int)≤(h:Int):=by omega
  have h4:(h:Int)≤(c:Int):=by omega
  by_cases h5:c=k
  ·simp_all [execOp,Instr.sliceAt,Instr.slice,Instr.sliceBounds,Instr.sliceBound,asIntOf,run_underlying ht,sizeOf,typeInfo,Qz]
  ·simp_all [execOp,Instr.sliceAt,Instr.slice,Instr.sliceBounds,Instr.sliceBound,asIntOf,run_underlying ht,sizeOf,typeInfo,Qz]
end
theorem Bys.cut{w:World}{b:O0}{n c:Nat}{l:Bl}(h:Bys w (.slice b n c) l)(hl:l.length=n)(k m:Nat)(hk:k≤m)(hm:m≤n):Bys w (.slice (Qz b k c 1) (m-k) (c-k)) ((l.drop k).take (m-k)):=by
 have a0:((l.drop k).take (m-k)).length=m-k:=by simp;omega
 have a2:=Bys.cap h hl
 rcases h with ⟨a',c',h1,h2,h3⟩|⟨g,a1,a3,h1,h2,h3,h4⟩
 ·obtain rfl:k=0:=by omega
  obtain rfl:m=0:=by omega
  refine .inl ⟨Qz b 0 c 1,c-0,?_,by simp,by simp⟩
  simp
 ·simp only[Value.slice.injEq] at h1
  obtain⟨rfl,_,rfl⟩:=h1
  by_cases hz:m-k=0
  ·refine .inl ⟨Qz (some ⟨g,a1,none⟩) k c 1,c-k,by rw[hz],by omega,?_⟩
   rw[hz];rfl
  ·refine .inr ⟨g,a1+k*1,c-k,?_,by omega,by omega,fun j x hj=>?_⟩
   ·rw[Qz,if_neg (by omega),a0];simp[Addr.add]
   ·rw[List.getElem?_map,List.getElem?_take] at hj
    split at hj
    ·rw[List.getElem?_drop] at hj
     have:=h4 (k+j) x (by rw[List.getElem?_map];exact hj)
     rwa [Nat.mul_one,Nat.add_assoc]
    ·cases hj
def Vg(l:Bl):Bool:=l.all (·==0)
theorem Sr{l:Bl}(h:∀ j,j<l.length→l.getD j 0=0):Vg l=true:=by
 unfold Vg
 rw[List.all_eq_true]
 intro x hx
 obtain⟨j,hj,rfl⟩:=List.mem_iff_getElem.1 hx
 have:=h j hj
 simpa [List.getD,hj] using this
theorem Dx{l:Bl}{j:Nat}(hj:j<l.length)(h:((l.getD j 0).toNat:Int)≠0):Vg l=false:=by
 unfold Vg
 rw[List.all_eq_false]
 refine⟨l[j],List.getElem_mem hj,?_⟩
 intro h2
 apply h
 have:l[j]=0:=by simpa using h2
 simp[List.getD,hj,this]
theorem Zbd{x:UInt8}(h:(x.toNat:Int)=0):x=0:=by
 have h1:x.toNat=0:=by omega
 exact UInt8.toNat_inj.1 (by rw[h1];rfl)
theorem zero_1(n:Int)(w:World) :
 C0 138 #[.int .u8 n] w (Ret (.bool (n != 0)) w):=by
 refine zin 5 Tryz.func138 ?_
 exact xe 13 (.bool (n != (0:Int))) ⟨rfl,(B3 w)⟩
theorem indexZero(a:O0)(c:Nat)(l:Bl)(w:World)(hl:l.length≤100000000)(h:Bys w (.slice a l.length c) l) :
 C0 177 #[.slice a l.length c,.func (.func 138) #[] #[]] w (fun e w'=>(Vg l=true∧e=.returned (V0 (-1))∧B0 w w')∨(Vg l=false∧∃ i:Nat,e=.returned (V0 (i:Int))∧B0 w w')):=by
 refine zin 19 Tryz.func177 ?_
 have hB:=Below.refl w.heap.size w
 refine zl 14 19 (fun zm a6 V=>∃ (i:Nat),a6=[(0,.slice a l.length c),(1,.func (.func 138) #[] #[]),(7,V0 (l.length:Int)),(8,V0 (i:Int))]∧zm=l.length-((i:Int)).toNat∧B0 w V∧i≤l.length∧(∀ j,j<i→l.getD j 0=0)) ⟨0,rfl,rfl,hB,Nat.zero_le _,?_⟩ ?_
 ·exact fun j hj=>absurd hj (by omega)
 rintro _ _ W1 ⟨i,rfl,rfl,a0,hi,hz⟩ J1 a5 r1
 refine xid 6 ((i:Int)<(l.length:Int)) (fun a7=>?_) (fun a7=>?_)
 ·refine xx 15 _ l.length i 1 (Bys.elem h (k:=i) (by omega)).1 ?_
  refine xl 0 ((Bys.elem (h.below a0) (k:=i) (by omega)).2) ?_
  refine xr 0 (args:=#[.int .u8 (↑(l.getD i 0).toNat:Int)]) (zero_1 (↑(l.getD i 0).toNat:Int) _) fun W3 a3=>?_
  refine xin 2 (↑(l.getD i 0).toNat:Int) (0:Int) (fun a4=>?_) (fun a4=>?_)
  ·have a2:=bln a0 a3
   exact xe 12 (V0 (i:Int)) (.inr ⟨Dx (j:=i) (by omega) (by assumption),_,rfl,a2⟩)
  refine xwm 4 ((i:Int)+1) (↑(i+1):Int) ?_
  have a1:=bln a0 a3
  exact ze 2 (a5 _ _ _ ⟨i+1,rfl,rfl,a1,by omega,fun j hj=>(Nat.lt_or_ge j i).elim (hz j) (fun q=>by obtain rfl:j=i:=(by omega);exact Zbd (by assumption))⟩ (by omega))
 exact xe 11 (V0 (-1)) (.inl ⟨Sr (fun j hj=>hz j (by omega)),rfl,a0⟩)
theorem Ox(a:O0)(c:Nat)(l:Bl)(w:World)(hl:l.length≤100000000)(h:Bys w (.slice a l.length c) l) :
 C0 137 #[.slice a l.length c,.func (.func 138) #[] #[]] w (Ret (.bool (!Vg l)) w):=by
 refine zin 9 Tryz.func137 ?_
 refine xc 9 (args:=#[.slice a l.length c,.func (.func 138) #[] #[]]) (indexZero a c l _ hl (h.below (B3 w))) ?_
 rintro e W1 a1
 rcases a1 with ⟨hz,rfl,a0⟩|⟨hz,i0,rfl,a0⟩
 ·refine xe 5 (.bool false) ?_
  rw[hz];exact⟨rfl,a0⟩
 refine xe 5 (.bool (decide ((i0:Int)≥(0:Int)))) ?_
 rw[hz,show decide ((i0:Int)≥(0:Int))=true from decide_eq_true (by omega)];exact⟨rfl,a0⟩
theorem code_Zero(a:O0)(c:Nat)(l:Bl)(w:World)(hl:l.length≤100000000)(h:Bys w (.slice a l.length c) l) :
 C0 78 #[.slice a l.length c] w (Ret (.bool (Vg l)) w):=by
 refine zin 6 Tryz.func78 ?_
 refine xr 8 (args:=#[.slice a l.length c,.func (.func 138) #[] #[]]) (Ox a c l _ hl (h.below (B3 w))) fun W1 a0=>?_
 refine xe 5 (.bool (!(!Vg l))) ?_
 rw[Bool.not_not];exact⟨rfl,a0⟩
def Jk(kind no:Int):Bool:=decide (1≤kind∧kind≤4∧0≤no∧no<14400)
theorem Zc6(kind no:Int)(w:World) :
 C0 128 #[V0 kind,V0 no] w (Ret (.bool (Jk kind no)) w):=by
 refine zin 19 Tryz.func128 ?_
 refine xg 10 [6,7] (decide (kind≥(1:Int))) (fun a0=>?_) (fun a0=>?_)
 ·have a0:=of_decide_eq_true a0
  refine xg 4 [9,10,11] (decide (kind≤(4:Int))) (fun a1=>?_) (fun a1=>?_)
  ·have a1:=of_decide_eq_true a1
   refine xg 4 [13,14,15] (decide (no≥(0:Int))) (fun a2=>?_) (fun a2=>?_)
   ·have a2:=of_decide_eq_true a2
    exact xe 7 (.bool (decide (no<(14400:Int)))) ⟨by rw[show Jk kind no=decide (no<14400) from decide_eq_decide.2 ⟨fun h=>h.2.2.2,fun h=>⟨by omega,by omega,by omega,h⟩⟩],(B3 w)⟩
   have a2:=of_decide_eq_false a2
   exact xe 7 (.bool false) ⟨by rw[show Jk kind no=false from decide_eq_false (by omega)],(B3 w)⟩
  have a1:=of_decide_eq_false a1
  exact xe 11 (.bool false) ⟨by rw[show Jk kind no=false from decide_eq_false (by omega)],(B3 w)⟩
 have a0:=of_decide_eq_false a0
 exact xe 15 (.bool false) ⟨by rw[show Jk kind no=false from decide_eq_false (by omega)],(B3 w)⟩
theorem seal_told(a:O0)(c k w:Nat)(l:Bl)(W:World)(hw:w=1∨w=2∨w=4)(hk:k+w≤l.length)(hl:l.length≤100000000)(h:Bys W (.slice a l.length c) l) :
 C0 131 #[.slice a l.length c,V0 (k:Int),V0 (w:Int)] W (Ret (V0 (Zi l k w:Int)) W):=by
 refine zin 17 Tryz.func131 ?_
 refine xr 10 (args:=#[.slice a l.length c,V0 (k:Int),V0 (w:Int)]) (Zdu a c k w l _ (by omega) hk hl (h.below (B3 W)) (by have:=Ym l k w (by omega);omega)) fun W1 a0=>?_
 exact xe 14 (V0 (↑(Zi l k w):Int)) ⟨rfl,a0⟩
theorem Pd(a:O0)(n c k w:Nat)(ki wi:Int)(l:Bl)(W:World)(hn:l.length=n)(hki:ki=(k:Int))(hwi:wi=(w:Int))(hw:w=1∨w=2∨w=4)(hk:k+w≤n)(hl:n≤100000000)(h:Bys W (.slice a n c) l) :
 C0 131 #[.slice a n c,V0 ki,V0 wi] W (Ret (V0 (Zi l k w:Int)) W):=by
 subst hn hki hwi;exact seal_told a c k w l W hw hk hl h
def Ht(kind no:Int)(l:Bl):Nat→Bool
 | 0=>!Jk kind no
 | 1=>(l.length:Int) != 256
 | 2=>(Zi l 252 4:Int) != (Ll l kind:Int)
 | 3=>(Zi l 0 4:Int) != no
 | 4=>(Zi l 4 2:Int) != kind
 | _=>(Zi l 6 2:Int) != 0
def Yi(kind no:Int)(l:Bl):Int :=
 if Ht kind no l 0 then 1 else if Ht kind no l 1 then 7 else if Ht kind no l 2 then 4 else if Ht kind no l 3 then 5 else if Ht kind no l 4 then 6 else if Ht kind no l 5 then 7 else 0
theorem ask1{kind no:Int}{l:Bl}(h:Ht kind no l 1=false):l.length=256:=by
 have:(l.length:Int)=256:=Xp h
 omega
theorem open_1(kind no:Int)(w:World)(l:Bl)(bk:Nat)(kk:Blk w bk [V0 kind] 3)(bn:Nat)(kn:Blk w bn [V0 no] 3) :
 C0 127 #[P0 bk,P0 bn] w (Ret (.bool (Ht kind no l 0)) w):=by
 refine zin 7 Tryz.func127 ?_
 refine xb 7 0 kk ?_
 refine xb 0 0 kn ?_
 refine xr 0 (args:=#[V0 kind,V0 no]) (Zc6 kind no _) fun W1 a0=>?_
 exact xe 5 (.bool (!(Jk kind no))) ⟨rfl,a0⟩
theorem open_2(kind no:Int)(w:World)(bb:Nat)(a:O0)(c:Nat)(l:Bl)(kb:Blk w bb [.slice a l.length c] 22) :
 C0 129 #[P0 bb] w (Ret (.bool (Ht kind no l 1)) w):=by
 refine zin 5 Tryz.func129 ?_
 refine xb 7 0 kb ?_
 exact xe 6 (.bool ((l.length:Int) != (256:Int))) ⟨rfl,(B3 w)⟩
theorem seal_sumN(kind:Int)(a:O0)(c n:Nat)(l:Bl)(w:World)(hn:l.length=n)(h256:n=256)(hc:256≤c)(h:Bys w (.slice a n c) l) :
 C0 132 #[.slice a n c,V0 kind] w (Ret (V0 (Ll l kind:Int)) w):=by
 subst h256;exact Zdp kind a c l w hn hc h
theorem open_3(kind no:Int)(w:World)(bb:Nat)(a:O0)(c:Nat)(l:Bl)(kb:Blk w bb [.slice a l.length c] 22)(bk:Nat)(kk:Blk w bk [V0 kind] 3)(hl:l.length=256)(hc:256≤c)(h:Bys w (.slice a l.length c) l) :
 C0 130 #[P0 bb,P0 bk] w (Ret (.bool (Ht kind no l 2)) w):=by
 refine zin 9 Tryz.func130 ?_
 refine xd 6 .z ?_
 have a0:=kb.below (Za w)
 refine xb (.e [] 0) 0 a0 ?_
 refine xb (.e [] 2) 0 a0 ?_
 have a3:=kk.below (Za w)
 refine xb (.e [] 3) 0 a3 ?_
 have hB:=(Za w)
 refine xr (.o [] 1) (args:=#[.slice a l.length c,V0 252,V0 4]) (Pd a l.length c 252 4 252 4 l _ rfl rfl rfl (by decide) (by omega) (by omega) (h.below hB)) fun W1 a4=>?_
 have a1:=bln hB a4
 refine xr (.o [] 4) (args:=#[.slice a l.length c,V0 kind]) (seal_sumN kind a c l.length l _ rfl hl hc (h.below a1)) fun W2 a5=>?_
 have a2:=bln a1 a5
 exact xe (.r [5,6] 3) (.bool ((↑(Zi l 252 4):Int) != (↑(Ll l kind):Int))) ⟨rfl,a2⟩
theorem open_4(kind no:Int)(w:World)(bb:Nat)(a:O0)(c:Nat)(l:Bl)(kb:Blk w bb [.slice a l.length c] 22)(bn:Nat)(kn:Blk w bn [V0 no] 3)(hl:l.length=256)(hc:256≤c)(h:Bys w (.slice a l.length c) l) :
 C0 133 #[P0 bb,P0 bn] w (Ret (.bool (Ht kind no l 3)) w):=by
 refine zin 7 Tryz.func133 ?_
 refine xd 6 .z ?_
 have a0:=kb.below (Za w)
 refine xb (.e [] 0) 0 a0 ?_
 have a1:=kn.below (Za w)
 refine xb (.e [] 2) 0 a1 ?_
 have hB:=(Za w)
 refine xr (.o [] 1) (args:=#[.slice a l.length c,V0 0,V0 4]) (Pd a l.length c 0 4 0 4 l _ rfl rfl rfl (by decide) (by omega) (by omega) (h.below hB)) fun W1 a3=>?_
 have a2:=bln hB a3
 exact xe (.r [3,4] 3) (.bool ((↑(Zi l 0 4):Int) != no)) ⟨rfl,a2⟩
theorem open_5(kind no:Int)(w:World)(bb:Nat)(a:O0)(c:Nat)(l:Bl)(kb:Blk w bb [.slice a l.length c] 22)(bk:Nat)(kk:Blk w bk [V0 kind] 3)(hl:l.length=256)(hc:256≤c)(h:Bys w (.slice a l.length c) l) :
 C0 134 #[P0 bb,P0 bk] w (Ret (.bool (Ht kind no l 4)) w):=by
 refine zin 7 Tryz.func134 ?_
 refine xd 6 .z ?_
 have a0:=kb.below (Za w)
 refine xb (.e [] 0) 0 a0 ?_
 have a1:=kk.below (Za w)
 refine xb (.e [] 2) 0 a1 ?_
 have hB:=(Za w)
 refine xr (.o [] 1) (args:=#[.slice a l.length c,V0 4,V0 2]) (Pd a l.length c 4 2 4 2 l _ rfl rfl rfl (by decide) (by omega) (by omega) (h.below hB)) fun W1 a3=>?_
 have a2:=bln hB a3
 exact xe (.r [3,4] 3) (.bool ((↑(Zi l 4 2):Int) != kind)) ⟨rfl,a2⟩
theorem open_6(kind no:Int)(w:World)(bb:Nat)(a:O0)(c:Nat)(l:Bl)(kb:Blk w bb [.slice a l.length c] 22)(hl:l.length=256)(hc:256≤c)(h:Bys w (.slice a l.length c) l) :
 C0 135 #[P0 bb] w (Ret (.bool (Ht kind no l 5)) w):=by
 refine zin 5 Tryz.func135 ?_
 refine xb 7 0 kb ?_
 refine xr 0 (args:=#[.slice a l.length c,V0 6,V0 2]) (Pd a l.length c 6 2 6 2 l _ rfl rfl rfl (by decide) (by omega) (by omega) (h.below (B3 w))) fun W1 a0=>?_
 exact xe 5 (.bool ((↑(Zi l 6 2):Int) != (0:Int))) ⟨rfl,a0⟩
def OpenP(kind no:Int)(l:Bl)(w:World)(e:Ending)(w':World):Prop :=
 (Yi kind no l≠0∧e=.returned (.tuple #[S0,V0 (Yi kind no l)])∧B0 w w') ∨
 (Yi kind no l=0∧∃ p c,e=.returned (.tuple #[.slice p 244 c,V0 0])∧B0 w w'∧w'.ownsRow w.heap.size 5 1 (.slice p 244 c) 244 (((l.drop 8).take 244).map bv))
theorem seal_Open(kind no:Int)(a:O0)(c:Nat)(l:Bl)(w:World)(h:Bys w (.slice a l.length c) l) :
 C0 74 #[.slice a l.length c,V0 kind,V0 no] w (OpenP kind no l w):=by
 have m4:=h.cap rfl
 refine zin 39 Tryz.func74 ?_
 refine xa 2 [.slice a l.length c] 22 fun b1 W1 n1=>?_
 refine xa 0 [V0 kind] 3 fun b2 W2 n2=>?_
 refine xa 0 [V0 no] 3 fun b3 W3 n3=>?_
 have l7:=n3.ne n2.blk
 refine xbs 18 6 [.func (.func 127) #[] #[P0 b2,P0 b3],V0 1,.func (.func 129) #[] #[P0 b1],V0 7,.func (.func 130) #[] #[P0 b1,P0 b2],V0 4,.func (.func 133) #[] #[P0 b1,P0 b3],V0 5,.func (.func 134) #[] #[P0 b1,P0 b2],V0 6,.func (.func 135) #[] #[P0 b1],V0 7] 251 fun b4 W4 n4=>?_
 refine xu 12 7 ?_
 refine xlv 14 (n4.blk.rpp 0 2) ?_
 refine xa 0 [.nilFunc,V0 0] 251 fun b5 W5 n5=>?_
 have i1:=n5.ne n4.blk
 refine xsv 0 n5.blk [.func (.func 127) #[] #[P0 b2,P0 b3],V0 1] fun W6 u6 k6=>?_
 have g5:=n5.ge (bln (bln (bln n1.below n2.below) n3.below) n4.below)
 refine xb 5 0 k6 ?_
 have i0:=u6.blkT (((n2.blk.below n3.below).below n4.below).below n5.below) n5.blk (by decide)
 have k3:=u6.blkT ((n3.blk.below n4.below).below n5.below) n5.blk (by decide)
 refine xr 0 (args:=#[P0 b2,P0 b3]) (open_1 kind no _ l b2 i0 b3 k3) fun W7 b6=>?_
 refine xi 2 (Ht kind no l 0) (fun j9=>?_) (fun j9=>?_)
 ·have c6:=j9
  refine xd 1 .z ?_
  have j5:=(k6.below b6).below (Za W7)
  refine xb (.e [0] 1) 1 j5 ?_
  have hB:=bln (bln (u6.below (bln (bln (bln (bln n1.below n2.below) n3.below) n4.below) n5.below) g5) b6) (Za W7)
  refine xe (.r [2,3] 8) (.tuple #[S0,V0 1]) ?_
  have he:Yi kind no l=1:=by simp[Yi,c6]
  exact .inl ⟨by rw[he];decide,by rw[he],hB⟩
 have c6:=j9
 have f2:=(u6.blk (n4.blk.below n5.below) (Ne.symm (Ne.symm i1))).below b6
 refine xlv 22 (f2.rpp 2 2) ?_
 refine xa 0 [.nilFunc,V0 0] 251 fun b9 W9 n9=>?_
 have g1:=n9.ne f2
 have i6:=k6.below b6
 have h6:=n9.ne i6
 refine xsv 0 n9.blk [.func (.func 129) #[] #[P0 b1],V0 7] fun m9 f5 k7=>?_
 have g9:=n9.ge (bln (u6.below (bln (bln (bln (bln n1.below n2.below) n3.below) n4.below) n5.below) g5) b6)
 refine xb 5 0 k7 ?_
 have k1:=f5.blkT (((u6.blkT ((((n1.blk.below n2.below).below n3.below).below n4.below).below n5.below) n5.blk (by decide)).below b6).below n9.below) n9.blk (by decide)
 refine xr 0 (args:=#[P0 b1]) (open_2 kind no _ b1 a c l k1) fun m2 a4=>?_
 refine xi 2 (Ht kind no l 1) (fun e2=>?_) (fun e2=>?_)
 ·have a3:=e2
  refine xd 1 .z ?_
  have i4:=(k7.below a4).below (Za m2)
  refine xb (.e [0] 1) 1 i4 ?_
  have hB:=bln (bln (f5.below (bln (bln (u6.below (bln (bln (bln (bln n1.below n2.below) n3.below) n4.below) n5.below) g5) b6) n9.below) g9) a4) (Za m2)
  refine xe (.r [2,3] 8) (.tuple #[S0,V0 7]) ?_
  have he:Yi kind no l=7:=by simp[Yi,c6,a3]
  exact .inl ⟨by rw[he];decide,by rw[he],hB⟩
 have a3:=e2
 have l9:=ask1 a3
 have f3:=(f5.blk (f2.below n9.below) (Ne.symm (Ne.symm g1))).below a4
 refine xlv 22 (f3.rpp 4 2) ?_
 refine xa 0 [.nilFunc,V0 0] 251 fun o7 o4 a7=>?_
 have f0:=a7.ne f3
 have h0:=(f5.blk (i6.below n9.below) (Ne.symm (Ne.symm h6))).below a4
 have e0:=a7.ne h0
 have c9:=k7.below a4
 have d5:=a7.ne c9
 have hB:=bln (f5.below (bln (bln (u6.below (bln (bln (bln (bln n1.below n2.below) n3.below) n4.below) n5.below) g5) b6) n9.below) g9) a4
 have m6:=a7.ge hB
 refine xsv 0 a7.blk [.func (.func 130) #[] #[P0 b1,P0 b2],V0 4] fun n6 d8 j7=>?_
 refine xb 5 0 j7 ?_
 have h1:=d8.blkT ((k1.below a4).below a7.below) a7.blk (by decide)
 have h9:=d8.blkT (((f5.blkT ((i0.below b6).below n9.below) n9.blk (by decide)).below a4).below a7.below) a7.blk (by decide)
 have f1:=d8.below (bln hB a7.below) m6
 refine xr 0 (args:=#[P0 b1,P0 b2]) (open_3 kind no _ b1 a c l h1 b2 h9 (ask1 a3) (by have:=ask1 a3;have:=h.cap rfl;omega) (h.below f1)) fun m0 a1=>?_
 refine xi 2 (Ht kind no l 2) (fun e7=>?_) (fun e7=>?_)
 ·have f6:=e7
  refine xd 1 .z ?_
  have f8:=(j7.below a1).below (Za m0)
  refine xb (.e [0] 1) 1 f8 ?_
  have k2:=bln (bln f1 a1) (Za m0)
  refine xe (.r [2,3] 8) (.tuple #[S0,V0 4]) ?_
  have he:Yi kind no l=4:=by simp[Yi,c6,a3,f6]
  exact .inl ⟨by rw[he];decide,by rw[he],k2⟩
 have f6:=e7
 have e4:=(d8.blk (f3.below a7.below) (Ne.symm (Ne.symm f0))).below a1
 refine xlv 22 (e4.rpp 6 2) ?_
 refine xa 0 [.nilFunc,V0 0] 251 fun o0 n8 a6=>?_
 have e3:=a6.ne e4
 have h4:=(d8.blk (h0.below a7.below) (Ne.symm (Ne.symm e0))).below a1
 have e5:=a6.ne h4
 have c5:=(d8.blk (c9.below a7.below) (Ne.symm (Ne.symm d5))).below a1
 have e9:=a6.ne c5
 have c4:=j7.below a1
 have b8:=a6.ne c4
 have g6:=bln f1 a1
 have m5:=a6.ge g6
 refine xsv 0 a6.blk [.func (.func 133) #[] #[P0 b1,P0 b3],V0 5] fun n7 d2 j6=>?_
 refine xb 5 0 j6 ?_
 have h2:=d2.blkT ((h1.below a1).below a6.below) a6.blk (by decide)
 have k8:=d2.blkT (((d8.blkT (((f5.blkT ((k3.below b6).below n9.below) n9.blk (by decide)).below a4).below a7.below) a7.blk (by decide)).below a1).below a6.below) a6.blk (by decide)
 have f4:=d2.below (bln g6 a6.below) m5
 refine xr 0 (args:=#[P0 b1,P0 b3]) (open_4 kind no _ b1 a c l h2 b3 k8 (ask1 a3) (by have:=ask1 a3;have:=h.cap rfl;omega) (h.below f4)) fun l8 a2=>?_
 refine xi 2 (Ht kind no l 3) (fun d9=>?_) (fun d9=>?_)
 ·have i3:=d9
  refine xd 1 .z ?_
  have h3:=(j6.below a2).below (Za l8)
  refine xb (.e [0] 1) 1 h3 ?_
  have k5:=bln (bln f4 a2) (Za l8)
  refine xe (.r [2,3] 8) (.tuple #[S0,V0 5]) ?_
  have he:Yi kind no l=5:=by simp[Yi,c6,a3,f6,i3]
  exact .inl ⟨by rw[he];decide,by rw[he],k5⟩
 have i3:=d9
 have d3:=(d2.blk (e4.below a6.below) (Ne.symm (Ne.symm e3))).below a2
 refine xlv 22 (d3.rpp 8 2) ?_
 refine xa 0 [.nilFunc,V0 0] 251 fun m8 o5 a5=>?_
 have d7:=a5.ne d3
 have g0:=(d2.blk (h4.below a6.below) (Ne.symm (Ne.symm e5))).below a2
 have e6:=a5.ne g0
 have d1:=(d2.blk (c5.below a6.below) (Ne.symm (Ne.symm e9))).below a2
 have e1:=a5.ne d1
 have c8:=(d2.blk (c4.below a6.below) (Ne.symm (Ne.symm b8))).below a2
 have b7:=a5.ne c8
 have d0:=j6.below a2
 have c0:=a5.ne d0
 have h8:=bln f4 a2
 have m7:=a5.ge h8
 refine xsv 0 a5.blk [.func (.func 134) #[] #[P0 b1,P0 b2],V0 6] fun o2 c2 l2=>?_
 refine xb 5 0 l2 ?_
 have f9:=c2.blkT ((h2.below a2).below a5.below) a5.blk (by decide)
 have k4:=c2.blkT (((d2.blkT ((h9.below a1).below a6.below) a6.blk (by decide)).below a2).below a5.below) a5.blk (by decide)
 have d6:=c2.below (bln h8 a5.below) m7
 refine xr 0 (args:=#[P0 b1,P0 b2]) (open_5 kind no _ b1 a c l f9 b2 k4 (ask1 a3) (by have:=ask1 a3;have:=h.cap rfl;omega) (h.below d6)) fun l6 a0=>?_
 refine xi 2 (Ht kind no l 4) (fun e8=>?_) (fun e8=>?_)
 ·have i8:=e8
  refine xd 1 .z ?_
  have i7:=(l2.below a0).below (Za l6)
  refine xb (.e [0] 1) 1 i7 ?_
  have j2:=bln (bln d6 a0) (Za l6)
  refine xe (.r [2,3] 8) (.tuple #[S0,V0 6]) ?_
  have he:Yi kind no l=6:=by simp[Yi,c6,a3,f6,i3,i8]
  exact .inl ⟨by rw[he];decide,by rw[he],j2⟩
 have i8:=e8
 have g2:=(c2.blk (d3.below a5.below) (Ne.symm (Ne.symm d7))).below a0
 refine xlv 22 (g2.rpp 10 2) ?_
 refine xa 0 [.nilFunc,V0 0] 251 fun o6 n0 a9=>?_
 have j8:=a9.ne g2
 have l0:=(c2.blk (g0.below a5.below) (Ne.symm (Ne.symm e6))).below a0
 have k0:=a9.ne l0
 have h5:=(c2.blk (d1.below a5.below) (Ne.symm (Ne.symm e1))).below a0
 have l1:=a9.ne h5
 have g4:=(c2.blk (c8.below a5.below) (Ne.symm (Ne.symm b7))).below a0
 have j1:=a9.ne g4
 have g7:=(c2.blk (d0.below a5.below) (Ne.symm (Ne.symm c0))).below a0
 have i9:=a9.ne g7
 have f7:=l2.below a0
 have j0:=a9.ne f7
 have g3:=bln d6 a0
 have m3:=a9.ge g3
 refine xsv 0 a9.blk [.func (.func 135) #[] #[P0 b1],V0 7] fun o3 m1 l4=>?_
 refine xb 5 0 l4 ?_
 have h7:=m1.blkT ((f9.below a0).below a9.below) a9.blk (by decide)
 have a8:=m1.below (bln g3 a9.below) m3
 refine xr 0 (args:=#[P0 b1]) (open_6 kind no _ b1 a c l h7  (ask1 a3) (by have:=ask1 a3;have:=h.cap rfl;omega) (h.below a8)) fun l5 b0=>?_
 refine xi 2 (Ht kind no l 5) (fun d4=>?_) (fun d4=>?_)
 ·have j4:=d4
  refine xd 1 .z ?_
  have g8:=(l4.below b0).below (Za l5)
  refine xb (.e [0] 1) 1 g8 ?_
  have i2:=bln (bln a8 b0) (Za l5)
  refine xe (.r [2,3] 8) (.tuple #[S0,V0 7]) ?_
  have he:Yi kind no l=7:=by simp[Yi,c6,a3,f6,i3,i8,j4]
  exact .inl ⟨by rw[he];decide,by rw[he],i2⟩
 have j4:=d4
 have j3:=h7.below b0
 refine xb 22 0 j3 ?_
 refine xsB 0 (fun _ _ _ _ _ zo zx zy zz V=>Qt (k:=8) (h:=252) (b:=a) (n:=l.length) (c:=c) (i:=8) (ki:=.i64) (j:=252) (kj:=.i64) 1 zo zx zy rfl zz rfl (by omega) (by omega) Tryz.underlying22 (by kernel_rfl) V) ?_
 have c7:=bln a8 b0
 refine xc 0 (args:=#[.slice (Qz a 8 c 1) 244 (c-8)]) (Vn (Qz a 8 c 1) 244 (c-8) ((l.drop 8).take 244) _ (by have:=ask1 a3;simp;omega) ((Bys.cut h rfl 8 252 (by decide) (by have:=ask1 a3;omega)).below c7) (by decide)) ?_
 rintro _ o1 ⟨_,rfl,k9,ho⟩
 have l3:=(bln a8 b0).size
 have c1:=Zg ho l3
 unfold Nb at c1
 rw[show((l.drop 8).take 244).length=244 from by have:=ask1 a3;simp;omega] at c1
 obtain⟨p,c3,rfl⟩:=(Zh c1).slice
 have i5:=bln c7 k9
 exact xe 5 (.tuple #[.slice p 244 c3,V0 0]) (.inr ⟨by simp[Yi,c6,a3,f6,i3,i8,j4],_,_,rfl,i5,c1⟩)
end Go.Proofs.YtgphgaehfdfjjaaGreatDoor
namespace Go.Proofs.YtgphgaehfdfjjaaGreatDoor
set_option maxHeartbeats 8000000
set_option maxRecDepth 100000
open Go.RowKit Go.Extern.Stop Go.Stop Go.Extern
set_option linter.unusedVariables false
section
variable {P:Program} {Q:Exit→Act→World→Prop} {a:Act} {w:World} {K:Act→World→Prop}
theorem Zel{o:Oper}{d x:Operand}{dT sT e:TypeId}{base g off n cap dLen dCap:Nat}{xs:List Value}(l:Bl)(xs':List Value)(ho:o.op=.call { callee:=.builtin .copy,args:=#[d,x],argTypes:=#[dT,sT] })(hu:P.underlying dT=some (.slice e))(hsz:(P.info? e).map (·.size)=some 1)
 (hd:a.eval d=.slice (some ⟨g,off,none⟩) dLen dCap) (hs:a.eval x=.string ⟨l.toArray⟩) (hown:w.ownsRow base e 1 (.slice (S1 g) n cap) n xs) (hm:l.length≤dLen) (hfit:off+l.length≤n)
 (hbase:base≤w.heap.size) (hxs:xs.take off++l.map bv++xs.drop (off+l.length)=xs')
 (h:∀ W,W.ownsRow base e 1 (.slice (S1 g) n cap) n xs'→w.grownBy W (Value.slice (S1 g) n cap).ownBlock→Below base w W→K (a.put o.dst (V0 (l.length:Int))) W):o.wp P a w K Q:=by
 obtain⟨hl,hr⟩:=hown
 rcases hr with ⟨hv,_⟩|⟨g2,b0,a1,hv,a6,hh,a7,a8,a4,a9⟩
 ·cases hv
 simp only[Value.slice.injEq,Option.some.injEq,Addr.mk.injEq] at hv
 obtain⟨⟨rfl,_,_⟩,_,rfl⟩:=hv
 have b2:xs.length=n:=by simpa using hl
 have a3:a1.toList.length=cap:=by simpa using a4
 have a5:(l.map bv).length=l.length:=by simp
 have b3:∀ W,W.heap[g]? = some (.cells (a1.toList.take off++l.map bv++a1.toList.drop (off+l.length)).toArray e (0,0))→w.grownBy W (some g)→K (a.put o.dst (V0 (l.length:Int))) W:=by
  intro W hW hg
  refine h W ⟨?_,.inr ⟨g,cap,_,rfl,a6,hW,a7,a8,?_,?_⟩⟩ hg (Gb (v:=.slice (S1 g) n cap) hg ⟨hl,.inr ⟨g,cap,a1,rfl,a6,hh,a7,a8,a4,a9⟩⟩ (Nat.le_refl _) hbase)
  ·rw[←hxs];simp;omega
  ·simp only[List.size_toArray,List.length_append,List.length_take,List.length_drop,a3,Nat.mul_one,a5];omega
  ·have hA:(a1.toList.take off++l.map bv).length=off+l.length:=by simp only[List.length_append,List.length_take,a3,a5];omega
   rw[←hxs,←a9]
   simp only[Nat.mul_one]
   rw[List.take_append,List.take_of_length_le (by rw[hA];omega),hA,List.take_take,Nat.min_eq_left (by omega:off≤n),List.drop_take]
 have a0:(⟨l.toArray⟩:ByteArray).size=l.length:=by show l.toArray.size=l.length;simp
 have a2:=Go.Lib.run_copy_row_string (P:=P) w dT sT o.type e g off dLen dCap ⟨l.toArray⟩ a1 e hu hsz hh (by rw[a0];exact hm) (by rw[a0,a4];omega)
 rw[a0] at a2
 have b1:Go.Lib.byteCells (⟨l.toArray⟩:ByteArray).data.toList=l.map bv:=rfl
 rw[b1] at a2
 have h2:(execOp a.eval o).run P w=.ok (.value (V0 (l.length:Int))) (w.setRow g (a1.toList.take off++l.map bv++a1.toList.drop (off+l.length)).toArray):=by
  simp[execOp,ho,resolve,invoke,builtin,hd,hs,a2,Result.andThen,goInt]
 exact Ww h2 (b3 _ (setRow_heap w g _ _ e _ hh) ⟨rfl,rfl,rfl,by simp,fun k _ hk=>setRow_other w g k _ (fun e=>hk (by rw[e]))⟩)
theorem Sl.head{b:O0}{n c:Nat}{xs:List Value}(h:Sl w (.slice b n c) n xs)(hn:xs.length=n)(m:Nat)(hm:m≤n):Sl w (.slice b m c) m (xs.take m):=by
 rcases h with ⟨a',c',h1,h2,h3⟩|⟨b',a1,a2,h1,h2,h3,h4⟩
 ·obtain rfl:m=0:=by omega
  simp only[Value.slice.injEq] at h1
  exact .inl ⟨b,c,rfl,rfl,by simp⟩
 ·simp only[Value.slice.injEq] at h1
  obtain⟨rfl,_,rfl⟩:=h1
  refine .inr ⟨b',a1,c,rfl,by omega,h3,fun j x hj=>h4 j x ?_⟩
  have a0:j<m:=by have:=(List.getElem?_eq_some_iff.1 hj).1;simp at this;omega
  rwa [List.getElem?_take_of_lt a0] at hj
def sv (l:Bl):Value:=.string ⟨l.toArray⟩
theorem Strs.elem{b:O0}{n c:Nat}{V:List Bl}(h:Sl w (.slice b n c) n (V.map sv))(hl:V.length=n){k:Nat}(hk:k<n):b.isSome=true∧w.cell? (Xj b (k*1))=some (.string ⟨(V.getD k []).toArray⟩):=by
 rcases h with ⟨a',c',h1,h2,h3⟩|⟨b',a0,a1,h1,h2,h3,h4⟩
 ·omega
 ·simp only[Value.slice.injEq] at h1
  obtain⟨rfl,_,rfl⟩:=h1
  refine⟨rfl,?_⟩
  have:=h4 k (sv (V.getD k [])) (by simp[List.getD,List.getElem?_eq_getElem (show k<V.length by omega)])
  rw[Nat.mul_one]
  show w.cell? ((⟨b',a0,none⟩:Addr).add k)=_
  rw[Addr.add_mid]
  exact this
end
end Go.Proofs.YtgphgaehfdfjjaaGreatDoor
namespace Go.Proofs.YtgphgaehfdfjjaaGreatDoor
set_option maxHeartbeats 8000000
set_option maxRecDepth 100000
open Go.RowKit Go.Extern.Stop Go.Stop Go.Extern
set_option linter.unusedVariables false
attribute [local irreducible] wpList wpAnyH Code.wp Oper.wp Go
theorem Sl.cap{w:World}{b:O0}{n c:Nat}{xs:List Value}(h:Sl w (.slice b n c) n xs):n≤c:=by
 rcases h with ⟨a',c',h1,h2,_⟩|⟨b',a0,cap,h1,h2,_,_⟩
 ·omega
 ·simp only[Value.slice.injEq] at h1;omega
def Uw(b:Bool):Int:=if b then 1 else 0
theorem Au(b:Bool):0≤Uw b∧Uw b<256:=by cases b<;>decide
structure NodeOk(t:Int)(leaf:Bool)(n m v:Nat)(K:List Int)(Vs:List (List UInt8)):Prop where
 ht1:1≤t
 ht2:t≤5
 hm:Kj t leaf=m
 hv:Uh t leaf=v
 hK:K.length=n
 hV:Vs.length=n
 hn:n≤m
 hl:leaf=false→1≤n
 hk0:∀ i,i<n→0≤K.getD i 0∧K.getD i 0≤281474976710655
 hk1:∀ j,j+1<n→K.getD j 0<K.getD (j+1) 0
 hw:∀ i,i<n→(Vs.getD i []).length=v
theorem Ek(t:Int)(leaf:Bool):4≤Uh t leaf∧Uh t leaf≤24:=by
 unfold Uh
 repeat' split
 all_goals decide
theorem fitN(t:Int)(leaf:Bool):12+Kj t leaf*8+Kj t leaf*Uh t leaf≤244:=by
 unfold Uh Kj
 repeat' split
 all_goals decide
theorem Zab{K:List Int}{i j:Nat}(h:j<i):(K.take i).getD j 0=K.getD j 0:=by simp[List.getD,List.getElem?_take_of_lt h]
theorem Eo(t:Int)(leaf:Bool)(m:Nat)(hm:Kj t leaf=m)(h1:1≤t)(h2:t≤5)(w:World):C0 77 #[V0 t,.bool leaf] w (Ret (V0 (m:Int)) w):=by
 subst hm;exact Da t leaf h1 h2 w
theorem Nn(t:Int)(leaf:Bool)(v:Nat)(hv:Uh t leaf=v)(h1:1≤t)(h2:t≤5)(w:World):C0 76 #[V0 t,.bool leaf] w (Ret (V0 (v:Int)) w):=by
 subst hv;exact Ss t leaf h1 h2 w
theorem node_flag(leaf:Bool)(w:World) :
 C0 161 #[.bool leaf] w (Ret (V0 (Uw leaf)) w):=by
 refine zin 4 Tryz.func161 ?_
 refine xi 11 leaf (fun a0=>?_) (fun a0=>?_)
 ·exact xe 7 (V0 1) ⟨by simp_all [Uw],(B3 w)⟩
 exact xe 8 (V0 0) ⟨by simp_all [Uw],(B3 w)⟩
theorem Zep(a:O0)(i c:Nat)(L:List Int)(k:Int)(w:World)(hL:L.length=i)(h:Sl w (.slice a i c) i (L.map V0))(h1:0≤k)(h2:k≤281474976710655)(h3:∀ j,i=j+1→L.getD j 0<k)(hi:i≤1000) :
 C0 80 #[.slice a i c,V0 k] w (Ret (V0 0) w):=by
 refine zin 26 Tryz.func80 ?_
 refine xgk 12 [7,8] (show(decide (k<(0:Int)):Bool)=false from decide_eq_false (by omega)) ?_
 refine xk 6 (show(decide (k>(281474976710655:Int)):Bool)=false from decide_eq_false (by omega)) ?_
 refine xg 6 [15,16] (decide ((i:Int)>(0:Int))) (fun a0=>?_) (fun a0=>?_)
 ·have a0:=of_decide_eq_true a0
  refine xwm 3 ((i:Int)-1) (↑(i-1):Int) ?_
  refine xx 0 _ i (i-1) 1 (IntsN.elem h hL (k:=(i-1)) (by omega)).1 ?_
  refine xl 0 ((IntsN.elem h hL (k:=(i-1)) (by omega)).2) ?_
  refine xk 6 (show(decide ((L.getD (i-1) 0)≥k):Bool)=false from decide_eq_false (by have:=h3 (i-1) (by omega);omega)) ?_
  exact xe 9 (V0 0) ⟨rfl,(B3 w)⟩
 have a0:=of_decide_eq_false a0
 exact xe 22 (V0 0) ⟨rfl,(B3 w)⟩
theorem Zf0(t:Int)(leaf:Bool)(n m v:Nat)(K:List Int)(Vs:List Bl)(ak av:O0)(ck cv:Nat)(w:World)(N:NodeOk t leaf n m v K Vs)(hKs:Sl w (.slice ak n ck) n (K.map V0))(hVs:Sl w (.slice av n cv) n (Vs.map sv)) :
 C0 160 #[.agg #[V0 t,.bool leaf,.slice ak n ck,.slice av n cv]] w (Ret (.bool true) w):=by
 have b9:=N.ht1
 have c0:=N.ht2
 have d0:=N.hn
 have c6:=Ek t leaf
 rw[N.hv] at c6
 have c2:=Qb t leaf
 rw[N.hm] at c2
 have b6:=fitN t leaf
 rw[N.hm,N.hv] at b6
 have c1:=Sl.cap hKs
 refine zin 70 Tryz.func160 ?_
 refine xa 2 [V0 t,.bool leaf,.slice ak n ck,.slice av n cv] 38 fun b1 W1 n1=>?_
 refine xb 6 0 n1.blk ?_
 refine xb 1 1 n1.blk ?_
 refine xr 0 (args:=#[V0 t,.bool leaf]) (Nn t leaf v N.hv b9 c0 _) fun W2 b4=>?_
 refine xd 5 .z ?_
 refine xgk (.b [0,1,2]) [12,13] (show(((v:Int)==(0:Int)):Bool)=false from by simp;omega) ?_
 have a6:=(n1.blk.below b4).below (Za W2)
 refine xb (.e [3] 4) 2 a6 ?_
 refine xb (.e [5,6] 7) 0 a6 ?_
 refine xb (.e [8] 9) 1 a6 ?_
 refine xr (.o [] 10) (args:=#[V0 t,.bool leaf]) (Eo t leaf m N.hm b9 c0 _) fun W4 b3=>?_
 refine xgk (.b [11,12,13]) [22,23,24] (show(decide ((n:Int)>(m:Int)):Bool)=false from decide_eq_false (by omega)) ?_
 have a0:=a6.below b3
 refine xb (.e [14] 15) 3 a0 ?_
 refine xb (.e [16,17] 18) 2 a0 ?_
 refine xgk (.b [19,20,21,22]) [31,32,33] (show(((n:Int) != (n:Int)):Bool)=false from by simp) ?_
 refine xb (.e [23] 24) 1 a0 ?_
 refine xg (.b [25,26]) [36,37] (!leaf) (fun c3=>?_) (fun c3=>?_)
 ·refine xb (.e [27] 28) 2 a0 ?_
  refine xk (.r [29,30,31,32] 2) (show(((n:Int)==(0:Int)):Bool)=false from by have:=N.hl (by simp_all);simp;omega) ?_
  refine xb 6 2 a0 ?_
  have hB:=bln (bln (bln n1.below b4) (Za W2)) b3
  refine zl 5 70 (fun zm b8 V=>∃ (i:Nat),b8=[(1,P0 b1),(3,V0 (v:Int)),(45,.slice ak n ck),(46,V0 (n:Int)),(47,V0 (i:Int))]∧zm=n-((i:Int)).toNat∧B0 w V∧Blk V b1 ([V0 t,.bool leaf,.slice ak n ck,.slice av n cv]) 38∧i≤n) ⟨0,rfl,rfl,hB,a0,Nat.zero_le _⟩ ?_
  rintro _ _ W8 ⟨i,rfl,rfl,a5,a7,hi⟩ J8 c5 r8
  refine xid 6 ((i:Int)<(n:Int)) (fun c4=>?_) (fun c4=>?_)
  ·refine xx 7 _ n i 1 (IntsN.elem hKs N.hK (k:=i) (by omega)).1 ?_
   refine xl 0 ((IntsN.elem (hKs.below a5) N.hK (k:=i) (by omega)).2) ?_
   refine xb 7 2 a7 ?_
   refine xsH 1 (fun _ _ _ _ zo zx zy V=>Ys (k:=i) (b:=ak) (n:=n) (c:=ck) (i:=(i:Int)) (ki:=.i64) zo zx zy rfl (by omega) Tryz.underlying28 (by kernel_rfl) V) ?_
   refine xr 1 (args:=#[.slice ak i ck,V0 (K.getD i 0)]) (Zep ak i ck (K.take i) (K.getD i 0) _ (by rw[List.length_take,N.hK];omega) (by rw[List.map_take];exact(hKs.below a5).head (by simpa using N.hK) i (by omega)) (N.hk0 i (by omega)).1 (N.hk0 i (by omega)).2 (fun j e=>by subst e;rw[Zab (by omega)];exact N.hk1 j (by omega)) (by omega)) fun d1 b2=>?_
   have a3:=a7.below b2
   refine xb 3 3 a3 ?_
   refine xx 1 _ n i 1 (Strs.elem hVs N.hV (k:=i) (by omega)).1 ?_
   have a9:=bln a5 b2
   refine xl 0 ((Strs.elem (hVs.below a9) N.hV (k:=i) (by omega)).2) ?_
   refine xk 6 (show(((↑(Vs.getD i []).length:Int) != (v:Int)):Bool)=false from by rw[N.hw i (by omega)];simp) ?_
   refine xw 4 ((i:Int)+1) ?_
   exact ze 2 (c5 _ _ _ ⟨i+1,rfl,rfl,a9,a3,by omega⟩ (by omega))
  exact xe 11 (.bool true) ⟨rfl,a5⟩
 refine xb (.r [27,28,29,30,31,32] 9) 2 a0 ?_
 have hB:=bln (bln (bln n1.below b4) (Za W2)) b3
 refine zl 5 70 (fun zm b8 V=>∃ (i:Nat),b8=[(1,P0 b1),(3,V0 (v:Int)),(45,.slice ak n ck),(46,V0 (n:Int)),(47,V0 (i:Int))]∧zm=n-((i:Int)).toNat∧B0 w V∧Blk V b1 ([V0 t,.bool leaf,.slice ak n ck,.slice av n cv]) 38∧i≤n) ⟨0,rfl,rfl,hB,a0,Nat.zero_le _⟩ ?_
 rintro _ _ d2 ⟨i,rfl,rfl,a2,a4,hi⟩ c9 b7 c7
 refine xid 6 ((i:Int)<(n:Int)) (fun b5=>?_) (fun b5=>?_)
 ·refine xx 7 _ n i 1 (IntsN.elem hKs N.hK (k:=i) (by omega)).1 ?_
  refine xl 0 ((IntsN.elem (hKs.below a2) N.hK (k:=i) (by omega)).2) ?_
  refine xb 7 2 a4 ?_
  refine xsH 1 (fun _ _ _ _ zo zx zy V=>Ys (k:=i) (b:=ak) (n:=n) (c:=ck) (i:=(i:Int)) (ki:=.i64) zo zx zy rfl (by omega) Tryz.underlying28 (by kernel_rfl) V) ?_
  refine xr 1 (args:=#[.slice ak i ck,V0 (K.getD i 0)]) (Zep ak i ck (K.take i) (K.getD i 0) _ (by rw[List.length_take,N.hK];omega) (by rw[List.map_take];exact(hKs.below a2).head (by simpa using N.hK) i (by omega)) (N.hk0 i (by omega)).1 (N.hk0 i (by omega)).2 (fun j e=>by subst e;rw[Zab (by omega)];exact N.hk1 j (by omega)) (by omega)) fun c8 a8=>?_
  have a1:=a4.below a8
  refine xb 3 3 a1 ?_
  refine xx 1 _ n i 1 (Strs.elem hVs N.hV (k:=i) (by omega)).1 ?_
  have b0:=bln a2 a8
  refine xl 0 ((Strs.elem (hVs.below b0) N.hV (k:=i) (by omega)).2) ?_
  refine xk 6 (show(((↑(Vs.getD i []).length:Int) != (v:Int)):Bool)=false from by rw[N.hw i (by omega)];simp) ?_
  refine xw 4 ((i:Int)+1) ?_
  exact ze 2 (b7 _ _ _ ⟨i+1,rfl,rfl,b0,a1,by omega⟩ (by omega))
 exact xe 11 (.bool true) ⟨rfl,a2⟩
def widG(t:Int)(leaf:Bool):Nat:=if 1≤t∧t≤5 then Uh t leaf else 0
def Zf9(t:Int)(leaf:Bool):Nat:=if 1≤t∧t≤5 then Kj t leaf else 0
theorem fitG(t:Int)(leaf:Bool):12+Zf9 t leaf*8+Zf9 t leaf*widG t leaf≤244:=by
 unfold Zf9 widG;split
 ·exact fitN t leaf
 ·decide
theorem Zbv(t:Int)(leaf:Bool):Zf9 t leaf≤18:=by
 unfold Zf9;split
 ·exact(Qb t leaf).2
 ·decide
theorem Zb5(t:Int)(leaf:Bool):widG t leaf≤24:=by
 unfold widG;split
 ·exact(Ek t leaf).2
 ·decide
theorem Ng(t:Int)(leaf:Bool)(w:World)(h:¬ (1≤t∧t≤5)) :
 C0 76 #[V0 t,.bool leaf] w (Ret (V0 0) w):=by
 refine zin 31 Tryz.func76 ?_
 refine xg 17 [8,9] (decide (t<(1:Int))) (fun a0=>?_) (fun a0=>?_)
 ·have a0:=of_decide_eq_true a0
  exact xe 15 (V0 0) ⟨rfl,(B3 w)⟩
 have a0:=of_decide_eq_false a0
 refine xk 6 (show(decide (t>(5:Int)):Bool)=true from decide_eq_true (by omega)) ?_
 exact xe 8 (V0 0) ⟨rfl,(B3 w)⟩
theorem Ns(t:Int)(leaf:Bool)(w:World):C0 76 #[V0 t,.bool leaf] w (Ret (V0 (widG t leaf:Int)) w):=by
 unfold widG
 by_cases h:1≤t∧t≤5
 ·rw[if_pos h];exact Ss t leaf h.1 h.2 w
 ·rw[if_neg h];exact Ng t leaf w h
theorem On(t:Int)(leaf:Bool)(w:World)(h:¬ (1≤t∧t≤5)) :
 C0 77 #[V0 t,.bool leaf] w (Ret (V0 0) w):=by
 refine zin 16 Tryz.func77 ?_
 refine xr 9 (args:=#[V0 t,.bool leaf]) (Ng t leaf _ h) fun W1 a0=>?_
 exact xe 18 (V0 0) ⟨rfl,a0⟩
theorem Zae(t:Int)(leaf:Bool)(w:World):C0 77 #[V0 t,.bool leaf] w (Ret (V0 (Zf9 t leaf:Int)) w):=by
 unfold Zf9
 by_cases h:1≤t∧t≤5
 ·rw[if_pos h];exact Da t leaf h.1 h.2 w
 ·rw[if_neg h];exact On t leaf w h
def keyR(L:List Int)(i:Nat)(k:Int):Int:=if k<0∨281474976710655<k then 2 else if 0<i∧k≤L.getD (i-1) 0 then 8 else 0
def Xw(l:Bl):Int:=(Zi l 1 1:Int)
def Xm(l:Bl):Bool:=(Zi l 0 1:Int)==(1:Int)
def Zp(l:Bl):Nat:=Zi l 2 2
def Xk(l:Bl):Nat:=widG (Xw l) (Xm l)
def Xl(l:Bl):Nat:=Zf9 (Xw l) (Xm l)
def Ka(l:Bl):Bool:=decide (Zi l 0 1≤1∧Xk l≠0∧Zi l 2 2≤Xl l∧Zi l 4 2=Xk l∧Zi l 6 2=Xl l∧Zi l 8 4=0∧(Zi l 0 1=1∨0<Zi l 2 2))
def ShapeP(l:Bl)(w:World)(e:Ending)(w':World):Prop :=
 (Ka l=false∧∃ a b c,e=.returned (.tuple #[.agg #[V0 a,.bool b,S0,S0],V0 c,.bool false])∧B0 w w') ∨
 (Ka l=true∧e=.returned (.tuple #[.agg #[V0 (Xw l),.bool (Xm l),S0,S0],V0 (Zp l:Int),.bool true])∧B0 w w')
theorem Bc(a:O0)(n c:Nat)(l:Bl)(aw:O0)(cw m:Nat)(ws:List Nat)(xs:List Nat)(W:World)(hn:l.length=n)(hm:ws.length=m)(hx:Hf l 0 ws=xs)(hk:∀ i,i<ws.length→ws.getD i 0=1∨ws.getD i 0=2∨ws.getD i 0=4∨ws.getD i 0=8)(hs:ws.sum≤n)(hl:n≤100000000)(hw:ws.length≤1000)(h:Bys W (.slice a n c) l)(hws:Sl W (.slice aw m cw) m (ws.map nv))(hq:∀ i,i<ws.length→(Hf l 0 ws).getD i 0<9223372036854775808) :
 C0 136 #[.slice a n c,.slice aw m cw] W (Vy (fun w' r=>∃ p c,r=.tuple #[.slice p m c,V0 0]∧w'.ownsRow W.heap.size 3 1 (.slice p m c) m (xs.map nv)) W):=by
 subst hn hm hx;exact Ok a c l aw cw ws W hk hs hl hw h hws hq
def Yj(l:Bl):List Nat:=[Zi l 0 1,Zi l 1 1,Zi l 2 2,Zi l 4 2,Zi l 6 2,Zi l 8 4]
theorem Zfb(l:Bl)(i:Nat)(hi:i<6):(Hf l 0 [1,1,2,2,2,4]).getD i 0<9223372036854775808:=by
 have h1:=Ym l 0 1 (by decide)
 have h2:=Ym l 1 1 (by decide)
 have h3:=Ym l 2 2 (by decide)
 have h4:=Ym l 4 2 (by decide)
 have h5:=Ym l 6 2 (by decide)
 have h6:=Ym l 8 4 (by decide)
 obtain rfl|rfl|rfl|rfl|rfl|rfl:i=0∨i=1∨i=2∨i=3∨i=4∨i=5:=by omega
 all_goals simp[Hf]
 all_goals omega
theorem node_shape(a:O0)(c:Nat)(l:Bl)(w:World)(hl:l.length=244)(h:Bys w (.slice a 244 c) l) :
 C0 75 #[.slice a 244 c] w (ShapeP l w):=by
 refine zin 92 Tryz.func75 ?_
 refine xa 2 [V0 0,.bool false,S0,S0] 38 fun b1 W1 n1=>?_
 refine xbs 18 6 [V0 1,V0 1,V0 2,V0 2,V0 2,V0 4] 3 fun b2 W2 n2=>?_
 have hB:=bln n1.below n2.below
 refine xc 0 (args:=#[.slice a 244 c,.slice (S1 b2) 6 6]) (Bc a 244 c l (S1 b2) 6 6 [1,1,2,2,2,4] (Yj l) _ hl rfl rfl (by decide) (by decide) (by decide) (by decide) (h.below hB) (n2.blk.sl 6 6 (by decide) (by decide)) (Zfb l)) ?_
 rintro _ W3 ⟨_,rfl,f1,p5,c5,rfl,h5⟩
 have f7:=(bln n1.below n2.below).size
 refine xd 8 (.t w.heap.size [38]) ?_
 have a9:=Zb (Zg h5 f7) (Za W3)
 refine xx (.e [0] 1) _ 6 1 1 (Zm (l:=Yj l) (Zh a9) rfl (k:=1) (by decide)).1 ?_
 refine xlt (.e [] 2) (.t w.heap.size [38]) (fun V hV=>(Zm (l:=Yj l) (Zh (Zl a9 hV.2 (by decide))) rfl (k:=1) (by decide)).2) ?_
 refine xx (.e [3] 4) _ 6 0 1 (Zm (l:=Yj l) (Zh a9) rfl (k:=0) (by decide)).1 ?_
 refine xlt (.e [] 5) (.t w.heap.size [38]) (fun V hV=>(Zm (l:=Yj l) (Zh (Zl a9 hV.2 (by decide))) rfl (k:=0) (by decide)).2) ?_
 refine xa (.o [6,7] 8) [V0 0,.bool false,S0,S0] 38 fun b4 W4 n4=>?_
 have k1:=((n1.blk.below n2.below).below f1).below (Za W3)
 have a3:=n4.ne k1
 have a6:=bln (bln hB f1) (Za W3)
 have g4:=n4.ge a6
 refine ysv (.o [] 9) n4.blk [V0 (↑(Zi l 1 1):Int),.bool ((↑(Zi l 0 1):Int)==(1:Int)),S0,S0] (.t w.heap.size [38]) fun W5 u5 k5=>⟨(Zo u5 n4.blk g4 (by decide)),?_⟩
 have b8:=u5.own2 (Zb a9 n4.below) n4.blk (by decide)
 refine xx 6 _ 6 0 1 (Zm (l:=Yj l) (Zh b8) rfl (k:=0) (by decide)).1 ?_
 refine xl 0 ((Zm (l:=Yj l) (Zh b8) rfl (k:=0) (by decide)).2) ?_
 refine xg 2 [32,33] (decide ((↑(Zi l 0 1):Int)>(1:Int))) (fun b9=>?_) (fun b9=>?_)
 ·have b9:=of_decide_eq_true b9
  have e1:=u5.blk (k1.below n4.below) (Ne.symm (Ne.symm a3))
  refine xsv 13 e1 [V0 0,.bool false,S0,S0] fun W7 u7 k7=>?_
  have g1:=n1.ge (B3 w)
  have e5:=u7.below (u5.below (bln a6 n4.below) g4) g1
  exact xec 6 k7 (.tuple #[.agg #[V0 0,.bool false,S0,S0],V0 0,.bool false]) (.inl ⟨decide_eq_false (by omega),_,_,_,rfl,e5⟩)
 have b9:=of_decide_eq_false b9
 refine xb 1 0 k5 ?_
 refine xb 1 1 k5 ?_
 refine xr 0 (args:=#[V0 (↑(Zi l 1 1):Int),.bool ((↑(Zi l 0 1):Int)==(1:Int))]) (Ns (Xw l) (Xm l) _) fun W8 a7=>?_
 refine xie 4 (↑(Xk l):Int) (0:Int) (fun g2=>?_) (fun g2=>?_)
 ·have d4:=(u5.blk (k1.below n4.below) (Ne.symm (Ne.symm a3))).below a7
  refine xsv 3 d4 [V0 0,.bool false,S0,S0] fun h2 g7 f8=>?_
  have g1:=n1.ge (B3 w)
  have d8:=g7.below (bln (u5.below (bln a6 n4.below) g4) a7) g1
  exact xec 6 f8 (.tuple #[.agg #[V0 0,.bool false,S0,S0],V0 0,.bool false]) (.inl ⟨decide_eq_false (by omega),_,_,_,rfl,d8⟩)
 refine xd 3 .z ?_
 have a5:=(k5.below a7).below (Za W8)
 refine xb (.e [0] 1) 0 a5 ?_
 refine xb (.e [2] 3) 1 a5 ?_
 refine xb (.e [5] 6) 0 a5 ?_
 refine xb (.e [7] 8) 1 a5 ?_
 refine xr (.o [] 4) (args:=#[V0 (↑(Zi l 1 1):Int),.bool ((↑(Zi l 0 1):Int)==(1:Int))]) (Ns (Xw l) (Xm l) _) fun h3 a1=>?_
 refine xr (.o [] 9) (args:=#[V0 (↑(Zi l 1 1):Int),.bool ((↑(Zi l 0 1):Int)==(1:Int))]) (Zae (Xw l) (Xm l) _) fun a4 a0=>?_
 have a2:=Zb (Zb (Zb (Zb b8 a7) (Za W8)) a1) a0
 refine xx (.r [10,11] 5) _ 6 2 1 (Zm (l:=Yj l) (Zh a2) rfl (k:=2) (by decide)).1 ?_
 refine xl 0 ((Zm (l:=Yj l) (Zh a2) rfl (k:=2) (by decide)).2) ?_
 refine xg 3 [56,57] (decide ((↑(Zi l 2 2):Int)≤(↑(Xl l):Int))) (fun b5=>?_) (fun b5=>?_)
 ·have b5:=of_decide_eq_true b5
  refine xx 1 _ 6 3 1 (Zm (l:=Yj l) (Zh a2) rfl (k:=3) (by decide)).1 ?_
  refine xl 0 ((Zm (l:=Yj l) (Zh a2) rfl (k:=3) (by decide)).2) ?_
  refine xg 4 [62,63,64] ((↑(Zi l 4 2):Int)==(↑(Xk l):Int)) (fun b6=>?_) (fun b6=>?_)
  ·have b6:=eq_of_beq b6
   refine xx 1 _ 6 4 1 (Zm (l:=Yj l) (Zh a2) rfl (k:=4) (by decide)).1 ?_
   refine xl 0 ((Zm (l:=Yj l) (Zh a2) rfl (k:=4) (by decide)).2) ?_
   refine xg 4 [69,70,71] ((↑(Zi l 6 2):Int)==(↑(Xl l):Int)) (fun b0=>?_) (fun b0=>?_)
   ·have b0:=eq_of_beq b0
    refine xx 1 _ 6 5 1 (Zm (l:=Yj l) (Zh a2) rfl (k:=5) (by decide)).1 ?_
    refine xl 0 ((Zm (l:=Yj l) (Zh a2) rfl (k:=5) (by decide)).2) ?_
    refine xg 3 [75,76,77] ((↑(Zi l 8 4):Int)==(0:Int)) (fun b3=>?_) (fun b3=>?_)
    ·have b3:=eq_of_beq b3
     have b7:=(a5.below a1).below a0
     refine xb 1 1 b7 ?_
     refine xg 1 [27,37,45,50,79,80] ((↑(Zi l 0 1):Int)==(1:Int)) (fun a8=>?_) (fun a8=>?_)
     ·have a8:=eq_of_beq a8
      refine xd 10 (.t w.heap.size [38]) ?_
      have d1:=Zb a2 (Za a4)
      refine xx (.e [1] 2) _ 6 2 1 (Zm (l:=Yj l) (Zh d1) rfl (k:=2) (by decide)).1 ?_
      refine xlt (.e [] 3) (.t w.heap.size [38]) (fun V hV=>(Zm (l:=Yj l) (Zh (Zl d1 hV.2 (by decide))) rfl (k:=2) (by decide)).2) ?_
      have d9:=b7.below (Za a4)
      refine xlv (.o [4] 0) d9.rp ?_
      have c6:=(((((u5.blk (k1.below n4.below) (Ne.symm (Ne.symm a3))).below a7).below (Za W8)).below a1).below a0).below (Za a4)
      have g1:=n1.ge (B3 w)
      refine ysv (.o [] 5) c6 [V0 (↑(Zi l 1 1):Int),.bool ((↑(Zi l 0 1):Int)==(1:Int)),S0,S0] (.t w.heap.size [38]) fun h1 f3 f6=>⟨(Zo f3 c6 g1 (by decide)),?_⟩
      have e8:=f3.below (bln (bln (bln (bln (bln (u5.below (bln a6 n4.below) g4) a7) (Za W8)) a1) a0) (Za a4)) g1
      exact xec (.r [6,7] 3) f6 (.tuple #[.agg #[V0 (↑(Zi l 1 1):Int),.bool ((↑(Zi l 0 1):Int)==(1:Int)),S0,S0],V0 (↑(Zi l 2 2):Int),.bool true]) (.inr ⟨decide_eq_true (by omega),rfl,e8⟩)
     have a8:=Yd a8
     refine xx 1 _ 6 2 1 (Zm (l:=Yj l) (Zh a2) rfl (k:=2) (by decide)).1 ?_
     refine xl 0 ((Zm (l:=Yj l) (Zh a2) rfl (k:=2) (by decide)).2) ?_
     refine xd 7 (.t w.heap.size [38]) ?_
     have d0:=Zb a2 (Za a4)
     refine xx (.e [1] 2) _ 6 2 1 (Zm (l:=Yj l) (Zh d0) rfl (k:=2) (by decide)).1 ?_
     refine xlt (.e [] 3) (.t w.heap.size [38]) (fun V hV=>(Zm (l:=Yj l) (Zh (Zl d0 hV.2 (by decide))) rfl (k:=2) (by decide)).2) ?_
     have e4:=b7.below (Za a4)
     refine xlv (.o [4] 0) e4.rp ?_
     have c1:=(((((u5.blk (k1.below n4.below) (Ne.symm (Ne.symm a3))).below a7).below (Za W8)).below a1).below a0).below (Za a4)
     have g1:=n1.ge (B3 w)
     refine ysv (.o [] 5) c1 [V0 (↑(Zi l 1 1):Int),.bool ((↑(Zi l 0 1):Int)==(1:Int)),S0,S0] (.t w.heap.size [38]) fun g9 f2 g5=>⟨(Zo f2 c1 g1 (by decide)),?_⟩
     have c0:=f2.below (bln (bln (bln (bln (bln (u5.below (bln a6 n4.below) g4) a7) (Za W8)) a1) a0) (Za a4)) g1
     refine xec (.r [6,7] 3) g5 (.tuple #[.agg #[V0 (↑(Zi l 1 1):Int),.bool ((↑(Zi l 0 1):Int)==(1:Int)),S0,S0],V0 (↑(Zi l 2 2):Int),.bool (decide ((↑(Zi l 2 2):Int)>(0:Int)))]) ?_
     rcases Bool.eq_false_or_eq_true (decide ((↑(Zi l 2 2):Int)>(0:Int))) with hq|hq
     ·have g3:=of_decide_eq_true hq
      rw[hq];exact .inr ⟨decide_eq_true (by omega),rfl,c0⟩
     ·have g3:=of_decide_eq_false hq
      rw[hq];exact .inl ⟨decide_eq_false (by omega),_,_,_,rfl,c0⟩
    have b3:=Yd b3
    refine xd 13 (.t w.heap.size [38]) ?_
    have c3:=Zb a2 (Za a4)
    refine xx (.e [1] 2) _ 6 2 1 (Zm (l:=Yj l) (Zh c3) rfl (k:=2) (by decide)).1 ?_
    refine xlt (.e [] 3) (.t w.heap.size [38]) (fun V hV=>(Zm (l:=Yj l) (Zh (Zl c3 hV.2 (by decide))) rfl (k:=2) (by decide)).2) ?_
    have e2:=((a5.below a1).below a0).below (Za a4)
    refine xlv (.o [4] 0) e2.rp ?_
    have c7:=(((((u5.blk (k1.below n4.below) (Ne.symm (Ne.symm a3))).below a7).below (Za W8)).below a1).below a0).below (Za a4)
    have g1:=n1.ge (B3 w)
    refine ysv (.o [] 5) c7 [V0 (↑(Zi l 1 1):Int),.bool ((↑(Zi l 0 1):Int)==(1:Int)),S0,S0] (.t w.heap.size [38]) fun h4 f4 g6=>⟨(Zo f4 c7 g1 (by decide)),?_⟩
    have d7:=f4.below (bln (bln (bln (bln (bln (u5.below (bln a6 n4.below) g4) a7) (Za W8)) a1) a0) (Za a4)) g1
    exact xec (.r [6,7] 3) g6 (.tuple #[.agg #[V0 (↑(Zi l 1 1):Int),.bool ((↑(Zi l 0 1):Int)==(1:Int)),S0,S0],V0 (↑(Zi l 2 2):Int),.bool false]) (.inl ⟨decide_eq_false (by omega),_,_,_,rfl,d7⟩)
   have b0:=Yd b0
   refine xd 19 (.t w.heap.size [38]) ?_
   have c2:=Zb a2 (Za a4)
   refine xx (.e [1] 2) _ 6 2 1 (Zm (l:=Yj l) (Zh c2) rfl (k:=2) (by decide)).1 ?_
   refine xlt (.e [] 3) (.t w.heap.size [38]) (fun V hV=>(Zm (l:=Yj l) (Zh (Zl c2 hV.2 (by decide))) rfl (k:=2) (by decide)).2) ?_
   have d5:=((a5.below a1).below a0).below (Za a4)
   refine xlv (.o [4] 0) d5.rp ?_
   have d2:=(((((u5.blk (k1.below n4.below) (Ne.symm (Ne.symm a3))).below a7).below (Za W8)).below a1).below a0).below (Za a4)
   have g1:=n1.ge (B3 w)
   refine ysv (.o [] 5) d2 [V0 (↑(Zi l 1 1):Int),.bool ((↑(Zi l 0 1):Int)==(1:Int)),S0,S0] (.t w.heap.size [38]) fun h0 e9 f9=>⟨(Zo e9 d2 g1 (by decide)),?_⟩
   have e3:=e9.below (bln (bln (bln (bln (bln (u5.below (bln a6 n4.below) g4) a7) (Za W8)) a1) a0) (Za a4)) g1
   exact xec (.r [6,7] 3) f9 (.tuple #[.agg #[V0 (↑(Zi l 1 1):Int),.bool ((↑(Zi l 0 1):Int)==(1:Int)),S0,S0],V0 (↑(Zi l 2 2):Int),.bool false]) (.inl ⟨decide_eq_false (by omega),_,_,_,rfl,e3⟩)
  have b6:=Yd b6
  refine xd 26 (.t w.heap.size [38]) ?_
  have d3:=Zb a2 (Za a4)
  refine xx (.e [1] 2) _ 6 2 1 (Zm (l:=Yj l) (Zh d3) rfl (k:=2) (by decide)).1 ?_
  refine xlt (.e [] 3) (.t w.heap.size [38]) (fun V hV=>(Zm (l:=Yj l) (Zh (Zl d3 hV.2 (by decide))) rfl (k:=2) (by decide)).2) ?_
  have d6:=((a5.below a1).below a0).below (Za a4)
  refine xlv (.o [4] 0) d6.rp ?_
  have c4:=(((((u5.blk (k1.below n4.below) (Ne.symm (Ne.symm a3))).below a7).below (Za W8)).below a1).below a0).below (Za a4)
  have g1:=n1.ge (B3 w)
  refine ysv (.o [] 5) c4 [V0 (↑(Zi l 1 1):Int),.bool ((↑(Zi l 0 1):Int)==(1:Int)),S0,S0] (.t w.heap.size [38]) fun h6 f0 g8=>⟨(Zo f0 c4 g1 (by decide)),?_⟩
  have e0:=f0.below (bln (bln (bln (bln (bln (u5.below (bln a6 n4.below) g4) a7) (Za W8)) a1) a0) (Za a4)) g1
  exact xec (.r [6,7] 3) g8 (.tuple #[.agg #[V0 (↑(Zi l 1 1):Int),.bool ((↑(Zi l 0 1):Int)==(1:Int)),S0,S0],V0 (↑(Zi l 2 2):Int),.bool false]) (.inl ⟨decide_eq_false (by omega),_,_,_,rfl,e0⟩)
 have b5:=of_decide_eq_false b5
 refine xd 33 (.t w.heap.size [38]) ?_
 have c9:=Zb a2 (Za a4)
 refine xx (.e [1] 2) _ 6 2 1 (Zm (l:=Yj l) (Zh c9) rfl (k:=2) (by decide)).1 ?_
 refine xlt (.e [] 3) (.t w.heap.size [38]) (fun V hV=>(Zm (l:=Yj l) (Zh (Zl c9 hV.2 (by decide))) rfl (k:=2) (by decide)).2) ?_
 have e6:=((a5.below a1).below a0).below (Za a4)
 refine xlv (.o [4] 0) e6.rp ?_
 have c8:=(((((u5.blk (k1.below n4.below) (Ne.symm (Ne.symm a3))).below a7).below (Za W8)).below a1).below a0).below (Za a4)
 have g1:=n1.ge (B3 w)
 refine ysv (.o [] 5) c8 [V0 (↑(Zi l 1 1):Int),.bool ((↑(Zi l 0 1):Int)==(1:Int)),S0,S0] (.t w.heap.size [38]) fun h7 f5 g0=>⟨(Zo f5 c8 g1 (by decide)),?_⟩
 have e7:=f5.below (bln (bln (bln (bln (bln (u5.below (bln a6 n4.below) g4) a7) (Za W8)) a1) a0) (Za a4)) g1
 exact xec (.r [6,7] 3) g0 (.tuple #[.agg #[V0 (↑(Zi l 1 1):Int),.bool ((↑(Zi l 0 1):Int)==(1:Int)),S0,S0],V0 (↑(Zi l 2 2):Int),.bool false]) (.inl ⟨decide_eq_false (by omega),_,_,_,rfl,e7⟩)
theorem node_keyG(a:O0)(i c:Nat)(L:List Int)(k:Int)(w:World)(hL:L.length=i)(h:Sl w (.slice a i c) i (L.map V0))(hi:i≤1000) :
 C0 80 #[.slice a i c,V0 k] w (Ret (V0 (keyR L i k)) w):=by
 refine zin 26 Tryz.func80 ?_
 refine xg 12 [7,8] (decide (k<(0:Int))) (fun a0=>?_) (fun a0=>?_)
 ·have a0:=of_decide_eq_true a0
  exact xe 15 (V0 2) ⟨by rw[show keyR L i k=2 from by unfold keyR;rw[if_pos (by omega)]],(B3 w)⟩
 have a0:=of_decide_eq_false a0
 refine xid 6 (k>(281474976710655:Int)) (fun a3=>?_) (fun a3=>?_)
 ·exact xe 8 (V0 2) ⟨by rw[show keyR L i k=2 from by unfold keyR;rw[if_pos (by omega)]],(B3 w)⟩
 refine xg 6 [15,16] (decide ((i:Int)>(0:Int))) (fun a1=>?_) (fun a1=>?_)
 ·have a1:=of_decide_eq_true a1
  refine xwm 3 ((i:Int)-1) (↑(i-1):Int) ?_
  refine xx 0 _ i (i-1) 1 (IntsN.elem h hL (k:=(i-1)) (by omega)).1 ?_
  refine xl 0 ((IntsN.elem h hL (k:=(i-1)) (by omega)).2) ?_
  refine xid 6 ((L.getD (i-1) 0)≥k) (fun a2=>?_) (fun a2=>?_)
  ·exact xe 8 (V0 8) ⟨by rw[show keyR L i k=8 from by unfold keyR;rw[if_neg (by omega),if_pos (by omega)]],(B3 w)⟩
  exact xe 9 (V0 0) ⟨by rw[show keyR L i k=0 from by unfold keyR;rw[if_neg (by omega),if_neg (by omega)]],(B3 w)⟩
 have a1:=of_decide_eq_false a1
 exact xe 22 (V0 0) ⟨by rw[show keyR L i k=0 from by unfold keyR;rw[if_neg (by omega),if_neg (by omega)]],(B3 w)⟩
def Cs(l:Bl)(i:Nat):Nat:=Zi l (12+i*8) 8
def Yx(l:Bl)(n:Nat):List Int:=(List.range n).map fun i=>(Cs l i:Int)
theorem Yv(l:Bl)(n:Nat):(Yx l n).length=n:=by simp[Yx]
theorem Ln(l:Bl)(n:Nat):Yx l (n+1)=Yx l n++[(Cs l n:Int)]:=by simp[Yx,List.range_succ]
theorem La(l:Bl){n i:Nat}(h:i<n):(Yx l n).getD i 0=(Cs l i:Int):=by simp[Yx,List.getD,List.getElem?_range h]
def Cv(l:Bl)(i:Nat):Bl:=(l.drop (12+Xl l*8+i*Xk l)).take (Xk l)
def Ky(l:Bl)(n:Nat):List Bl:=(List.range n).map (Cv l)
theorem Vm(l:Bl)(n:Nat):(Ky l n).length=n:=by simp[Ky]
theorem Hp(l:Bl)(n:Nat):Ky l (n+1)=Ky l n++[Cv l n]:=by simp[Ky,List.range_succ]
theorem Zbp(l:Bl){n i:Nat}(h:i<n):(Ky l n).getD i []=Cv l i:=by simp[Ky,List.getD,List.getElem?_range h]
def Py(l:Bl)(i:Nat):Int:=if 281474976710655<Cs l i then 2 else if 0<i∧Cs l i≤Cs l (i-1) then 8 else 0
def Yh(l:Bl):Nat→Int
 | 0=>0
 | i+1=>if Yh l i≠0 then Yh l i else Py l i
theorem Bj{l:Bl}{i:Nat}(h:Yh l i≠0):∀ n,i≤n→Yh l n=Yh l i
 | 0,h2=>by
  obtain rfl:i=0:=by omega
  rfl
 | n+1,h2=>by
   by_cases e:i=n+1
   ·rw[e]
   ·have ih:=Bj h n (by omega)
    rw[Yh,if_pos (by rw[ih];exact h),ih]
theorem Ud{l:Bl}{i n:Nat}(h:Yh l i=0)(he:Py l i≠0)(hi:i<n):Yh l n=Py l i:=by
 have e:Yh l (i+1)=Py l i:=by rw[Yh,if_neg (by rw[h];decide)]
 rw[Bj (by rw[e];exact he) n hi,e]
theorem Vq{l:Bl}{i:Nat}(h:Yh l i=0)(he:Py l i=0):Yh l (i+1)=0:=by rw[Yh,if_neg (by rw[h];decide),he]
theorem keyE_R{l:Bl}{i:Nat}:keyR (Yx l i) i (Cs l i:Int)=Py l i:=by
 unfold keyR Py
 by_cases h:281474976710655<Cs l i
 ·rw[if_pos (by omega),if_pos h]
 ·rw[if_neg (by omega),if_neg h]
  by_cases h2:0<i
  ·rw[La l (show i-1<i by omega)]
   by_cases h3:Cs l i≤Cs l (i-1)
   ·rw[if_pos (by omega),if_pos (by omega)]
   ·rw[if_neg (by omega),if_neg (by omega)]
  ·rw[if_neg (by omega),if_neg (by omega)]
def Fm(l:Bl):Nat:=12+Zp l*8
def Zbj(l:Bl):Nat:=12+Xl l*8
def Ev(l:Bl):Nat:=Zbj l+Zp l*Xk l
def Mk(l:Bl):Bool:=Vg ((l.drop (Fm l)).take (Zbj l-Fm l))&&Vg ((l.drop (Ev l)).take (244-Ev l))
def Yz(l:Bl):Int:=if Ka l then(if Mk l then Yh l (Zp l) else 7) else 7
def NodeP(l:Bl)(w:World)(e:Ending)(w':World):Prop :=
 (Yz l≠0∧e=.returned (.tuple #[.agg #[V0 0,.bool false,S0,S0],V0 (Yz l)])∧B0 w w') ∨
 (Yz l=0∧∃ kp kc vp vc,e=.returned (.tuple #[.agg #[V0 (Xw l),.bool (Xm l),.slice kp (Zp l) kc,.slice vp (Zp l) vc],V0 0])∧B0 w w' ∧
  w'.ownsRow w.heap.size 3 1 (.slice kp (Zp l) kc) (Zp l) ((Yx l (Zp l)).map V0)∧w'.ownsRow w.heap.size 9 1 (.slice vp (Zp l) vc) (Zp l) ((Ky l (Zp l)).map sv))
theorem Hv{l:Bl}(h:Ka l=true):Zp l≤Xl l:=(of_decide_eq_true h).2.2.1
theorem Sm(a:O0)(n c:Nat)(l:Bl)(w:World)(hn:l.length=n)(hl:n≤100000000)(h:Bys w (.slice a n c) l):C0 78 #[.slice a n c] w (Ret (.bool (Vg l)) w):=by
 subst hn;exact code_Zero a c l w hl h
theorem valN_bys{a:O0}{c i:Nat}{l:Bl}{w:World}(h:Bys w (.slice a 244 c) l)(hl:l.length=244)(hb:12+Xl l*8+(i+1)*Xk l≤244)(hi:(i+1)*Xk l=i*Xk l+Xk l) :
 Bys w (.slice (Qz a (12+Xl l*8+i*Xk l) c 1) (12+Xl l*8+(i+1)*Xk l-(12+Xl l*8+i*Xk l)) (c-(12+Xl l*8+i*Xk l))) (Cv l i):=by
 have:=Bys.cut h hl (12+Xl l*8+i*Xk l) (12+Xl l*8+(i+1)*Xk l) (by omega) hb
 rw[show 12+Xl l*8+(i+1)*Xk l-(12+Xl l*8+i*Xk l)=Xk l by omega] at this ⊢
 exact this
theorem valN_lenN{i:Nat}{l:Bl}(hl:l.length=244)(hb:12+Xl l*8+(i+1)*Xk l≤244)(hi:(i+1)*Xk l=i*Xk l+Xk l):(Cv l i).length=12+Xl l*8+(i+1)*Xk l-(12+Xl l*8+i*Xk l):=by
 unfold Cv;simp only[List.length_take,List.length_drop];omega
def GetP(l:Bl)(k w:Nat)(W:World)(e:Ending)(w':World):Prop :=
 (Zi l k w<9223372036854775808∧e=.returned (.tuple #[V0 (Zi l k w:Int),V0 0])∧B0 W w')∨(¬ Zi l k w<9223372036854775808∧e=.returned (.tuple #[V0 0,V0 2])∧B0 W w')
theorem Get_P(a:O0)(n c k w:Nat)(l:Bl)(W:World)(hn:l.length=n)(hw:w=1∨w=2∨w=4∨w=8)(hk:k+w≤n)(hl:n≤100000000)(h:Bys W (.slice a n c) l)(wi:Int)(hwi:wi=(w:Int)) :
 C0 79 #[.slice a n c,V0 (k:Int),V0 wi] W (GetP l k w W):=by
 subst hn hwi
 by_cases hq:Zi l k w<9223372036854775808
 ·refine(Zdu a c k w l W hw hk hl h hq).mono ?_
  rintro e V ⟨rfl,hb⟩;exact .inl ⟨hq,rfl,hb⟩
 ·refine(Get_big a c k w l W hw hk hl h hq).mono ?_
  rintro e V ⟨rfl,hb⟩;exact .inr ⟨hq,rfl,hb⟩
theorem node_keyP(l:Bl)(a:O0)(i c:Nat)(w:World)(h:Sl w (.slice a i c) i ((Yx l i).map V0))(hi:i≤1000) :
 C0 80 #[.slice a i c,V0 (↑(Cs l i):Int)] w (fun e w'=>(Py l i=0∧e=.returned (V0 0)∧B0 w w')∨(Py l i≠0∧e=.returned (V0 (Py l i))∧B0 w w')):=by
 refine(node_keyG a i c (Yx l i) (Cs l i) w (Yv l i) h hi).mono ?_
 rintro e W ⟨rfl,hb⟩
 rw[keyE_R]
 by_cases hz:Py l i=0
 ·exact .inl ⟨hz,by rw[hz],hb⟩
 ·exact .inr ⟨hz,rfl,hb⟩
theorem node_Read(a:O0)(c:Nat)(l:Bl)(w:World)(hl:l.length=244)(h:Bys w (.slice a 244 c) l) :
 C0 36 #[.slice a 244 c] w (NodeP l w):=by
 have l8:=Bys.cap h hl
 refine zin 104 Tryz.func36 ?_
 refine xa 2 [V0 0,.bool false,S0,S0] 38 fun b1 W1 n1=>?_
 refine xc 6 (args:=#[.slice a 244 c]) (node_shape a c l _ hl (h.below n1.below)) ?_
 rintro e W2 m4
 rcases m4 with ⟨hs,t0,l0,c0,rfl,f0⟩|⟨hs,rfl,f0⟩
 ·refine xa 4 [V0 0,.bool false,S0,S0] 38 fun b3 W3 n3=>?_
  have k1:=n1.blk.below f0
  have f5:=n3.ne k1
  have g9:=bln n1.below f0
  have g3:=n3.ge g9
  refine xsv 0 n3.blk [V0 t0,.bool l0,S0,S0] fun W4 u4 k4=>?_
  have j1:=u4.blk (k1.below n3.below) (Ne.symm (Ne.symm f5))
  refine xsv 15 j1 [V0 0,.bool false,S0,S0] fun W5 u5 k5=>?_
  have g1:=n1.ge (B3 w)
  have j0:=u5.below (u4.below (bln g9 n3.below) g3) g1
  refine xec 5 k5 (.tuple #[.agg #[V0 0,.bool false,S0,S0],V0 7]) ?_
  have he:Yz l=7:=by unfold Yz;simp[hs]
  exact .inl ⟨by rw[he];decide,by rw[he],j0⟩
 have m2:=Hv hs
 have j3:=fitG (Xw l) (Xm l)
 have k0:=Zbv (Xw l) (Xm l)
 have h8:=Zb5 (Xw l) (Xm l)
 change 12+Xl l*8+Xl l*Xk l≤244 at j3
 change Xl l≤18 at k0
 change Xk l≤24 at h8
 have o4:Zp l*Xk l≤Xl l*Xk l:=Nat.mul_le_mul_right _ m2
 refine xa 4 [V0 0,.bool false,S0,S0] 38 fun b6 W6 n6=>?_
 have k1:=n1.blk.below f0
 have a2:=n6.ne k1
 have f1:=bln n1.below f0
 have g6:=n6.ge f1
 refine xsv 0 n6.blk [V0 (Xw l),.bool (Xm l),S0,S0] fun W7 u7 k7=>?_
 refine xd 15 .z ?_
 have c1:=k7.below (Za W7)
 refine xb (.e [0] 1) 0 c1 ?_
 refine xb (.e [2] 3) 1 c1 ?_
 refine xb (.e [5] 6) 0 c1 ?_
 refine xb (.e [7] 8) 1 c1 ?_
 refine xr (.o [] 4) (args:=#[V0 (Xw l),.bool (Xm l)]) (Ns (Xw l) (Xm l) _) fun W8 h2=>?_
 refine xr (.o [] 9) (args:=#[V0 (Xw l),.bool (Xm l)]) (Zae (Xw l) (Xm l) _) fun W9 g2=>?_
 refine xwm (.r [10,11] 5) ((↑(Xl l):Int)*8) (↑((Xl l)*8):Int) ?_
 refine xwm 0 (12+(↑((Xl l)*8):Int)) (↑(12+((Xl l)*8)):Int) ?_
 refine xwm 8 ((↑(Zp l):Int)*8) (↑((Zp l)*8):Int) ?_
 refine xwm 0 (12+(↑((Zp l)*8):Int)) (↑(12+((Zp l)*8)):Int) ?_
 refine xsB 1 (fun _ _ _ _ _ zo zx zy zz V=>Qt (k:=(12+((Zp l)*8))) (h:=(12+((Xl l)*8))) (b:=a) (n:=244) (c:=c) (i:=(↑(12+((Zp l)*8)):Int)) (ki:=.i64) (j:=(↑(12+((Xl l)*8)):Int)) (kj:=.i64) 1 zo zx zy rfl zz rfl (by omega) (by omega) Tryz.underlying22 (by kernel_rfl) V) ?_
 have e3:=bln (bln (bln (u7.below (bln f1 n6.below) g6) (Za W7)) h2) g2
 refine xr 0 (args:=#[.slice (Qz a (12+((Zp l)*8)) c 1) ((12+((Xl l)*8))-(12+((Zp l)*8))) (c-(12+((Zp l)*8)))]) (Sm (Qz a (12+((Zp l)*8)) c 1) ((12+((Xl l)*8))-(12+((Zp l)*8))) (c-(12+((Zp l)*8))) _ _ (by simp;omega) (by omega) ((Bys.cut h hl (12+((Zp l)*8)) (12+((Xl l)*8)) (by omega) (by omega)).below e3)) fun n4 b2=>?_
 refine xg 2 [42,43] (!(Vg ((l.drop (Fm l)).take (Zbj l-Fm l)))) (fun d9=>?_) (fun d9=>?_)
 ·have h3:Vg ((l.drop (Fm l)).take (Zbj l-Fm l))=false:=by simpa using d9
  have j2:=((((u7.blk (k1.below n6.below) (Ne.symm (Ne.symm a2))).below (Za W7)).below h2).below g2).below b2
  refine xsv 16 j2 [V0 0,.bool false,S0,S0] fun n9 l5 l1=>?_
  have g1:=n1.ge (B3 w)
  have j7:=l5.below (bln e3 b2) g1
  refine xec 5 l1 (.tuple #[.agg #[V0 0,.bool false,S0,S0],V0 7]) ?_
  have he:Yz l=7:=by unfold Yz;simp[hs,Mk,h3]
  exact .inl ⟨by rw[he];decide,by rw[he],j7⟩
 have h3:Vg ((l.drop (Fm l)).take (Zbj l-Fm l))=true:=by simpa using d9
 refine xwm 4 ((↑(Zp l):Int)*(↑(Xk l):Int)) (↑((Zp l)*(Xk l)):Int) ?_
 refine xwm 0 ((↑(12+((Xl l)*8)):Int)+(↑((Zp l)*(Xk l)):Int)) (↑((12+((Xl l)*8))+((Zp l)*(Xk l))):Int) ?_
 refine xsL 0 (fun _ _ _ _ zo zx zy V=>Yu (k:=((12+((Xl l)*8))+((Zp l)*(Xk l)))) (b:=a) (n:=244) (c:=c) (i:=(↑((12+((Xl l)*8))+((Zp l)*(Xk l))):Int)) (ki:=.i64) 1 zo zx zy rfl (by omega) Tryz.underlying22 (by kernel_rfl) V) ?_
 have e2:=bln e3 b2
 refine xr 0 (args:=#[.slice (Qz a ((12+((Xl l)*8))+((Zp l)*(Xk l))) c 1) (244-((12+((Xl l)*8))+((Zp l)*(Xk l)))) (c-((12+((Xl l)*8))+((Zp l)*(Xk l))))]) (Sm (Qz a ((12+((Xl l)*8))+((Zp l)*(Xk l))) c 1) (244-((12+((Xl l)*8))+((Zp l)*(Xk l)))) (c-((12+((Xl l)*8))+((Zp l)*(Xk l)))) _ _ (by simp;omega) (by omega) ((Bys.cut h hl (12+((Xl l)*8)+((Zp l)*(Xk l))) 244 (by omega) (by omega)).below e2)) fun p6 c6=>?_
 refine xi 4 (!(Vg ((l.drop (Ev l)).take (244-Ev l)))) (fun e0=>?_) (fun e0=>?_)
 ·have j5:Vg ((l.drop (Ev l)).take (244-Ev l))=false:=by simpa using e0
  have h6:=(((((u7.blk (k1.below n6.below) (Ne.symm (Ne.symm a2))).below (Za W7)).below h2).below g2).below b2).below c6
  refine xsv 3 h6 [V0 0,.bool false,S0,S0] fun p3 m1 m0=>?_
  have g1:=n1.ge (B3 w)
  have h9:=m1.below (bln e2 c6) g1
  refine xec 5 m0 (.tuple #[.agg #[V0 0,.bool false,S0,S0],V0 7]) ?_
  have he:Yz l=7:=by unfold Yz;simp[hs,Mk,h3,j5]
  exact .inl ⟨by rw[he];decide,by rw[he],h9⟩
 have j5:Vg ((l.drop (Ev l)).take (244-Ev l))=true:=by simpa using e0
 have j4:Mk l=true:=by unfold Mk;rw[h3,j5];rfl
 have h5:=bln e2 c6
 have j8:=(((((u7.blk (k1.below n6.below) (Ne.symm (Ne.symm a2))).below (Za W7)).below h2).below g2).below b2).below c6
 have i0:=(((c1.below h2).below g2).below b2).below c6
 refine zl 10 104 (fun zm m3 V=>∃ (i:Nat) (kp:O0) (kc:Nat) (vp:O0) (vc:Nat),m3=[(0,.slice a 244 c),(2,P0 b1),(4,P0 b6),(7,V0 (↑(Xk l):Int)),(9,V0 (↑(12+((Xl l)*8)):Int)),(55,V0 (↑(Zp l):Int)),(56,V0 (i:Int))]∧zm=Zp l-((i:Int)).toNat∧B0 w V∧Blk V b1 ([V0 0,.bool false,S0,S0]) 38∧Blk V b6 ([V0 (Xw l),.bool (Xm l),.slice kp i kc,.slice vp i vc]) 38∧V.ownsRow w.heap.size 3 1 (.slice kp i kc) i ((Yx l i).map V0)∧V.ownsRow w.heap.size 9 1 (.slice vp i vc) i ((Ky l i).map sv)∧i≤Zp l∧Yh l i=0) ⟨0,none,0,none,0,rfl,rfl,h5,j8,i0,World.ownsRow_nil _ _ _ _,World.ownsRow_nil _ _ _ _,Nat.zero_le _,rfl⟩ ?_
 rintro _ _ o6 ⟨i,kp,kc,vp,vc,rfl,rfl,a5,a0,b9,hK,hV,hi,hz⟩ o3 e8 p7
 have k9:(i+1)*Xk l=i*Xk l+Xk l:=Nat.succ_mul i (Xk l)
 have m8:i<Zp l→(i+1)*Xk l≤Xl l*Xk l:=fun hh=>Nat.mul_le_mul_right _ (by omega)
 refine xid 6 ((i:Int)<(↑(Zp l):Int)) (fun i9=>?_) (fun i9=>?_)
 ·refine xwm 14 ((i:Int)*8) (↑(i*8):Int) ?_
  refine xwm 0 (12+(↑(i*8):Int)) (↑(12+(i*8)):Int) ?_
  refine xc 0 (args:=#[.slice a 244 c,V0 (↑(12+(i*8)):Int),V0 8]) (Get_P a 244 c (12+(i*8)) 8 l _ hl (by decide) (by omega) (by decide) (h.below a5) 8 rfl) ?_
  rintro e p1 i6
  rcases i6 with ⟨l9,rfl,a3⟩|⟨l9,rfl,a3⟩
  ·have a7:=b9.below a3
   refine xb 17 2 a7 ?_
   have g0:=Zb hK a3
   refine xc 1 (args:=#[.slice kp i kc,V0 (↑(Cs l i):Int)]) (node_keyP l kp i kc _ (Zh g0) (by omega)) ?_
   rintro e o7 i5
   rcases i5 with ⟨e6,rfl,a4⟩|⟨e6,rfl,a4⟩
   ·have a6:=a7.below a4
    refine xb 16 2 a6 ?_
    refine xbs 1 1 [V0 (↑(Cs l i):Int)] 3 fun p9 p2 c8=>?_
    have e9:=bln (bln a5 a3) a4
    have p0:=c8.ge e9
    have f6:=Zb g0 a4
    have h7:=Zw f6 c8
    have c3:=Zb f6 c8.below
    have d2:=bln e9 c8.below
    refine xbi 0 fun _ _ _ _ zJ zQ zo zx zy zK=>Zu (m:=1) (news:=[V0 (↑(Cs l i):Int)]) (V0 0) 1 8 (i+1) ((Yx l (i+1)).map V0) zo Tryz.underlying28 (by kernel_rfl) rfl (by decide) zx c3 zy (c8.blk.sl 1 1 (by decide) (by decide)) rfl (by simp[Value.oneCell']) (by unfold maxLen;omega) (by omega) d2.size (by rfl) (by rw[Ln,List.map_append];rfl) fun e1 e4 p8 k8 c7 h4=>?_
    refine zK _ _ ?_
    have a1:=(a6.below c8.below).grown c7 c3 (by decide)
    refine xs 1 a1 [V0 (Xw l),.bool (Xm l),.slice e1 (i+1) e4,.slice vp i vc] fun d6 e5 k6=>?_
    refine xd 2 (.t w.heap.size [9,38]) ?_
    refine xwm (.e [0,2,3,4,5] 6) ((i:Int)*(↑(Xk l):Int)) (↑(i*(Xk l)):Int) ?_
    refine xwm (.e [] 7) ((↑(12+((Xl l)*8)):Int)+(↑(i*(Xk l)):Int)) (↑((12+((Xl l)*8))+(i*(Xk l))):Int) ?_
    refine xwm (.e [8,9] 10) ((i:Int)+1) (↑(i+1):Int) ?_
    refine xwm (.e [11] 12) ((↑(i+1):Int)*(↑(Xk l):Int)) (↑((i+1)*(Xk l)):Int) ?_
    refine xwm (.e [] 13) ((↑(12+((Xl l)*8)):Int)+(↑((i+1)*(Xk l)):Int)) (↑((12+((Xl l)*8))+((i+1)*(Xk l))):Int) ?_
    refine xsB (.e [] 14) (fun _ _ _ _ _ zo zx zy zz V=>Qt (k:=((12+((Xl l)*8))+(i*(Xk l)))) (h:=((12+((Xl l)*8))+((i+1)*(Xk l)))) (b:=a) (n:=244) (c:=c) (i:=(↑((12+((Xl l)*8))+(i*(Xk l))):Int)) (ki:=.i64) (j:=(↑((12+((Xl l)*8))+((i+1)*(Xk l))):Int)) (kj:=.i64) 1 zo zx zy rfl zz rfl (by omega) (by omega) Tryz.underlying22 (by kernel_rfl) V) ?_
    have b4:=Zb (e5.own2 (Zj (Zb (Zb (Zb hV a3) a4) c8.below) c7 c3 (by decide)) a1 (by decide)) (Za d6)
    have a8:=bln (e5.below (d2.trans h4) g6) (Za d6)
    refine xcvt (.e [] 15) (.t w.heap.size [9,38]) (fun _ _ _ zo zx V b4=>Jf zo zx ((valN_bys h hl (by omega) k9).below (Kv a8 b4 (Nat.le_refl _))) (valN_lenN hl (by omega) k9) Tryz.underlying22 Tryz.underlying5 Tryz.underlying9) ?_
    refine xm2 0 1 16 ?_ ?_
    ·have d8:=k6.below (Za d6)
     refine xb 0 3 d8 ?_
     refine xbs (.o [] 16) 1 [.string ⟨(Cv l i).toArray⟩] 9 fun o9 o5 d5=>?_
     have n2:=d5.ge a8
     have i1:=Zw b4 d5
     have b8:=Zb b4 d5.below
     have d3:=bln a8 d5.below
     refine ybi (.o [] 17) (.t w.heap.size [9,38]) fun _ _ _ _ zJ zQ zo zx zy zK=>Zu (m:=1) (news:=[.string ⟨(Cv l i).toArray⟩]) (.string ⟨#[]⟩) 1 16 (i+1) ((Ky l (i+1)).map sv) zo Tryz.underlying36 (by kernel_rfl) rfl (by decide) zx b8 zy (d5.blk.sl 1 1 (by decide) (by decide)) rfl (by simp[Value.oneCell']) (by unfold maxLen;omega) (by omega) d3.size (by rfl) (by rw[Hp,List.map_append];rfl) fun k2 i2 o2 m9 d0 f2=>?_
     refine zK _ _ (Zr f2 d0 b8 (by decide)) ?_
     have a9:=(d8.below d5.below).grown d0 b8 (by decide)
     refine ys (.o [18] 19) a9 [V0 (Xw l),.bool (Xm l),.slice e1 (i+1) e4,.slice k2 (i+1) i2] (.t w.heap.size [9,38]) fun n5 f8 m5=>⟨(Zo f8 a9 g6 (by decide)),?_⟩
     refine xwm 4 ((i:Int)+1) (↑(i+1):Int) ?_
     have h1:=f8.below (d3.trans f2) g6
     have b5:=f8.blk ((((e5.blk ((((a0.below a3).below a4).below c8.below).grown c7 c3 (by decide)) (Ne.symm (Ne.symm a2))).below (Za d6)).below d5.below).grown d0 b8 (by decide)) (Ne.symm (Ne.symm a2))
     have f9:=f8.own2 (Zj (Zb (Zb (e5.own2 k8 a1 (by decide)) (Za d6)) d5.below) d0 b8 (by decide)) a9 (by decide)
     have g4:=f8.own2 m9 a9 (by decide)
     exact ze 2 (e8 _ _ _ ⟨i+1,_,_,_,_,rfl,rfl,h1,b5,m5,f9,g4,by omega,Vq hz e6⟩ (by omega))
    refine xbs 0 1 [.string ⟨(Cv l i).toArray⟩] 9 fun n7 p5 d1=>?_
    have n8:=d1.ge a8
    have i7:=Zw b4 d1
    have d7:=(k6.below (Za d6)).below d1.below
    refine xb (.o [] 1) 3 d7 ?_
    have c4:=Zb b4 d1.below
    have d4:=bln a8 d1.below
    refine ybi (.o [] 17) (.t w.heap.size [9,38]) fun _ _ _ _ zJ zQ zo zx zy zK=>Zu (m:=1) (news:=[.string ⟨(Cv l i).toArray⟩]) (.string ⟨#[]⟩) 1 16 (i+1) ((Ky l (i+1)).map sv) zo Tryz.underlying36 (by kernel_rfl) rfl (by decide) zx c4 zy (d1.blk.sl 1 1 (by decide) (by decide)) rfl (by simp[Value.oneCell']) (by unfold maxLen;omega) (by omega) d4.size (by rfl) (by rw[Hp,List.map_append];rfl) fun i4 j6 o0 l4 c9 g5=>?_
    refine zK _ _ (Zr g5 c9 c4 (by decide)) ?_
    have b0:=d7.grown c9 c4 (by decide)
    refine ys (.o [18] 19) b0 [V0 (Xw l),.bool (Xm l),.slice e1 (i+1) e4,.slice i4 (i+1) j6] (.t w.heap.size [9,38]) fun n0 f7 l6=>⟨(Zo f7 b0 g6 (by decide)),?_⟩
    refine xwm 4 ((i:Int)+1) (↑(i+1):Int) ?_
    have e7:=f7.below (d4.trans g5) g6
    have b7:=f7.blk ((((e5.blk ((((a0.below a3).below a4).below c8.below).grown c7 c3 (by decide)) (Ne.symm (Ne.symm a2))).below (Za d6)).below d1.below).grown c9 c4 (by decide)) (Ne.symm (Ne.symm a2))
    have g8:=f7.own2 (Zj (Zb (Zb (e5.own2 k8 a1 (by decide)) (Za d6)) d1.below) c9 c4 (by decide)) b0 (by decide)
    have f4:=f7.own2 l4 b0 (by decide)
    exact ze 2 (e8 _ _ _ ⟨i+1,_,_,_,_,rfl,rfl,e7,b7,l6,g8,f4,by omega,Vq hz e6⟩ (by omega))
   refine xk 10 (show(((Py l i) != (0:Int)):Bool)=true from bne_iff_ne.2 e6) ?_
   have c5:=(a0.below a3).below a4
   refine xsv 4 c5 [V0 0,.bool false,S0,S0] fun p4 m6 l3=>?_
   have g1:=n1.ge (B3 w)
   have g7:=m6.below (bln (bln a5 a3) a4) g1
   refine xec 10 l3 (.tuple #[.agg #[V0 0,.bool false,S0,S0],V0 (Py l i)]) ?_
   have he:Yz l=Py l i:=by unfold Yz;rw[if_pos hs,if_pos j4,Ud hz e6 (by omega)]
   exact .inl ⟨by rw[he];exact e6,by rw[he],g7⟩
  have c2:=a0.below a3
  refine xsv 29 c2 [V0 0,.bool false,S0,S0] fun o1 l2 m7=>?_
  have g1:=n1.ge (B3 w)
  have h0:=l2.below (bln a5 a3) g1
  refine xec 10 m7 (.tuple #[.agg #[V0 0,.bool false,S0,S0],V0 2]) ?_
  have k3:Py l i=2:=by unfold Py;rw[if_pos (by unfold Cs;omega)]
  have he:Yz l=2:=by unfold Yz;rw[if_pos hs,if_pos j4,Ud hz (by rw[k3];decide) (by omega),k3]
  exact .inl ⟨by rw[he];decide,by rw[he],h0⟩
 refine xlv 7 b9.rp ?_
 refine xsv 0 a0 [V0 (Xw l),.bool (Xm l),.slice kp i kc,.slice vp i vc] fun o8 j9 l7=>?_
 have g1:=n1.ge (B3 w)
 have f3:=j9.below a5 g1
 have i8:=j9.own2 hK a0 (by decide)
 have i3:=j9.own2 hV a0 (by decide)
 refine xec 4 l7 (.tuple #[.agg #[V0 (Xw l),.bool (Xm l),.slice kp i kc,.slice vp i vc],V0 0]) ?_
 obtain rfl:i=Zp l:=by omega
 exact .inr ⟨by unfold Yz;rw[if_pos hs,if_pos j4,hz],_,_,_,_,rfl,f3,i8,i3⟩
theorem Kl{P:Program}{a:Act}{w:World}{K:Act→World→Prop}{Q:Exit→Act→World→Prop}{o:Oper}{src dst e:TypeId}{x:Operand}(l:Bl)(ho:o.op=.convert src dst x)(hx:a.eval x=.string ⟨l.toArray⟩)
 (hs:P.underlying src=some .string) (hd:P.underlying dst=some (.slice e)) (he:P.underlying e=some (.int .u8)) (hl:l.length≤1000000)
 (k:∀ b c W,B0 w W→Bys W (.slice (S1 b) l.length c) l→K (a.put o.dst (.slice (S1 b) l.length c)) W):o.wp P a w K Q:=by
 have hr:=run_bytes_of_string (P:=P) w src dst e ⟨l.toArray⟩ hs hd he
 have a2:(⟨l.toArray⟩:ByteArray).size=l.length:=by simp[ByteArray.size]
 rw[a2] at hr
 obtain⟨W1,a1⟩:∃ W1,W1=w.drew.alloc (.cells (bytesRow ⟨l.toArray⟩ (grownCap w l.length 0 e)) e ((bytesRow ⟨l.toArray⟩ (grownCap w l.length 0 e)).size,(bytesRow ⟨l.toArray⟩ (grownCap w l.length 0 e)).size+1)):=⟨_,rfl⟩
 rw[←a1] at hr
 have h2:(execOp a.eval o).run P w=.ok (.value (.slice (some ⟨w.heap.size,0,none⟩) l.length (grownCap w l.length 0 e))) W1:=by
  simp only[execOp,ho,hx,Sem.run_bind,hr];rfl
 refine Ww h2 (k _ _ _ (by rw[a1];exact(Za w).trans (show Below w.drew.heap.size w.drew _ from blx w.drew _)) (.inr ⟨w.heap.size,0,_,rfl,grownCap_ge w l.length 0 e,grownCap_le_maxLen w l.length 0 e (by unfold maxLen;omega),fun j y hj=>?_⟩))
 have a0:j<l.length:=by have:=(List.getElem?_eq_some_iff.1 hj).1;simpa using this
 have hb:=bytesRow_at ⟨l.toArray⟩ (grownCap w l.length 0 e) j (by simpa using a0)
 have hy:y=.int .u8 ((l.toArray[j]'(by simpa using a0)).toNat:Int):=by
  rw[List.getElem?_map,List.getElem?_eq_getElem a0] at hj
  simp only[Option.map_some,Option.some.injEq] at hj
  rw[←hj];rfl
 have hh:W1.heap[w.heap.size]? = some (.cells (bytesRow ⟨l.toArray⟩ (grownCap w l.length 0 e)) e ((bytesRow ⟨l.toArray⟩ (grownCap w l.length 0 e)).size,(bytesRow ⟨l.toArray⟩ (grownCap w l.length 0 e)).size+1)):=by rw[a1];exact heap_alloc_new w.drew _
 rw[hy]
 simp[World.cell?,hh,hb]
def Xy(s:Bl):Int:=if s.length=4 then(if 1≤Zi s 0 4∧Zi s 0 4≤14399 then 0 else 2) else 7
def Qf(s:Bl):Nat:=if Xy s=0 then Zi s 0 4 else 0
theorem Zeh(bs:ByteArray)(i:Nat)(r:Bl)(h:i≤bs.size):(ByteArray.toList.loop bs i r).length=r.length+(bs.size-i):=by
 rw[ByteArray.toList.loop]
 split
 ·rename_i h2
  rw[Zeh bs (i+1) _ (by omega)]
  simp;omega
 ·simp;omega
termination_by bs.size-i
theorem Sd(bs:ByteArray):bs.toList.length=bs.size:=by
 unfold ByteArray.toList;rw[Zeh _ _ _ (Nat.zero_le _)];simp
theorem four_ne(n:Int):((⟨(leB n 4).toArray⟩:ByteArray).toList==(⟨#[]⟩:ByteArray).toList)=false:=by
 cases hq:((⟨(leB n 4).toArray⟩:ByteArray).toList==(⟨#[]⟩:ByteArray).toList) with
 | false=>rfl
 | true =>
  have e:=congrArg List.length (eq_of_beq hq)
  rw[Sd,Sd] at e
  simp[ByteArray.size,Zt] at e
theorem Zc3(w:World) :
 C0 89 #[] w (Vy (fun w' r=>∃ b,r=.slice (S1 b) 1 1∧w.heap.size≤b∧Blk w' b [V0 4,V0 1,V0 14399] 270) w):=by
 refine zin 3 Tryz.func89 ?_
 refine xbs 8 1 [V0 4,V0 1,V0 14399] 270 fun b1 W1 n1=>?_
 have g1:=n1.ge (B3 w)
 exact xe 4 (.slice (S1 b1) 1 1) ⟨_,rfl,n1.below,_,rfl,g1,n1.blk⟩
theorem Zgk(gl:Nat)(an:O0)(cn:Nat)(n:Int)(w:World)(hl:Blk w gl [V0 4,V0 1,V0 14399] 270)(hn:Sl w (.slice an 1 cn) 1 [V0 n])(h1:1≤n)(h2:n≤14399) :
 C0 87 #[.slice (S1 gl) 1 1,.slice an 1 cn] w (Ret (.string ⟨(leB n 4).toArray⟩) w):=by
 have b3:=h1
 have b6:=h2
 clear h2
 refine zin 51 Tryz.func87 ?_
 refine xu 19 2 ?_
 refine xlv 15 hl.rp ?_
 refine xa 0 [V0 0,V0 0,V0 0] 270 fun b1 W1 n1=>?_
 have a6:=n1.ne hl
 refine xsv 1 n1.blk [V0 4,V0 1,V0 14399] fun W2 u2 k2=>?_
 have g1:=n1.ge (B3 w)
 refine xd 4 .z ?_
 refine xx (.e [0,1] 2) _ 1 0 1 (Ints.elem (l:=[n]) hn (k:=0) (by simp)).1 ?_
 have hB:=bln (u2.below n1.below g1) (Za W2)
 refine xl (.e [] 3) ((Ints.elem (l:=[n]) (hn.below hB) (k:=0) (by simp)).2) ?_
 have a1:=k2.below (Za W2)
 refine xb (.e [4] 5) 1 a1 ?_
 refine xgk (.b [6,7]) [23,24] (show(decide (n<(1:Int)):Bool)=false from decide_eq_false (by omega)) ?_
 refine xx (.e [8,9] 10) _ 1 0 1 (Ints.elem (l:=[n]) hn (k:=0) (by simp)).1 ?_
 refine xl (.e [] 11) ((Ints.elem (l:=[n]) (hn.below hB) (k:=0) (by simp)).2) ?_
 refine xb (.e [12] 13) 2 a1 ?_
 refine xk (.r [14,15] 2) (show(decide (n>(14399:Int)):Bool)=false from decide_eq_false (by omega)) ?_
 refine xd 3 .z ?_
 have a4:=a1.below (Za W2.drew)
 refine xb (.e [0] 1) 0 a4 ?_
 refine xx (.e [2,3] 4) _ 1 0 1 (Ints.elem (l:=[n]) hn (k:=0) (by simp)).1 ?_
 have a0:=bln hB (Za W2.drew)
 refine xl (.e [] 5) ((Ints.elem (l:=[n]) (hn.below a0) (k:=0) (by simp)).2) ?_
 refine xbs (.o [6] 7) 1 [V0 4,V0 n] 229 fun b4 W4 n4=>?_
 have g4:=n4.ge a0
 refine yc (.o [] 8) (args:=#[.slice (S1 b4) 1 1]) .z (Pack_4 b4 n (by omega) (by omega) _ n4.blk) ?_
 rintro _ W5 ⟨_,rfl,a7,p2,c2,rfl,h2⟩
 have a8:=(bln a0 n4.below).size
 refine⟨a7,?_⟩
 have o6:=World.ownsRow_nil W5 w.heap.size 5 1
 have a3:=Zg h2 a8
 have a2:=bln (bln a0 n4.below) a7
 refine xbi (.r [9,10,11,12,13] 5) fun _ _ _ _ zJ zQ zo zx zy zK=>Zu (m:=4) (news:=(leB n 4).map bv) (.int .u8 0) 1 1 (4) ((leB n 4).map bv) zo Tryz.underlying22 (by kernel_rfl) rfl (by decide) zx o6 zy (Zh a3) (by simp[Zt]) (Kf _) (by unfold maxLen;omega) (by omega) a2.size (by rfl) (by simp) fun b5 b0 W7 o7 b2 a9=>?_
 refine zK _ _ ?_
 refine xcv0 24 (fun _ _ _ zo zx=>Jf zo zx (Ko (Zh o7) (Zt _ _)) (Zt _ _) Tryz.underlying22 Tryz.underlying5 Tryz.underlying9) ?_
 have a5:=a2.trans a9
 exact xe 4 (.string ⟨(leB n 4).toArray⟩) ⟨rfl,a5⟩
theorem Zgt(gl:Nat)(an:O0)(cn:Nat)(n:Int)(w:World)(hl:Blk w gl [V0 4,V0 1,V0 14399] 270)(hn:Sl w (.slice an 1 cn) 1 [V0 n])(h:¬ (1≤n∧n≤14399)) :
 C0 87 #[.slice (S1 gl) 1 1,.slice an 1 cn] w (Ret (.string ⟨#[]⟩) w):=by
 refine zin 51 Tryz.func87 ?_
 refine xu 19 2 ?_
 refine xlv 15 hl.rp ?_
 refine xa 0 [V0 0,V0 0,V0 0] 270 fun b1 W1 n1=>?_
 have a2:=n1.ne hl
 refine xsv 1 n1.blk [V0 4,V0 1,V0 14399] fun W2 u2 k2=>?_
 have g1:=n1.ge (B3 w)
 refine xd 4 .z ?_
 refine xx (.e [0,1] 2) _ 1 0 1 (Ints.elem (l:=[n]) hn (k:=0) (by simp)).1 ?_
 have hB:=bln (u2.below n1.below g1) (Za W2)
 refine xl (.e [] 3) ((Ints.elem (l:=[n]) (hn.below hB) (k:=0) (by simp)).2) ?_
 have a1:=k2.below (Za W2)
 refine xb (.e [4] 5) 1 a1 ?_
 refine xg (.b [6,7]) [23,24] (decide (n<(1:Int))) (fun a0=>?_) (fun a0=>?_)
 ·have a0:=of_decide_eq_true a0
  exact xe (.r [8,9,10,11,12,13,14,15] 15) (.string ⟨#[]⟩) ⟨rfl,hB⟩
 have a0:=of_decide_eq_false a0
 refine xx (.e [8,9] 10) _ 1 0 1 (Ints.elem (l:=[n]) hn (k:=0) (by simp)).1 ?_
 refine xl (.e [] 11) ((Ints.elem (l:=[n]) (hn.below hB) (k:=0) (by simp)).2) ?_
 refine xb (.e [12] 13) 2 a1 ?_
 refine xk (.r [14,15] 2) (show(decide (n>(14399:Int)):Bool)=true from decide_eq_true (by omega)) ?_
 exact xe 12 (.string ⟨#[]⟩) ⟨rfl,hB⟩
theorem Rw(gl:Nat)(s:Bl)(w:World)(hl:Blk w gl [V0 4,V0 1,V0 14399] 270)(hs:s.length≤1000)(h4:s.length≠4) :
 C0 140 #[.slice (S1 gl) 1 1,.string ⟨s.toArray⟩] w (Vy (fun w' r=>∃ p c,r=.tuple #[.slice p 1 c,V0 7]∧w'.ownsRow w.heap.size 3 1 (.slice p 1 c) 1 [V0 0]) w):=by
 refine zin 54 Tryz.func140 ?_
 refine xu 25 2 ?_
 refine xlv 14 hl.rp ?_
 refine xa 0 [V0 0,V0 0,V0 0] 270 fun b1 W1 n1=>?_
 have a3:=n1.ne hl
 refine xsv 0 n1.blk [V0 4,V0 1,V0 14399] fun W2 u2 k2=>?_
 have g1:=n1.ge (B3 w)
 refine xb 6 0 k2 ?_
 refine xbs 0 1 [V0 4] 3 fun b3 W3 n3=>?_
 have o4:=World.ownsRow_nil W3 w.heap.size 3 1
 have hB:=bln (u2.below n1.below g1) n3.below
 refine xbi 0 fun _ _ _ _ zJ zQ zo zx zy zK=>Zu (m:=1) (news:=[V0 4]) (V0 0) 1 8 (1) ([Value.int .i64 4]) zo Tryz.underlying28 (by kernel_rfl) rfl (by decide) zx o4 zy (n3.blk.sl 1 1 (by decide) (by decide)) rfl (by simp[Value.oneCell']) (by unfold maxLen;omega) (by omega) hB.size (by rfl) (by rfl) fun a7 a8 W5 o5 a6 a5=>?_
 refine zK _ _ ?_
 have a2:=(k2.below n3.below).grown a6 o4 (by decide)
 refine xb 6 0 a2 ?_
 refine xk 31 (show(((s.length:Int) != (4:Int)):Bool)=true from bne_iff_ne.2 (by omega)) ?_
 refine xmk 4 fun _ _ _ _ zJ zQ zo zx zy zK=>Gn 1 (V0 0) 1 8 [Value.int .i64 0] zo zx zy Tryz.underlying28 (by kernel_rfl) rfl (by omega) (by omega) (rfl) fun b6 W6 n6=>?_
 have a0:=hB.trans a5
 have g6:=n6.ge a0
 have a4:=Zw o5 n6
 refine zK _ _ ?_
 have a1:=bln a0 n6.below
 have o6:=Xa (size:=1) (n:=1) n6.blk g6 (rfl) (by unfold maxLen;omega)
 exact xe 6 (.tuple #[.slice (S1 b6) 1 1,V0 7]) ⟨_,rfl,a1,_,_,rfl,o6⟩
theorem Aj(gl:Nat)(s:Bl)(w:World)(hl:Blk w gl [V0 4,V0 1,V0 14399] 270)(hs:s.length≤1000)(h4:s.length=4)(h1:1≤Zi s 0 4)(h2:Zi s 0 4≤14399) :
 C0 140 #[.slice (S1 gl) 1 1,.string ⟨s.toArray⟩] w (Vy (fun w' r=>∃ p c,r=.tuple #[.slice p 1 c,V0 0]∧w'.ownsRow w.heap.size 3 1 (.slice p 1 c) 1 [V0 (↑(Zi s 0 4):Int)]) w):=by
 refine zin 54 Tryz.func140 ?_
 refine xu 25 2 ?_
 refine xlv 14 hl.rp ?_
 refine xa 0 [V0 0,V0 0,V0 0] 270 fun b1 W1 n1=>?_
 have a0:=n1.ne hl
 refine xsv 0 n1.blk [V0 4,V0 1,V0 14399] fun W2 u2 k2=>?_
 have g1:=n1.ge (B3 w)
 refine xb 6 0 k2 ?_
 refine xbs 0 1 [V0 4] 3 fun b3 W3 n3=>?_
 have o4:=World.ownsRow_nil W3 w.heap.size 3 1
 have hB:=bln (u2.below n1.below g1) n3.below
 refine xbi 0 fun _ _ _ _ zJ zQ zo zx zy zK=>Zu (m:=1) (news:=[V0 4]) (V0 0) 1 8 (1) ([Value.int .i64 4]) zo Tryz.underlying28 (by kernel_rfl) rfl (by decide) zx o4 zy (n3.blk.sl 1 1 (by decide) (by decide)) rfl (by simp[Value.oneCell']) (by unfold maxLen;omega) (by omega) hB.size (by rfl) (by rfl) fun a8 b0 W5 o5 b5 b4=>?_
 refine zK _ _ ?_
 have a5:=(k2.below n3.below).grown b5 o4 (by decide)
 refine xb 6 0 a5 ?_
 refine xk 31 (show(((s.length:Int) != (4:Int)):Bool)=false from by rw[h4];rfl) ?_
 refine xcf 5 fun _ _ _ zJ zQ zo zx zK=>Kl s zo zx Tryz.underlying9 Tryz.underlying22 Tryz.underlying5 (by omega) ?_
 intro bz cz W6 a2 b6
 refine zK _ _ ?_
 have a7:=Zb o5 a2
 refine xc 1 (args:=#[.slice (S1 bz) s.length cz,.slice a8 1 b0]) (Bc (S1 bz) s.length cz s a8 b0 1 [4] [Zi s 0 4] _ rfl rfl rfl (by decide) (by simp;omega) (by omega) (by decide) b6 (Zh a7) (fun i hi=>by obtain rfl:i=0:=(by simpa using hi);have:=Ym s 0 4 (by decide);simp[Hf];omega)) ?_
 rintro _ W7 ⟨_,rfl,b2,p5,c5,rfl,h5⟩
 have b7:=(bln (hB.trans b4) a2).size
 have a3:=((((u2.blk (hl.below n1.below) (Ne.symm (Ne.symm a0))).below n3.below).grown b5 o4 (by decide)).below a2).below b2
 have a1:=Zg h5 b7
 refine xr 15 (args:=#[.slice (S1 gl) 1 1,.slice p5 1 c5]) (Zgk gl p5 c5 (↑(Zi s 0 4):Int) _ a3 (Zh a1) (by omega) (by omega)) fun W8 a9=>?_
 refine xk 4 (show(((⟨(leB (↑(Zi s 0 4):Int) 4).toArray⟩:ByteArray).toList==(⟨#[]⟩:ByteArray).toList):Bool)=false from four_ne _) ?_
 have a6:=bln (bln (bln (hB.trans b4) a2) b2) a9
 have a4:=Zb a1 a9
 exact xe 10 (.tuple #[.slice p5 1 c5,V0 0]) ⟨_,rfl,a6,_,_,rfl,a4⟩
theorem Rq(gl:Nat)(s:Bl)(w:World)(hl:Blk w gl [V0 4,V0 1,V0 14399] 270)(hs:s.length≤1000)(h4:s.length=4)(h1:¬ (1≤(Zi s 0 4:Int)∧(Zi s 0 4:Int)≤14399)) :
 C0 140 #[.slice (S1 gl) 1 1,.string ⟨s.toArray⟩] w (Vy (fun w' r=>∃ p c,r=.tuple #[.slice p 1 c,V0 2]∧w'.ownsRow w.heap.size 3 1 (.slice p 1 c) 1 [V0 0]) w):=by
 refine zin 54 Tryz.func140 ?_
 refine xu 25 2 ?_
 refine xlv 14 hl.rp ?_
 refine xa 0 [V0 0,V0 0,V0 0] 270 fun b1 W1 n1=>?_
 have a1:=n1.ne hl
 refine xsv 0 n1.blk [V0 4,V0 1,V0 14399] fun W2 u2 k2=>?_
 have g1:=n1.ge (B3 w)
 refine xb 6 0 k2 ?_
 refine xbs 0 1 [V0 4] 3 fun b3 W3 n3=>?_
 have o4:=World.ownsRow_nil W3 w.heap.size 3 1
 have hB:=bln (u2.below n1.below g1) n3.below
 refine xbi 0 fun _ _ _ _ zJ zQ zo zx zy zK=>Zu (m:=1) (news:=[V0 4]) (V0 0) 1 8 (1) ([Value.int .i64 4]) zo Tryz.underlying28 (by kernel_rfl) rfl (by decide) zx o4 zy (n3.blk.sl 1 1 (by decide) (by decide)) rfl (by simp[Value.oneCell']) (by unfold maxLen;omega) (by omega) hB.size (by rfl) (by rfl) fun b8 c0 W5 o5 b7 b6=>?_
 refine zK _ _ ?_
 have a5:=(k2.below n3.below).grown b7 o4 (by decide)
 refine xb 6 0 a5 ?_
 refine xk 31 (show(((s.length:Int) != (4:Int)):Bool)=false from by rw[h4];rfl) ?_
 refine xcf 5 fun _ _ _ zJ zQ zo zx zK=>Kl s zo zx Tryz.underlying9 Tryz.underlying22 Tryz.underlying5 (by omega) ?_
 intro bz cz W6 a4 c1
 refine zK _ _ ?_
 have a0:=Zb o5 a4
 refine xc 1 (args:=#[.slice (S1 bz) s.length cz,.slice b8 1 c0]) (Bc (S1 bz) s.length cz s b8 c0 1 [4] [Zi s 0 4] _ rfl rfl rfl (by decide) (by simp;omega) (by omega) (by decide) c1 (Zh a0) (fun i hi=>by obtain rfl:i=0:=(by simpa using hi);have:=Ym s 0 4 (by decide);simp[Hf];omega)) ?_
 rintro _ W7 ⟨_,rfl,a7,p5,c5,rfl,h5⟩
 have c2:=(bln (hB.trans b6) a4).size
 have a6:=((((u2.blk (hl.below n1.below) (Ne.symm (Ne.symm a1))).below n3.below).grown b7 o4 (by decide)).below a4).below a7
 have a3:=Zg h5 c2
 refine xr 15 (args:=#[.slice (S1 gl) 1 1,.slice p5 1 c5]) (Zgt gl p5 c5 (↑(Zi s 0 4):Int) _ a6 (Zh a3) (by omega)) fun W8 b0=>?_
 refine xmk 9 fun _ _ _ _ zJ zQ zo zx zy zK=>Gn 1 (V0 0) 1 8 [Value.int .i64 0] zo zx zy Tryz.underlying28 (by kernel_rfl) rfl (by omega) (by omega) (rfl) fun b9 W9 n9=>?_
 have a2:=bln (bln (bln (hB.trans b6) a4) a7) b0
 have g9:=n9.ge a2
 have b2:=Zb (Zb a0 a7) b0
 have b4:=Zw b2 n9
 have a8:=Zb a3 b0
 have b5:=Zw a8 n9
 refine zK _ _ ?_
 have a9:=bln a2 n9.below
 have o9:=Xa (size:=1) (n:=1) n9.blk g9 (rfl) (by unfold maxLen;omega)
 exact xe 6 (.tuple #[.slice (S1 b9) 1 1,V0 2]) ⟨_,rfl,a9,_,_,rfl,o9⟩
theorem Zbt(gl:Nat)(s:Bl)(w:World)(hl:Blk w gl [V0 4,V0 1,V0 14399] 270)(hs:s.length≤1000):C0 140 #[.slice (S1 gl) 1 1,.string ⟨s.toArray⟩] w (Vy (fun w' r=>∃ p c,r=.tuple #[.slice p 1 c,V0 (Xy s)]∧w'.ownsRow w.heap.size 3 1 (.slice p 1 c) 1 [V0 (Qf s:Int)]) w):=by
 by_cases h4:s.length=4
 ·by_cases h1:1≤Zi s 0 4∧Zi s 0 4≤14399
  ·have he:Xy s=0:=by unfold Xy;rw[if_pos h4,if_pos h1]
   rw[he,Qf,if_pos he]
   exact Aj gl s w hl hs h4 h1.1 h1.2
  ·have he:Xy s=2:=by unfold Xy;rw[if_pos h4,if_neg h1]
   rw[he,Qf,if_neg (by rw[he];decide)]
   exact Rq gl s w hl hs h4 (by omega)
 ·have he:Xy s=7:=by unfold Xy;rw[if_neg h4]
  rw[he,Qf,if_neg (by rw[he];decide)]
  exact Rw gl s w hl hs h4
theorem Nf(s:Bl)(w:World)(hs:s.length≤1000) :
 C0 144 #[.string ⟨s.toArray⟩] w (Ret (.tuple #[V0 (Qf s:Int),V0 (Xy s)]) w):=by
 refine zin 16 Tryz.func144 ?_
 refine xc 8 (args:=#[]) (Zc3 _) ?_
 rintro _ W1 ⟨_,rfl,a1,gl,rfl,gg,kl⟩
 refine xc 1 (args:=#[.slice (S1 gl) 1 1,.string ⟨s.toArray⟩]) (Zbt gl s _ kl hs) ?_
 rintro _ W2 ⟨_,rfl,a2,p5,c5,rfl,h5⟩
 have a0:=Zg h5 a1.size
 refine xx 10 _ 1 0 1 (Ints.elem (l:=[(Qf s:Int)]) (Zh a0) (k:=0) (by simp)).1 ?_
 refine xl 0 ((Ints.elem (l:=[(Qf s:Int)]) (Zh a0) (k:=0) (by simp)).2) ?_
 have hB:=bln a1 a2
 exact xe 6 (.tuple #[V0 (↑(Qf s):Int),V0 (Xy s)]) ⟨rfl,hB⟩
abbrev Pt:=Nat×Int×Int
def Zcf(p:Pt):List Value:=[V0 (p.1:Int),V0 p.2.1,V0 p.2.2]
theorem Uc(p:Pt):(Zcf p).length=3:=rfl
def Yq:Pt:=(4,0,0)
def Gs(ps:List Pt):Prop:=ps.length≤1000∧∀ i,i<ps.length→((ps.getD i Yq).1=4∨(ps.getD i Yq).1=8)∧0≤(ps.getD i Yq).2.1∧(ps.getD i Yq).2.2<9223372036854775808∧((ps.getD i Yq).1=4→(ps.getD i Yq).2.2<4294967296)
def inP (p:Pt)(n:Int):Bool:=decide (p.2.1≤n∧n≤p.2.2)
def Pw(ps:List Pt)(N:List Int)(k:Nat):Bool:=(List.range k).all fun i=>inP (ps.getD i Yq) (N.getD i 0)
theorem Zft(ps:List Pt)(N:List Int)(k:Nat):Pw ps N (k+1)=(Pw ps N k&&inP (ps.getD k Yq) (N.getD k 0)):=by simp[Pw,List.range_succ]
theorem Tc{ps:List Pt}{N:List Int}{i k:Nat}(hi:i<k)(h:inP (ps.getD i Yq) (N.getD i 0)=false):Pw ps N k=false:=by
 unfold Pw
 rw[List.all_eq_false]
 exact⟨i,List.mem_range.2 hi,by rw[h];decide⟩
def Ze1(ps:List Pt)(N:List Int)(k:Nat):Bl:=(List.range k).flatMap fun i=>leB (N.getD i 0) (ps.getD i Yq).1
theorem Fq(ps:List Pt)(N:List Int)(k:Nat):Ze1 ps N (k+1)=Ze1 ps N k++leB (N.getD k 0) (ps.getD k Yq).1:=by simp[Ze1,List.range_succ]
def Gw(ps:List Pt)(k:Nat):List Nat:=(List.range k).map fun i=>(ps.getD i Yq).1
theorem Jz(ps:List Pt)(k:Nat):Gw ps (k+1)=Gw ps k++[(ps.getD k Yq).1]:=by simp[Gw,List.range_succ]
theorem Mn(ps:List Pt)(k:Nat):(Gw ps k).length=k:=by simp[Gw]
theorem wids_get(ps:List Pt){k i:Nat}(h:i<k):(Gw ps k).getD i 0=(ps.getD i Yq).1:=by simp[Gw,List.getD,List.getElem?_range h]
theorem Zew(ps:List Pt)(N:List Int)(k:Nat):(Ze1 ps N k).length=(Gw ps k).sum:=by
 induction k with
 | zero=>rfl
 | succ k ih=>rw[Fq,Jz,List.length_append,Zt,ih];simp
theorem Pack_48(g w:Nat)(n:Int)(W:World)(hw:w=4∨w=8)(h0:0≤n)(hb:w=4→n<4294967296)(hk:Blk W g [V0 (w:Int),V0 n] 229):C0 114 #[.slice (S1 g) 1 1] W (Vy (fun w' r=>∃ p c,r=.tuple #[.slice p w c,V0 0]∧w'.ownsRow W.heap.size 5 1 (.slice p w c) w ((leB n w).map bv)) W):=by
 rcases hw with rfl|rfl
 ·exact Pack_4 g n h0 (hb rfl) W hk
 ·exact Pack_8 g n h0 W hk
def ValPutP(ps:List Pt)(N:List Int)(w:World)(e:Ending)(w':World):Prop :=
 (Pw ps N ps.length=false∧e=.returned (.string ⟨#[]⟩)∧B0 w w')∨(Pw ps N ps.length=true∧e=.returned (.string ⟨(Ze1 ps N ps.length).toArray⟩)∧B0 w w')
theorem Zg7(ps:List Pt)(N:List Int)(gl gn:O0)(cl cn:Nat)(w:World)(hps:Gs ps)(hNl:N.length=ps.length)(hP:Sts Zcf w (.slice gl ps.length cl) ps)(hN:Sl w (.slice gn ps.length cn) ps.length (N.map V0)) :
 C0 87 #[.slice gl ps.length cl,.slice gn ps.length cn] w (ValPutP ps N w):=by
 have c1:=hps.1
 refine zin 51 Tryz.func87 ?_
 have hB:=Below.refl w.heap.size w
 refine zl 19 51 (fun zm b8 V=>∃ (i m:Nat) (q:O0) (d:Nat),b8=[(1,.slice gn ps.length cn),(5,.slice q m d),(10,.slice gl ps.length cl),(11,V0 (ps.length:Int)),(12,V0 (i:Int))]∧zm=ps.length-((i:Int)).toNat∧B0 w V∧V.ownsRow w.heap.size 5 1 (.slice q m d) m ((Ze1 ps N i).map bv)∧i≤ps.length∧m=(Gw ps i).sum∧m≤i*8∧Pw ps N i=true) ⟨0,0,_,_,rfl,rfl,hB,World.ownsRow_nil _ _ _ _,Nat.zero_le _,rfl,Nat.zero_le _,rfl⟩ ?_
 rintro _ _ W1 ⟨i,m,q,d,rfl,rfl,a1,ho,hi,hm,c4,a6⟩ J1 b6 r1
 refine xid 6 ((i:Int)<(ps.length:Int)) (fun b5=>?_) (fun b5=>?_)
 ·refine xx 7 _ ps.length i 3 (Sts.cell hP Uc Yq (k:=i) (i:=0) (by omega) rfl).1 ?_
  refine xlv 0 (Sts.rp (k:=i) (hP.below a1) Uc Yq (by omega) (by decide)) ?_
  refine xa 0 [V0 0,V0 0,V0 0] 270 fun b3 W3 n3=>?_
  have g3:=n3.ge a1
  refine xsv 1 n3.blk [V0 (↑(ps.getD i Yq).1:Int),V0 ((ps.getD i Yq).2.1),V0 ((ps.getD i Yq).2.2)] fun W4 u4 k4=>?_
  refine xd 4 .z ?_
  refine xx (.e [0,1] 2) _ ps.length i 1 (IntsN.elem hN hNl (k:=i) (by omega)).1 ?_
  have a0:=bln (u4.below (bln a1 n3.below) g3) (Za W4)
  refine xl (.e [] 3) ((IntsN.elem (hN.below a0) hNl (k:=i) (by omega)).2) ?_
  have a3:=k4.below (Za W4)
  refine xb (.e [4] 5) 1 a3 ?_
  refine xg (.b [6,7]) [23,24] (decide ((N.getD i 0)<(ps.getD i Yq).2.1)) (fun a5=>?_) (fun a5=>?_)
  ·have a5:=of_decide_eq_true a5
   exact xe (.r [8,9,10,11,12,13,14,15] 15) (.string ⟨#[]⟩) (.inl ⟨Tc (i:=i) (by omega) (decide_eq_false (by omega)),rfl,a0⟩)
  have a5:=of_decide_eq_false a5
  refine xx (.e [8,9] 10) _ ps.length i 1 (IntsN.elem hN hNl (k:=i) (by omega)).1 ?_
  refine xl (.e [] 11) ((IntsN.elem (hN.below a0) hNl (k:=i) (by omega)).2) ?_
  refine xb (.e [12] 13) 2 a3 ?_
  refine xid (.r [14,15] 2) ((N.getD i 0)>(ps.getD i Yq).2.2) (fun b2=>?_) (fun b2=>?_)
  ·exact xe 12 (.string ⟨#[]⟩) (.inl ⟨Tc (i:=i) (by omega) (decide_eq_false (by omega)),rfl,a0⟩)
  refine xd 3 .z ?_
  have a9:=a3.below (Za W4.drew)
  refine xb (.e [0] 1) 0 a9 ?_
  refine xx (.e [2,3] 4) _ ps.length i 1 (IntsN.elem hN hNl (k:=i) (by omega)).1 ?_
  have a2:=bln a0 (Za W4.drew)
  refine xl (.e [] 5) ((IntsN.elem (hN.below a2) hNl (k:=i) (by omega)).2) ?_
  refine xbs (.o [6] 7) 1 [V0 (↑(ps.getD i Yq).1:Int),V0 (N.getD i 0)] 229 fun b7 W7 n7=>?_
  have g7:=n7.ge a2
  refine yc (.o [] 8) (args:=#[.slice (S1 b7) 1 1]) .z (Pack_48 b7 (ps.getD i Yq).1 (N.getD i 0) _ (hps.2 i (by omega)).1 (by have:=(hps.2 i (by omega)).2.1;omega) (fun q=>by have:=(hps.2 i (by omega)).2.2.2 q;omega) n7.blk) ?_
  rintro _ W8 ⟨_,rfl,b0,p2,c2,rfl,h2⟩
  have b4:=(bln a2 n7.below).size
  refine⟨b0,?_⟩
  have a7:=Zb (Zb (Zb (Zb (u4.own2 (Zb ho n3.below) n3.blk (by decide)) (Za W4)) (Za W4.drew)) n7.below) b0
  have a8:=Zg h2 b4
  have a4:=bln (bln a2 n7.below) b0
  refine xbi (.r [9,10,11,12,13] 5) fun _ _ _ _ zJ zQ zo zx zy zK=>Zu (m:=(ps.getD i Yq).1) (news:=(leB (N.getD i 0) (ps.getD i Yq).1).map bv) (.int .u8 0) 1 1 ((m+(ps.getD i Yq).1)) (((Ze1 ps N (i+1)).map bv)) zo Tryz.underlying22 (by kernel_rfl) rfl (by decide) zx a7 zy (Zh a8) (by simp[Zt]) (Kf _) (by unfold maxLen;have:=(hps.2 i (by omega)).1;omega) (by have:=(hps.2 i (by omega)).1;omega) a4.size (by rfl) (by rw[Fq,List.map_append]) fun c5 c3 W9 o9 c0 b9=>?_
  refine zK _ _ ?_
  refine xwm 5 ((i:Int)+1) (↑(i+1):Int) ?_
  have b1:=a4.trans b9
  exact ze 2 (b6 _ _ _ ⟨i+1,_,_,_,rfl,rfl,b1,o9,by omega,by rw[Jz,hm];simp,by have:=(hps.2 i (by omega)).1;omega,by rw[Zft,a6];exact decide_eq_true ⟨by omega,by omega⟩⟩ (by omega))
 refine xcv0 8 (fun _ _ _ zo zx=>Jf zo zx (Ko (Zh ho) (by rw[Zew];exact hm.symm)) (by rw[Zew];exact hm.symm) Tryz.underlying22 Tryz.underlying5 Tryz.underlying9) ?_
 refine xe 4 (.string ⟨(Ze1 ps N i).toArray⟩) ?_
 obtain rfl:i=ps.length:=by omega
 exact .inr ⟨a6,rfl,a1⟩
def Pu(ps:List Pt)(s:Bl):List Nat:=Hf s 0 (Gw ps ps.length)
theorem Fo(ps:List Pt)(s:Bl):(Pu ps s).length=ps.length:=by rw[Pu,Ih,Mn]
def Uk(ps:List Pt)(s:Bl):Bool:=Pw ps ((Pu ps s).map fun n:Nat=>(n:Int)) ps.length
def Xn(ps:List Pt)(s:Bl):Int:=if s.length=(Gw ps ps.length).sum then(if Uk ps s then 0 else 2) else 7
def Qi(ps:List Pt)(s:Bl):List Nat:=if Xn ps s=0 then Pu ps s else List.replicate ps.length 0
theorem Vb(ps:List Pt)(s:Bl):(Qi ps s).length=ps.length:=by
 unfold Qi;split
 ·exact Fo ps s
 ·simp
theorem readOk_lt{ps:List Pt}{s:Bl}(hp:Gs ps)(h:Uk ps s=true):∀ i,i<(Gw ps ps.length).length→(Hf s 0 (Gw ps ps.length)).getD i 0<9223372036854775808:=by
 intro i hi
 rw[Mn] at hi
 unfold Uk Pw at h
 rw[List.all_eq_true] at h
 have h1:=of_decide_eq_true (h i (List.mem_range.2 hi))
 have h2:=(hp.2 i hi).2.2.1
 rw[show((Pu ps s).map fun n:Nat=>(n:Int)).getD i 0=(((Pu ps s).getD i 0:Nat):Int) by simp[List.getD,show i<(Pu ps s).length by rw[Fo];exact hi]] at h1
 change (Pu ps s).getD i 0<_
 omega
theorem map_nv(l:List Nat):l.map nv=(l.map fun n:Nat=>(n:Int)).map V0:=by simp[nv]
theorem putL_ne{ps:List Pt}{N:List Int}(hp:Gs ps)(h0:0<ps.length):((⟨(Ze1 ps N ps.length).toArray⟩:ByteArray).toList==(⟨#[]⟩:ByteArray).toList)=false:=by
 rw[show(⟨#[]⟩:ByteArray)=⟨([]:Bl).toArray⟩ from rfl,Lk]
 apply beq_false_of_ne
 intro q
 have h1:=congrArg List.length q
 obtain⟨k,hk⟩:∃ k,ps.length=k+1:=⟨ps.length-1,by omega⟩
 rw[hk,Fq,List.length_append,Zt] at h1
 rw[List.length_nil] at h1
 have:=(hp.2 k (by omega)).1
 omega
theorem An(n:Nat):Gi (Value.int .i64 0).cells.toList n=(List.replicate n 0).map nv:=by
 rw[show(Value.int .i64 0).cells.toList=[Value.int .i64 0] from rfl,Gi,List.map_replicate]
 induction n with
 | zero=>rfl
 | succ n ih=>rw[List.replicate_succ,List.flatten_cons,ih,List.replicate_succ];rfl
theorem Fa(ps:List Pt)(s:Bl)(gl:O0)(cl:Nat)(w:World)(hps:Gs ps)(h0:0<ps.length)(hs:s.length≤100000)(hP:Sts Zcf w (.slice gl ps.length cl) ps)(hsl:s.length≠(Gw ps ps.length).sum) :
 C0 140 #[.slice gl ps.length cl,.string ⟨s.toArray⟩] w (Vy (fun w' r=>∃ p c,r=.tuple #[.slice p ps.length c,V0 (Xn ps s)]∧w'.ownsRow w.heap.size 3 1 (.slice p ps.length c) ps.length ((Qi ps s).map nv)) w):=by
 have b9:=hps.1
 refine zin 54 Tryz.func140 ?_
 have hB:=Below.refl w.heap.size w
 refine zl 25 54 (fun zm b6 V=>∃ (i:Nat) (q:O0) (d:Nat),b6=[(0,.slice gl ps.length cl),(1,.string ⟨s.toArray⟩),(4,S0),(5,V0 0),(6,.slice q i d),(7,V0 (↑(Gw ps i).sum:Int)),(12,.slice gl ps.length cl),(13,V0 (ps.length:Int)),(14,V0 (i:Int))]∧zm=ps.length-((i:Int)).toNat∧B0 w V∧V.ownsRow w.heap.size 3 1 (.slice q i d) i ((Gw ps i).map nv)∧i≤ps.length∧(Gw ps i).sum≤i*8) ⟨0,_,_,rfl,rfl,hB,World.ownsRow_nil _ _ _ _,Nat.zero_le _,Nat.zero_le _⟩ ?_
 rintro _ _ W1 ⟨i,q,d,rfl,rfl,a0,ho,hi,c2⟩ J1 b4 r1
 have b8:i<ps.length→(ps.getD i Yq).1≤8:=fun q=>by have:=(hps.2 i q).1;omega
 refine xid 6 ((i:Int)<(ps.length:Int)) (fun b0=>?_) (fun b0=>?_)
 ·refine xx 6 _ ps.length i 3 (Sts.cell hP Uc Yq (k:=i) (i:=0) (by omega) rfl).1 ?_
  refine xlv 0 (Sts.rp (k:=i) (hP.below a0) Uc Yq (by omega) (by decide)) ?_
  refine xa 0 [V0 0,V0 0,V0 0] 270 fun b3 W3 n3=>?_
  have g3:=n3.ge a0
  refine xsv 0 n3.blk [V0 (↑(ps.getD i Yq).1:Int),V0 ((ps.getD i Yq).2.1),V0 ((ps.getD i Yq).2.2)] fun W4 u4 k4=>?_
  refine xb 6 0 k4 ?_
  refine xbs 0 1 [V0 (↑(ps.getD i Yq).1:Int)] 3 fun b5 W5 n5=>?_
  have a3:=u4.below (bln a0 n3.below) g3
  have g5:=n5.ge a3
  have a1:=u4.own2 (Zb ho n3.below) n3.blk (by decide)
  have a9:=Zw a1 n5
  have a2:=Zb a1 n5.below
  have a4:=bln a3 n5.below
  refine xbi 0 fun _ _ _ _ zJ zQ zo zx zy zK=>Zu (m:=1) (news:=[V0 (↑(ps.getD i Yq).1:Int)]) (V0 0) 1 8 (i+1) (((Gw ps (i+1)).map nv)) zo Tryz.underlying28 (by kernel_rfl) rfl (by decide) zx a2 zy (n5.blk.sl 1 1 (by decide) (by decide)) rfl (by simp[Value.oneCell']) (by unfold maxLen;omega) (by omega) a4.size (by rfl) (by rw[Jz,List.map_append];rfl) fun c1 c0 W6 o6 b1 b2=>?_
  refine zK _ _ ?_
  have a6:=(k4.below n5.below).grown b1 a2 (by decide)
  refine xb 6 0 a6 ?_
  refine xwm 0 ((↑(Gw ps i).sum:Int)+(↑(ps.getD i Yq).1:Int)) (↑((Gw ps i).sum+((ps.getD i Yq).1)):Int) ?_
  refine xwm 5 ((i:Int)+1) (↑(i+1):Int) ?_
  refine xv1 2 7 (show(V0 (↑((Gw ps i).sum+((ps.getD i Yq).1)):Int):Value)=V0 (↑(Gw ps (i+1)).sum:Int) from by rw[Jz];simp) ?_
  have a5:=a4.trans b2
  exact ze 0 (b4 _ _ _ ⟨i+1,_,_,rfl,rfl,a5,o6,by omega,by rw[Jz,List.sum_append,List.sum_cons,List.sum_nil];have:=b8 (by omega);omega⟩ (by omega))
 refine xk 14 (show(((s.length:Int) != (↑(Gw ps i).sum:Int)):Bool)=true from bne_iff_ne.2 (by rw[show i=ps.length by omega];omega)) ?_
 refine xmk 4 fun _ _ _ _ zJ zQ zo zx zy zK=>Gn ps.length (V0 0) 1 8 ((List.replicate ps.length 0).map nv) zo zx zy Tryz.underlying28 (by kernel_rfl) rfl (by omega) (by omega) (An _) fun b7 W7 n7=>?_
 have g7:=n7.ge a0
 have a8:=Zw ho n7
 refine zK _ _ ?_
 have a7:=bln a0 n7.below
 have o7:=Xa (size:=1) (n:=ps.length) n7.blk g7 (by simp) (by unfold maxLen;omega)
 refine xe 6 (.tuple #[.slice (S1 b7) ps.length ps.length,V0 7]) ?_
 have he:Xn ps s=7:=if_neg hsl
 exact⟨_,rfl,a7,_,_,by rw[he],by rw[Qi,if_neg (by rw[he];decide)];exact o7⟩
def UnpP(s:Bl)(ws:List Nat)(n:Nat)(W:World)(e:Ending)(w':World):Prop :=
 ((¬ ∀ i,i<ws.length→(Hf s 0 ws).getD i 0<9223372036854775808)∧e=.returned (.tuple #[S0,V0 2])∧B0 W w') ∨
 ((∀ i,i<ws.length→(Hf s 0 ws).getD i 0<9223372036854775808)∧∃ p c,e=.returned (.tuple #[.slice p n c,V0 0])∧B0 W w'∧w'.ownsRow W.heap.size 3 1 (.slice p n c) n ((Hf s 0 ws).map nv))
theorem Unpack_P(a:O0)(n c m:Nat)(s:Bl)(aw:O0)(cw:Nat)(ws:List Nat)(W:World)(hn:s.length=n)(hm:ws.length=m)(hk:∀ i,i<ws.length→ws.getD i 0=1∨ws.getD i 0=2∨ws.getD i 0=4∨ws.getD i 0=8)(hs:ws.sum≤n)(hl:n≤100000000)(hw:m≤1000)(h:Bys W (.slice a n c) s)(hws:Sl W (.slice aw m cw) m (ws.map nv)) :
 C0 136 #[.slice a n c,.slice aw m cw] W (UnpP s ws m W):=by
 subst hn hm
 by_cases hq:∀ i,i<ws.length→(Hf s 0 ws).getD i 0<9223372036854775808
 ·refine(Ok a c s aw cw ws W hk hs hl hw h hws hq).mono ?_
  rintro e V ⟨_,rfl,hb,p,c2,rfl,ho⟩
  exact .inr ⟨hq,p,c2,rfl,hb,ho⟩
 ·refine(Zg3 a c s aw cw ws W hk hs hl hw h hws hq).mono ?_
  rintro e V ⟨rfl,hb⟩
  exact .inl ⟨hq,rfl,hb⟩
theorem rawsI_len(ps:List Pt)(s:Bl)(k:Nat):((Hf s 0 (Gw ps k)).map fun n:Nat=>(n:Int)).length=k:=by rw[List.length_map,Ih,Mn]
theorem Rf(ps:List Pt)(N:List Int)(gl gn:O0)(cl cn n:Nat)(w:World)(hps:Gs ps)(hn:n=ps.length)(hNl:N.length=n)(hP:Sts Zcf w (.slice gl ps.length cl) ps)(hN:Sl w (.slice gn n cn) n (N.map V0)) :
 C0 87 #[.slice gl ps.length cl,.slice gn n cn] w (fun e w'=>(Pw ps N n=false∧e=.returned (.string ⟨#[]⟩)∧B0 w w')∨(Pw ps N n=true∧e=.returned (.string ⟨(Ze1 ps N ps.length).toArray⟩)∧B0 w w')):=by
 subst hn;exact Zg7 ps N gl gn cl cn w hps hNl hP hN
theorem Rr(ps:List Pt)(s:Bl)(gl:O0)(cl:Nat)(w:World)(hps:Gs ps)(h0:0<ps.length)(hs:s.length≤100000)(hP:Sts Zcf w (.slice gl ps.length cl) ps)(hsl:s.length=(Gw ps ps.length).sum) :
 C0 140 #[.slice gl ps.length cl,.string ⟨s.toArray⟩] w (Vy (fun w' r=>∃ p c,r=.tuple #[.slice p ps.length c,V0 (Xn ps s)]∧w'.ownsRow w.heap.size 3 1 (.slice p ps.length c) ps.length ((Qi ps s).map nv)) w):=by
 have e9:=hps.1
 refine zin 54 Tryz.func140 ?_
 have hB:=Below.refl w.heap.size w
 refine zl 25 54 (fun zm e6 V=>∃ (i:Nat) (q:O0) (d:Nat),e6=[(0,.slice gl ps.length cl),(1,.string ⟨s.toArray⟩),(4,S0),(5,V0 0),(6,.slice q i d),(7,V0 (↑(Gw ps i).sum:Int)),(12,.slice gl ps.length cl),(13,V0 (ps.length:Int)),(14,V0 (i:Int))]∧zm=ps.length-((i:Int)).toNat∧B0 w V∧V.ownsRow w.heap.size 3 1 (.slice q i d) i ((Gw ps i).map nv)∧i≤ps.length∧(Gw ps i).sum≤i*8) ⟨0,_,_,rfl,rfl,hB,World.ownsRow_nil _ _ _ _,Nat.zero_le _,Nat.zero_le _⟩ ?_
 rintro _ _ W1 ⟨i,q,d,rfl,rfl,a0,ho,hi,f4⟩ J1 e5 r1
 have e7:i<ps.length→(ps.getD i Yq).1≤8:=fun q=>by have:=(hps.2 i q).1;omega
 refine xid 6 ((i:Int)<(ps.length:Int)) (fun e1=>?_) (fun e1=>?_)
 ·refine xx 6 _ ps.length i 3 (Sts.cell hP Uc Yq (k:=i) (i:=0) (by omega) rfl).1 ?_
  refine xlv 0 (Sts.rp (k:=i) (hP.below a0) Uc Yq (by omega) (by decide)) ?_
  refine xa 0 [V0 0,V0 0,V0 0] 270 fun b3 W3 n3=>?_
  have g3:=n3.ge a0
  refine xsv 0 n3.blk [V0 (↑(ps.getD i Yq).1:Int),V0 ((ps.getD i Yq).2.1),V0 ((ps.getD i Yq).2.2)] fun W4 u4 k4=>?_
  refine xb 6 0 k4 ?_
  refine xbs 0 1 [V0 (↑(ps.getD i Yq).1:Int)] 3 fun b5 W5 n5=>?_
  have a9:=u4.below (bln a0 n3.below) g3
  have g5:=n5.ge a9
  have a6:=u4.own2 (Zb ho n3.below) n3.blk (by decide)
  have d4:=Zw a6 n5
  have a8:=Zb a6 n5.below
  have b1:=bln a9 n5.below
  refine xbi 0 fun _ _ _ _ zJ zQ zo zx zy zK=>Zu (m:=1) (news:=[V0 (↑(ps.getD i Yq).1:Int)]) (V0 0) 1 8 (i+1) (((Gw ps (i+1)).map nv)) zo Tryz.underlying28 (by kernel_rfl) rfl (by decide) zx a8 zy (n5.blk.sl 1 1 (by decide) (by decide)) rfl (by simp[Value.oneCell']) (by unfold maxLen;omega) (by omega) b1.size (by rfl) (by rw[Jz,List.map_append];rfl) fun f3 f0 W6 o6 e2 e3=>?_
  refine zK _ _ ?_
  have c7:=(k4.below n5.below).grown e2 a8 (by decide)
  refine xb 6 0 c7 ?_
  refine xwm 0 ((↑(Gw ps i).sum:Int)+(↑(ps.getD i Yq).1:Int)) (↑((Gw ps i).sum+((ps.getD i Yq).1)):Int) ?_
  refine xwm 5 ((i:Int)+1) (↑(i+1):Int) ?_
  refine xv1 2 7 (show(V0 (↑((Gw ps i).sum+((ps.getD i Yq).1)):Int):Value)=V0 (↑(Gw ps (i+1)).sum:Int) from by rw[Jz];simp) ?_
  have c2:=b1.trans e3
  exact ze 0 (e5 _ _ _ ⟨i+1,_,_,rfl,rfl,c2,o6,by omega,by rw[Jz,List.sum_append,List.sum_cons,List.sum_nil];have:=e7 (by omega);omega⟩ (by omega))
 refine xk 14 (show(((s.length:Int) != (↑(Gw ps i).sum:Int)):Bool)=false from by rw[show i=ps.length by omega,hsl];simp) ?_
 refine xcf 5 fun _ _ _ zJ zQ zo zx zK=>Kl s zo zx Tryz.underlying9 Tryz.underlying22 Tryz.underlying5 (by omega) ?_
 intro bz cz W7 b6 e0
 refine zK _ _ ?_
 have a4:=Zb ho b6
 refine xc 1 (args:=#[.slice (S1 bz) s.length cz,.slice q i d]) (Unpack_P (S1 bz) s.length cz i s q d (Gw ps i) _ rfl (Mn ps i) (fun j hj=>by rw[Mn] at hj;rw[wids_get ps hj];have:=(hps.2 j (by omega)).1;omega) (by rw[show i=ps.length by omega];omega) (by omega) (by omega) e0 (Zh a4)) ?_
 rintro e W8 e8
 rcases e8 with ⟨hq,rfl,b2⟩|⟨hq,p5,c5,rfl,b2,h5⟩
 ·have a5:i=ps.length:=by omega
  have c1:Uk ps s=false:=by rw[←Bool.not_eq_true];intro q;exact hq (by rw[a5];exact readOk_lt hps q)
  refine xmk 25 fun _ _ _ _ zJ zQ zo zx zy zK=>Gn ps.length (V0 0) 1 8 ((List.replicate ps.length 0).map nv) zo zx zy Tryz.underlying28 (by kernel_rfl) rfl (by omega) (by omega) (An _) fun b9 W9 n9=>?_
  have b4:=bln (bln a0 b6) b2
  have g9:=n9.ge b4
  have b8:=Zb a4 b2
  have d5:=Zw b8 n9
  refine zK _ _ ?_
  have b7:=bln b4 n9.below
  have o9:=Xa (size:=1) (n:=ps.length) n9.blk g9 (by simp) (by unfold maxLen;omega)
  refine xe 6 (.tuple #[.slice (S1 b9) ps.length ps.length,V0 2]) ?_
  have he:Xn ps s=2:=by unfold Xn;rw[if_pos hsl,if_neg (by rw[c1];decide)]
  exact⟨_,rfl,b7,_,_,by rw[he],by rw[Qi,if_neg (by rw[he];decide)];exact o9⟩
 have d8:=(bln a0 b6).size
 have a5:i=ps.length:=by omega
 have a3:=Zg h5 d8
 have e4:Sl (W8) (.slice p5 i c5) i (((Hf s 0 (Gw ps i)).map fun n:Nat=>(n:Int)).map V0):=by have q:=Zh a3;rw[map_nv] at q;exact q
 have a2:=bln (bln a0 b6) b2
 refine xc 15 (args:=#[.slice gl ps.length cl,.slice p5 i c5]) (Rf ps ((Hf s 0 (Gw ps i)).map fun n:Nat=>(n:Int)) gl p5 cl c5 i _ hps a5 (rawsI_len ps s i) (hP.below a2) e4) ?_
 rintro e f1 c0
 rcases c0 with ⟨c3,rfl,a1⟩|⟨c3,rfl,a1⟩
 ·have c1:Uk ps s=false:=by unfold Uk Pu;rw[←a5];exact c3
  refine xmk 9 fun _ _ _ _ zJ zQ zo zx zy zK=>Gn ps.length (V0 0) 1 8 ((List.replicate ps.length 0).map nv) zo zx zy Tryz.underlying28 (by kernel_rfl) rfl (by omega) (by omega) (An _) fun d6 f2 a7=>?_
  have b0:=bln a2 a1
  have d9:=a7.ge b0
  have c8:=Zb (Zb a4 b2) a1
  have d0:=Zw c8 a7
  have c9:=Zb a3 a1
  have c6:=Zw c9 a7
  refine zK _ _ ?_
  have c4:=bln b0 a7.below
  have d7:=Xa (size:=1) (n:=ps.length) a7.blk d9 (by simp) (by unfold maxLen;omega)
  refine xe 6 (.tuple #[.slice (S1 d6) ps.length ps.length,V0 2]) ?_
  have he:Xn ps s=2:=by unfold Xn;rw[if_pos hsl,if_neg (by rw[c1];decide)]
  exact⟨_,rfl,c4,_,_,by rw[he],by rw[Qi,if_neg (by rw[he];decide)];exact d7⟩
 have d1:Uk ps s=true:=by unfold Uk Pu;rw[←a5];exact c3
 refine xk 4 (show(((⟨(Ze1 ps ((Hf s 0 (Gw ps i)).map fun n:Nat=>(n:Int)) ps.length).toArray⟩:ByteArray).toList==(⟨#[]⟩:ByteArray).toList):Bool)=false from putL_ne hps h0) ?_
 have d2:=bln a2 a1
 have d3:=Zb a3 a1
 refine xe 10 (.tuple #[.slice p5 i c5,V0 0]) ?_
 have he:Xn ps s=0:=by unfold Xn;rw[if_pos hsl,if_pos d1]
 subst a5
 exact⟨_,rfl,d2,_,_,by rw[he],by rw[Qi,if_pos he];exact d3⟩
theorem Ee(ps:List Pt)(s:Bl)(gl:O0)(cl:Nat)(w:World)(hps:Gs ps)(h0:0<ps.length)(hs:s.length≤100000)(hP:Sts Zcf w (.slice gl ps.length cl) ps) :
 C0 140 #[.slice gl ps.length cl,.string ⟨s.toArray⟩] w (Vy (fun w' r=>∃ p c,r=.tuple #[.slice p ps.length c,V0 (Xn ps s)]∧w'.ownsRow w.heap.size 3 1 (.slice p ps.length c) ps.length ((Qi ps s).map nv)) w):=by
 by_cases h:s.length=(Gw ps ps.length).sum
 ·exact Rr ps s gl cl w hps h0 hs hP h
 ·exact Fa ps s gl cl w hps h0 hs hP h
end Go.Proofs.YtgphgaehfdfjjaaGreatDoor
namespace Go.Proofs.YtgphgaehfdfjjaaGreatDoor
set_option maxHeartbeats 8000000
set_option maxRecDepth 100000
open Go.RowKit Go.Extern.Stop Go.Stop Go.Extern
set_option linter.unusedVariables false
attribute [local irreducible] wpList wpAnyH Code.wp Oper.wp Go
section
variable {P:Program} {a:Act}
end
theorem Get_okN(a:O0)(n c k w:Nat)(ki wi:Int)(l:Bl)(W:World)(hn:l.length=n)(hki:ki=(k:Int))(hwi:wi=(w:Int))(hw:w=1∨w=2∨w=4)(hk:k+w≤n)(hl:n≤100000000)(h:Bys W (.slice a n c) l) :
 C0 79 #[.slice a n c,V0 ki,V0 wi] W (Ret (.tuple #[V0 (Zi l k w:Int),V0 0]) W):=by
 subst hn hki hwi;exact Zdu a c k w l W (by omega) hk hl h (by have:=Ym l k w (by omega);omega)
theorem Dh(n k:Nat)(hn:n<9223372036854775808)(hk:0<k):IntKind.i64.wrap (Int.tdiv (n:Int) (k:Int))=((n/k:Nat):Int):=by
 rw[Int.tdiv_eq_ediv_of_nonneg (Int.natCast_nonneg _),←Int.natCast_ediv]
 exact Hs (Nat.lt_of_le_of_lt (Nat.div_le_self _ _) hn)
theorem Zao(n k:Nat):Int.tmod (n:Int) (k:Int)=((n%k:Nat):Int):=by
 rw[Int.tmod_eq_emod_of_nonneg (Int.natCast_nonneg _),←Int.natCast_emod]
end Go.Proofs.YtgphgaehfdfjjaaGreatDoor
namespace Go.Proofs.YtgphgaehfdfjjaaGreatDoor
set_option maxHeartbeats 8000000
set_option maxRecDepth 100000
open Go.RowKit
theorem Blk.ty{w:World}{b:Nat}{cs cs':List Value}{t t':TypeId}(k:Blk w b cs t)(q:Blk w b cs' t'):t=t':=by
 have h1:w.heap[b]? = some (.cells cs.toArray t (0,0)):=k
 have h2:w.heap[b]? = some (.cells cs'.toArray t' (0,0)):=q
 rw[h1] at h2
 simp only[Option.some.injEq,Obj.cells.injEq] at h2
 exact h2.2.1
theorem Vw.upd{w W:World}{b:Nat}{cs:List Value}{t:TypeId}{l:List (Option Int)}{c:Option Int}{v:Value}(h:Vw w l c v)(u:Upd w b W)(k:Blk w b cs t)(hne:t≠218):Vw W l c v :=
 h.kept fun _ _ q=>u.blk q (by rintro rfl;exact hne (k.ty q))
theorem Vw.grown{w W:World}{e:TypeId}{base size n:Nat}{s:Value}{xs:List Value}{l:List (Option Int)}{c:Option Int}{v:Value}(h:Vw w l c v)(hg:w.grownBy W s.ownBlock)(hown:w.ownsRow base e size s n xs)(hne:e≠218):Vw W l c v :=
 h.kept fun _ _ q=>q.grown hg hown hne
theorem Vw.only{T:List TypeId}{w W:World}{l:List (Option Int)}{c:Option Int}{v:Value}(h:Vw w l c v)(k:Zf T w W)(hne:T.contains 218=false):Vw W l c v:=h.kept fun _ _ q=>q.only k hne
end Go.Proofs.YtgphgaehfdfjjaaGreatDoor
namespace Go.Proofs.YtgphgaehfdfjjaaGreatDoor
set_option maxHeartbeats 8000000
set_option maxRecDepth 100000
open Go.RowKit Go.Extern.Stop Go.Stop Go.Extern
set_option linter.unusedVariables false
attribute [local irreducible] wpList wpAnyH Code.wp Oper.wp Go
structure ImgR(B b:Nat)(p:Option Addr)(n c:Nat)(l:List UInt8)(w:World):Prop where
 blk:Blk w b [.slice p n c] 72
 row:w.ownsRow B 5 1 (.slice p n c) n (l.map bv)
 hn:n≤3686400
theorem ImgR.below{B b:Nat}{p:O0}{n c:Nat}{l:Bl}{w W:World}(h:ImgR B b p n c l w)(hb:B0 w W):ImgR B b p n c l W:=⟨h.blk.below hb,Zb h.row hb,h.hn⟩
theorem ImgR.only{B b:Nat}{p:O0}{n c:Nat}{l:Bl}{w W:World}{T:List TypeId}(h:ImgR B b p n c l w)(hO:Zf T w W)(hT:T.contains 72=false∧T.contains 5=false):ImgR B b p n c l W:=⟨h.blk.only hO hT.1,Zl h.row hO hT.2,h.hn⟩
theorem ImgR.len{B b:Nat}{p:O0}{n c:Nat}{l:Bl}{w:World}(h:ImgR B b p n c l w):l.length=n:=by have:=h.row.1;simpa using this
theorem ImgR.base{B b:Nat}{p:O0}{n c:Nat}{l:Bl}{w:World}(h:ImgR B b p n c l w)(hn:0<n):∃ g,p=some ⟨g,0,none⟩∧n≤c:=by
 rcases h.row.2 with ⟨_,h0⟩|⟨g,a0,a1,hv,_,_,hc,_⟩
 ·omega
 ·simp only[Value.slice.injEq] at hv
  obtain⟨rfl,_,rfl⟩:=hv
  exact⟨g,rfl,hc⟩
def Kz(l:Bl)(j:Nat):Bl:=(l.drop (j*256)).take 256
theorem Kg{l:Bl}{j:Nat}(h:j<l.length/256):(Kz l j).length=256:=by simp[Kz];omega
theorem Bys.mid{w:World}{g off n c:Nat}{l:Bl}(h:Bys w (.slice (some ⟨g,off,none⟩) n c) l)(hl:l.length=n)(k m:Nat)(hm:0<m)(hk:k+m≤n):Bys w (.slice (some ⟨g,off+k,none⟩) m m) ((l.drop k).take m):=by
 have a0:((l.drop k).take m).length=m:=by simp;omega
 rcases h with ⟨a',c',h1,h2,h3⟩|⟨g',a1,a2,h1,h2,h3,h4⟩
 ·omega
 ·simp only[Value.slice.injEq,Option.some.injEq,Addr.mk.injEq] at h1
  obtain⟨⟨rfl,rfl,_⟩,_,rfl⟩:=h1
  refine .inr ⟨g,off+k,m,by rw[a0],by omega,by omega,fun j x hj=>?_⟩
  rw[List.getElem?_map,List.getElem?_take] at hj
  split at hj
  ·rw[List.getElem?_drop] at hj
   have:=h4 (k+j) x (by rw[List.getElem?_map];exact hj)
   rwa [←Nat.add_assoc] at this
  ·cases hj
theorem ImgR.part{B b g:Nat}{n c:Nat}{l:Bl}{w:World}(h:ImgR B b (S1 g) n c l w){j:Nat}(hj:j<n/256):Bys w (.slice (some ⟨g,j*256,none⟩) 256 256) (Kz l j):=by
 have:=Bys.mid (Ko (Zh h.row) h.len) h.len (j*256) 256 (by decide) (by omega)
 rwa [Nat.zero_add] at this
def ReadP(n:Nat)(l:Bl)(k:Int)(w:World)(e:Ending)(w':World):Prop :=
 (¬ (0≤k∧k<(n/256:Nat))∧∃ v,e=.returned (.tuple #[v,V0 3])∧B0 w w') ∨
 (∃ j:Nat,k=(j:Int)∧j<n/256∧∃ p c,e=.returned (.tuple #[.slice p 256 c,V0 0])∧B0 w w'∧w'.ownsRow w.heap.size 5 1 (.slice p 256 c) 256 ((Kz l j).map bv))
theorem Fc(b:Nat)(p:O0)(n c:Nat)(k:Int)(w:World)(hk:Blk w b [.slice p n c] 72)(hn:n≤100000000)(ho:¬ (0≤k∧k<(n/256:Nat))) :
 C0 125 #[P0 b,V0 k] w (Ret (.tuple #[S0,V0 3]) w):=by
 refine zin 33 Tryz.func125 ?_
 refine xg 21 [13,14] (decide (k<(0:Int))) (fun a0=>?_) (fun a0=>?_)
 ·have a0:=of_decide_eq_true a0
  exact xe 18 (.tuple #[S0,V0 3]) ⟨rfl,(B3 w)⟩
 have a0:=of_decide_eq_false a0
 refine xr 2 (args:=#[P0 b]) (Jv b _ n c _ (hk.below (B3 w)) hn) fun W2 a1=>?_
 refine xk 5 (show(decide (k≥(↑(n/256):Int)):Bool)=true from decide_eq_true (by omega)) ?_
 exact xe 9 (.tuple #[S0,V0 3]) ⟨rfl,a1⟩
theorem Rv(B b:Nat)(p:O0)(n c:Nat)(l:Bl)(k:Int)(w:World)(hI:ImgR B b p n c l w)(ho:¬ (0≤k∧k<(n/256:Nat))) :
 C0 72 #[P0 b,V0 k] w (Vy (fun _ r=>∃ v,r=.tuple #[v,V0 3]) w):=by
 refine zin 17 Tryz.func72 ?_
 refine xr 10 (args:=#[P0 b,V0 k]) (Fc b p n c k _ (hI.below (B3 w)).blk (by have:=hI.hn;omega) ho) fun W1 a0=>?_
 refine xc 10 (args:=#[S0]) (Za7 0 _) ?_
 rintro _ W2 ⟨v2,rfl,a1,_⟩
 have hB:=bln a0 a1
 exact xe 6 (.tuple #[v2,V0 3]) ⟨_,rfl,hB,_,rfl⟩
theorem Ag(B b g:Nat)(n c:Nat)(l:Bl)(j:Nat)(w:World)(hI:ImgR B b (S1 g) n c l w)(hj:j<n/256)(hc:n≤c) :
 C0 72 #[P0 b,V0 (j:Int)] w (Vy (fun w' r=>∃ p2 c3,r=.tuple #[.slice p2 256 c3,V0 0]∧w'.ownsRow w.heap.size 5 1 (.slice p2 256 c3) 256 ((Kz l j).map bv)) w):=by
 have a3:=Kg (l:=l) (j:=j) (by rw[hI.len];exact hj)
 refine zin 17 Tryz.func72 ?_
 refine xr 10 (args:=#[P0 b,V0 (j:Int)]) (Rc b g n c j _ (hI.below (B3 w)).blk (by have:=hI.hn;omega) hc hj) fun W1 a1=>?_
 refine xc 10 (args:=#[.slice (some ⟨g,(j*256),none⟩) 256 256]) (Vn (some ⟨g,(j*256),none⟩) 256 256 (Kz l j) _ a3 ((hI.below a1).part hj) (by decide)) ?_
 rintro _ W2 ⟨_,rfl,a4,ho⟩
 have a0:=Zg ho a1.size
 unfold Nb at a0
 rw[a3] at a0
 obtain⟨p2,c3,rfl⟩:=(Zh a0).slice
 have a2:=bln a1 a4
 exact xe 6 (.tuple #[.slice p2 256 c3,V0 0]) ⟨_,rfl,a2,_,_,rfl,a0⟩
theorem Sn(B b:Nat)(p:O0)(n c:Nat)(l:Bl)(k:Int)(w:World)(hI:ImgR B b p n c l w) :
 C0 72 #[P0 b,V0 k] w (ReadP n l k w):=by
 by_cases h:0≤k∧k<(n/256:Nat)
 ·obtain⟨g,rfl,hc⟩:=hI.base (by omega)
  obtain⟨j,rfl⟩:∃ j:Nat,k=j:=⟨k.toNat,by omega⟩
  refine(Ag B b g n c l j w hI (by omega) hc).mono ?_
  rintro e W ⟨_,rfl,hb,p2,c3,rfl,ho⟩
  exact .inr ⟨j,rfl,by omega,_,_,rfl,hb,ho⟩
 ·refine(Rv B b p n c l k w hI h).mono ?_
  rintro e W ⟨_,rfl,hb,v,rfl⟩
  exact .inl ⟨h,_,rfl,hb⟩
def inE (l:Bl)(kind no:Int):Int:=if 0≤no∧no<(l.length/256:Nat) then Yi kind no (Kz l no.toNat) else 3
def inB (l:Bl)(no:Int):Bl:=((Kz l no.toNat).drop 8).take 244
theorem Fs{l:Bl}{kind no:Int}{n:Nat}(hl:l.length=n)(h:¬ (0≤no∧no<(n/256:Nat))):inE l kind no=3:=by subst hl;exact if_neg h
theorem Zee{l:Bl}{kind no:Int}{n j:Nat}(hl:l.length=n)(hk:no=(j:Int))(h:j<n/256):inE l kind no=Yi kind no (Kz l j):=by
 subst hl hk;rw[inE,if_pos ⟨by omega,by omega⟩];rfl
theorem Zeg{l:Bl}{no:Int}{j:Nat}(hk:no=(j:Int)):inB l no=((Kz l j).drop 8).take 244:=by subst hk;rfl
theorem inB_len{l:Bl}{no:Int}{n j:Nat}(hl:l.length=n)(hk:no=(j:Int))(h:j<n/256):(inB l no).length=244:=by
 subst hl hk;have:=Kg h;simp[inB,this]
theorem Dm{l l':Bl}(h:l.length=l'.length)(h2:∀ j,j<l.length→l.getD j 0=l'.getD j 0):l=l':=by
 apply List.ext_getElem h
 intro j h3 h4
 have:=h2 j h3
 simpa [List.getD,h3,h4] using this
theorem Ki{l:Bl}{k:Nat}{x:Bl}(h:k+x.length≤l.length)(j:Nat):(Jd l k x).getD j 0=if k≤j∧j<k+x.length then x.getD (j-k) 0 else l.getD j 0:=by
 unfold Jd
 simp only[List.getD]
 rw[List.append_assoc,List.getElem?_append,List.getElem?_append]
 have e:(l.take k).length=k:=by simp;omega
 rw[e]
 by_cases h1:j<k
 ·rw[if_pos h1,if_neg (by omega),List.getElem?_take,if_pos h1]
 ·rw[if_neg h1]
  by_cases h2:j-k<x.length
  ·rw[if_pos h2,if_pos (by omega)]
  ·rw[if_neg h2,if_neg (by omega),List.getElem?_drop,show k+x.length+(j-k-x.length)=j by omega]
theorem Tt{l l':Bl}:∀ (w k:Nat),(∀ j,k≤j→j<k+w→l.getD j 0=l'.getD j 0)→Zi l k w=Zi l' k w
 | 0,k,h=>rfl
 | w+1,k,h=>by rw[Zi,Zi,h k (by omega) (by omega),Tt w (k+1) fun j h1 h2=>h j (by omega) (by omega)]
theorem Pm{l:Bl}:∀ (w k m:Nat),(∀ i,i<w→l.getD (k+i) 0=UInt8.ofNat (m/256 ^ i))→Zi l k w=m%256 ^ w
 | 0,k,m,h=>by simp[Zi,Nat.mod_one]
 | w+1,k,m,h=>by
  have h0:=h 0 (by omega)
  simp only[Nat.add_zero,Nat.pow_zero,Nat.div_one] at h0
  have h1:=Pm (l:=l) w (k+1) (m/256) fun i hi=>by
   have:=h (i+1) (by omega)
   rw[Nat.pow_succ,Nat.mul_comm,←Nat.div_div_eq_div_mul] at this
   rw[show k+1+i=k+(i+1) by omega];exact this
  rw[Zi,h0,h1,Nat.pow_succ,Nat.mul_comm (256 ^ w) 256,Nat.mod_mul]
  congr 1
theorem Ak{l:Bl}{k w:Nat}{n:Int}(h:k+w≤l.length)(h0:0≤n)(hb:n.toNat<256 ^ w):(Zi (Jd l k (leB n w)) k w:Int)=n:=by
 rw[Pm w k n.toNat,Nat.mod_eq_of_lt hb]
 ·omega
 ·intro i hi
  rw[Ki (by rw[Zt];exact h),if_pos (by rw[Zt];omega),show k+i-k=i by omega]
  simp[leB,Xc,List.getD,List.getElem?_range hi]
theorem Qg{l x:Bl}{k j w:Nat}(h:k+x.length≤l.length)(hd:j+w≤k∨k+x.length≤j):Zi (Jd l k x) j w=Zi l j w :=
 Tt w j fun i h1 h2=>by rw[Ki h,if_neg (by omega)]
theorem rawN_zero{l:Bl}{k w:Nat}(h:∀ j,k≤j→j<k+w→l.getD j 0=0):Zi l k w=0:=by
 have:=Pm (l:=l) w k 0 fun i hi=>by rw[h (k+i) (by omega) (by omega)];simp
 simpa using this
theorem sumB_put{l x:Bl}{kind:Int}(h:252≤l.length):Ll (Jd l 252 x) kind=Ll l kind:=by
 unfold Ll Jd
 rw[List.append_assoc,List.take_append_of_le_length (by simp;omega),List.take_take];rfl
theorem Fg(n j:Nat):(List.replicate n (0:UInt8)).getD j 0=0:=by
 simp[List.getD,List.getElem?_replicate];split<;>rfl
def Zdq(li:Bl):Bl:=li++List.replicate (244-li.length) 0
theorem open_seal{kind no:Int}{li:Bl}(h1:1≤kind)(h2:kind≤4)(h3:0≤no)(h4:no<14400)(hl:li.length≤244):Yi kind no (Vh kind no li)=0:=by
 have l1:=Ub hl
 have l2:=Um (no:=no) hl
 have l3:=Hc (kind:=kind) (no:=no) hl
 have l4:=Ga (kind:=kind) (no:=no) hl
 have a0:Ht kind no (Vh kind no li) 0=false:=by simp only[Ht];rw[show Jk kind no=true from decide_eq_true (by omega)];rfl
 have a1:Ht kind no (Vh kind no li) 1=false:=by simp only[Ht,l4];rfl
 have a2:Ht kind no (Vh kind no li) 2=false:=by
  have hs:Ll (Vh kind no li) kind=Ll (Ps kind no li) kind:=by unfold Vh;exact sumB_put (by omega)
  have hr:(Zi (Vh kind no li) 252 4:Int)=(Ll (Ps kind no li) kind:Int):=by
   unfold Vh
   exact Ak (by omega) (by omega) (by have:=sumB_lt (Ps kind no li) kind;simpa using this)
  simp only[Ht,hr,hs];simp
 have a3:Ht kind no (Vh kind no li) 3=false:=by
  have hr:(Zi (Vh kind no li) 0 4:Int)=no:=by
   unfold Vh
   rw[Qg (by rw[Zt];omega) (.inl (by omega))]
   unfold Ps
   rw[Qg (by rw[Zt];omega) (.inl (by omega))]
   unfold Zcq
   exact Ak (by omega) (by omega) (by omega)
  simp only[Ht,hr];simp
 have a4:Ht kind no (Vh kind no li) 4=false:=by
  have hr:(Zi (Vh kind no li) 4 2:Int)=kind:=by
   unfold Vh
   rw[Qg (by rw[Zt];omega) (.inl (by omega))]
   unfold Ps
   exact Ak (by omega) (by omega) (by omega)
  simp only[Ht,hr];simp
 have a5:Ht kind no (Vh kind no li) 5=false:=by
  have hr:Zi (Vh kind no li) 6 2=0:=by
   unfold Vh
   rw[Qg (by rw[Zt];omega) (.inl (by omega))]
   unfold Ps
   rw[Qg (by rw[Zt];omega) (.inr (by rw[Zt];omega))]
   unfold Zcq
   rw[Qg (by rw[Zt];omega) (.inr (by rw[Zt];omega))]
   unfold Zbi
   rw[Qg (by rw[List.length_replicate];omega) (.inl (by omega))]
   exact rawN_zero fun j _ _=>Fg 256 j
  simp only[Ht,hr];rfl
 simp[Yi,a0,a1,a2,a3,a4,a5]
theorem in_seal{kind no:Int}{li:Bl}(hl:li.length≤244):((Vh kind no li).drop 8).take 244=Zdq li:=by
 have l1:=Ub hl
 have l2:=Um (no:=no) hl
 have l3:=Hc (kind:=kind) (no:=no) hl
 have l4:=Ga (kind:=kind) (no:=no) hl
 apply Dm
 ·simp[Zdq,l4];omega
 ·intro j hj
  have a0:j<244:=by simp[l4] at hj;omega
  have e:(((Vh kind no li).drop 8).take 244).getD j 0=(Vh kind no li).getD (8+j) 0:=by
   simp only[List.getD];rw[List.getElem?_take,if_pos a0,List.getElem?_drop]
  rw[e]
  unfold Vh
  rw[Ki (by rw[Zt];omega),if_neg (by rw[Zt];omega)]
  unfold Ps
  rw[Ki (by rw[Zt];omega),if_neg (by rw[Zt];omega)]
  unfold Zcq
  rw[Ki (by rw[Zt];omega),if_neg (by rw[Zt];omega)]
  unfold Zbi
  rw[Ki (by rw[List.length_replicate];omega),Fg]
  unfold Zdq
  simp only[List.getD]
  rw[List.getElem?_append]
  by_cases h:j<li.length
  ·rw[if_pos ⟨by omega,by omega⟩,if_pos h,show 8+j-8=j by omega]
  ·rw[if_neg (by omega),if_neg h]
   have:=Fg (244-li.length) (j-li.length)
   simp only[List.getD] at this
   exact this.symm
theorem blkB_put{l x:Bl}{k:Nat}(hx:x.length=256)(hk:k<l.length/256):Kz (Jd l (k*256) x) k=x:=by
 have a0:k*256+256≤l.length:=by omega
 have hp:=Qu (l:=l) (k:=k*256) (x:=x) (by omega)
 apply Dm
 ·rw[Kg (by rw[hp];exact hk),hx]
 ·intro j hj
  rw[Kg (by rw[hp];exact hk)] at hj
  have e:(Kz (Jd l (k*256) x) k).getD j 0=(Jd l (k*256) x).getD (k*256+j) 0:=by
   simp only[Kz,List.getD];rw[List.getElem?_take,if_pos hj,List.getElem?_drop]
  rw[e,Ki (by omega),if_pos (by omega),show k*256+j-k*256=j by omega]
theorem Pz{l x:Bl}{k i:Nat}(hx:x.length=256)(hk:k<l.length/256)(hne:i≠k)(hi:i<l.length/256):Kz (Jd l (k*256) x) i=Kz l i:=by
 have a0:k*256+256≤l.length:=by omega
 have hp:=Qu (l:=l) (k:=k*256) (x:=x) (by omega)
 apply Dm
 ·rw[Kg (by rw[hp];exact hi),Kg hi]
 ·intro j hj
  rw[Kg (by rw[hp];exact hi)] at hj
  have e:∀ l:Bl,(Kz l i).getD j 0=l.getD (i*256+j) 0:=fun l=>by
   simp only[Kz,List.getD];rw[List.getElem?_take,if_pos hj,List.getElem?_drop]
  rw[e,e,Ki (by omega),if_neg (by omega)]
theorem Th{kind no:Int}(h:Jk kind no=true):1≤kind∧kind≤4∧0≤no∧no<14400:=of_decide_eq_true h
theorem step1_xor(a b:Nat):Ue (a ^^^ b)=Ue a ^^^ Ue b:=by
 have e:∀ r,Ue r=(r/2) ^^^ (if r%2=1 then 2197175160 else 0):=fun r=>by unfold Ue;split<;>simp
 rw[e,e,e,Nat.xor_div_two]
 have hp:=Nat.xor_mod_two_eq_one (a:=a) (b:=b)
 by_cases h1:a%2=1<;>by_cases h2:b%2=1
 ·rw[if_neg (by rw[hp];simp[h1,h2]),if_pos h1,if_pos h2,Nat.xor_zero]
  rw[show a/2 ^^^ 2197175160 ^^^ (b/2 ^^^ 2197175160)=a/2 ^^^ b/2 ^^^ (2197175160 ^^^ 2197175160) by ac_rfl];simp
 ·rw[if_pos (by rw[hp];simp[h1,h2]),if_pos h1,if_neg h2,Nat.xor_zero];ac_rfl
 ·rw[if_pos (by rw[hp];simp[h1,h2]),if_neg h1,if_pos h2,Nat.xor_zero];ac_rfl
 ·rw[if_neg (by rw[hp];simp[h1,h2]),if_neg h1,if_neg h2,Nat.xor_zero,Nat.xor_zero,Nat.xor_zero]
theorem stepN_xor(n a b:Nat):Ye n (a ^^^ b)=Ye n a ^^^ Ye n b:=by
 induction n with
 | zero=>rfl
 | succ n ih=>rw[Ye,ih,step1_xor];rfl
theorem Pg(q:Nat):Ue (2*q)=q:=by unfold Ue;rw[if_neg (by omega)];omega
theorem stepN_16(q:Nat):Ye 4 (16*q)=q:=by
 show Ue (Ue (Ue (Ue (16*q))))=q
 rw[show 16*q=2*(2*(2*(2*q))) by omega,Pg,Pg,Pg,Pg]
theorem split16(r:Nat):r=(16*(r/16)) ^^^ (r%16):=by
 apply Nat.eq_of_testBit_eq
 intro i
 rw[Nat.testBit_xor,show 16*(r/16)=2 ^ 4*(r/2 ^ 4) from rfl,Nat.testBit_two_pow_mul,Nat.testBit_div_two_pow,show r%16=r%2 ^ 4 from rfl,Nat.testBit_mod_two_pow]
 by_cases h:4≤i
 ·rw[show i-4+4=i by omega,show decide (i≥4)=true from decide_eq_true h,show decide (i<4)=false from decide_eq_false (by omega)];simp
 ·rw[show decide (i≥4)=false from decide_eq_false h,show decide (i<4)=true from decide_eq_true (by omega)];simp
theorem stepN_4(r:Nat):Ye 4 r=(r/16) ^^^ Ni (r%16):=by
 conv=>lhs;rw[split16 r]
 rw[stepN_xor,stepN_16];rfl
theorem stepN_add(m n r:Nat):Ye (m+n) r=Ye m (Ye n r):=by
 induction m with
 | zero=>simp[Ye]
 | succ m ih=>rw[Nat.succ_add,Ye,ih];rfl
theorem crcStep_8(r:Nat)(x:UInt8):Ae r x=Ye 8 (r ^^^ x.toNat):=by
 show _=Ye (4+4) (r ^^^ x.toNat)
 rw[stepN_add,stepN_4,stepN_4];rfl
theorem step1_odd{r:Nat}(h:r%2=1):Ue r=(r/2) ^^^ 2197175160:=if_pos h
theorem step1_ev{r:Nat}(h:¬ r%2=1):Ue r=r/2:=if_neg h
theorem ref_Step(r:Nat)(w:World)(hr:r<4294967296) :
 C0 213 #[V0 (r:Int)] w (Ret (V0 (Ye 8 r:Int)) w):=by
 refine zin 18 Tryz.func213 ?_
 have hB:=Below.refl w.heap.size w
 refine zl 12 18 (fun zm a3 V=>∃ (j:Nat),a3=[(0,V0 (↑(Ye j r):Int)),(2,V0 0),(3,V0 (j:Int))]∧zm=8-((j:Int)).toNat∧B0 w V∧j≤8) ⟨0,rfl,rfl,hB,by decide⟩ ?_
 rintro _ _ W1 ⟨j,rfl,rfl,a0,hj⟩ J1 a1 r1
 refine xid 7 ((j:Int)<(8:Int)) (fun a4=>?_) (fun a4=>?_)
 ·refine xq 7 (congrArg V0 (show(Int.tmod (↑(Ye j r):Int) 2:Int)=(↑((Ye j r)%2):Int) from Zao (Ye j r) 2)) ?_
  refine xq 7 (congrArg V0 (show(IntKind.i64.wrap (Int.tdiv (↑(Ye j r):Int) 2):Int)=(↑((Ye j r)/2):Int) from Dh (Ye j r) 2 (by have:=Cz (j:=j) hr;omega) (by decide))) ?_
  refine xie 8 (↑((Ye j r)%2):Int) (1:Int) (fun a2=>?_) (fun a2=>?_)
  ·refine xq 2 (congrArg V0 (show(IntKind.i64.wrap (↑(BitVec.ofInt 64 (↑((Ye j r)/2):Int) ^^^ BitVec.ofInt 64 (2197175160:Int)).toNat:Int):Int)=(↑(((Ye j r)/2) ^^^ 2197175160):Int) from Fk (a:=(Ye j r)/2) (b:=2197175160) (by have:=Cz (j:=j) hr;omega) (by decide))) ?_
   refine xwm 6 ((j:Int)+1) (↑(j+1):Int) ?_
   refine xv1 2 0 (show(V0 (↑(((Ye j r)/2) ^^^ 2197175160):Int):Value)=V0 (↑(Ye (j+1) r):Int) from by rw[show Ye (j+1) r=Ue (Ye j r) from rfl,step1_odd (by omega)]) ?_
   exact ze 0 (a1 _ _ _ ⟨j+1,rfl,rfl,a0,by omega⟩ (by omega))
  refine xwm 5 ((j:Int)+1) (↑(j+1):Int) ?_
  refine xv1 2 0 (show(V0 (↑((Ye j r)/2):Int):Value)=V0 (↑(Ye (j+1) r):Int) from by rw[show Ye (j+1) r=Ue (Ye j r) from rfl,step1_ev (by omega)]) ?_
  exact ze 0 (a1 _ _ _ ⟨j+1,rfl,rfl,a0,by omega⟩ (by omega))
 refine xe 12 (V0 (↑(Ye j r):Int)) ?_
 obtain rfl:j=8:=by omega
 exact⟨rfl,a0⟩
theorem ref_More(a:O0)(c:Nat)(l:Bl)(w:World)(hl:l.length≤100000000)(h:Bys w (.slice a l.length c) l) :
 C0 202 #[V0 0,.slice a l.length c] w (Ret (V0 (Gl l:Int)) w):=by
 refine zin 31 Tryz.func202 ?_
 have hB:=Below.refl w.heap.size w
 refine zl 33 31 (fun zm a3 V=>∃ (i:Nat),a3=[(1,.slice a l.length c),(4,V0 0),(5,V0 (↑(Xg 4294967295 (l.take i)):Int)),(6,V0 (i:Int))]∧zm=l.length-((i:Int)).toNat∧B0 w V∧i≤l.length) ⟨0,rfl,rfl,hB,Nat.zero_le _⟩ ?_
 rintro _ _ W1 ⟨i,rfl,rfl,a0,hi⟩ J1 a2 r1
 refine xid 9 ((i:Int)<(l.length:Int)) (fun a4=>?_) (fun a4=>?_)
 ·refine xx 8 _ l.length i 1 (Bys.elem h (k:=i) (by omega)).1 ?_
  refine xl 0 ((Bys.elem (h.below a0) (k:=i) (by omega)).2) ?_
  refine xq 0 (congrArg V0 (show(IntKind.i64.wrap (↑(l.getD i 0).toNat:Int):Int)=(↑(l.getD i 0).toNat:Int) from Hs (by have:=(l.getD i 0).toNat_lt;omega))) ?_
  refine xq 0 (congrArg V0 (show(IntKind.i64.wrap (↑(BitVec.ofInt 64 (↑(Xg 4294967295 (l.take i)):Int) ^^^ BitVec.ofInt 64 (↑(l.getD i 0).toNat:Int)).toNat:Int):Int)=(↑((Xg 4294967295 (l.take i)) ^^^ (l.getD i 0).toNat):Int) from Fk (Ug (by decide) _) (Zff _))) ?_
  refine xr 0 (args:=#[V0 (↑((Xg 4294967295 (l.take i)) ^^^ (l.getD i 0).toNat):Int)]) (ref_Step ((Xg 4294967295 (l.take i)) ^^^ (l.getD i 0).toNat) _ (Nat.xor_lt_two_pow (n:=32) (Ug (by decide) _) (Zff _))) fun W3 a5=>?_
  refine xwm 6 ((i:Int)+1) (↑(i+1):Int) ?_
  refine xv1 2 5 (show(V0 (↑(Ye 8 ((Xg 4294967295 (l.take i)) ^^^ (l.getD i 0).toNat)):Int):Value)=V0 (↑(Xg 4294967295 (l.take (i+1))):Int) from by rw[Re (by omega),crcStep_8]) ?_
  have a1:=bln a0 a5
  exact ze 0 (a2 _ _ _ ⟨i+1,rfl,rfl,a1,by omega⟩ (by omega))
 refine xq 8 (congrArg V0 (show(IntKind.i64.wrap (↑(BitVec.ofInt 64 (↑(Xg 4294967295 (l.take i)):Int) ^^^ BitVec.ofInt 64 (4294967295:Int)).toNat:Int):Int)=(↑((Xg 4294967295 (l.take i)) ^^^ 4294967295):Int) from Fk (b:=4294967295) (Ug (by decide) _) (by decide))) ?_
 refine xe 4 (V0 (↑((Xg 4294967295 (l.take i)) ^^^ 4294967295):Int)) ?_
 obtain rfl:i=l.length:=by omega
 rw[List.take_length]
 exact⟨rfl,a0⟩
theorem ref_Sum(a:O0)(c:Nat)(l:Bl)(w:World)(hl:l.length≤100000000)(h:Bys w (.slice a l.length c) l) :
 C0 184 #[.slice a l.length c] w (Ret (V0 (Gl l:Int)) w):=by
 refine zin 5 Tryz.func184 ?_
 refine xr 8 (args:=#[V0 0,.slice a l.length c]) (ref_More a c l _ hl (h.below (B3 w))) fun W1 a0=>?_
 exact xe 4 (V0 (↑(Gl l):Int)) ⟨rfl,a0⟩
theorem ref_SumN(a:O0)(n c:Nat)(l:Bl)(w:World)(hn:l.length=n)(hl:n≤100000000)(h:Bys w (.slice a n c) l):C0 184 #[.slice a n c] w (Ret (V0 (Gl l:Int)) w):=by
 subst hn;exact ref_Sum a c l w hl h
theorem leB_snoc(n:Int)(w:Nat):leB n (w+1)=leB n w++[Xc n w]:=by simp[leB,List.range_succ]
theorem u8_byteAt(m i:Nat):IntKind.u8.wrap (((m/256 ^ i)%256:Nat):Int)=((Xc (m:Int) i).toNat:Int):=by
 rw[Oj (Int.natCast_nonneg _)]
 unfold Xc
 simp only[Int.toNat_natCast,Nat.pow_zero,Nat.div_one]
 congr 2
 apply UInt8.toNat_inj.1
 simp[UInt8.toNat_ofNat']
theorem ref_Bytes(m w:Nat)(W:World)(hm:m<9223372036854775808)(hw:w≤8) :
 C0 183 #[V0 (m:Int),V0 (w:Int)] W (Vy (fun W' r=>∃ p c,r=.slice p w c∧W'.ownsRow W.heap.size 5 1 (.slice p w c) w ((leB (m:Int) w).map bv)) W):=by
 refine zin 21 Tryz.func183 ?_
 refine xv1 17 0 (show(V0 (m:Int):Value)=V0 ((m/256 ^ 0:Nat):Int) from by rw[Nat.pow_zero,Nat.div_one]) ?_
 have hB:=Below.refl W.heap.size W
 refine zl 0 21 (fun zm a7 V=>∃ (i:Nat) (p:O0) (c:Nat),a7=[(0,V0 (↑(m/256 ^ i):Int)),(1,V0 (w:Int)),(4,S0),(5,.slice p i c),(6,V0 (i:Int))]∧zm=w-((i:Int)).toNat∧B0 W V∧V.ownsRow W.heap.size 5 1 (.slice p i c) i ((leB (m:Int) i).map bv)∧i≤w) ⟨0,_,_,rfl,rfl,hB,World.ownsRow_nil _ _ _ _,Nat.zero_le _⟩ ?_
 rintro _ _ W1 ⟨i,p,c,rfl,rfl,a0,ho,hi⟩ J1 a5 r1
 refine xid 8 ((i:Int)<(w:Int)) (fun a8=>?_) (fun a8=>?_)
 ·refine xq 8 (congrArg V0 (show(Int.tmod (↑(m/256 ^ i):Int) 256:Int)=(↑((m/256 ^ i)%256):Int) from Zao (m/256 ^ i) 256)) ?_
  refine xq 0 (congrArg (Value.int .u8) (show(IntKind.u8.wrap (↑((m/256 ^ i)%256):Int):Int)=(↑(Xc (m:Int) i).toNat:Int) from u8_byteAt m i)) ?_
  refine xbs 0 1 [.int .u8 (↑(Xc (m:Int) i).toNat:Int)] 5 fun b3 W3 n3=>?_
  have g3:=n3.ge a0
  have a4:=Zw ho n3
  have a3:=Zb ho n3.below
  have a1:=bln a0 n3.below
  refine xbi 0 fun _ _ _ _ zJ zQ zo zx zy zK=>Zu (m:=1) (news:=[.int .u8 (↑(Xc (m:Int) i).toNat:Int)]) (.int .u8 0) 1 1 (i+1) ((leB (m:Int) (i+1)).map bv) zo Tryz.underlying22 (by kernel_rfl) rfl (by decide) zx a3 zy (n3.blk.sl 1 1 (by decide) (by decide)) rfl (by simp[Value.oneCell']) (by unfold maxLen;omega) (by omega) a1.size (by rfl) (by rw[leB_snoc,List.map_append];rfl) fun b1 a9 W4 o4 b0 a6=>?_
  refine zK _ _ ?_
  refine xq 5 (congrArg V0 (show(IntKind.i64.wrap (Int.tdiv (↑(m/256 ^ i):Int) 256):Int)=(↑((m/256 ^ i)/256):Int) from Dh (m/256 ^ i) 256 (Nat.lt_of_le_of_lt (Nat.div_le_self _ _) hm) (by decide))) ?_
  refine xwm 6 ((i:Int)+1) (↑(i+1):Int) ?_
  refine xv1 2 0 (show(V0 (↑((m/256 ^ i)/256):Int):Value)=V0 (↑(m/256 ^ (i+1)):Int) from by rw[Nat.pow_succ,←Nat.div_div_eq_div_mul]) ?_
  have a2:=a1.trans a6
  exact ze 0 (a5 _ _ _ ⟨i+1,_,_,rfl,rfl,a2,o4,by omega⟩ (by omega))
 refine xe 12 (.slice p i c) ?_
 obtain rfl:i=w:=by omega
 exact⟨_,rfl,a0,_,_,rfl,ho⟩
theorem Tq(n:Int)(w:Nat)(wi:Int)(W:World)(h0:0≤n)(hn:n<9223372036854775808)(hwi:wi=(w:Int))(hw:w≤8):C0 183 #[V0 n,V0 wi] W (Vy (fun W' r=>∃ p c,r=.slice p w c∧W'.ownsRow W.heap.size 5 1 (.slice p w c) w ((leB n w).map bv)) W):=by
 subst hwi
 obtain⟨m,rfl⟩:∃ m:Nat,n=m:=⟨n.toNat,by omega⟩
 exact ref_Bytes m w W (by omega) hw
theorem ref_Salt1(w:World) :
 C0 185 #[V0 1] w (Ret (V0 (Pv 1:Int)) w):=by
 refine zin 15 Tryz.func185 ?_
 refine xbs 7 5 [V0 0,V0 160774,V0 121107,V0 240779,V0 160478] 3 fun b1 W1 n1=>?_
 refine xb 22 1 n1.blk ?_
 exact xe 4 (V0 160774) ⟨rfl,n1.below⟩
theorem ref_Salt2(w:World) :
 C0 185 #[V0 2] w (Ret (V0 (Pv 2:Int)) w):=by
 refine zin 15 Tryz.func185 ?_
 refine xbs 7 5 [V0 0,V0 160774,V0 121107,V0 240779,V0 160478] 3 fun b1 W1 n1=>?_
 refine xb 22 2 n1.blk ?_
 exact xe 4 (V0 121107) ⟨rfl,n1.below⟩
theorem ref_Salt3(w:World) :
 C0 185 #[V0 3] w (Ret (V0 (Pv 3:Int)) w):=by
 refine zin 15 Tryz.func185 ?_
 refine xbs 7 5 [V0 0,V0 160774,V0 121107,V0 240779,V0 160478] 3 fun b1 W1 n1=>?_
 refine xb 22 3 n1.blk ?_
 exact xe 4 (V0 240779) ⟨rfl,n1.below⟩
theorem ref_Salt4(w:World) :
 C0 185 #[V0 4] w (Ret (V0 (Pv 4:Int)) w):=by
 refine zin 15 Tryz.func185 ?_
 refine xbs 7 5 [V0 0,V0 160774,V0 121107,V0 240779,V0 160478] 3 fun b1 W1 n1=>?_
 refine xb 22 4 n1.blk ?_
 exact xe 4 (V0 160478) ⟨rfl,n1.below⟩
theorem ref_Salt(kind:Int)(h1:1≤kind)(h2:kind≤4)(w:World):C0 185 #[V0 kind] w (Ret (V0 (Pv kind:Int)) w):=by
 obtain rfl|rfl|rfl|rfl:kind=1∨kind=2∨kind=3∨kind=4:=by omega
 ·exact ref_Salt1 w
 ·exact ref_Salt2 w
 ·exact ref_Salt3 w
 ·exact ref_Salt4 w
theorem Oq(kind no:Int)(w:World) :
 C0 182 #[V0 kind,V0 no] w (Ret (.bool (Jk kind no)) w):=by
 refine zin 19 Tryz.func182 ?_
 refine xg 10 [6,7] (decide (kind≥(1:Int))) (fun a0=>?_) (fun a0=>?_)
 ·have a0:=of_decide_eq_true a0
  refine xg 4 [9,10,11] (decide (kind≤(4:Int))) (fun a1=>?_) (fun a1=>?_)
  ·have a1:=of_decide_eq_true a1
   refine xg 4 [13,14,15] (decide (no≥(0:Int))) (fun a2=>?_) (fun a2=>?_)
   ·have a2:=of_decide_eq_true a2
    exact xe 7 (.bool (decide (no<(14400:Int)))) ⟨by rw[show Jk kind no=decide (no<14400) from decide_eq_decide.2 ⟨fun h=>h.2.2.2,fun h=>⟨by omega,by omega,by omega,h⟩⟩],(B3 w)⟩
   have a2:=of_decide_eq_false a2
   exact xe 7 (.bool false) ⟨by rw[show Jk kind no=false from decide_eq_false (by omega)],(B3 w)⟩
  have a1:=of_decide_eq_false a1
  exact xe 11 (.bool false) ⟨by rw[show Jk kind no=false from decide_eq_false (by omega)],(B3 w)⟩
 have a0:=of_decide_eq_false a0
 exact xe 15 (.bool false) ⟨by rw[show Jk kind no=false from decide_eq_false (by omega)],(B3 w)⟩
end Go.Proofs.YtgphgaehfdfjjaaGreatDoor
