/- errors.Is of one Errno at another, as a contract. -/
import Derived.Deep.MidRow
import Derived.Lib.BufferWrite
import Derived.Lib.AppendStr
import Derived.Laws.IdiomStrings
import Derived.Test.YtceeiinepijokaaGreatDoorMg1
namespace Go.Proofs.YtceeiinepijokaaGreatDoor
set_option maxHeartbeats 8000000
set_option maxRecDepth 100000
open Go.RowKit Go.Extern.Stop Go.Stop Go.Extern
set_option linter.unusedVariables false
theorem errno_eq{P:Program}(w:World){ti tn:TypeId}{ms:Array (String×TypeId)}{i:TypeInfo}{k:IntKind}(a b:Int)
 (hi:P.underlying ti=some (.interface ms)) (hn:P.underlying tn=some (.int k)) (hinfo:P.info? tn=some i) (hcomp:i.comparable=true) :
 (binOp .eql ti (.iface tn (.int k a)) (.iface tn (.int k b))).run P w=.ok (.bool (a==b)) w:=by
 have h:∀ d:Nat,(Op.equalIn (d+2) ti (.iface tn (.int k a)) (.iface tn (.int k b))).run P w=.ok (a==b) w:=fun d=>by simp[Op.equalIn,run_underlying hi,run_underlying hn,typeInfo,hinfo,hcomp]
 simp only[binOp]
 simp[Op.equal,Op.maxDepth,h 9998]
theorem Tryz.eqN(a b:Int)(w:World):(binOp .eql 28 (.iface 50 (V0 a)) (.iface 50 (V0 b))).run Tryz.prog w=.ok (.bool (a==b)) w:=by
 obtain⟨i,h1,h2⟩:=Option.map_eq_some_iff.1 (show(Tryz.prog.info? 50).map (·.comparable)=some true by kernel_rfl)
 exact errno_eq w a b Tryz.underlying28 Tryz.underlying50 h1 h2
theorem Tryz.methComparable (h : Value) (w : World) : (Go.method 550 324 (.agg #[h]) "Comparable").run Tryz.prog w = .ok (313, .agg #[h]) w := by kernel_rfl
theorem Tryz.comparableN(w:World):(callFunc 313 #[.agg #[.pointer (some ⟨1,50,none⟩)]]).run Tryz.prog w=.ok (Next.value (.bool true)) w:=by kernel_rfl
theorem Zpg(c d:Int)(w:World):C0 262 #[.iface 50 (V0 c),.iface 50 (V0 d),.bool true] w (Ret (.bool (c==d)) w):=by
 have y1:=Tryz.eqN
 have y2:=Tryz.noIsN
 have y3:=Tryz.noUnwrapN
 have y4:=Tryz.noUnwrapsN
 go_enter Tryz.func262,Tryz.ntmps262
 go_wp2_with fail
 go_loopw [0] (fun v wr=>v=.iface 50 (V0 c)∧wr=w) (fun _ _=>0)
 case atStart=>exact⟨rfl,rfl⟩
 case round =>
  obtain⟨rfl,rfl⟩:=hrel
  by_cases h:c=d
  ·have h':(c==d)=true:=by simpa using h
   have HH:=Lib.hid h;clear h
   go_wp2_with fail
   go_ret
   exact⟨by rw[h'];rfl,Below.refl _ _⟩
  ·have h':(c==d)=false:=by simpa using h
   have HH:=Lib.hid h;clear h
   go_wp2_with fail
   go_ret
   exact⟨by rw[h'];rfl,Below.refl _ _⟩
theorem Zcz(c d:Int)(w:World):C0 229 #[.iface 50 (V0 c),.iface 50 (V0 d)] w (Ret (.bool (c==d)) w):=by
 have a0:=@run_callFunc_extern Tryz.prog 191 _ ReflectliteType.typeOf Tryz.func191 K0 K0 K0 K0
 have y1:=Tryz.typeOfN
 have y2:=Tryz.methComparable
 have y3:=Tryz.comparableN
 go_enter Tryz.func229,Tryz.ntmps229
 go_wp2_with fail
 refine(Zpg c d _).mono ?_
 rintro e w' ⟨rfl,hb⟩
 go_wp2_with fail
 go_ret
 exact⟨rfl,hb⟩
theorem Yc(no c:Int)(w:World):C0 171 #[V0 no,.iface 50 (V0 c)] w (Kc (fun w' r=>Kr w' (if c=0 then [] else [some no]) (if c=0 then none else some c) r) w):=by
 by_cases h:c=0
 ·subst h
  go_enter Tryz.func171,Tryz.ntmps171
  go_wp2_with fail
  refine(Zcz 0 0 _).mono ?_
  rintro e w1 ⟨rfl,hb⟩
  rw[show((0:Int)==0)=true from rfl]
  go_wp2_with fail
  go_ret
  exact⟨_,rfl,hb,rfl⟩
 ·have h':(c==0)=false:=by simpa using h
  simp only[h,if_false]
  have HC:=Lib.hid h;clear h
  go_enter Tryz.func171,Tryz.ntmps171
  go_wp2_with fail
  refine(Zcz c 0 _).mono ?_
  rintro e w1 ⟨rfl,hb⟩
  rw[h']
  go_wp2_with fail
  refine(Vu no (some c) [] _ w1 rfl).mono ?_
  rintro e w2 ⟨r,rfl,a0,h2⟩
  go_wp2_with fail
  go_ret
  exact⟨_,rfl,bln hb a0,h2⟩
theorem Blk.range{w:World}{b:Nat}{cs:List Value}{t:TypeId}(h:Blk w b cs t):w.rangeAt b 0 cs:=fun j v hj=>by rw[F3];exact h.cell hj
theorem Blk.there{w:World}{b:Nat}{cs:List Value}{t:TypeId}(h:Blk w b cs t){n:Nat}(hn:n=cs.length):w.there b 0 n:=fun j hj=>by
 rw[F3]
 exact⟨by rw[h.cell (A4 M0)];rfl,h.frozen j⟩
end Go.Proofs.YtceeiinepijokaaGreatDoor
namespace Go.Proofs.YtceeiinepijokaaGreatDoor
set_option maxHeartbeats 8000000
set_option maxRecDepth 100000
open Go.RowKit Go.Extern.Stop Go.Stop Go.Extern
set_option linter.unusedVariables false
attribute [local irreducible] wpList wpAnyH Code.wp Oper.wp Go
theorem Zr6(n k:Nat)(hn:n<9223372036854775808)(hk:0<k):IntKind.i64.wrap (Int.tdiv (n:Int) (k:Int))=((n/k:Nat):Int):=by
 rw[Int.tdiv_eq_ediv_of_nonneg (K1 _),←Int.natCast_ediv]
 exact Mk (I1 (O3 _ _) hn)
theorem Zme(a b:Nat):(if(b:Int)<(a:Int) then(b:Int) else(a:Int))=((min a b:Nat):Int):=by split<;>omega
theorem Yz(b:Nat)(p:O0)(n c:Nat)(w:World)(hk:Blk w b [.slice p n c] 80)(hn:n≤100000000) :
 C0 42 #[P0 b] w (Ret (V0 ((n/256:Nat):Int)) w):=by
 refine zin 11 Tryz.func42 ?_
 refine xb 20 0 hk ?_
 refine xq 1 (congrArg V0 (show(IntKind.i64.wrap (Int.tdiv (n:Int) 256):Int)=(↑(n/256):Int) from Zr6 n 256 M0 Do)) ?_
 exact xe 4 (V0 (↑(n/256):Int)) ⟨rfl,(B4 w)⟩
theorem Zbr(b g:Nat)(n c k:Nat)(w:World)(hk:Blk w b [.slice (S1 g) n c] 80)(hn:n≤100000000)(hc:n≤c)(hkn:k<n/256) :
 C0 90 #[P0 b,V0 (k:Int)] w (Ret (.tuple #[.slice (some ⟨g,k*256,none⟩) 256 256,V0 0]) w):=by
 refine zin 33 Tryz.func90 ?_
 refine xgk 21 [13,14] (show(decide ((k:Int)<(0:Int)):Bool)=false from decide_eq_false M0) ?_
 refine xr 2 (args:=#[P0 b]) (Yz b _ n c _ (hk.below (B4 w)) hn) fun W2 a1=>?_
 refine xk 5 (show(decide ((k:Int)≥(↑(n/256):Int)):Bool)=false from decide_eq_false M0) ?_
 refine xwm 6 ((k:Int)*256) (↑(k*256):Int) ?_
 refine xwm 1 ((k:Int)+1) (↑(k+1):Int) ?_
 refine xwm 0 ((↑(k+1):Int)*256) (↑((k+1)*256):Int) ?_
 have a0:=hk.below a1
 refine xb 9 0 a0 ?_
 refine xs3 3 (fun _ _ _ _ _ _ zo zx zy zz zm V=>Zqz (k:=(k*256)) (h:=((k+1)*256)) (b:=g) (off:=0) (n:=n) (c:=c) (i:=(↑(k*256):Int)) (ki:=.i64) (j:=(↑((k+1)*256):Int)) (kj:=.i64) (j2:=(↑((k+1)*256):Int)) (kj2:=.i64) 1 (k*256) 256 zo zx zy rfl zz rfl zm rfl M0 M0 M0 M0 Tryz.underlying22 K0 V) ?_
 exact xe 5 (.tuple #[.slice (some ⟨g,(k*256),none⟩) 256 256,V0 0]) ⟨rfl,a1⟩
def WroteB(B g n c:Nat)(l:Bl)(v:Value)(w:World)(e:Ending)(w':World):Prop :=
 e=.returned v∧Below B w w'∧Ze [5] w w'∧Fr [g] w w'∧w'.ownsRow B 5 1 (.slice (S1 g) n c) n (l.map bv)
theorem Zi2(B b g:Nat)(n c k:Nat)(l:Bl)(a:O0)(cx:Nat)(lx:Bl)(w:World)(hk:Blk w b [.slice (S1 g) n c] 80)(ho:w.ownsRow B 5 1 (.slice (S1 g) n c) n (l.map bv))(hn:n≤100000000)(hc:n≤c)(hkn:k<n/256)(hx:Bys w (.slice a 256 cx) lx)(hlx:lx.length=256)(hBw:B≤w.heap.size) :
 C0 170 #[P0 b,V0 (k:Int),.slice a 256 cx] w (WroteB B g n c (Qh l (k*256) lx) (V0 0) w):=by
 replace hx:Sl w (.slice a 256 cx) 256 (lx.map bv):=by
  have:=hx
  unfold Bys at this
  rwa [hlx] at this
 refine zin 24 Tryz.func170 ?_
 refine xr 9 (Zbr b g n c k _ hk hn hc hkn) fun W1 a0=>?_
 have a1:=Zb ho a0
 have a3:=hx.below a0
 have hB:=blB (Below.refl B w) hBw a0
 refine xbi 32 (t2:=22) fun _ _ _ _ zJ zQ zo zx zy zK=>Bv (dLen:=256) (dCap:=256) (off:=(k*256)) 256 (lx.map bv) ((Qh l (k*256) lx).map bv) zo Tryz.underlying22 K0 zx zy a3 a1 (by simpa using hlx) M0 M0 (Vy _) (N0 hBw hB.size) (by simp[Qh,hlx,I4,Lt]) fun W2 o2 a4 a5=>?_
 refine zK _ _ ?_
 have a2:=hB.trans a5
 have hO:=(show Ze [5] w _ from(Q0 a0)).trans (Q4 a4 a1 Do)
 have hX:=(show Fr [g] w _ from(Q2 a0)).trans (Fr.of_grown a4 (by simp))
 exact xe 8 (V0 0) ⟨rfl,a2,hO,hX,o2⟩
theorem Za2(B b g:Nat)(n c k:Nat)(l:Bl)(kind:Int)(a:O0)(ca:Nat)(li:Bl)(w:World)(hk:Blk w b [.slice (S1 g) n c] 80)(ho:w.ownsRow B 5 1 (.slice (S1 g) n c) n (l.map bv))(hn:n≤3686400)(hc:n≤c)(hkn:k<n/256)(h1:1≤kind)(h2:kind≤4)(hin:Bys w (.slice a li.length ca) li)(hl:li.length≤244)(hBw:B≤w.heap.size) :
 C0 101 #[P0 b,V0 (k:Int),V0 kind,.slice a li.length ca] w (WroteB B g n c (Qh l (k*256) (Xu kind k li)) .nilIface w):=by
 refine zin 28 Tryz.func101 ?_
 refine xc 10 (Zsc kind k h1 h2 M0 M0 a ca li _ hl hin) ?_
 rintro _ W1 ⟨_,rfl,a0,p,c2,rfl,o⟩
 have a6:=At w.heap.size
 have a3:=hk.below a0
 have a5:=Zb ho a0
 have b0:=Zf o a6
 have hB:=blB (Below.refl B w) hBw a0
 refine xc 19 (Zi2 B b g n c k l p c2 (Xu kind k li) _ a3 a5 M0 hc hkn (Vc (Zg b0) (Yn hl)) (Yn hl) (N0 hBw hB.size)) ?_
 rintro _ W2 ⟨rfl,b1,a9,a7,a8⟩
 refine xc 8 (Yc k 0 _) ?_
 rintro _ W3 ⟨r,rfl,a2,hr⟩
 obtain rfl:r=.nilIface:=hr
 have a4:=blB (hB.trans b1) hBw a2
 have hO:=((show Ze [5] w _ from(Q0 a0)).trans a9).trans (Q0 a2)
 have hX:=((show Fr [g] w _ from(Q2 a0)).trans (a7.mono (by simp))).trans (Q2 a2)
 have a1:=Zb a8 a2
 exact xe 4 .nilIface ⟨rfl,a4,hO,hX,a1⟩
def Zdg(f j:Nat):List Int:=(List.range j).map fun i=>((f+i:Nat):Int)
theorem Zxa(f j:Nat):Zdg f (j+1)=Zdg f j++[((f+j:Nat):Int)]:=by simp[Zdg,C3]
theorem Zmj{f N k:Nat}(h:k<N):(Zdg f N).getD k 0=((f+k:Nat):Int):=by simp[Zdg,List.getD,B8 h]
theorem Zm5(f j:Nat):(Zdg f j).length=j:=by simp[Zdg]
structure Al(B ba b g n c:Nat)(pa:Option Addr)(ca f N k:Nat)(l:List UInt8)(w:World):Prop where
 blkA:Blk w ba [.slice pa N ca,.int .i64 (k:Int),.pointer (some ⟨b,0,none⟩)] 200
 blkI:Blk w b [.slice (some ⟨g,0,none⟩) n c] 80
 data:w.ownsRow B 5 1 (.slice (some ⟨g,0,none⟩) n c) n (l.map bv)
 nums:w.ownsRow B 3 1 (.slice pa N ca) N ((Zdg f N).map (Value.int .i64))
structure AlC(B ba n c ca f N:Nat):Prop where
 hn:n≤3686400
 hc:n≤c
 hca:N≤ca
 hf:f+N≤n/256
 hB:B≤ba
theorem Zwx(b:Nat)(p0:O0)(n c f:Nat)(w:World)(hk:Blk w b [.slice p0 n c] 80)(hn:n≤3686400)(h1:1≤f)(h2:f≤n/256) :
 C0 53 #[P0 b,V0 (f:Int)] w (Kc (fun w' r=>∃ ba p c2,r=.tuple #[P0 ba,.nilIface]∧w.heap.size≤ba∧Blk w' ba [.slice p (n/256-f) c2,V0 0,P0 b] 200∧w'.ownsRow w.heap.size 3 1 (.slice p (n/256-f) c2) (n/256-f) ((Zdg f (n/256-f)).map V0)) w):=by
 refine zin 37 Tryz.func53 ?_
 refine xgk 16 [12,13,14] (show(decide ((f:Int)<(1:Int)):Bool)=false from decide_eq_false M0) ?_
 refine xr 2 (Yz b p0 n c _ hk M0) fun W2 b3=>?_
 refine xk 4 (show(decide ((f:Int)>(↑(n/256):Int)):Bool)=false from decide_eq_false M0) ?_
 have b2:=hk.below b3
 refine zl 15 37 (fun zm c1 V=>∃ (j:Nat) (p:O0) (c2:Nat),c1=[(0,P0 b),(4,.pointer none),(5,.nilIface),(6,.slice p j c2),(7,V0 (↑(f+j):Int))]∧zm=n/256-((↑(f+j):Int)).toNat∧B3 w V∧Blk V b ([.slice p0 n c]) 80∧V.ownsRow w.heap.size 3 1 (.slice p j c2) j ((Zdg f j).map V0)∧f+j≤n/256) ⟨0,_,_,rfl,rfl,b3,b2,A5 _ _ _ _,by omega⟩ ?_
 rintro _ _ W3 ⟨j,p,c2,rfl,rfl,a3,a1,ho,hj⟩ J3 c0 r3
 refine xr 5 (Yz b p0 n c _ a1 M0) fun W4 a5=>?_
 refine xid 3 ((↑(f+j):Int)<(↑(n/256):Int)) (fun b7=>?_) (fun b7=>?_)
 ·refine xbs 7 1 [V0 (↑(f+j):Int)] 3 fun b6 W6 n6=>?_
  have a6:=bln a3 a5
  have g6:=n6.ge a6
  have a2:=Zb ho a5
  have b4:=Zu a2 n6
  have a7:=Zb a2 n6.below
  have a4:=bln a6 n6.below
  refine xbi 0 fun _ _ _ _ zJ zQ zo zx zy zK=>Xi (m:=1) (news:=[V0 (↑(f+j):Int)]) (V0 0) 1 8 (j+1) ((Zdg f (j+1)).map V0) zo Tryz.underlying34 K0 rfl Do zx a7 zy (n6.blk.sl 1 1 Do Do) rfl (by simp[Value.oneCell']) (by unfold maxLen;omega) M0 a4.size (by rfl) (by rw[Zxa];simp) fun c3 c4 W7 o7 b5 b9=>?_
  refine zK _ _ ?_
  refine xwm 6 ((↑(f+j):Int)+1) (↑((f+j)+1):Int) ?_
  have b0:=a4.trans b9
  have a0:=((a1.below a5).below n6.below).grown b5 a7 Do
  exact ze 2 (c0 _ _ _ ⟨j+1,_,_,rfl,rfl,b0,a0,o7,by omega⟩ M0)
 refine xa 11 [.slice p j c2,V0 0,P0 b] 200 fun b8 W8 n8=>?_
 have a8:=bln a3 a5
 have g8:=n8.ge a8
 have a9:=bln a8 n8.below
 have b1:=Zb (Zb ho a5) n8.below
 refine xe 5 (.tuple #[P0 b8,.nilIface]) ?_
 obtain rfl:j=n/256-f:=by omega
 exact⟨_,rfl,a9,_,_,_,rfl,g8,n8.blk,b1⟩
theorem Uc(ba b:Nat)(v x:Value)(w:World)(hk:Blk w ba [v,x,P0 b] 200) :
 C0 151 #[P0 ba] w (Ret (.bool false) w):=by
 refine zin 12 Tryz.func151 ?_
 refine xb 13 2 hk ?_
 exact xe 6 (.bool false) ⟨rfl,(B4 w)⟩
theorem Zdv(ba:Nat)(p:O0)(N c k:Nat)(m:Value)(w:World)(hk:Blk w ba [.slice p N c,V0 (k:Int),m] 200)(h1:k≤N) :
 C0 218 #[P0 ba] w (Ret (.slice (Mw p k c 1) (N-k) (c-k)) w):=by
 refine zin 12 Tryz.func218 ?_
 refine xd 6 .z ?_
 have a0:=hk.below (Za w)
 refine xb (.e [0,1,2] 3) 0 a0 ?_
 refine xb (.e [4,5,6] 7) 1 a0 ?_
 refine xsL (.e [] 8) (fun _ _ _ _ zo zx zy V=>Wi (k:=k) (b:=p) (n:=N) (c:=c) (i:=(k:Int)) (ki:=.i64) 1 zo zx zy rfl M0 Tryz.underlying34 K0 V) ?_
 have hB:=(Za w)
 exact xe (.r [9] 3) (.slice (Mw p k c 1) (N-k) (c-k)) ⟨rfl,hB⟩
theorem Ro(ba b:Nat)(p:O0)(N c k:Nat)(w:World)(hk:Blk w ba [.slice p N c,V0 (k:Int),P0 b] 200)(h1:k≤N) :
 C0 157 #[P0 ba] w (Ret (V0 ((N-k:Nat):Int)) w):=by
 refine zin 10 Tryz.func157 ?_
 refine xr 9 (args:=#[P0 ba]) (Uc ba b _ _ _ hk) fun W1 a1=>?_
 have a0:=hk.below a1
 refine xr 10 (args:=#[P0 ba]) (Zdv ba p N c k _ _ a0 h1) fun W2 a2=>?_
 have hB:=bln a1 a2
 exact xe 5 (V0 (↑(N-k):Int)) ⟨rfl,hB⟩
theorem Zrq(ba b:Nat)(v:Value)(k:Nat)(w:World)(hk:Blk w ba [v,V0 (k:Int),P0 b] 200) :
 C0 166 #[P0 ba] w (Ret (V0 (k:Int)) w):=by
 refine zin 10 Tryz.func166 ?_
 refine xr 9 (args:=#[P0 ba]) (Uc ba b _ _ _ hk) fun W1 a1=>?_
 have a0:=hk.below a1
 refine xb 11 1 a0 ?_
 exact xe 4 (V0 (k:Int)) ⟨rfl,a1⟩
def Took(B ba:Nat)(p:O0)(N c k:Nat)(m:Value)(L:List Int)(v:Value)(w:World)(e:Ending)(w':World):Prop :=
 e=.returned v∧Below B w w'∧Ze [200] w w'∧Fr [ba] w w'∧Blk w' ba [.slice p N c,V0 ((k+1:Nat):Int),m] 200∧w'.ownsRow B 3 1 (.slice p N c) N (L.map V0)
theorem IntsN.elem{w:World}{b:O0}{n c:Nat}{l:List Int}(h:Sl w (.slice b n c) n (l.map V0))(hl:l.length=n){k:Nat}(hk:k<n):b.isSome=true∧w.cell? (Zx b (k*1))=some (V0 (l.getD k 0)):=by
 subst hl;exact Ints.elem h hk
theorem Zp1(B ba:Nat)(p:O0)(N c k:Nat)(L:List Int)(hL:L.length=N)(m:Value)(w:World)(hk:Blk w ba [.slice p N c,V0 (k:Int),m] 200)(ho:w.ownsRow B 3 1 (.slice p N c) N (L.map V0))(hB0:B≤ba)(hBw:B≤w.heap.size)(hN:N≤1000000)(hkN:k<N) :
 C0 261 #[P0 ba] w (Took B ba p N c k m L (.tuple #[V0 (L.getD k 0),.bool true]) w):=by
 refine zin 32 Tryz.func261 ?_
 refine xd 8 .z ?_
 have a0:=hk.below (Za w)
 refine xb (.e [0,1,2] 3) 1 a0 ?_
 refine xb (.e [4,5,6] 7) 0 a0 ?_
 refine xk (.r [8,9] 2) (show(decide ((k:Int)≥(N:Int)):Bool)=false from decide_eq_false M0) ?_
 refine xb 7 1 a0 ?_
 refine xwm 0 ((k:Int)+1) (↑(k+1):Int) ?_
 refine xs 2 a0 [.slice p N c,V0 (↑(k+1):Int),m] fun W1 u1 k1=>?_
 refine xd 3 .z ?_
 have a2:=k1.below (Za W1)
 refine xb (.e [0,1,2] 3) 0 a2 ?_
 refine xb (.e [4,5,6] 7) 1 a2 ?_
 refine xwm (.e [] 8) ((↑(k+1):Int)-1) (k:Int) ?_
 have a1:=Zb (u1.own2 (Zb ho (Za w)) a0 Do) (Za W1)
 refine xx (.e [] 9) _ N k 1 (IntsN.elem (Zg a1) hL (k:=k) M0).1 ?_
 refine xl (.e [] 10) ((IntsN.elem (Zg a1) hL (k:=k) M0).2) ?_
 have hB:=blB (u1.below (blB (Below.refl B w) hBw (Za w)) hB0) hBw (Za W1)
 have hO:=((show Ze [200] w _ from(Q0 (Za w))).trans (Q1 u1 a0 Do)).trans (Q0 (Za W1))
 have hX:=((show Fr [ba] w _ from(Q2 (Za w))).trans (Fr.of_upd u1 (by simp))).trans (Q2 (Za W1))
 exact xe (.r [11,12] 3) (.tuple #[V0 (L.getD k 0),.bool true]) ⟨rfl,hB,hO,hX,a2,a1⟩
theorem Zo6(B ba:Nat)(p:O0)(N c k:Nat)(L:List Int)(hL:L.length=N)(b q:Nat)(hq:L.getD k 0=(q:Int))(w:World)(hk:Blk w ba [.slice p N c,V0 (k:Int),P0 b] 200)(ho:w.ownsRow B 3 1 (.slice p N c) N (L.map V0))(hB0:B≤ba)(hBw:B≤w.heap.size)(hN:N≤1000000)(hkN:k<N) :
 C0 223 #[P0 ba] w (Took B ba p N c k (P0 b) L (.tuple #[V0 (q:Int),.nilIface]) w):=by
 refine zin 20 Tryz.func223 ?_
 refine xr 10 (args:=#[P0 ba]) (Uc ba b _ _ _ hk) fun W1 a0=>?_
 have a1:=hk.below a0
 have a3:=Zb ho a0
 have hB:=blB (Below.refl B w) hBw a0
 refine xc 10 (args:=#[P0 ba]) (Zp1 B ba p N c k L hL _ _ a1 a3 hB0 (N0 hBw hB.size) hN hkN) ?_
 rintro _ W2 ⟨rfl,a6,a5,a4,kA,ho⟩
 rw[hq]
 have a2:=hB.trans a6
 have hO:=(show Ze [200] w _ from(Q0 a0)).trans a5
 have hX:=(show Fr [ba] w _ from(Q2 a0)).trans (a4.mono (by simp))
 exact xe 25 (.tuple #[V0 (q:Int),.nilIface]) ⟨rfl,a2,hO,hX,kA,ho⟩
def Laid(B ba b g n c:Nat)(pa:O0)(ca f N k:Nat)(l:Bl)(kind:Int)(li:Bl)(w:World)(e:Ending)(w':World):Prop :=
 e=.returned (.tuple #[V0 ((f+k:Nat):Int),.nilIface])∧Below B w w'∧Ze [200,5] w w'∧Fr [ba,g] w w'∧Al B ba b g n c pa ca f N (k+1) (Qh l ((f+k)*256) (Xu kind ((f+k:Nat):Int) li)) w'
theorem Ze.mono{T T':List TypeId}{w w':World}(h:Ze T w w')(hT:∀ t,T'.contains t=false→T.contains t=false):Ze T' w w':=fun k cs t fr hk ht=>h k cs t fr hk (hT t ht)
theorem only_aa{w w':World}(h:Ze [200] w w'):Ze [200,5] w w':=h.mono fun t ht=>by simp at ht ⊢;exact ht.1
theorem only_ab{w w':World}(h:Ze [5] w w'):Ze [200,5] w w':=h.mono fun t ht=>by simp at ht ⊢;exact ht.2
theorem Zs2(B ba b g n c:Nat)(p:O0)(ca f N k:Nat)(l:Bl)(kind:Int)(a:O0)(ci:Nat)(li:Bl)(w:World)(hC:AlC B ba n c ca f N)(hA:Al B ba b g n c p ca f N k l w)(hkN:k<N)(h1:1≤kind)(h2:kind≤4)(hin:∀ W,Below B w W→Ze [200] w W→Bys W (.slice a li.length ci) li)(hl:li.length≤244)(hBw:B≤w.heap.size) :
 C0 165 #[P0 ba,V0 kind,.slice a li.length ci] w (Laid B ba b g n c p ca f N k l kind li w):=by
 obtain⟨hk,hi,hd,ho⟩:=hA
 refine zin 35 Tryz.func165 ?_
 refine xc 9 (args:=#[P0 ba]) (Zo6 B ba p N ca k (Zdg f N) (Zm5 f N) b (f+k) (Zmj hkN) _ hk ho hC.hB (N0 hBw (Below.refl B _).size) (by have:=hC.hf;have:=hC.hn;omega) hkN) ?_
 rintro _ W1 ⟨rfl,a5,a2,b0,kA,ho⟩
 replace hin:=hin _ a5 a2
 refine xb 23 2 kA ?_
 have a0:=hi.only a2 Do
 have a3:=Zi hd a2 Do
 refine xc 3 (Za2 B b g n c (f+k) l kind a ci li _ a0 a3 hC.hn hC.hc (by have:=hC.hf;omega) h1 h2 hin hl (N0 hBw a5.size)) ?_
 rintro _ W2 ⟨rfl,b1,a1,a9,hd⟩
 have a7:=a5.trans b1
 have hO:=(show Ze [200,5] w _ from(only_aa a2)).trans (only_ab a1)
 have hX:=(show Fr [ba,g] w _ from(b0.mono (by simp))).trans (a9.mono (by simp))
 have a6:=kA.only a1 Do
 have a4:=a0.only a1 Do
 have a8:=Zi ho a1 Do
 exact xe 20 (.tuple #[V0 (↑(f+k):Int),.nilIface]) ⟨rfl,a7,hO,hX,a6,a4,hd,a8⟩
theorem Ts(w:World) :
 C0 239 #[V0 1,.bool true] w (Ret (V0 4) w):=by
 refine zin 31 Tryz.func239 ?_
 exact xe 94 (V0 4) ⟨rfl,(B4 w)⟩
theorem Zod(w:World) :
 C0 189 #[V0 1,.bool true] w (Ret (V0 18) w):=by
 refine zin 16 Tryz.func189 ?_
 refine xr 9 (Ts _) fun W1 a0=>?_
 exact xe 24 (V0 18) ⟨rfl,a0⟩
theorem Sx(w:World) :
 C0 239 #[V0 1,.bool false] w (Ret (V0 4) w):=by
 refine zin 31 Tryz.func239 ?_
 exact xe 41 (V0 4) ⟨rfl,(B4 w)⟩
theorem Znz(w:World) :
 C0 189 #[V0 1,.bool false] w (Ret (V0 18) w):=by
 refine zin 16 Tryz.func189 ?_
 refine xr 9 (Sx _) fun W1 a0=>?_
 exact xe 24 (V0 18) ⟨rfl,a0⟩
theorem Tv(w:World) :
 C0 239 #[V0 2,.bool true] w (Ret (V0 8) w):=by
 refine zin 31 Tryz.func239 ?_
 exact xe 101 (V0 8) ⟨rfl,(B4 w)⟩
theorem Zom(w:World) :
 C0 189 #[V0 2,.bool true] w (Ret (V0 12) w):=by
 refine zin 16 Tryz.func189 ?_
 refine xr 9 (Tv _) fun W1 a0=>?_
 exact xe 24 (V0 12) ⟨rfl,a0⟩
theorem Te(w:World) :
 C0 239 #[V0 2,.bool false] w (Ret (V0 4) w):=by
 refine zin 31 Tryz.func239 ?_
 exact xe 41 (V0 4) ⟨rfl,(B4 w)⟩
theorem Zps(w:World) :
 C0 189 #[V0 2,.bool false] w (Ret (V0 18) w):=by
 refine zin 16 Tryz.func189 ?_
 refine xr 9 (Te _) fun W1 a0=>?_
 exact xe 24 (V0 18) ⟨rfl,a0⟩
theorem Tb(w:World) :
 C0 239 #[V0 3,.bool true] w (Ret (V0 24) w):=by
 refine zin 31 Tryz.func239 ?_
 exact xe 93 (V0 24) ⟨rfl,(B4 w)⟩
theorem Zqq(w:World) :
 C0 189 #[V0 3,.bool true] w (Ret (V0 6) w):=by
 refine zin 16 Tryz.func189 ?_
 refine xr 9 (Tb _) fun W1 a0=>?_
 exact xe 24 (V0 6) ⟨rfl,a0⟩
theorem Tk(w:World) :
 C0 239 #[V0 3,.bool false] w (Ret (V0 4) w):=by
 refine zin 31 Tryz.func239 ?_
 exact xe 41 (V0 4) ⟨rfl,(B4 w)⟩
theorem Zpc(w:World) :
 C0 189 #[V0 3,.bool false] w (Ret (V0 18) w):=by
 refine zin 16 Tryz.func189 ?_
 refine xr 9 (Tk _) fun W1 a0=>?_
 exact xe 24 (V0 18) ⟨rfl,a0⟩
theorem Ta(w:World) :
 C0 239 #[V0 4,.bool true] w (Ret (V0 16) w):=by
 refine zin 31 Tryz.func239 ?_
 exact xe 98 (V0 16) ⟨rfl,(B4 w)⟩
theorem Zq3(w:World) :
 C0 189 #[V0 4,.bool true] w (Ret (V0 9) w):=by
 refine zin 16 Tryz.func189 ?_
 refine xr 9 (Ta _) fun W1 a0=>?_
 exact xe 24 (V0 9) ⟨rfl,a0⟩
theorem St(w:World) :
 C0 239 #[V0 4,.bool false] w (Ret (V0 4) w):=by
 refine zin 31 Tryz.func239 ?_
 exact xe 41 (V0 4) ⟨rfl,(B4 w)⟩
theorem Zp2(w:World) :
 C0 189 #[V0 4,.bool false] w (Ret (V0 18) w):=by
 refine zin 16 Tryz.func189 ?_
 refine xr 9 (St _) fun W1 a0=>?_
 exact xe 24 (V0 18) ⟨rfl,a0⟩
theorem Tx(w:World) :
 C0 239 #[V0 5,.bool true] w (Ret (V0 4) w):=by
 refine zin 31 Tryz.func239 ?_
 exact xe 94 (V0 4) ⟨rfl,(B4 w)⟩
theorem Zq5(w:World) :
 C0 189 #[V0 5,.bool true] w (Ret (V0 18) w):=by
 refine zin 16 Tryz.func189 ?_
 refine xr 9 (Tx _) fun W1 a0=>?_
 exact xe 24 (V0 18) ⟨rfl,a0⟩
theorem Tt(w:World) :
 C0 239 #[V0 5,.bool false] w (Ret (V0 4) w):=by
 refine zin 31 Tryz.func239 ?_
 exact xe 41 (V0 4) ⟨rfl,(B4 w)⟩
theorem Zrl(w:World) :
 C0 189 #[V0 5,.bool false] w (Ret (V0 18) w):=by
 refine zin 16 Tryz.func189 ?_
 refine xr 9 (Tt _) fun W1 a0=>?_
 exact xe 24 (V0 18) ⟨rfl,a0⟩
def Jd(t:Int)(leaf:Bool):Nat:=if leaf=false then 4 else if t=2 then 8 else if t=3 then 24 else if t=4 then 16 else 4
def Kh(t:Int)(leaf:Bool):Nat:=if leaf=false then 18 else if t=2 then 12 else if t=3 then 6 else if t=4 then 9 else 18
theorem Zcu(t:Int)(leaf:Bool)(h1:1≤t)(h2:t≤5)(w:World):C0 239 #[V0 t,.bool leaf] w (Ret (V0 (Jd t leaf:Int)) w):=by
 obtain rfl|rfl|rfl|rfl|rfl:t=1∨t=2∨t=3∨t=4∨t=5:=by omega
 all_goals cases leaf
 ·exact Sx w
 ·exact Ts w
 ·exact Te w
 ·exact Tv w
 ·exact Tk w
 ·exact Tb w
 ·exact St w
 ·exact Ta w
 ·exact Tt w
 ·exact Tx w
theorem Ap(t:Int)(leaf:Bool)(h1:1≤t)(h2:t≤5)(w:World):C0 189 #[V0 t,.bool leaf] w (Ret (V0 (Kh t leaf:Int)) w):=by
 obtain rfl|rfl|rfl|rfl|rfl:t=1∨t=2∨t=3∨t=4∨t=5:=by omega
 all_goals cases leaf
 ·exact Znz w
 ·exact Zod w
 ·exact Zps w
 ·exact Zom w
 ·exact Zpc w
 ·exact Zqq w
 ·exact Zp2 w
 ·exact Zq3 w
 ·exact Zrl w
 ·exact Zq5 w
theorem Qi(t:Int)(leaf:Bool):1≤Kh t leaf∧Kh t leaf≤18:=by
 unfold Kh;repeat' split
 all_goals decide
theorem run_quo{P:Program}{a:Act}{o:Oper}{t:TypeId}{x y:Operand}{t2:TypeId}{p q r:Int}{k:IntKind}(ho:o.op=.binOp .quo t x y t2)(hx:a.eval x=.int k p)(hy:a.eval y=.int k q)(hq:q≠0)(hr:k.wrap (Int.tdiv p q)=r)(w:World) :
 (execOp a.eval o).run P w=.ok (.value (.int k r)) w:=by
 subst hr
 have hb:(binOp .quo t (.int k p) (.int k q)).run P w=.ok (.int k (k.wrap (p.tdiv q))) w:=by
  simp[binOp,Op.intDiv,hq]
 have hg:(eqGuard .quo t x y (.int k p) (.int k q)).run P w=.ok () w:=rfl
 simp only[execOp,ho,hx,hy,C9,hg,E1,hb]
 rfl
def ovN (n m:Nat):Nat:=max 1 ((n+m-1)/m)
theorem max_cast(a b:Nat):(if(b:Int)>(a:Int) then(b:Int) else(a:Int))=((max a b:Nat):Int):=by split<;>omega
theorem Qp(n m:Nat):1≤ovN n m:=by unfold ovN;omega
theorem Zhx(n m:Nat)(hm:1≤m):ovN n m≤n+1:=by
 have:(n+m-1)/m≤n:=by
  rw[L9 M0]
  have:=Nat.le_mul_of_pos_left n hm
  omega
 unfold ovN;omega
theorem Zru{x:Nat}(h:2≤x):ovN x 18≤x/2:=by unfold ovN;omega
theorem Za9(n m:Nat)(w:World)(hn:n≤1000000)(hm:1≤m)(hm2:m≤1000000) :
 C0 190 #[V0 (n:Int),V0 (m:Int)] w (Ret (V0 (ovN n m:Int)) w):=by
 refine zin 12 Tryz.func190 ?_
 refine xwm 9 ((n:Int)+(m:Int)) (↑(n+m):Int) ?_
 refine xwm 0 ((↑(n+m):Int)-1) (↑((n+m)-1):Int) ?_
 refine xbo 1 (t:=3) (t2:=3) (fun _ _ _ _ zo zx zy V hV=>run_quo (r:=(↑((n+m-1)/m):Int)) zo zx zy M0 (Zr6 (n+m-1) m M0 M0) V) ?_
 refine xq 0 (congrArg V0 (show(if(↑((n+m-1)/m):Int)>(1:Int) then(↑((n+m-1)/m):Int) else(1:Int):Int)=(↑(ovN n m):Int) from max_cast 1 ((n+m-1)/m))) ?_
 exact xe 4 (V0 (↑(ovN n m):Int)) ⟨rfl,(B4 w)⟩
def lenOf:Value→Nat
 | .slice _ n _=>n
 | _=>0
def nv (n:Nat):Value:=V0 (n:Int)
def Jy(x:Nat):List Nat:=if h:x≤1 then [x] else x::Jy (ovN x 18)
termination_by x
decreasing_by have:=Zru (x:=x) M0;omega
theorem Jm{x:Nat}(h:x≤1):Jy x=[x]:=by rw[Jy];simp[h]
theorem Vx{x:Nat}(h:¬ x≤1):Jy x=x::Jy (ovN x 18):=by rw[Jy];simp[h]
theorem levs_sum{x:Nat}(h:1≤x):(Jy x).sum≤2*x:=by
 induction x using Nat.strongRecOn with
 | _ x ih =>
  by_cases h1:x≤1
  ·rw[Jm h1];simp;omega
  ·rw[Vx h1,G5]
   have h2:=Zru (x:=x) M0
   have:=ih (ovN x 18) M0 (Qp _ _)
   omega
theorem levs_len{x:Nat}(h:1≤x):(Jy x).length≤x:=by
 induction x using Nat.strongRecOn with
 | _ x ih =>
  by_cases h1:x≤1
  ·rw[Jm h1];simpa using h
  ·rw[Vx h1,C7]
   have h2:=Zru (x:=x) M0
   have:=ih (ovN x 18) M0 (Qp _ _)
   omega
theorem Xc{w:World}{b:O0}{n c:Nat}{l:List Nat}(h:Sl w (.slice b n c) n (l.map nv))(hl:l.length=n){k:Nat}(hk:k<n):b.isSome=true∧w.cell? (Zx b (k*1))=some (V0 ((l.getD k 0:Nat):Int)):=by
 have e:l.map nv=(l.map fun x:Nat=>(x:Int)).map V0:=by simp[nv]
 rw[e] at h
 have:=IntsN.elem h (by simpa using hl) hk
 rw[show(l.map fun x:Nat=>(x:Int)).getD k 0=((l.getD k 0:Nat):Int) by simp[List.getD,A4 (show k<l.length by omega)]] at this
 exact this
theorem Zgm{xs:List Nat}{x j:Nat}(h:xs.length=j):(xs++[x]).getD j 0=x:=by subst h;simp[List.getD]
theorem Zfv{L:List Nat}{k:Nat}(h:k<L.length):(L.take (k+1)).sum=(L.take k).sum+L.getD k 0:=by
 rw[List.take_add_one,F0];simp[List.getD,A4 h]
theorem Zsf{L:List Nat}(k:Nat):(L.take k).sum≤L.sum:=by
 conv=>rhs;rw[←F9 k L,F0]
 omega
def Uh(t:Int)(n:Nat):List Nat:=Jy (ovN n (Kh t true))
def Xk(t:Int)(n:Nat):Nat:=(Uh t n).sum
theorem levL_len(t:Int)(n:Nat):(Uh t n).length≤n+1:=by
 have:=levs_len (Qp n (Kh t true));have:=Zhx n (Kh t true) (Qi t true).1;unfold Uh;omega
theorem Ws(t:Int)(n:Nat):Xk t n≤2*n+2:=by
 have:=levs_sum (Qp n (Kh t true));have:=Zhx n (Kh t true) (Qi t true).1;unfold Xk Uh;omega
theorem Zky(t:Int)(n:Nat)(w:World)(h1:1≤t)(h2:t≤5)(hn:n≤32768) :
 C0 121 #[V0 t,V0 (n:Int)] w (Kc (fun w' r=>∃ p c,r=.slice p (Uh t n).length c∧w'.ownsRow w.heap.size 3 1 (.slice p (Uh t n).length c) (Uh t n).length ((Uh t n).map nv)) w):=by
 have b4:=(Qi t true).1
 have d2:=(Qi t true).2
 have c7:=Zhx n (Kh t true) b4
 have b7:=Qp n (Kh t true)
 refine zin 45 Tryz.func121 ?_
 refine xr 8 (Ap t true h1 h2 _) fun W1 b0=>?_
 refine xr 1 (Ap t false h1 h2 _) fun W2 b1=>?_
 refine xgk 10 [13,14] (show(((↑(Kh t true):Int)==(0:Int)):Bool)=false from by simp;omega) ?_
 refine xgk 4 [16,17,18] (show(decide ((n:Int)<(0:Int)):Bool)=false from decide_eq_false M0) ?_
 refine xk 5 (show(decide ((n:Int)>(32768:Int)):Bool)=false from decide_eq_false M0) ?_
 refine xr 6 (Za9 n (Kh t true) _ M0 b4 M0) fun W5 b3=>?_
 refine xbs 0 1 [V0 (↑(ovN n (Kh t true)):Int)] 3 fun b6 W6 n6=>?_
 have g6:=n6.ge (bln (bln b0 b1) b3)
 have hB:=bln (bln (bln b0 b1) b3) n6.below
 refine zl 5 45 (fun zm c4 V=>∃ (j x:Nat) (xs:List Nat) (p:O0) (c:Nat),c4=[(4,S0),(6,V0 18),(7,.slice p (j+1) c)]∧zm=40000-(j+1)∧B3 w V∧V.ownsRow w.heap.size 3 1 (.slice p (j+1) c) (j+1) ((xs++[x]).map nv)∧xs.length=j∧1≤x∧x≤32769∧xs++Jy x=Uh t n∧j+x≤40000) ⟨0,(ovN n (Kh t true)),[],_,_,rfl,rfl,hB,Yd (size:=1) (n:=1) n6.blk g6 rfl (by unfold maxLen;decide),rfl,b7,by omega,rfl,by omega⟩ ?_
 rintro _ _ W7 ⟨j,x,xs,p,c,rfl,rfl,a2,ho,a0,c5,d1,b2,hj⟩ J7 c1 r7
 refine xwm 6 ((↑(j+1):Int)-1) (j:Int) ?_
 refine xx 0 _ (j+1) j 1 (Xc (Zg ho) (by simp[a0]) (k:=j) M0).1 ?_
 refine xl 0 (by have:=(Xc (Zg ho) (by simp[a0]) (k:=j) M0).2;rwa [Zgm a0] at this) ?_
 refine xid 3 ((x:Int)>(1:Int)) (fun b8=>?_) (fun b8=>?_)
 ·refine xwm 8 ((↑(j+1):Int)-1) (j:Int) ?_
  refine xx 0 _ (j+1) j 1 (Xc (Zg ho) (by simp[a0]) (k:=j) M0).1 ?_
  refine xl 0 (by have:=(Xc (Zg ho) (by simp[a0]) (k:=j) M0).2;rwa [Zgm a0] at this) ?_
  refine xr 1 (Za9 x 18 _ M0 Do Do) fun W9 b5=>?_
  refine xbs 0 1 [V0 (↑(ovN x 18):Int)] 3 fun c8 d3 a5=>?_
  have a4:=bln a2 b5
  have d0:=a5.ge a4
  have a1:=Zb ho b5
  have a6:=Zu a1 a5
  have a9:=Zb a1 a5.below
  have a3:=bln a4 a5.below
  refine xbi 0 fun _ _ _ _ zJ zQ zo zx zy zK=>Xi (m:=1) (news:=[V0 (↑(ovN x 18):Int)]) (V0 0) 1 8 (j+1+1) (((xs++[x])++[ovN x 18]).map nv) zo Tryz.underlying34 K0 rfl Do zx a9 zy (a5.blk.sl 1 1 Do Do) rfl (by simp[Value.oneCell']) (by unfold maxLen;omega) M0 a3.size (by rfl) (by simp[nv]) fun b9 c0 c9 c2 c3 a7=>?_
  refine zK _ _ ?_
  have c6:=Zru (x:=x) M0
  have a8:=a3.trans a7
  exact ze 3 (c1 _ _ _ ⟨j+1,(ovN x 18),xs++[x],_,_,rfl,rfl,a8,c2,by simp[a0],Qp _ _,by omega,by rw[←b2,Vx (x:=x) M0];simp,by omega⟩ M0)
 refine xe 12 (.slice p (j+1) c) ?_
 have e:Uh t n=xs++[x]:=by rw[←b2,Jm (x:=x) M0]
 have el:(Uh t n).length=j+1:=by rw[e];simp[a0]
 exact⟨_,rfl,a2,p,c,by rw[el],by rw[el,e];exact ho⟩
theorem Ka(t:Int)(n:Nat)(w:World)(h1:1≤t)(h2:t≤5)(hn:n≤32768) :
 C0 70 #[V0 t,V0 (n:Int)] w (Ret (V0 (Xk t n:Int)) w):=by
 refine zin 21 Tryz.func70 ?_
 refine xc 15 (Zky t n _ h1 h2 hn) ?_
 rintro _ W1 ⟨_,rfl,a3,p,c,rfl,ho⟩
 have a1:=At w.heap.size
 have a2:=Zf ho a1
 refine zl 5 21 (fun zm a5 V=>∃ (k:Nat),a5=[(4,V0 0),(5,V0 (↑((Uh t n).take k).sum:Int)),(10,.slice p ((Uh t n).length) c),(11,V0 (↑((Uh t n).length):Int)),(12,V0 (k:Int))]∧zm=(Uh t n).length-((k:Int)).toNat∧B3 w V∧V.ownsRow w.heap.size 3 1 (.slice p (Uh t n).length c) (Uh t n).length ((Uh t n).map nv)∧k≤(Uh t n).length) ⟨0,rfl,rfl,a3,a2,A3 _⟩ ?_
 rintro _ _ W2 ⟨k,rfl,rfl,a0,ho,hk⟩ J2 a6 r2
 have a8:=levL_len t n
 have a1:=Ws t n
 unfold Xk at a1
 have a9:=Zsf (L:=Uh t n) (k+1)
 have a7:k<(Uh t n).length→((Uh t n).take (k+1)).sum=((Uh t n).take k).sum+(Uh t n).getD k 0:=Zfv
 refine xid 6 ((k:Int)<(↑((Uh t n).length):Int)) (fun a4=>?_) (fun a4=>?_)
 ·refine xx 6 _ ((Uh t n).length) k 1 (Xc (Zg ho) rfl (k:=k) M0).1 ?_
  refine xl 0 ((Xc (Zg ho) rfl (k:=k) M0).2) ?_
  refine xwm 6 ((↑((Uh t n).take k).sum:Int)+(↑((Uh t n).getD k 0):Int)) (↑(((Uh t n).take k).sum+((Uh t n).getD k 0)):Int) ?_
  refine xwm 5 ((k:Int)+1) (↑(k+1):Int) ?_
  refine xv1 2 5 (show(V0 (↑(((Uh t n).take k).sum+((Uh t n).getD k 0)):Int):Value)=V0 (↑((Uh t n).take (k+1)).sum:Int) from by rw[Zfv M0]) ?_
  exact ze 0 (a6 _ _ _ ⟨k+1,rfl,rfl,a0,ho,by omega⟩ M0)
 refine xe 12 (V0 (↑((Uh t n).take k).sum:Int)) ?_
 have e:k=(Uh t n).length:=by omega
 subst e
 rw[K2]
 exact⟨rfl,a0⟩
def Qj(n m i:Nat):Nat:=min m (n-i*m)
theorem Zil{n m i:Nat}(hm:1≤m)(h:i<ovN n m):i*m≤n:=by
 unfold ovN at h
 rcases M1 i with rfl|hi
 ·omega
 ·have h1:i+1≤(n+m-1)/m:=by omega
  have h2:=(Nat.le_div_iff_mul_le M0).1 h1
  rw[G8] at h2
  omega
def Zf2(n m k:Nat):List Value:=(List.range (ovN n m)).map fun i=>V0 (if i<k then(Qj n m i:Int) else 0)
def sizL(n m:Nat):List Nat:=(List.range (ovN n m)).map (Qj n m)
theorem Zul(n m:Nat):Hz (Value.int .i64 0).cells.toList (ovN n m)=Zf2 n m 0:=by
 rw[show(Value.int .i64 0).cells.toList=[Value.int .i64 0] from rfl,Hz,Zf2]
 simp[List.map_const']
theorem sizK_all(n m:Nat):Zf2 n m (ovN n m)=(sizL n m).map nv:=by
 unfold Zf2 sizL nv
 rw[M7]
 apply H9
 intro i hi
 rw[B9] at hi
 simp[hi]
theorem sizK_set{n m k:Nat}(h:k<ovN n m):(Zf2 n m k).set k (V0 (Qj n m k:Int))=Zf2 n m (k+1):=by
 apply If
 intro i
 by_cases hi:i<ovN n m
 ·by_cases e:k=i
  ·subst e
   rw[I5 (by simpa [Zf2] using h)]
   simp[Zf2,B8 h]
  ·rw[G7 e]
   simp only[Zf2,C4,B8 hi,D5]
   by_cases e2:i<k
   ·simp[e2,show i<k+1 by omega]
   ·simp[e2,show ¬ i<k+1 by omega]
 ·rw[C6 (by simp[Zf2];omega),C6 (by simp[Zf2];omega)]
theorem sizL_len(n m:Nat):(sizL n m).length=ovN n m:=by simp[sizL]
theorem Zoz(n m:Nat)(w:World)(hn:n≤32768)(hm:1≤m)(hm2:m≤32768) :
 C0 259 #[V0 (n:Int),V0 (m:Int)] w (Kc (fun w' r=>∃ p c,r=.slice p (ovN n m) c∧w'.ownsRow w.heap.size 3 1 (.slice p (ovN n m) c) (ovN n m) ((sizL n m).map nv)) w):=by
 have a7:=Zhx n m hm
 refine zin 40 Tryz.func259 ?_
 refine xgk 11 [8,9] (show(decide ((n:Int)<(0:Int)):Bool)=false from decide_eq_false M0) ?_
 refine xgk 4 [11,12,13] (show(decide ((n:Int)>(32768:Int)):Bool)=false from decide_eq_false M0) ?_
 refine xk 5 (show(decide ((m:Int)<(1:Int)):Bool)=false from decide_eq_false M0) ?_
 refine xq 5 (congrArg V0 (show(if(32768:Int)<(m:Int) then(32768:Int) else(m:Int):Int)=(m:Int) from if_neg M0)) ?_
 refine xr 7 (Za9 n m _ M0 hm M0) fun W3 a3=>?_
 refine xmk 0 fun _ _ _ _ zJ zQ zo zx zy zK=>Gl (ovN n m) (V0 0) 1 8 (Zf2 n m 0) zo zx zy Tryz.underlying34 K0 rfl M0 M0 (Zul n m) fun b4 W4 n4=>?_
 refine zK _ _ ?_
 have hB:=bln a3 n4.below
 refine zl 12 40 (fun zm a6 V=>∃ (k:Nat),a6=[(0,V0 (n:Int)),(1,V0 (m:Int)),(4,S0),(5,.slice (S1 b4) (ovN n m) (ovN n m)),(24,V0 (↑(ovN n m):Int)),(25,V0 (k:Int))]∧zm=ovN n m-((k:Int)).toNat∧B3 w V∧Blk V b4 (Zf2 n m k) 3∧k≤ovN n m) ⟨0,rfl,rfl,hB,n4.blk,A3 _⟩ ?_
 rintro _ _ W5 ⟨k,rfl,rfl,a1,a0,hk⟩ J5 a5 r5
 have a8:k<ovN n m→k*m≤n:=Zil hm
 refine xid 6 ((k:Int)<(↑(ovN n m):Int)) (fun a4=>?_) (fun a4=>?_)
 ·refine xwm 17 ((k:Int)*(m:Int)) (↑(k*m):Int) ?_
  refine xwm 0 ((n:Int)-(↑(k*m):Int)) (↑(n-(k*m)):Int) ?_
  refine xxb 1 b4 0 (ovN n m) k 1 ?_
  refine xsg 0 a0 (0+k*1) (V0 (if(↑(n-(k*m)):Int)<(m:Int) then(↑(n-(k*m)):Int) else(m:Int))) (by simp[Zf2];omega) fun W7 u7 k7=>?_
  replace k7:Blk W7 b4 (Zf2 n m (k+1)) 3:=by rw[←(show(Zf2 n m k).set (0+k*1) (V0 (if(↑(n-(k*m)):Int)<(m:Int) then(↑(n-(k*m)):Int) else(m:Int)))=Zf2 n m (k+1) from by rw[show 0+k*1=k by omega,show(if(↑(n-(k*m)):Int)<(m:Int) then(↑(n-(k*m)):Int) else(m:Int))=(↑(Qj n m k):Int) from Zme m (n-k*m)];exact sizK_set M0)];exact k7
  have g4:=n4.ge a3
  refine xwm 4 ((k:Int)+1) (↑(k+1):Int) ?_
  have a2:=u7.below a1 g4
  exact ze 2 (a5 _ _ _ ⟨k+1,rfl,rfl,a2,k7,by omega⟩ M0)
 have g4:=n4.ge a3
 refine xe 12 (.slice (S1 b4) (ovN n m) (ovN n m)) ?_
 have e:k=ovN n m:=by omega
 subst e
 have ho:=Yd (size:=1) (n:=ovN n m) a0 g4 (by simp[Zf2]) (by unfold maxLen;omega)
 rw[sizK_all] at ho
 exact⟨_,rfl,a1,_,_,rfl,ho⟩
def Zn(l:Bl):Nat→Nat→Nat
 | _,0=>0
 | k,w+1=>(l.getD k 0).toNat+256*Zn l (k+1) w
theorem On(l:Bl):∀ (w k:Nat),Zn l k w<256 ^ w
 | 0,k=>by simp[Zn]
 | w+1,k=>by
  have:=On l w (k+1)
  have h:=(l.getD k 0).toNat_lt
  rw[Zn,L3];omega
theorem Znd(l:Bl)(k w:Nat)(hw:w≤7):Zn l k w<72057594037927936:=D4 (On l w k) (by rw[show(72057594037927936:Nat)=256 ^ 7 from rfl];exact P9 Do hw)
theorem Kv(l:Bl)(k w:Nat)(hw:w≤4):Zn l k w<4294967296:=D4 (On l w k) (by rw[show(4294967296:Nat)=256 ^ 4 from rfl];exact P9 Do hw)
theorem Zmg{n b:Nat}(hn:n<72057594037927936)(hb:b<256):IntKind.u64.wrap (↑(BitVec.ofInt 64 (IntKind.u64.wrap ((n:Int)*2 ^ 8)) ||| BitVec.ofInt 64 (b:Int)).toNat:Int)=((b+256*n:Nat):Int):=by
 have h1:IntKind.u64.wrap ((n:Int)*2 ^ 8)=((n*2 ^ 8:Nat):Int):=by
  rw[show(n:Int)*2 ^ 8=((n*2 ^ 8:Nat):Int) by omega];exact IntWalk.u64_in _ (by constructor<;>omega)
 rw[h1,E4,E4,BitVec.toNat_or,E6,E6,E2 M0,E2 M0]
 rw[←Nat.shiftLeft_eq,←Nat.shiftLeft_add_eq_or_of_lt (by exact hb:b<2 ^ 8),Nat.shiftLeft_eq,IntWalk.u64_in _ (by constructor<;>omega)]
 congr 1;omega
theorem Zup{n:Nat}(h:n<18446744073709551616):IntKind.u64.wrap (n:Int)=(n:Int):=IntWalk.u64_in _ (by constructor<;>omega)
theorem Zll(a:O0)(m c k w:Nat)(hw:w=1∨w=2∨w=4∨w=8)(hk:k+w≤m)(hm:m≤100000000)(W:World) :
 C0 210 #[.slice a m c,V0 (k:Int),V0 (w:Int)] W (Ret (V0 0) W):=by
 rcases hw with rfl|rfl|rfl|rfl
 ·exact there_1 a m c k hk hm W
 ·exact Zv3 a m c k hk hm W
 ·exact Zvi a m c k hk hm W
 ·exact there_8 a m c k hk hm W
theorem Zgf(a:O0)(c k w:Nat)(l:Bl)(W:World)(hw:w=1∨w=2∨w=4∨w=8)(hk:k+w≤l.length)(hl:l.length≤100000000)(h:Bys W (.slice a l.length c) l)(hq:Zn l k w<9223372036854775808) :
 C0 141 #[.slice a l.length c,V0 (k:Int),V0 (w:Int)] W (Ret (.tuple #[V0 (Zn l k w:Int),V0 0]) W):=by
 refine zin 38 Tryz.func141 ?_
 refine xr 12 (Zll a l.length c k w hw hk hl _) fun W1 a1=>?_
 refine xw 21 ((w:Int)-1) ?_
 refine zl 4 38 (fun zm a3 V=>∃ (j r:Nat),a3=[(0,.slice a l.length c),(1,V0 (k:Int)),(6,V0 0),(7,V0 0),(9,.int .u64 (↑(Zn l (k+j) r):Int)),(10,V0 ((j:Int)-1))]∧zm=(((j:Int)-1)+1).toNat∧B3 W V∧j+r=w) ⟨w,0,rfl,rfl,a1,by omega⟩ ?_
 rintro _ _ W2 ⟨j,r,rfl,rfl,a0,a5⟩ J2 a4 r2
 refine xid 7 ((j:Int)-1≥(0:Int)) (fun a2=>?_) (fun a2=>?_)
 ·refine xq 10 (congrArg V0 (show IntKind.i64.wrap ((k:Int)+((j:Int)-1))=(↑(k+(j-1)):Int) from(show IntKind.i64.wrap ((k:Int)+((j:Int)-1))=((k:Int)+((j:Int)-1)) from by first|exact IntWalk.i64_in _ M0|(simp only[IntKind.wrap];omega)).trans M0)) ?_
  refine xx 0 _ l.length (k+(j-1)) 1 (Bys.elem h (k:=(k+(j-1))) M0).1 ?_
  refine xl 0 ((Bys.elem (h.below a0) (k:=(k+(j-1))) M0).2) ?_
  refine xq 0 (congrArg (Value.int .u64) (show(IntKind.u64.wrap (↑(l.getD (k+(j-1)) 0).toNat:Int):Int)=(↑(l.getD (k+(j-1)) 0).toNat:Int) from Zup (by have:=(l.getD (k+(j-1)) 0).toNat_lt;omega))) ?_
  refine xq 0 (congrArg (Value.int .u64) (show(IntKind.u64.wrap (↑(BitVec.ofInt 64 (IntKind.u64.wrap ((↑(Zn l (k+j) r):Int)*2 ^ 8)) ||| BitVec.ofInt 64 (↑(l.getD (k+(j-1)) 0).toNat:Int)).toNat:Int):Int)=(↑(Zn l (k+(j-1)) (r+1)):Int) from(Zmg (Znd l (k+j) r M0) (l.getD (k+(j-1)) 0).toNat_lt).trans (congrArg (fun x:Nat=>(x:Int)) (by rw[Zn,show k+(j-1)+1=k+j by omega])))) ?_
  refine xq 6 (congrArg V0 (show IntKind.i64.wrap ((j:Int)-1-1)=((↑(j-1:Nat):Int)-1) from(show IntKind.i64.wrap ((j:Int)-1-1)=((j:Int)-1-1) from by first|exact IntWalk.i64_in _ M0|(simp only[IntKind.wrap];omega)).trans M0)) ?_
  exact ze 2 (a4 _ _ _ ⟨j-1,r+1,rfl,rfl,a0,by omega⟩ M0)
 refine xk 12 (show(decide ((↑(Zn l (k+j) r):Int)≥(9223372036854775808:Int)):Bool)=false from by rw[(show Zn l (k+j) r=Zn l k w from by rw[show j=0 by omega,show r=w by omega];rfl)];exact decide_eq_false M0) ?_
 refine xq 5 (congrArg V0 (show(IntKind.i64.wrap (↑(Zn l (k+j) r):Int):Int)=(↑(Zn l k w):Int) from by rw[(show Zn l (k+j) r=Zn l k w from by rw[show j=0 by omega,show r=w by omega];rfl)];exact Mk hq)) ?_
 exact xe 5 (.tuple #[V0 (↑(Zn l k w):Int),V0 0]) ⟨rfl,a0⟩
theorem Zt6(a:O0)(c k w:Nat)(l:Bl)(W:World)(hw:w=1∨w=2∨w=4∨w=8)(hk:k+w≤l.length)(hl:l.length≤100000000)(h:Bys W (.slice a l.length c) l)(hq:¬ Zn l k w<9223372036854775808) :
 C0 141 #[.slice a l.length c,V0 (k:Int),V0 (w:Int)] W (Ret (.tuple #[V0 0,V0 2]) W):=by
 refine zin 38 Tryz.func141 ?_
 refine xr 12 (Zll a l.length c k w hw hk hl _) fun W1 a1=>?_
 refine xw 21 ((w:Int)-1) ?_
 refine zl 4 38 (fun zm a3 V=>∃ (j r:Nat),a3=[(0,.slice a l.length c),(1,V0 (k:Int)),(6,V0 0),(7,V0 0),(9,.int .u64 (↑(Zn l (k+j) r):Int)),(10,V0 ((j:Int)-1))]∧zm=(((j:Int)-1)+1).toNat∧B3 W V∧j+r=w) ⟨w,0,rfl,rfl,a1,by omega⟩ ?_
 rintro _ _ W2 ⟨j,r,rfl,rfl,a0,a5⟩ J2 a4 r2
 refine xid 7 ((j:Int)-1≥(0:Int)) (fun a2=>?_) (fun a2=>?_)
 ·refine xq 10 (congrArg V0 (show IntKind.i64.wrap ((k:Int)+((j:Int)-1))=(↑(k+(j-1)):Int) from(show IntKind.i64.wrap ((k:Int)+((j:Int)-1))=((k:Int)+((j:Int)-1)) from by first|exact IntWalk.i64_in _ M0|(simp only[IntKind.wrap];omega)).trans M0)) ?_
  refine xx 0 _ l.length (k+(j-1)) 1 (Bys.elem h (k:=(k+(j-1))) M0).1 ?_
  refine xl 0 ((Bys.elem (h.below a0) (k:=(k+(j-1))) M0).2) ?_
  refine xq 0 (congrArg (Value.int .u64) (show(IntKind.u64.wrap (↑(l.getD (k+(j-1)) 0).toNat:Int):Int)=(↑(l.getD (k+(j-1)) 0).toNat:Int) from Zup (by have:=(l.getD (k+(j-1)) 0).toNat_lt;omega))) ?_
  refine xq 0 (congrArg (Value.int .u64) (show(IntKind.u64.wrap (↑(BitVec.ofInt 64 (IntKind.u64.wrap ((↑(Zn l (k+j) r):Int)*2 ^ 8)) ||| BitVec.ofInt 64 (↑(l.getD (k+(j-1)) 0).toNat:Int)).toNat:Int):Int)=(↑(Zn l (k+(j-1)) (r+1)):Int) from(Zmg (Znd l (k+j) r M0) (l.getD (k+(j-1)) 0).toNat_lt).trans (congrArg (fun x:Nat=>(x:Int)) (by rw[Zn,show k+(j-1)+1=k+j by omega])))) ?_
  refine xq 6 (congrArg V0 (show IntKind.i64.wrap ((j:Int)-1-1)=((↑(j-1:Nat):Int)-1) from(show IntKind.i64.wrap ((j:Int)-1-1)=((j:Int)-1-1) from by first|exact IntWalk.i64_in _ M0|(simp only[IntKind.wrap];omega)).trans M0)) ?_
  exact ze 2 (a4 _ _ _ ⟨j-1,r+1,rfl,rfl,a0,by omega⟩ M0)
 refine xk 12 (show(decide ((↑(Zn l (k+j) r):Int)≥(9223372036854775808:Int)):Bool)=true from by rw[(show Zn l (k+j) r=Zn l k w from by rw[show j=0 by omega,show r=w by omega];rfl)];exact decide_eq_true M0) ?_
 exact xe 8 (.tuple #[V0 0,V0 2]) ⟨rfl,a0⟩
def Nu(l:Bl):Nat→List Nat→List Nat
 | _,[]=>[]
 | k,w::r=>Zn l k w::Nu l (k+w) r
theorem Zeh(l:Bl):∀ (ws:List Nat) (k:Nat),(Nu l k ws).length=ws.length
 | [],k=>rfl
 | w::r,k=>by simp[Nu,Zeh l r]
theorem Eu(l:Bl)(w:Nat):∀ (ws:List Nat) (k:Nat),Nu l k (ws++[w])=Nu l k ws++[Zn l (k+ws.sum) w]
 | [],k=>by simp[Nu]
 | x::r,k=>by simp[Nu,Eu l w r,E9]
theorem Zd6(l:Bl):∀ (ws:List Nat) (k i:Nat),i<ws.length→(Nu l k ws).getD i 0=Zn l (k+(ws.take i).sum) (ws.getD i 0)
 | [],k,i,h=>by simp at h
 | w::r,k,0,h=>by simp[Nu]
 | w::r,k,i+1,h=>by
  have:=Zd6 l r (k+w) i (by simpa using h)
  simp only[List.getD_eq_getElem?_getD] at this ⊢
  simp[Nu,this,E9]
theorem Fe{ws:List Nat}{i:Nat}(h:i<ws.length):ws.take (i+1)=ws.take i++[ws.getD i 0]:=by
 rw[A7 h];simp[List.getD,h]
theorem Zba{ws:List Nat}{i:Nat}(h:i<ws.length):(ws.take i).sum+ws.getD i 0≤ws.sum:=by
 have h1:=Zfv h;have h2:=Zsf (L:=ws) (i+1);omega
def getV(l:Bl)(k w:Nat):Int:=if Zn l k w<9223372036854775808 then(Zn l k w:Int) else 0
def Zvr(l:Bl)(k w:Nat):Int:=if Zn l k w<9223372036854775808 then 0 else 2
theorem Zvc{l:Bl}{k w:Nat}(h:Zvr l k w=0):Zn l k w<9223372036854775808:=by unfold Zvr at h;split at h;assumption;cases h
theorem getE_two{l:Bl}{k w:Nat}(h:Zvr l k w≠0):¬ Zn l k w<9223372036854775808∧Zvr l k w=2:=by unfold Zvr at h ⊢;split at h;exact absurd rfl h;rename_i h2;exact⟨h2,if_neg h2⟩
theorem Zr5{l:Bl}{k w:Nat}(h:Zn l k w<9223372036854775808):Zvr l k w=0:=if_pos h
theorem Zj6{l:Bl}{k w:Nat}(h:Zn l k w<9223372036854775808):getV l k w=(Zn l k w:Int):=if_pos h
theorem Zvp(a:O0)(c k w:Nat)(l:Bl)(W:World)(hw:w=1∨w=2∨w=4∨w=8)(hk:k+w≤l.length)(hl:l.length≤100000000)(h:Bys W (.slice a l.length c) l) :
 C0 141 #[.slice a l.length c,V0 (k:Int),V0 (w:Int)] W (Ret (.tuple #[V0 (getV l k w),V0 (Zvr l k w)]) W):=by
 by_cases hq:Zn l k w<9223372036854775808
 ·rw[Zj6 hq,Zr5 hq];exact Zgf a c k w l W hw hk hl h hq
 ·rw[getV,Zvr,if_neg hq,if_neg hq];exact Zt6 a c k w l W hw hk hl h hq
theorem Zif(a:O0)(c:Nat)(l:Bl)(aw:O0)(cw:Nat)(ws:List Nat)(W:World)(hk:∀ i,i<ws.length→ws.getD i 0=1∨ws.getD i 0=2∨ws.getD i 0=4∨ws.getD i 0=8)(hs:ws.sum≤l.length)(hl:l.length≤100000000)(hw:ws.length≤1000)(h:Bys W (.slice a l.length c) l)(hws:Sl W (.slice aw ws.length cw) ws.length (ws.map nv))(hq:∀ i,i<ws.length→(Nu l 0 ws).getD i 0<9223372036854775808) :
 C0 180 #[.slice a l.length c,.slice aw ws.length cw] W (Kc (fun w' r=>∃ p c,r=.tuple #[.slice p ws.length c,V0 0]∧w'.ownsRow W.heap.size 3 1 (.slice p ws.length c) ws.length ((Nu l 0 ws).map nv)) W):=by
 refine zin 37 Tryz.func180 ?_
 have hB:=Below.refl W.heap.size W
 refine zl 25 37 (fun zm b1 V=>∃ (i:Nat) (p:O0) (c2:Nat),b1=[(0,.slice a l.length c),(6,.slice p i c2),(7,V0 (↑(ws.take i).sum:Int)),(12,.slice aw ws.length cw),(13,V0 (ws.length:Int)),(14,V0 (i:Int))]∧zm=ws.length-((i:Int)).toNat∧B3 W V∧V.ownsRow W.heap.size 3 1 (.slice p i c2) i ((Nu l 0 (ws.take i)).map nv)∧i≤ws.length) ⟨0,_,_,rfl,rfl,hB,A5 _ _ _ _,A3 _⟩ ?_
 rintro _ _ W1 ⟨i,p,c2,rfl,rfl,a0,ho,hi⟩ J1 a9 r1
 have b5:i<ws.length→(ws.take i).sum+ws.getD i 0≤ws.sum:=Zba
 have a7:i<ws.length→(Nu l 0 ws).getD i 0=Zn l (ws.take i).sum (ws.getD i 0):=fun h=>by rw[Zd6 l ws 0 i h,F3]
 refine xid 6 ((i:Int)<(ws.length:Int)) (fun b0=>?_) (fun b0=>?_)
 ·refine xx 6 _ ws.length i 1 (Xc hws rfl (k:=i) M0).1 ?_
  refine xl 0 ((Xc (hws.below a0) rfl (k:=i) M0).2) ?_
  refine xr 8 (Zvp a c (ws.take i).sum (ws.getD i 0) l _ (hk i M0) M0 hl (h.below a0)) fun W3 a8=>?_
  refine xk 14 (show(((Zvr l (ws.take i).sum (ws.getD i 0)) != (0:Int)):Bool)=false from by rw[Zr5 (by rw[←a7 M0];exact hq i M0)];rfl) ?_
  refine xbs 6 1 [V0 (getV l (ws.take i).sum (ws.getD i 0))] 3 fun b4 W4 n4=>?_
  have a1:=bln a0 a8
  have g4:=n4.ge a1
  have a3:=Zb ho a8
  have a6:=Zu a3 n4
  have a4:=Zb a3 n4.below
  have a2:=bln a1 n4.below
  refine xbi 0 fun _ _ _ _ zJ zQ zo zx zy zK=>Xi (m:=1) (news:=[V0 (getV l (ws.take i).sum (ws.getD i 0))]) (V0 0) 1 8 (i+1) ((Nu l 0 (ws.take (i+1))).map nv) zo Tryz.underlying34 K0 rfl Do zx a4 zy (n4.blk.sl 1 1 Do Do) rfl (by simp[Value.oneCell']) (by unfold maxLen;omega) M0 a2.size (by rfl) (by rw[Fe M0,Eu,F3,B5];simp only[D7,H0,nv];rw[Zj6 (by rw[←a7 M0];exact hq i M0)]) fun b6 b7 W5 o5 b3 b2=>?_
  refine zK _ _ ?_
  refine xwm 6 ((↑(ws.take i).sum:Int)+(↑(ws.getD i 0):Int)) (↑((ws.take i).sum+(ws.getD i 0)):Int) ?_
  refine xwm 5 ((i:Int)+1) (↑(i+1):Int) ?_
  refine xv1 2 7 (show(V0 (↑((ws.take i).sum+(ws.getD i 0)):Int):Value)=V0 (↑(ws.take (i+1)).sum:Int) from by rw[Fe M0,F0];simp) ?_
  have a5:=a2.trans b2
  exact ze 0 (a9 _ _ _ ⟨i+1,_,_,rfl,rfl,a5,o5,by omega⟩ M0)
 refine xe 13 (.tuple #[.slice p i c2,V0 0]) ?_
 obtain rfl:i=ws.length:=by omega
 rw[K2] at ho
 exact⟨_,rfl,a0,_,_,rfl,ho⟩
theorem Zqe(a:O0)(c:Nat)(l:Bl)(aw:O0)(cw:Nat)(ws:List Nat)(W:World)(hk:∀ i,i<ws.length→ws.getD i 0=1∨ws.getD i 0=2∨ws.getD i 0=4∨ws.getD i 0=8)(hs:ws.sum≤l.length)(hl:l.length≤100000000)(hw:ws.length≤1000)(h:Bys W (.slice a l.length c) l)(hws:Sl W (.slice aw ws.length cw) ws.length (ws.map nv))(hq:¬ ∀ i,i<ws.length→(Nu l 0 ws).getD i 0<9223372036854775808) :
 C0 180 #[.slice a l.length c,.slice aw ws.length cw] W (Ret (.tuple #[S0,V0 2]) W):=by
 refine zin 37 Tryz.func180 ?_
 have hB:=Below.refl W.heap.size W
 refine zl 25 37 (fun zm b7 V=>∃ (i:Nat) (p:O0) (c2:Nat),b7=[(0,.slice a l.length c),(6,.slice p i c2),(7,V0 (↑(ws.take i).sum:Int)),(12,.slice aw ws.length cw),(13,V0 (ws.length:Int)),(14,V0 (i:Int))]∧zm=ws.length-((i:Int)).toNat∧B3 W V∧V.ownsRow W.heap.size 3 1 (.slice p i c2) i ((Nu l 0 (ws.take i)).map nv)∧i≤ws.length∧(∀ j,j<i→(Nu l 0 ws).getD j 0<9223372036854775808)) ⟨0,_,_,rfl,rfl,hB,A5 _ _ _ _,A3 _,?_⟩ ?_
 ·exact fun j hj=>absurd hj M0
 rintro _ _ W1 ⟨i,p,c2,rfl,rfl,a0,ho,hi,a4⟩ J1 b2 r1
 have b8:i<ws.length→(ws.take i).sum+ws.getD i 0≤ws.sum:=Zba
 have b3:i<ws.length→(Nu l 0 ws).getD i 0=Zn l (ws.take i).sum (ws.getD i 0):=fun h=>by rw[Zd6 l ws 0 i h,F3]
 refine xid 6 ((i:Int)<(ws.length:Int)) (fun b6=>?_) (fun b6=>?_)
 ·refine xx 6 _ ws.length i 1 (Xc hws rfl (k:=i) M0).1 ?_
  refine xl 0 ((Xc (hws.below a0) rfl (k:=i) M0).2) ?_
  refine xr 8 (Zvp a c (ws.take i).sum (ws.getD i 0) l _ (hk i M0) M0 hl (h.below a0)) fun W3 b0=>?_
  refine xin 14 (Zvr l (ws.take i).sum (ws.getD i 0)) (0:Int) (fun a6=>?_) (fun a6=>?_)
  ·have a5:=getE_two a6
   have a7:=bln a0 b0
   refine xe 14 (.tuple #[S0,V0 (Zvr l (ws.take i).sum (ws.getD i 0))]) ?_
   rw[a5.2];exact⟨rfl,a7⟩
  have a5:=Zvc a6
  refine xbs 6 1 [V0 (getV l (ws.take i).sum (ws.getD i 0))] 3 fun b5 W5 n5=>?_
  have a2:=bln a0 b0
  have g5:=n5.ge a2
  have a1:=Zb ho b0
  have b1:=Zu a1 n5
  have a8:=Zb a1 n5.below
  have a3:=bln a2 n5.below
  refine xbi 0 fun _ _ _ _ zJ zQ zo zx zy zK=>Xi (m:=1) (news:=[V0 (getV l (ws.take i).sum (ws.getD i 0))]) (V0 0) 1 8 (i+1) ((Nu l 0 (ws.take (i+1))).map nv) zo Tryz.underlying34 K0 rfl Do zx a8 zy (n5.blk.sl 1 1 Do Do) rfl (by simp[Value.oneCell']) (by unfold maxLen;omega) M0 a3.size (by rfl) (by rw[Fe M0,Eu,F3,B5];simp only[D7,H0,nv];rw[Zj6 a5]) fun b9 c1 W6 o6 c0 b4=>?_
  refine zK _ _ ?_
  refine xwm 6 ((↑(ws.take i).sum:Int)+(↑(ws.getD i 0):Int)) (↑((ws.take i).sum+(ws.getD i 0)):Int) ?_
  refine xwm 5 ((i:Int)+1) (↑(i+1):Int) ?_
  refine xv1 2 7 (show(V0 (↑((ws.take i).sum+(ws.getD i 0)):Int):Value)=V0 (↑(ws.take (i+1)).sum:Int) from by rw[Fe M0,F0];simp) ?_
  have a9:=a3.trans b4
  exact ze 0 (b2 _ _ _ ⟨i+1,_,_,rfl,rfl,a9,o6,by omega,fun j hj=>(G2 j i).elim (fun q=>a4 j q) (fun q=>by obtain rfl:j=i:=M0;rw[b3 M0];exact a5)⟩ M0)
 refine xe 13 (.tuple #[.slice p i c2,V0 0]) ?_
 exact absurd (fun j hj=>a4 j M0) hq
end Go.Proofs.YtceeiinepijokaaGreatDoor
namespace Go.Proofs.YtceeiinepijokaaGreatDoor
set_option maxHeartbeats 8000000
set_option maxRecDepth 100000
open Go.RowKit
set_option linter.unusedVariables false
theorem Zw2(bs:ByteArray)(i:Nat)(r:Bl):ByteArray.toList.loop bs i r=r.reverse++bs.data.toList.drop i:=by
 have hs:bs.data.toList.length=bs.size:=by rw[N9];rfl
 rw[ByteArray.toList.loop]
 split
 ·rename_i h
  have h':i<bs.data.toList.length:=by omega
  rw[Zw2 bs (i+1) _,E8 h']
  have e:bs.get! i=bs.data.toList[i]:=by
   have h2:i<bs.data.size:=by rw[←N9];exact h'
   show bs.data[i]! = _
   rw[getElem!_pos bs.data i h2];simp
  rw[e];simp
 ·rename_i h
  rw[E0 M0];simp
termination_by bs.size-i
theorem Zms(a:Bl):(⟨a.toArray⟩:ByteArray).toList=a:=by
 unfold ByteArray.toList;rw[Zw2];simp
theorem Zth(a b:Bl):((⟨a.toArray⟩:ByteArray).toList==(⟨b.toArray⟩:ByteArray).toList)=(a==b):=by rw[Zms,Zms]
theorem Og(l:Bl):∀ (w k i:Nat),i<w→Zn l k w/256 ^ i%256=(l.getD (k+i) 0).toNat
 | 0,k,i,h=>absurd h M0
 | w+1,k,0,_=>by
  have:=(l.getD k 0).toNat_lt
  rw[Zn];simp only[Nat.pow_zero,Nat.div_one,G3];omega
 | w+1,k,i+1,h=>by
  have:=(l.getD k 0).toNat_lt
  have ih:=Og l w (k+1) i M0
  rw[Zn,L3,N1 (256 ^ i) 256,←M4,show((l.getD k 0).toNat+256*Zn l (k+1) w)/256=Zn l (k+1) w by omega,ih,show k+1+i=k+(i+1) by omega]
theorem leB_raw{l:Bl}{k w:Nat}(h:k+w≤l.length):leB (Zn l k w:Int) w=(l.drop k).take w:=by
 apply F4
 ·simp[Zj];omega
 intro i h1 h2
 have hw:i<w:=by simpa [Zj] using h1
 have e:=Og l w k i hw
 apply UInt8.toNat_inj.1
 simp only[leB,List.getElem_map,List.getElem_range,Xh,G1,UInt8.toNat_ofNat',List.getElem_take,List.getElem_drop]
 have e2:l.getD (k+i) 0=l[k+i]' M0:=by simp[List.getD,show k+i<l.length by omega]
 rw[e2] at e
 rw[←e]
theorem leB_inj{m n w:Nat}(hm:m<256 ^ w)(hn:n<256 ^ w)(h:leB (m:Int) w=leB (n:Int) w):m=n:=by
 have e:∀ i,i<w→m/256 ^ i%256=n/256 ^ i%256:=fun i hi=>by
  have:=congrArg (fun l=>(l.getD i 0).toNat) h
  simpa [leB,Xh,List.getD,B8 hi,UInt8.toNat_ofNat'] using this
 clear h
 induction w generalizing m n with
 | zero=>simp at hm hn;omega
 | succ w ih =>
  have h0:=e 0 M0
  have h1:m/256=n/256:=ih (by rw[L3] at hm;omega) (by rw[L3] at hn;omega) fun i hi=>by
   have:=e (i+1) M0
   rw[L3,N1 (256 ^ i) 256,←M4,←M4] at this
   exact this
  simp only[Nat.pow_zero,Nat.div_one] at h0
  omega
theorem Zb9{b:Bool}(h:(!b)=true):b=false:=by simpa using h
theorem Zb8{b:Bool}(h:(!b)=false):b=true:=by simpa using h
end Go.Proofs.YtceeiinepijokaaGreatDoor
namespace Go.Proofs.YtceeiinepijokaaGreatDoor
set_option maxHeartbeats 8000000
set_option maxRecDepth 100000
open Go.RowKit Go.Extern.Stop Go.Stop Go.Extern
set_option linter.unusedVariables false
attribute [local irreducible] wpList wpAnyH Code.wp Oper.wp Go
theorem Mx{P:Program}{a:Act}{o:Oper}{src dst e:TypeId}{x:Operand}{b:O0}{n c:Nat}{l:Bl}{w:World}(ho:o.op=.convert src dst x)(hx:a.eval x=.slice b n c)(h:Bys w (.slice b n c) l)(hl:l.length=n)
 (hs:P.underlying src=some (.slice e)) (he:P.underlying e=some (.int .u8)) (hd:P.underlying dst=some .string):(execOp a.eval o).run P w=.ok (.value (.string ⟨l.toArray⟩)) w:=by
 have hr:(convert src dst (.slice b n c)).run P w=.ok (.string ⟨l.toArray⟩) w:=by
  subst hl
  rcases Sl.at h with hn|⟨g,a0,rfl,hc⟩
  ·obtain rfl:l=[]:=by simpa using hn
   cases b with
   | none=>rw[run_convert_bytes_string w src dst e none _ c hs he hd];rfl
   | some p=>exact run_convert_bytes_back w src dst e p c [] hs he hd (fun j hj=>by simp at hj)
  ·exact run_convert_bytes_back w src dst e _ c l hs he hd (fun j hj=>by rw[Addr.add_mid];exact hc j _ (by simp[A4 hj,bv]))
 simp only[execOp,ho,hx,C9,hr];rfl
theorem Al.below{B ba b g n c:Nat}{pa:O0}{ca f N k:Nat}{l:Bl}{w W:World}(h:Al B ba b g n c pa ca f N k l w)(hb:B3 w W):Al B ba b g n c pa ca f N k l W:=⟨h.blkA.below hb,h.blkI.below hb,Zb h.data hb,Zb h.nums hb⟩
theorem Mb{w:World}{base n c size:Nat}{e:TypeId}{p:O0}{xs:List Value}(h:w.ownsRow base e size (.slice p n c) n xs)(hn:0<n):∃ g,p=some ⟨g,0,none⟩∧n≤c:=by
 rcases h.2 with ⟨_,h0⟩|⟨g,a0,a1,hv,_,_,hc,_⟩
 ·omega
 ·simp only[C2] at hv;exact⟨g,hv.1,by omega⟩
theorem Bys.cap{w:World}{a:O0}{n c:Nat}{l:Bl}(h:Bys w (.slice a n c) l)(hl:l.length=n):n≤c:=by
 rcases h with ⟨a',c',h1,h2,_⟩|⟨b,a0,cap,h1,h2,_,_⟩
 ·omega
 ·simp only[C2] at h1;omega
theorem Zoy(b:Nat)(p0:O0)(n c f N:Nat)(fi:Int)(hfi:fi=(f:Int))(hN:n/256-f=N)(w:World)(hk:Blk w b [.slice p0 n c] 80)(hn:n≤3686400)(h1:1≤f)(h2:f≤n/256) :
 C0 53 #[P0 b,V0 fi] w (Kc (fun w' r=>∃ ba p c2,r=.tuple #[P0 ba,.nilIface]∧w.heap.size≤ba∧Blk w' ba [.slice p N c2,V0 0,P0 b] 200∧w'.ownsRow w.heap.size 3 1 (.slice p N c2) N ((Zdg f N).map V0)) w):=by
 subst hfi hN;exact Zwx b p0 n c f w hk hn h1 h2
end Go.Proofs.YtceeiinepijokaaGreatDoor
namespace Go.Proofs.YtceeiinepijokaaGreatDoor
set_option maxHeartbeats 8000000
set_option maxRecDepth 100000
open Go.RowKit Go.Extern.Stop Go.Stop Go.Extern
set_option linter.unusedVariables false
attribute [local irreducible] wpList wpAnyH Code.wp Oper.wp Go
section
variable {P:Program} {a:Act}
theorem Lu{o:Oper}{t e:TypeId}{x y y2:Operand}{b:O0}{n k h c:Nat}{i j:Int}{ki kj:IntKind}(size:Nat)(ho:o.op=.slice t x (some y) (some y2) none)(hx:a.eval x=.slice b n c)(hy:a.eval y=.int ki i)(hi:i=(k:Int))(hy2:a.eval y2=.int kj j)(hj:j=(h:Int))(hk:k≤h)(hc:h≤c)
 (ht:P.underlying t=some (.slice e)) (hs:(P.info? e).map (·.size)=some size) (w:World):(execOp a.eval o).run P w=.ok (.value (.slice (Mw b k c size) (h-k) (c-k))) w:=by
 cases hq:P.info? e with
 | none=>simp[hq] at hs
 | some q =>
  have a0:q.size=size:=by simpa [hq] using hs
  subst hi hj
  have h1:(0:Int)≤(k:Int):=by omega
  have h2:(0:Int)≤(h:Int):=by omega
  have h3:(k:Int)≤(h:Int):=by omega
  have h4:(h:Int)≤(c:Int):=by omega
  by_cases h5:c=k
  ·simp_all [execOp,Instr.sliceAt,Instr.slice,Instr.sliceBounds,Instr.sliceBound,asIntOf,run_underlying ht,sizeOf,typeInfo,Mw]
  ·simp_all [execOp,Instr.sliceAt,Instr.slice,Instr.sliceBounds,Instr.sliceBound,asIntOf,run_underlying ht,sizeOf,typeInfo,Mw]
end
theorem Bys.cut{w:World}{b:O0}{n c:Nat}{l:Bl}(h:Bys w (.slice b n c) l)(hl:l.length=n)(k m:Nat)(hk:k≤m)(hm:m≤n):Bys w (.slice (Mw b k c 1) (m-k) (c-k)) ((l.drop k).take (m-k)):=by
 have a0:((l.drop k).take (m-k)).length=m-k:=by simp;omega
 have a2:=Bys.cap h hl
 rcases h with ⟨a',c',h1,h2,h3⟩|⟨g,a1,a3,h1,h2,h3,h4⟩
 ·obtain rfl:k=0:=by omega
  obtain rfl:m=0:=by omega
  refine .inl ⟨Mw b 0 c 1,c-0,?_,by simp,by simp⟩
  simp
 ·simp only[C2] at h1
  obtain⟨rfl,_,rfl⟩:=h1
  by_cases hz:m-k=0
  ·refine .inl ⟨Mw (some ⟨g,a1,none⟩) k c 1,c-k,by rw[hz],by omega,?_⟩
   rw[hz];rfl
  ·refine .inr ⟨g,a1+k*1,c-k,?_,by omega,by omega,fun j x hj=>?_⟩
   ·rw[Mw,if_neg M0,a0];simp[Addr.add]
   ·rw[C4,G9] at hj
    split at hj
    ·rw[F7] at hj
     have:=h4 (k+j) x (by rw[C4];exact hj)
     rwa [G4,E9]
    ·cases hj
def Hf(l:Bl):Bool:=l.all (·==0)
theorem Zdo{l:Bl}(h:∀ j,j<l.length→l.getD j 0=0):Hf l=true:=by
 unfold Hf
 rw[H7]
 intro x hx
 obtain⟨j,hj,rfl⟩:=List.mem_iff_getElem.1 hx
 have:=h j hj
 simpa [List.getD,hj] using this
theorem Zko{l:Bl}{j:Nat}(hj:j<l.length)(h:((l.getD j 0).toNat:Int)≠0):Hf l=false:=by
 unfold Hf
 rw[List.all_eq_false]
 refine⟨l[j],G6 hj,?_⟩
 intro h2
 apply h
 have:l[j]=0:=by simpa using h2
 simp[List.getD,hj,this]
theorem Zxd{x:UInt8}(h:(x.toNat:Int)=0):x=0:=by
 have h1:x.toNat=0:=by omega
 exact UInt8.toNat_inj.1 (by rw[h1];rfl)
theorem zero_1(n:Int)(w:World) :
 C0 238 #[.int .u8 n] w (Ret (.bool (n != 0)) w):=by
 refine zin 5 Tryz.func238 ?_
 exact xe 13 (.bool (n != (0:Int))) ⟨rfl,(B4 w)⟩
theorem Zs4(a:O0)(c:Nat)(l:Bl)(w:World)(hl:l.length≤100000000)(h:Bys w (.slice a l.length c) l) :
 C0 268 #[.slice a l.length c,.func (.func 238) #[] #[]] w (fun e w'=>(Hf l=true∧e=.returned (V0 (-1))∧B3 w w')∨(Hf l=false∧∃ i:Nat,e=.returned (V0 (i:Int))∧B3 w w')):=by
 refine zin 19 Tryz.func268 ?_
 have hB:=Below.refl w.heap.size w
 refine zl 14 19 (fun zm a7 V=>∃ (i:Nat),a7=[(0,.slice a l.length c),(1,.func (.func 238) #[] #[]),(7,V0 (l.length:Int)),(8,V0 (i:Int))]∧zm=l.length-((i:Int)).toNat∧B3 w V∧i≤l.length∧(∀ j,j<i→l.getD j 0=0)) ⟨0,rfl,rfl,hB,A3 _,?_⟩ ?_
 ·exact fun j hj=>absurd hj M0
 rintro _ _ W1 ⟨i,rfl,rfl,a0,hi,hz⟩ J1 a4 r1
 refine xid 6 ((i:Int)<(l.length:Int)) (fun a6=>?_) (fun a6=>?_)
 ·refine xx 15 _ l.length i 1 (Bys.elem h (k:=i) M0).1 ?_
  refine xl 0 ((Bys.elem (h.below a0) (k:=i) M0).2) ?_
  refine xr 0 (zero_1 (↑(l.getD i 0).toNat:Int) _) fun W3 a3=>?_
  refine xin 2 (↑(l.getD i 0).toNat:Int) (0:Int) (fun a5=>?_) (fun a5=>?_)
  ·have a1:=bln a0 a3
   exact xe 12 (V0 (i:Int)) (.inr ⟨Zko (j:=i) M0 (by assumption),_,rfl,a1⟩)
  refine xwm 4 ((i:Int)+1) (↑(i+1):Int) ?_
  have a2:=bln a0 a3
  exact ze 2 (a4 _ _ _ ⟨i+1,rfl,rfl,a2,by omega,fun j hj=>(G2 j i).elim (hz j) (fun q=>by obtain rfl:j=i:=M0;exact Zxd (by assumption))⟩ M0)
 exact xe 11 (V0 (-1)) (.inl ⟨Zdo (fun j hj=>hz j M0),rfl,a0⟩)
theorem Zhh(a:O0)(c:Nat)(l:Bl)(w:World)(hl:l.length≤100000000)(h:Bys w (.slice a l.length c) l) :
 C0 237 #[.slice a l.length c,.func (.func 238) #[] #[]] w (Ret (.bool (!Hf l)) w):=by
 refine zin 9 Tryz.func237 ?_
 refine xc 9 (Zs4 a c l _ hl (h.below (B4 w))) ?_
 rintro e W1 a1
 rcases a1 with ⟨hz,rfl,a0⟩|⟨hz,i0,rfl,a0⟩
 ·refine xe 5 (.bool false) ?_
  rw[hz];exact⟨rfl,a0⟩
 refine xe 5 (.bool (decide ((i0:Int)≥(0:Int)))) ?_
 rw[hz,show decide ((i0:Int)≥(0:Int))=true from decide_eq_true M0];exact⟨rfl,a0⟩
theorem Zxv(a:O0)(c:Nat)(l:Bl)(w:World)(hl:l.length≤100000000)(h:Bys w (.slice a l.length c) l) :
 C0 185 #[.slice a l.length c] w (Ret (.bool (Hf l)) w):=by
 refine zin 6 Tryz.func185 ?_
 refine xr 8 (Zhh a c l _ hl (h.below (B4 w))) fun W1 a0=>?_
 refine xe 5 (.bool (!(!Hf l))) ?_
 rw[Bool.not_not];exact⟨rfl,a0⟩
def Ss(kind no:Int):Bool:=decide (1≤kind∧kind≤4∧0≤no∧no<14400)
theorem Zj3(kind no:Int)(w:World) :
 C0 143 #[V0 kind,V0 no] w (Ret (.bool (Ss kind no)) w):=by
 refine zin 19 Tryz.func143 ?_
 refine xg 10 [6,7] (decide (kind≥(1:Int))) (fun a0=>?_) (fun a0=>?_)
 ·have a0:=of_decide_eq_true a0
  refine xg 4 [9,10,11] (decide (kind≤(4:Int))) (fun a1=>?_) (fun a1=>?_)
  ·have a1:=of_decide_eq_true a1
   refine xg 4 [13,14,15] (decide (no≥(0:Int))) (fun a2=>?_) (fun a2=>?_)
   ·have a2:=of_decide_eq_true a2
    exact xe 7 (.bool (decide (no<(14400:Int)))) ⟨by rw[show Ss kind no=decide (no<14400) from decide_eq_decide.2 ⟨fun h=>h.2.2.2,fun h=>⟨by omega,by omega,by omega,h⟩⟩],(B4 w)⟩
   have a2:=of_decide_eq_false a2
   exact xe 7 (.bool false) ⟨by rw[show Ss kind no=false from decide_eq_false M0],(B4 w)⟩
  have a1:=of_decide_eq_false a1
  exact xe 11 (.bool false) ⟨by rw[show Ss kind no=false from decide_eq_false M0],(B4 w)⟩
 have a0:=of_decide_eq_false a0
 exact xe 15 (.bool false) ⟨by rw[show Ss kind no=false from decide_eq_false M0],(B4 w)⟩
theorem Zxu(a:O0)(c k w:Nat)(l:Bl)(W:World)(hw:w=1∨w=2∨w=4)(hk:k+w≤l.length)(hl:l.length≤100000000)(h:Bys W (.slice a l.length c) l) :
 C0 91 #[.slice a l.length c,V0 (k:Int),V0 (w:Int)] W (Ret (V0 (Zn l k w:Int)) W):=by
 refine zin 17 Tryz.func91 ?_
 refine xr 10 (Zgf a c k w l _ M0 hk hl (h.below (B4 W)) (by have:=Kv l k w M0;omega)) fun W1 a0=>?_
 exact xe 14 (V0 (↑(Zn l k w):Int)) ⟨rfl,a0⟩
theorem Cq(a:O0)(n c k w:Nat)(ki wi:Int)(l:Bl)(W:World)(hn:l.length=n)(hki:ki=(k:Int))(hwi:wi=(w:Int))(hw:w=1∨w=2∨w=4)(hk:k+w≤n)(hl:n≤100000000)(h:Bys W (.slice a n c) l) :
 C0 91 #[.slice a n c,V0 ki,V0 wi] W (Ret (V0 (Zn l k w:Int)) W):=by
 subst hn hki hwi;exact Zxu a c k w l W hw hk hl h
def Dz(kind no:Int)(l:Bl):Nat→Bool
 | 0=>!Ss kind no
 | 1=>(l.length:Int) != 256
 | 2=>(Zn l 252 4:Int) != (Ziw l kind:Int)
 | 3=>(Zn l 0 4:Int) != no
 | 4=>(Zn l 4 2:Int) != kind
 | _=>(Zn l 6 2:Int) != 0
def Qv(kind no:Int)(l:Bl):Int :=
 if Dz kind no l 0 then 1 else if Dz kind no l 1 then 7 else if Dz kind no l 2 then 4 else if Dz kind no l 3 then 5 else if Dz kind no l 4 then 6 else if Dz kind no l 5 then 7 else 0
theorem Zr0{kind no:Int}{l:Bl}(h:Dz kind no l 1=false):l.length=256:=by
 have:(l.length:Int)=256:=Vj h
 omega
theorem open_1(kind no:Int)(w:World)(l:Bl)(bk:Nat)(kk:Blk w bk [V0 kind] 3)(bn:Nat)(kn:Blk w bn [V0 no] 3) :
 C0 142 #[P0 bk,P0 bn] w (Ret (.bool (Dz kind no l 0)) w):=by
 refine zin 7 Tryz.func142 ?_
 refine xb 7 0 kk ?_
 refine xb 0 0 kn ?_
 refine xr 0 (Zj3 kind no _) fun W1 a0=>?_
 exact xe 5 (.bool (!(Ss kind no))) ⟨rfl,a0⟩
theorem open_2(kind no:Int)(w:World)(bb:Nat)(a:O0)(c:Nat)(l:Bl)(kb:Blk w bb [.slice a l.length c] 22) :
 C0 144 #[P0 bb] w (Ret (.bool (Dz kind no l 1)) w):=by
 refine zin 5 Tryz.func144 ?_
 refine xb 7 0 kb ?_
 exact xe 6 (.bool ((l.length:Int) != (256:Int))) ⟨rfl,(B4 w)⟩
theorem Zv1(kind:Int)(a:O0)(c n:Nat)(l:Bl)(w:World)(hn:l.length=n)(h256:n=256)(hc:256≤c)(h:Bys w (.slice a n c) l) :
 C0 146 #[.slice a n c,V0 kind] w (Ret (V0 (Ziw l kind:Int)) w):=by
 subst h256;exact Zlq kind a c l w hn hc h
theorem open_3(kind no:Int)(w:World)(bb:Nat)(a:O0)(c:Nat)(l:Bl)(kb:Blk w bb [.slice a l.length c] 22)(bk:Nat)(kk:Blk w bk [V0 kind] 3)(hl:l.length=256)(hc:256≤c)(h:Bys w (.slice a l.length c) l) :
 C0 145 #[P0 bb,P0 bk] w (Ret (.bool (Dz kind no l 2)) w):=by
 refine zin 9 Tryz.func145 ?_
 refine xd 6 .z ?_
 have a1:=kb.below (Za w)
 refine xb (.e [] 0) 0 a1 ?_
 refine xb (.e [] 2) 0 a1 ?_
 have a3:=kk.below (Za w)
 refine xb (.e [] 3) 0 a3 ?_
 have hB:=(Za w)
 refine xr (.o [] 1) (Cq a l.length c 252 4 252 4 l _ rfl rfl rfl Do M0 M0 (h.below hB)) fun W1 a4=>?_
 have a0:=bln hB a4
 refine xr (.o [] 4) (Zv1 kind a c l.length l _ rfl hl hc (h.below a0)) fun W2 a5=>?_
 have a2:=bln a0 a5
 exact xe (.r [5,6] 3) (.bool ((↑(Zn l 252 4):Int) != (↑(Ziw l kind):Int))) ⟨rfl,a2⟩
theorem open_4(kind no:Int)(w:World)(bb:Nat)(a:O0)(c:Nat)(l:Bl)(kb:Blk w bb [.slice a l.length c] 22)(bn:Nat)(kn:Blk w bn [V0 no] 3)(hl:l.length=256)(hc:256≤c)(h:Bys w (.slice a l.length c) l) :
 C0 147 #[P0 bb,P0 bn] w (Ret (.bool (Dz kind no l 3)) w):=by
 refine zin 7 Tryz.func147 ?_
 refine xd 6 .z ?_
 have a1:=kb.below (Za w)
 refine xb (.e [] 0) 0 a1 ?_
 have a2:=kn.below (Za w)
 refine xb (.e [] 2) 0 a2 ?_
 have hB:=(Za w)
 refine xr (.o [] 1) (Cq a l.length c 0 4 0 4 l _ rfl rfl rfl Do M0 M0 (h.below hB)) fun W1 a3=>?_
 have a0:=bln hB a3
 exact xe (.r [3,4] 3) (.bool ((↑(Zn l 0 4):Int) != no)) ⟨rfl,a0⟩
theorem open_5(kind no:Int)(w:World)(bb:Nat)(a:O0)(c:Nat)(l:Bl)(kb:Blk w bb [.slice a l.length c] 22)(bk:Nat)(kk:Blk w bk [V0 kind] 3)(hl:l.length=256)(hc:256≤c)(h:Bys w (.slice a l.length c) l) :
 C0 148 #[P0 bb,P0 bk] w (Ret (.bool (Dz kind no l 4)) w):=by
 refine zin 7 Tryz.func148 ?_
 refine xd 6 .z ?_
 have a2:=kb.below (Za w)
 refine xb (.e [] 0) 0 a2 ?_
 have a1:=kk.below (Za w)
 refine xb (.e [] 2) 0 a1 ?_
 have hB:=(Za w)
 refine xr (.o [] 1) (Cq a l.length c 4 2 4 2 l _ rfl rfl rfl Do M0 M0 (h.below hB)) fun W1 a3=>?_
 have a0:=bln hB a3
 exact xe (.r [3,4] 3) (.bool ((↑(Zn l 4 2):Int) != kind)) ⟨rfl,a0⟩
theorem open_6(kind no:Int)(w:World)(bb:Nat)(a:O0)(c:Nat)(l:Bl)(kb:Blk w bb [.slice a l.length c] 22)(hl:l.length=256)(hc:256≤c)(h:Bys w (.slice a l.length c) l) :
 C0 149 #[P0 bb] w (Ret (.bool (Dz kind no l 5)) w):=by
 refine zin 5 Tryz.func149 ?_
 refine xb 7 0 kb ?_
 refine xr 0 (Cq a l.length c 6 2 6 2 l _ rfl rfl rfl Do M0 M0 (h.below (B4 w))) fun W1 a0=>?_
 exact xe 5 (.bool ((↑(Zn l 6 2):Int) != (0:Int))) ⟨rfl,a0⟩
def OpenP(kind no:Int)(l:Bl)(w:World)(e:Ending)(w':World):Prop :=
 (Qv kind no l≠0∧e=.returned (.tuple #[S0,V0 (Qv kind no l)])∧B3 w w') ∨
 (Qv kind no l=0∧∃ p c,e=.returned (.tuple #[.slice p 244 c,V0 0])∧B3 w w'∧w'.ownsRow w.heap.size 5 1 (.slice p 244 c) 244 (((l.drop 8).take 244).map bv))
theorem Zbt(kind no:Int)(a:O0)(c:Nat)(l:Bl)(w:World)(h:Bys w (.slice a l.length c) l) :
 C0 92 #[.slice a l.length c,V0 kind,V0 no] w (OpenP kind no l w):=by
 have m4:=h.cap rfl
 refine zin 39 Tryz.func92 ?_
 refine xa 2 [.slice a l.length c] 22 fun b1 W1 n1=>?_
 refine xa 0 [V0 kind] 3 fun b2 W2 n2=>?_
 refine xa 0 [V0 no] 3 fun b3 W3 n3=>?_
 have m3:=n3.ne n2.blk
 refine xbs 18 6 [.func (.func 142) #[] #[P0 b2,P0 b3],V0 1,.func (.func 144) #[] #[P0 b1],V0 7,.func (.func 145) #[] #[P0 b1,P0 b2],V0 4,.func (.func 147) #[] #[P0 b1,P0 b3],V0 5,.func (.func 148) #[] #[P0 b1,P0 b2],V0 6,.func (.func 149) #[] #[P0 b1],V0 7] 272 fun b4 W4 n4=>?_
 refine xu 12 7 ?_
 refine xlv 14 (n4.blk.rpp 0 2) ?_
 refine xa 0 [.nilFunc,V0 0] 272 fun b5 W5 n5=>?_
 have h9:=n5.ne n4.blk
 refine xsv 0 n5.blk [.func (.func 142) #[] #[P0 b2,P0 b3],V0 1] fun W6 u6 k6=>?_
 have g5:=n5.ge (bln (bln (bln n1.below n2.below) n3.below) n4.below)
 refine xb 5 0 k6 ?_
 have i2:=u6.blkT (((n2.blk.below n3.below).below n4.below).below n5.below) n5.blk Do
 have k3:=u6.blkT ((n3.blk.below n4.below).below n5.below) n5.blk Do
 refine xr 0 (open_1 kind no _ l b2 i2 b3 k3) fun W7 b6=>?_
 refine xi 2 (Dz kind no l 0) (fun k9=>?_) (fun k9=>?_)
 ·have d2:=k9
  refine xd 1 .z ?_
  have k8:=(k6.below b6).below (Za W7)
  refine xb (.e [0] 1) 1 k8 ?_
  have hB:=bln (bln (u6.below (bln (bln (bln (bln n1.below n2.below) n3.below) n4.below) n5.below) g5) b6) (Za W7)
  refine xe (.r [2,3] 8) (.tuple #[S0,V0 1]) ?_
  have he:Qv kind no l=1:=by simp[Qv,d2]
  exact .inl ⟨by rw[he];decide,by rw[he],hB⟩
 have d2:=k9
 have d4:=(u6.blk (n4.blk.below n5.below) h9).below b6
 refine xlv 22 (d4.rpp 2 2) ?_
 refine xa 0 [.nilFunc,V0 0] 272 fun b9 W9 n9=>?_
 have h8:=n9.ne d4
 have g1:=k6.below b6
 have f7:=n9.ne g1
 refine xsv 0 n9.blk [.func (.func 144) #[] #[P0 b1],V0 7] fun o2 e2 l1=>?_
 have g9:=n9.ge (bln (u6.below (bln (bln (bln (bln n1.below n2.below) n3.below) n4.below) n5.below) g5) b6)
 refine xb 5 0 l1 ?_
 have k1:=e2.blkT (((u6.blkT ((((n1.blk.below n2.below).below n3.below).below n4.below).below n5.below) n5.blk Do).below b6).below n9.below) n9.blk Do
 refine xr 0 (open_2 kind no _ b1 a c l k1) fun m0 a4=>?_
 refine xi 2 (Dz kind no l 1) (fun f2=>?_) (fun f2=>?_)
 ·have a3:=f2
  refine xd 1 .z ?_
  have h0:=(l1.below a4).below (Za m0)
  refine xb (.e [0] 1) 1 h0 ?_
  have hB:=bln (bln (e2.below (bln (bln (u6.below (bln (bln (bln (bln n1.below n2.below) n3.below) n4.below) n5.below) g5) b6) n9.below) g9) a4) (Za m0)
  refine xe (.r [2,3] 8) (.tuple #[S0,V0 7]) ?_
  have he:Qv kind no l=7:=by simp[Qv,d2,a3]
  exact .inl ⟨by rw[he];decide,by rw[he],hB⟩
 have a3:=f2
 have m1:=Zr0 a3
 have e6:=(e2.blk (d4.below n9.below) h8).below a4
 refine xlv 22 (e6.rpp 4 2) ?_
 refine xa 0 [.nilFunc,V0 0] 272 fun n6 n0 a7=>?_
 have e3:=a7.ne e6
 have i7:=(e2.blk (g1.below n9.below) f7).below a4
 have f1:=a7.ne i7
 have c4:=l1.below a4
 have d7:=a7.ne c4
 have hB:=bln (e2.below (bln (bln (u6.below (bln (bln (bln (bln n1.below n2.below) n3.below) n4.below) n5.below) g5) b6) n9.below) g9) a4
 have m7:=a7.ge hB
 refine xsv 0 a7.blk [.func (.func 145) #[] #[P0 b1,P0 b2],V0 4] fun o4 d9 j6=>?_
 refine xb 5 0 j6 ?_
 have i0:=d9.blkT ((k1.below a4).below a7.below) a7.blk Do
 have i1:=d9.blkT (((e2.blkT ((i2.below b6).below n9.below) n9.blk Do).below a4).below a7.below) a7.blk Do
 have e0:=d9.below (bln hB a7.below) m7
 refine xr 0 (open_3 kind no _ b1 a c l i0 b2 i1 (Zr0 a3) (by have:=Zr0 a3;have:=h.cap rfl;omega) (h.below e0)) fun l9 a1=>?_
 refine xi 2 (Dz kind no l 2) (fun f4=>?_) (fun f4=>?_)
 ·have f6:=f4
  refine xd 1 .z ?_
  have f9:=(j6.below a1).below (Za l9)
  refine xb (.e [0] 1) 1 f9 ?_
  have j7:=bln (bln e0 a1) (Za l9)
  refine xe (.r [2,3] 8) (.tuple #[S0,V0 4]) ?_
  have he:Qv kind no l=4:=by simp[Qv,d2,a3,f6]
  exact .inl ⟨by rw[he];decide,by rw[he],j7⟩
 have f6:=f4
 have f3:=(d9.blk (e6.below a7.below) e3).below a1
 refine xlv 22 (f3.rpp 6 2) ?_
 refine xa 0 [.nilFunc,V0 0] 272 fun o1 o3 a6=>?_
 have d3:=a6.ne f3
 have i3:=(d9.blk (i7.below a7.below) f1).below a1
 have d8:=a6.ne i3
 have c9:=(d9.blk (c4.below a7.below) d7).below a1
 have d5:=a6.ne c9
 have d0:=j6.below a1
 have c1:=a6.ne d0
 have i6:=bln e0 a1
 have m6:=a6.ge i6
 refine xsv 0 a6.blk [.func (.func 147) #[] #[P0 b1,P0 b3],V0 5] fun m9 d1 j9=>?_
 refine xb 5 0 j9 ?_
 have g2:=d1.blkT ((i0.below a1).below a6.below) a6.blk Do
 have l0:=d1.blkT (((d9.blkT (((e2.blkT ((k3.below b6).below n9.below) n9.blk Do).below a4).below a7.below) a7.blk Do).below a1).below a6.below) a6.blk Do
 have e8:=d1.below (bln i6 a6.below) m6
 refine xr 0 (open_4 kind no _ b1 a c l g2 b3 l0 (Zr0 a3) (by have:=Zr0 a3;have:=h.cap rfl;omega) (h.below e8)) fun l7 a0=>?_
 refine xi 2 (Dz kind no l 3) (fun d6=>?_) (fun d6=>?_)
 ·have h2:=d6
  refine xd 1 .z ?_
  have h1:=(j9.below a0).below (Za l7)
  refine xb (.e [0] 1) 1 h1 ?_
  have l2:=bln (bln e8 a0) (Za l7)
  refine xe (.r [2,3] 8) (.tuple #[S0,V0 5]) ?_
  have he:Qv kind no l=5:=by simp[Qv,d2,a3,f6,h2]
  exact .inl ⟨by rw[he];decide,by rw[he],l2⟩
 have h2:=d6
 have e1:=(d1.blk (f3.below a6.below) d3).below a0
 refine xlv 22 (e1.rpp 8 2) ?_
 refine xa 0 [.nilFunc,V0 0] 272 fun o5 o8 a5=>?_
 have f5:=a5.ne e1
 have h4:=(d1.blk (i3.below a6.below) d8).below a0
 have e5:=a5.ne h4
 have c8:=(d1.blk (c9.below a6.below) d5).below a0
 have e7:=a5.ne c8
 have c7:=(d1.blk (d0.below a6.below) c1).below a0
 have b7:=a5.ne c7
 have c2:=j9.below a0
 have c0:=a5.ne c2
 have g6:=bln e8 a0
 have m8:=a5.ge g6
 refine xsv 0 a5.blk [.func (.func 148) #[] #[P0 b1,P0 b2],V0 6] fun n7 c5 j4=>?_
 refine xb 5 0 j4 ?_
 have g3:=c5.blkT ((g2.below a0).below a5.below) a5.blk Do
 have k2:=c5.blkT (((d1.blkT ((i1.below a1).below a6.below) a6.blk Do).below a0).below a5.below) a5.blk Do
 have e4:=c5.below (bln g6 a5.below) m8
 refine xr 0 (open_5 kind no _ b1 a c l g3 b2 k2 (Zr0 a3) (by have:=Zr0 a3;have:=h.cap rfl;omega) (h.below e4)) fun l6 a2=>?_
 refine xi 2 (Dz kind no l 4) (fun f0=>?_) (fun f0=>?_)
 ·have j2:=f0
  refine xd 1 .z ?_
  have f8:=(j4.below a2).below (Za l6)
  refine xb (.e [0] 1) 1 f8 ?_
  have l3:=bln (bln e4 a2) (Za l6)
  refine xe (.r [2,3] 8) (.tuple #[S0,V0 6]) ?_
  have he:Qv kind no l=6:=by simp[Qv,d2,a3,f6,h2,j2]
  exact .inl ⟨by rw[he];decide,by rw[he],l3⟩
 have j2:=f0
 have g0:=(c5.blk (e1.below a5.below) f5).below a2
 refine xlv 22 (g0.rpp 10 2) ?_
 refine xa 0 [.nilFunc,V0 0] 272 fun n8 o7 a9=>?_
 have j3:=a9.ne g0
 have k0:=(c5.blk (h4.below a5.below) e5).below a2
 have l4:=a9.ne k0
 have i4:=(c5.blk (c8.below a5.below) e7).below a2
 have k5:=a9.ne i4
 have i8:=(c5.blk (c7.below a5.below) b7).below a2
 have j1:=a9.ne i8
 have h6:=(c5.blk (c2.below a5.below) c0).below a2
 have i9:=a9.ne h6
 have h3:=j4.below a2
 have j0:=a9.ne h3
 have h5:=bln e4 a2
 have m5:=a9.ge h5
 refine xsv 0 a9.blk [.func (.func 149) #[] #[P0 b1],V0 7] fun o0 m2 l5=>?_
 refine xb 5 0 l5 ?_
 have g7:=m2.blkT ((g3.below a2).below a9.below) a9.blk Do
 have a8:=m2.below (bln h5 a9.below) m5
 refine xr 0 (open_6 kind no _ b1 a c l g7  (Zr0 a3) (by have:=Zr0 a3;have:=h.cap rfl;omega) (h.below a8)) fun l8 b0=>?_
 refine xi 2 (Dz kind no l 5) (fun e9=>?_) (fun e9=>?_)
 ·have k7:=e9
  refine xd 1 .z ?_
  have g8:=(l5.below b0).below (Za l8)
  refine xb (.e [0] 1) 1 g8 ?_
  have i5:=bln (bln a8 b0) (Za l8)
  refine xe (.r [2,3] 8) (.tuple #[S0,V0 7]) ?_
  have he:Qv kind no l=7:=by simp[Qv,d2,a3,f6,h2,j2,k7]
  exact .inl ⟨by rw[he];decide,by rw[he],i5⟩
 have k7:=e9
 have j8:=g7.below b0
 refine xb 22 0 j8 ?_
 refine xsB 0 (fun _ _ _ _ _ zo zx zy zz V=>Lu (k:=8) (h:=252) (b:=a) (n:=l.length) (c:=c) (i:=8) (ki:=.i64) (j:=252) (kj:=.i64) 1 zo zx zy rfl zz rfl M0 M0 Tryz.underlying22 K0 V) ?_
 have c6:=bln a8 b0
 refine xc 0 (Jv (Mw a 8 c 1) 244 (c-8) ((l.drop 8).take 244) _ (by have:=Zr0 a3;simp;omega) ((Bys.cut h rfl 8 252 Do (by have:=Zr0 a3;omega)).below c6) Do) ?_
 rintro _ o6 ⟨_,rfl,j5,ho⟩
 have k4:=(bln a8 b0).size
 have b8:=Zf ho k4
 unfold Du at b8
 rw[show((l.drop 8).take 244).length=244 from by have:=Zr0 a3;simp;omega] at b8
 obtain⟨p,c3,rfl⟩:=(Zg b8).slice
 have h7:=bln c6 j5
 exact xe 5 (.tuple #[.slice p 244 c3,V0 0]) (.inr ⟨by simp[Qv,d2,a3,f6,h2,j2,k7],_,_,rfl,h7,b8⟩)
end Go.Proofs.YtceeiinepijokaaGreatDoor
namespace Go.Proofs.YtceeiinepijokaaGreatDoor
set_option maxHeartbeats 8000000
set_option maxRecDepth 100000
open Go.RowKit Go.Extern.Stop Go.Stop Go.Extern
set_option linter.unusedVariables false
section
variable {P:Program} {Q:Exit→Act→World→Prop} {a:Act} {w:World} {K:Act→World→Prop}
theorem Zk9{o:Oper}{d x:Operand}{dT sT e:TypeId}{base g off n cap dLen dCap:Nat}{xs:List Value}(l:Bl)(xs':List Value)(ho:o.op=.call { callee:=.builtin .copy,args:=#[d,x],argTypes:=#[dT,sT] })(hu:P.underlying dT=some (.slice e))(hsz:(P.info? e).map (·.size)=some 1)
 (hd:a.eval d=.slice (some ⟨g,off,none⟩) dLen dCap) (hs:a.eval x=.string ⟨l.toArray⟩) (hown:w.ownsRow base e 1 (.slice (S1 g) n cap) n xs) (hm:l.length≤dLen) (hfit:off+l.length≤n)
 (hbase:base≤w.heap.size) (hxs:xs.take off++l.map bv++xs.drop (off+l.length)=xs')
 (h:∀ W,W.ownsRow base e 1 (.slice (S1 g) n cap) n xs'→w.grownBy W (Value.slice (S1 g) n cap).ownBlock→Below base w W→K (a.put o.dst (V0 (l.length:Int))) W):o.wp P a w K Q:=by
 obtain⟨hl,hr⟩:=hown
 rcases hr with ⟨hv,_⟩|⟨g2,b2,a1,hv,a5,hh,a7,a6,a4,a9⟩
 ·cases hv
 simp only[C2,A0,Addr.mk.injEq] at hv
 obtain⟨⟨rfl,_,_⟩,_,rfl⟩:=hv
 have b0:xs.length=n:=by simpa using hl
 have a3:a1.toList.length=cap:=by simpa using a4
 have a8:(l.map bv).length=l.length:=by simp
 have b3:∀ W,W.heap[g]? = some (.cells (a1.toList.take off++l.map bv++a1.toList.drop (off+l.length)).toArray e (0,0))→w.grownBy W (some g)→K (a.put o.dst (V0 (l.length:Int))) W:=by
  intro W hW hg
  refine h W ⟨?_,.inr ⟨g,cap,_,rfl,a5,hW,a7,a6,?_,?_⟩⟩ hg (Gn (v:=.slice (S1 g) n cap) hg ⟨hl,.inr ⟨g,cap,a1,rfl,a5,hh,a7,a6,a4,a9⟩⟩ (At _) hbase)
  ·rw[←hxs];simp;omega
  ·simp only[F6,A8,E3,K9,a3,G4,a8];omega
  ·have hA:(a1.toList.take off++l.map bv).length=off+l.length:=by simp only[A8,E3,a3,a8];omega
   rw[←hxs,←a9]
   simp only[G4]
   rw[List.take_append,C1 (by rw[hA];omega),hA,O7,H3 (by omega:off≤n),List.drop_take]
 have a0:(⟨l.toArray⟩:ByteArray).size=l.length:=by show l.toArray.size=l.length;simp
 have a2:=Go.Lib.run_copy_row_string (P:=P) w dT sT o.type e g off dLen dCap ⟨l.toArray⟩ a1 e hu hsz hh (by rw[a0];exact hm) (by rw[a0,a4];omega)
 rw[a0] at a2
 have b1:Go.Lib.byteCells (⟨l.toArray⟩:ByteArray).data.toList=l.map bv:=rfl
 rw[b1] at a2
 have h2:(execOp a.eval o).run P w=.ok (.value (V0 (l.length:Int))) (w.setRow g (a1.toList.take off++l.map bv++a1.toList.drop (off+l.length)).toArray):=by
  simp[execOp,ho,resolve,invoke,builtin,hd,hs,a2,Result.andThen,goInt]
 exact Wo h2 (b3 _ (setRow_heap w g _ _ e _ hh) ⟨rfl,rfl,rfl,by simp,fun k _ hk=>setRow_other w g k _ (fun e=>hk (by rw[e]))⟩)
theorem Sl.head{b:O0}{n c:Nat}{xs:List Value}(h:Sl w (.slice b n c) n xs)(hn:xs.length=n)(m:Nat)(hm:m≤n):Sl w (.slice b m c) m (xs.take m):=by
 rcases h with ⟨a',c',h1,h2,h3⟩|⟨b',a1,a2,h1,h2,h3,h4⟩
 ·obtain rfl:m=0:=by omega
  simp only[C2] at h1
  exact .inl ⟨b,c,rfl,rfl,by simp⟩
 ·simp only[C2] at h1
  obtain⟨rfl,_,rfl⟩:=h1
  refine .inr ⟨b',a1,c,rfl,by omega,h3,fun j x hj=>h4 j x ?_⟩
  have a0:j<m:=by have:=(List.getElem?_eq_some_iff.1 hj).1;simp at this;omega
  rwa [I0 a0] at hj
def sv (l:Bl):Value:=.string ⟨l.toArray⟩
theorem Strs.elem{b:O0}{n c:Nat}{V:List Bl}(h:Sl w (.slice b n c) n (V.map sv))(hl:V.length=n){k:Nat}(hk:k<n):b.isSome=true∧w.cell? (Zx b (k*1))=some (.string ⟨(V.getD k []).toArray⟩):=by
 rcases h with ⟨a',c',h1,h2,h3⟩|⟨b',a0,a1,h1,h2,h3,h4⟩
 ·omega
 ·simp only[C2] at h1
  obtain⟨rfl,_,rfl⟩:=h1
  refine⟨rfl,?_⟩
  have:=h4 k (sv (V.getD k [])) (by simp[List.getD,A4 (show k<V.length by omega)])
  rw[G4]
  show w.cell? ((⟨b',a0,none⟩:Addr).add k)=_
  rw[Addr.add_mid]
  exact this
end
end Go.Proofs.YtceeiinepijokaaGreatDoor
namespace Go.Proofs.YtceeiinepijokaaGreatDoor
set_option maxHeartbeats 8000000
set_option maxRecDepth 100000
open Go.RowKit Go.Extern.Stop Go.Stop Go.Extern
set_option linter.unusedVariables false
attribute [local irreducible] wpList wpAnyH Code.wp Oper.wp Go
theorem Sl.cap{w:World}{b:O0}{n c:Nat}{xs:List Value}(h:Sl w (.slice b n c) n xs):n≤c:=by
 rcases h with ⟨a',c',h1,h2,_⟩|⟨b',a0,cap,h1,h2,_,_⟩
 ·omega
 ·simp only[C2] at h1;omega
def Mt(b:Bool):Int:=if b then 1 else 0
theorem Zfm(b:Bool):0≤Mt b∧Mt b<256:=by cases b<;>decide
structure NodeOk(t:Int)(leaf:Bool)(n m v:Nat)(K:List Int)(Vs:List (List UInt8)):Prop where
 ht1:1≤t
 ht2:t≤5
 hm:Kh t leaf=m
 hv:Jd t leaf=v
 hK:K.length=n
 hV:Vs.length=n
 hn:n≤m
 hl:leaf=false→1≤n
 hk0:∀ i,i<n→0≤K.getD i 0∧K.getD i 0≤281474976710655
 hk1:∀ j,j+1<n→K.getD j 0<K.getD (j+1) 0
 hw:∀ i,i<n→(Vs.getD i []).length=v
theorem Om(t:Int)(leaf:Bool):4≤Jd t leaf∧Jd t leaf≤24:=by
 unfold Jd
 repeat' split
 all_goals decide
theorem fitN(t:Int)(leaf:Bool):12+Kh t leaf*8+Kh t leaf*Jd t leaf≤244:=by
 unfold Jd Kh
 repeat' split
 all_goals decide
theorem Zf6{K:List Int}{i j:Nat}(h:j<i):(K.take i).getD j 0=K.getD j 0:=by simp[List.getD,I0 h]
theorem Zbm(t:Int)(leaf:Bool)(m:Nat)(hm:Kh t leaf=m)(h1:1≤t)(h2:t≤5)(w:World):C0 189 #[V0 t,.bool leaf] w (Ret (V0 (m:Int)) w):=by
 subst hm;exact Ap t leaf h1 h2 w
theorem Ec(t:Int)(leaf:Bool)(v:Nat)(hv:Jd t leaf=v)(h1:1≤t)(h2:t≤5)(w:World):C0 239 #[V0 t,.bool leaf] w (Ret (V0 (v:Int)) w):=by
 subst hv;exact Zcu t leaf h1 h2 w
theorem Ztc(leaf:Bool)(w:World) :
 C0 279 #[.bool leaf] w (Ret (V0 (Mt leaf)) w):=by
 refine zin 4 Tryz.func279 ?_
 refine xi 11 leaf (fun a0=>?_) (fun a0=>?_)
 ·exact xe 7 (V0 1) ⟨by simp_all [Mt],(B4 w)⟩
 exact xe 8 (V0 0) ⟨by simp_all [Mt],(B4 w)⟩
theorem Zlw(a:O0)(i c:Nat)(L:List Int)(k:Int)(w:World)(hL:L.length=i)(h:Sl w (.slice a i c) i (L.map V0))(h1:0≤k)(h2:k≤281474976710655)(h3:∀ j,i=j+1→L.getD j 0<k)(hi:i≤1000) :
 C0 254 #[.slice a i c,V0 k] w (Ret (V0 0) w):=by
 refine zin 26 Tryz.func254 ?_
 refine xgk 12 [7,8] (show(decide (k<(0:Int)):Bool)=false from decide_eq_false M0) ?_
 refine xk 6 (show(decide (k>(281474976710655:Int)):Bool)=false from decide_eq_false M0) ?_
 refine xg 6 [15,16] (decide ((i:Int)>(0:Int))) (fun a0=>?_) (fun a0=>?_)
 ·have a0:=of_decide_eq_true a0
  refine xwm 3 ((i:Int)-1) (↑(i-1):Int) ?_
  refine xx 0 _ i (i-1) 1 (IntsN.elem h hL (k:=(i-1)) M0).1 ?_
  refine xl 0 ((IntsN.elem h hL (k:=(i-1)) M0).2) ?_
  refine xk 6 (show(decide ((L.getD (i-1) 0)≥k):Bool)=false from decide_eq_false (by have:=h3 (i-1) M0;omega)) ?_
  exact xe 9 (V0 0) ⟨rfl,(B4 w)⟩
 have a0:=of_decide_eq_false a0
 exact xe 22 (V0 0) ⟨rfl,(B4 w)⟩
theorem Zra(t:Int)(leaf:Bool)(n m v:Nat)(K:List Int)(Vs:List Bl)(ak av:O0)(ck cv:Nat)(w:World)(N:NodeOk t leaf n m v K Vs)(hKs:Sl w (.slice ak n ck) n (K.map V0))(hVs:Sl w (.slice av n cv) n (Vs.map sv)) :
 C0 278 #[.agg #[V0 t,.bool leaf,.slice ak n ck,.slice av n cv]] w (Ret (.bool true) w):=by
 have b9:=N.ht1
 have c0:=N.ht2
 have d0:=N.hn
 have c3:=Om t leaf
 rw[N.hv] at c3
 have c5:=Qi t leaf
 rw[N.hm] at c5
 have b6:=fitN t leaf
 rw[N.hm,N.hv] at b6
 have c6:=Sl.cap hKs
 refine zin 70 Tryz.func278 ?_
 refine xa 2 [V0 t,.bool leaf,.slice ak n ck,.slice av n cv] 181 fun b1 W1 n1=>?_
 refine xb 6 0 n1.blk ?_
 refine xb 1 1 n1.blk ?_
 refine xr 0 (Ec t leaf v N.hv b9 c0 _) fun W2 b3=>?_
 refine xd 5 .z ?_
 refine xgk (.b [0,1,2]) [12,13] (show(((v:Int)==(0:Int)):Bool)=false from by simp;omega) ?_
 have a5:=(n1.blk.below b3).below (Za W2)
 refine xb (.e [3] 4) 2 a5 ?_
 refine xb (.e [5,6] 7) 0 a5 ?_
 refine xb (.e [8] 9) 1 a5 ?_
 refine xr (.o [] 10) (Zbm t leaf m N.hm b9 c0 _) fun W4 b5=>?_
 refine xgk (.b [11,12,13]) [22,23,24] (show(decide ((n:Int)>(m:Int)):Bool)=false from decide_eq_false M0) ?_
 have a0:=a5.below b5
 refine xb (.e [14] 15) 3 a0 ?_
 refine xb (.e [16,17] 18) 2 a0 ?_
 refine xgk (.b [19,20,21,22]) [31,32,33] (show(((n:Int) != (n:Int)):Bool)=false from by simp) ?_
 refine xb (.e [23] 24) 1 a0 ?_
 refine xg (.b [25,26]) [36,37] (!leaf) (fun c2=>?_) (fun c2=>?_)
 ·refine xb (.e [27] 28) 2 a0 ?_
  refine xk (.r [29,30,31,32] 2) (show(((n:Int)==(0:Int)):Bool)=false from by have:=N.hl (by simp_all);simp;omega) ?_
  refine xb 6 2 a0 ?_
  have hB:=bln (bln (bln n1.below b3) (Za W2)) b5
  refine zl 5 70 (fun zm b8 V=>∃ (i:Nat),b8=[(1,P0 b1),(3,V0 (v:Int)),(45,.slice ak n ck),(46,V0 (n:Int)),(47,V0 (i:Int))]∧zm=n-((i:Int)).toNat∧B3 w V∧Blk V b1 ([V0 t,.bool leaf,.slice ak n ck,.slice av n cv]) 181∧i≤n) ⟨0,rfl,rfl,hB,a0,A3 _⟩ ?_
  rintro _ _ W8 ⟨i,rfl,rfl,a6,a7,hi⟩ J8 c4 r8
  refine xid 6 ((i:Int)<(n:Int)) (fun c1=>?_) (fun c1=>?_)
  ·refine xx 7 _ n i 1 (IntsN.elem hKs N.hK (k:=i) M0).1 ?_
   refine xl 0 ((IntsN.elem (hKs.below a6) N.hK (k:=i) M0).2) ?_
   refine xb 7 2 a7 ?_
   refine xsH 1 (fun _ _ _ _ zo zx zy V=>Kb (k:=i) (b:=ak) (n:=n) (c:=ck) (i:=(i:Int)) (ki:=.i64) zo zx zy rfl M0 Tryz.underlying34 K0 V) ?_
   refine xr 1 (Zlw ak i ck (K.take i) (K.getD i 0) _ (by rw[E3,N.hK];omega) (by rw[I4];exact(hKs.below a6).head (by simpa using N.hK) i M0) (N.hk0 i M0).1 (N.hk0 i M0).2 (fun j e=>by subst e;rw[Zf6 M0];exact N.hk1 j M0) M0) fun d2 b0=>?_
   have a3:=a7.below b0
   refine xb 3 3 a3 ?_
   refine xx 1 _ n i 1 (Strs.elem hVs N.hV (k:=i) M0).1 ?_
   have b2:=bln a6 b0
   refine xl 0 ((Strs.elem (hVs.below b2) N.hV (k:=i) M0).2) ?_
   refine xk 6 (show(((↑(Vs.getD i []).length:Int) != (v:Int)):Bool)=false from by rw[N.hw i M0];simp) ?_
   refine xw 4 ((i:Int)+1) ?_
   exact ze 2 (c4 _ _ _ ⟨i+1,rfl,rfl,b2,a3,by omega⟩ M0)
  exact xe 11 (.bool true) ⟨rfl,a6⟩
 refine xb (.r [27,28,29,30,31,32] 9) 2 a0 ?_
 have hB:=bln (bln (bln n1.below b3) (Za W2)) b5
 refine zl 5 70 (fun zm b8 V=>∃ (i:Nat),b8=[(1,P0 b1),(3,V0 (v:Int)),(45,.slice ak n ck),(46,V0 (n:Int)),(47,V0 (i:Int))]∧zm=n-((i:Int)).toNat∧B3 w V∧Blk V b1 ([V0 t,.bool leaf,.slice ak n ck,.slice av n cv]) 181∧i≤n) ⟨0,rfl,rfl,hB,a0,A3 _⟩ ?_
 rintro _ _ c9 ⟨i,rfl,rfl,a2,a4,hi⟩ c7 b4 c8
 refine xid 6 ((i:Int)<(n:Int)) (fun b7=>?_) (fun b7=>?_)
 ·refine xx 7 _ n i 1 (IntsN.elem hKs N.hK (k:=i) M0).1 ?_
  refine xl 0 ((IntsN.elem (hKs.below a2) N.hK (k:=i) M0).2) ?_
  refine xb 7 2 a4 ?_
  refine xsH 1 (fun _ _ _ _ zo zx zy V=>Kb (k:=i) (b:=ak) (n:=n) (c:=ck) (i:=(i:Int)) (ki:=.i64) zo zx zy rfl M0 Tryz.underlying34 K0 V) ?_
  refine xr 1 (Zlw ak i ck (K.take i) (K.getD i 0) _ (by rw[E3,N.hK];omega) (by rw[I4];exact(hKs.below a2).head (by simpa using N.hK) i M0) (N.hk0 i M0).1 (N.hk0 i M0).2 (fun j e=>by subst e;rw[Zf6 M0];exact N.hk1 j M0) M0) fun d1 a8=>?_
  have a1:=a4.below a8
  refine xb 3 3 a1 ?_
  refine xx 1 _ n i 1 (Strs.elem hVs N.hV (k:=i) M0).1 ?_
  have a9:=bln a2 a8
  refine xl 0 ((Strs.elem (hVs.below a9) N.hV (k:=i) M0).2) ?_
  refine xk 6 (show(((↑(Vs.getD i []).length:Int) != (v:Int)):Bool)=false from by rw[N.hw i M0];simp) ?_
  refine xw 4 ((i:Int)+1) ?_
  exact ze 2 (b4 _ _ _ ⟨i+1,rfl,rfl,a9,a1,by omega⟩ M0)
 exact xe 11 (.bool true) ⟨rfl,a2⟩
def widG(t:Int)(leaf:Bool):Nat:=if 1≤t∧t≤5 then Jd t leaf else 0
def Zv6(t:Int)(leaf:Bool):Nat:=if 1≤t∧t≤5 then Kh t leaf else 0
theorem fitG(t:Int)(leaf:Bool):12+Zv6 t leaf*8+Zv6 t leaf*widG t leaf≤244:=by
 unfold Zv6 widG;split
 ·exact fitN t leaf
 ·decide
theorem maxG_le(t:Int)(leaf:Bool):Zv6 t leaf≤18:=by
 unfold Zv6;split
 ·exact(Qi t leaf).2
 ·decide
theorem widG_le(t:Int)(leaf:Bool):widG t leaf≤24:=by
 unfold widG;split
 ·exact(Om t leaf).2
 ·decide
theorem Dj(t:Int)(leaf:Bool)(w:World)(h:¬ (1≤t∧t≤5)) :
 C0 239 #[V0 t,.bool leaf] w (Ret (V0 0) w):=by
 refine zin 31 Tryz.func239 ?_
 refine xg 17 [8,9] (decide (t<(1:Int))) (fun a0=>?_) (fun a0=>?_)
 ·have a0:=of_decide_eq_true a0
  exact xe 15 (V0 0) ⟨rfl,(B4 w)⟩
 have a0:=of_decide_eq_false a0
 refine xk 6 (show(decide (t>(5:Int)):Bool)=true from decide_eq_true M0) ?_
 exact xe 8 (V0 0) ⟨rfl,(B4 w)⟩
theorem Ds(t:Int)(leaf:Bool)(w:World):C0 239 #[V0 t,.bool leaf] w (Ret (V0 (widG t leaf:Int)) w):=by
 unfold widG
 by_cases h:1≤t∧t≤5
 ·rw[if_pos h];exact Zcu t leaf h.1 h.2 w
 ·rw[if_neg h];exact Dj t leaf w h
theorem Ziq(t:Int)(leaf:Bool)(w:World)(h:¬ (1≤t∧t≤5)) :
 C0 189 #[V0 t,.bool leaf] w (Ret (V0 0) w):=by
 refine zin 16 Tryz.func189 ?_
 refine xr 9 (Dj t leaf _ h) fun W1 a0=>?_
 exact xe 18 (V0 0) ⟨rfl,a0⟩
theorem Zgt(t:Int)(leaf:Bool)(w:World):C0 189 #[V0 t,.bool leaf] w (Ret (V0 (Zv6 t leaf:Int)) w):=by
 unfold Zv6
 by_cases h:1≤t∧t≤5
 ·rw[if_pos h];exact Ap t leaf h.1 h.2 w
 ·rw[if_neg h];exact Ziq t leaf w h
def Zp3(L:List Int)(i:Nat)(k:Int):Int:=if k<0∨281474976710655<k then 2 else if 0<i∧k≤L.getD (i-1) 0 then 8 else 0
def Qy(l:Bl):Int:=(Zn l 1 1:Int)
def Yj(l:Bl):Bool:=(Zn l 0 1:Int)==(1:Int)
def Xb(l:Bl):Nat:=Zn l 2 2
def Je(l:Bl):Nat:=widG (Qy l) (Yj l)
def Gc(l:Bl):Nat:=Zv6 (Qy l) (Yj l)
def Ot(l:Bl):Bool:=decide (Zn l 0 1≤1∧Je l≠0∧Zn l 2 2≤Gc l∧Zn l 4 2=Je l∧Zn l 6 2=Gc l∧Zn l 8 4=0∧(Zn l 0 1=1∨0<Zn l 2 2))
def ShapeP(l:Bl)(w:World)(e:Ending)(w':World):Prop :=
 (Ot l=false∧∃ a b c,e=.returned (.tuple #[.agg #[V0 a,.bool b,S0,S0],V0 c,.bool false])∧B3 w w') ∨
 (Ot l=true∧e=.returned (.tuple #[.agg #[V0 (Qy l),.bool (Yj l),S0,S0],V0 (Xb l:Int),.bool true])∧B3 w w')
theorem Rr(a:O0)(n c:Nat)(l:Bl)(aw:O0)(cw m:Nat)(ws:List Nat)(xs:List Nat)(W:World)(hn:l.length=n)(hm:ws.length=m)(hx:Nu l 0 ws=xs)(hk:∀ i,i<ws.length→ws.getD i 0=1∨ws.getD i 0=2∨ws.getD i 0=4∨ws.getD i 0=8)(hs:ws.sum≤n)(hl:n≤100000000)(hw:ws.length≤1000)(h:Bys W (.slice a n c) l)(hws:Sl W (.slice aw m cw) m (ws.map nv))(hq:∀ i,i<ws.length→(Nu l 0 ws).getD i 0<9223372036854775808) :
 C0 180 #[.slice a n c,.slice aw m cw] W (Kc (fun w' r=>∃ p c,r=.tuple #[.slice p m c,V0 0]∧w'.ownsRow W.heap.size 3 1 (.slice p m c) m (xs.map nv)) W):=by
 subst hn hm hx;exact Zif a c l aw cw ws W hk hs hl hw h hws hq
def Hq(l:Bl):List Nat:=[Zn l 0 1,Zn l 1 1,Zn l 2 2,Zn l 4 2,Zn l 6 2,Zn l 8 4]
theorem head6_bd(l:Bl)(i:Nat)(hi:i<6):(Nu l 0 [1,1,2,2,2,4]).getD i 0<9223372036854775808:=by
 have h1:=Kv l 0 1 Do
 have h2:=Kv l 1 1 Do
 have h3:=Kv l 2 2 Do
 have h4:=Kv l 4 2 Do
 have h5:=Kv l 6 2 Do
 have h6:=Kv l 8 4 Do
 obtain rfl|rfl|rfl|rfl|rfl|rfl:i=0∨i=1∨i=2∨i=3∨i=4∨i=5:=by omega
 all_goals simp[Nu]
 all_goals omega
theorem Zrf(a:O0)(c:Nat)(l:Bl)(w:World)(hl:l.length=244)(h:Bys w (.slice a 244 c) l) :
 C0 253 #[.slice a 244 c] w (ShapeP l w):=by
 refine zin 92 Tryz.func253 ?_
 refine xa 2 [V0 0,.bool false,S0,S0] 181 fun b1 W1 n1=>?_
 refine xbs 18 6 [V0 1,V0 1,V0 2,V0 2,V0 2,V0 4] 3 fun b2 W2 n2=>?_
 have hB:=bln n1.below n2.below
 refine xc 0 (Rr a 244 c l (S1 b2) 6 6 [1,1,2,2,2,4] (Hq l) _ hl rfl rfl Do Do Do Do (h.below hB) (n2.blk.sl 6 6 Do Do) (head6_bd l)) ?_
 rintro _ W3 ⟨_,rfl,f4,p5,c5,rfl,h5⟩
 have g3:=(bln n1.below n2.below).size
 refine xd 8 (.t w.heap.size [181]) ?_
 have a9:=Zb (Zf h5 g3) (Za W3)
 refine xx (.e [0] 1) _ 6 1 1 (Xc (l:=Hq l) (Zg a9) rfl (k:=1) Do).1 ?_
 refine xlt (.e [] 2) (.t w.heap.size [181]) (fun V hV=>(Xc (l:=Hq l) (Zg (Zi a9 hV.2 Do)) rfl (k:=1) Do).2) ?_
 refine xx (.e [3] 4) _ 6 0 1 (Xc (l:=Hq l) (Zg a9) rfl (k:=0) Do).1 ?_
 refine xlt (.e [] 5) (.t w.heap.size [181]) (fun V hV=>(Xc (l:=Hq l) (Zg (Zi a9 hV.2 Do)) rfl (k:=0) Do).2) ?_
 refine xa (.o [6,7] 8) [V0 0,.bool false,S0,S0] 181 fun b4 W4 n4=>?_
 have k1:=((n1.blk.below n2.below).below f4).below (Za W3)
 have a3:=n4.ne k1
 have a6:=bln (bln hB f4) (Za W3)
 have g4:=n4.ge a6
 refine ysv (.o [] 9) n4.blk [V0 (↑(Zn l 1 1):Int),.bool ((↑(Zn l 0 1):Int)==(1:Int)),S0,S0] (.t w.heap.size [181]) fun W5 u5 k5=>⟨(Zt u5 n4.blk g4 Do),?_⟩
 have b7:=u5.own2 (Zb a9 n4.below) n4.blk Do
 refine xx 6 _ 6 0 1 (Xc (l:=Hq l) (Zg b7) rfl (k:=0) Do).1 ?_
 refine xl 0 ((Xc (l:=Hq l) (Zg b7) rfl (k:=0) Do).2) ?_
 refine xg 2 [32,33] (decide ((↑(Zn l 0 1):Int)>(1:Int))) (fun c8=>?_) (fun c8=>?_)
 ·have c8:=of_decide_eq_true c8
  have d5:=u5.blk (k1.below n4.below) a3
  refine xsv 13 d5 [V0 0,.bool false,S0,S0] fun W7 u7 k7=>?_
  have g1:=n1.ge (B4 w)
  have d9:=u7.below (u5.below (bln a6 n4.below) g4) g1
  exact xec 6 k7 (.tuple #[.agg #[V0 0,.bool false,S0,S0],V0 0,.bool false]) (.inl ⟨decide_eq_false M0,_,_,_,rfl,d9⟩)
 have c8:=of_decide_eq_false c8
 refine xb 1 0 k5 ?_
 refine xb 1 1 k5 ?_
 refine xr 0 (Ds (Qy l) (Yj l) _) fun W8 a7=>?_
 refine xie 4 (↑(Je l):Int) (0:Int) (fun f6=>?_) (fun f6=>?_)
 ·have e8:=(u5.blk (k1.below n4.below) a3).below a7
  refine xsv 3 e8 [V0 0,.bool false,S0,S0] fun h6 g8 f9=>?_
  have g1:=n1.ge (B4 w)
  have e0:=g8.below (bln (u5.below (bln a6 n4.below) g4) a7) g1
  exact xec 6 f9 (.tuple #[.agg #[V0 0,.bool false,S0,S0],V0 0,.bool false]) (.inl ⟨decide_eq_false M0,_,_,_,rfl,e0⟩)
 refine xd 3 .z ?_
 have a5:=(k5.below a7).below (Za W8)
 refine xb (.e [0] 1) 0 a5 ?_
 refine xb (.e [2] 3) 1 a5 ?_
 refine xb (.e [5] 6) 0 a5 ?_
 refine xb (.e [7] 8) 1 a5 ?_
 refine xr (.o [] 4) (Ds (Qy l) (Yj l) _) fun h2 a1=>?_
 refine xr (.o [] 9) (Zgt (Qy l) (Yj l) _) fun a4 a0=>?_
 have a2:=Zb (Zb (Zb (Zb b7 a7) (Za W8)) a1) a0
 refine xx (.r [10,11] 5) _ 6 2 1 (Xc (l:=Hq l) (Zg a2) rfl (k:=2) Do).1 ?_
 refine xl 0 ((Xc (l:=Hq l) (Zg a2) rfl (k:=2) Do).2) ?_
 refine xg 3 [56,57] (decide ((↑(Zn l 2 2):Int)≤(↑(Gc l):Int))) (fun b6=>?_) (fun b6=>?_)
 ·have b6:=of_decide_eq_true b6
  refine xx 1 _ 6 3 1 (Xc (l:=Hq l) (Zg a2) rfl (k:=3) Do).1 ?_
  refine xl 0 ((Xc (l:=Hq l) (Zg a2) rfl (k:=3) Do).2) ?_
  refine xg 4 [62,63,64] ((↑(Zn l 4 2):Int)==(↑(Je l):Int)) (fun a8=>?_) (fun a8=>?_)
  ·have a8:=eq_of_beq a8
   refine xx 1 _ 6 4 1 (Xc (l:=Hq l) (Zg a2) rfl (k:=4) Do).1 ?_
   refine xl 0 ((Xc (l:=Hq l) (Zg a2) rfl (k:=4) Do).2) ?_
   refine xg 4 [69,70,71] ((↑(Zn l 6 2):Int)==(↑(Gc l):Int)) (fun b3=>?_) (fun b3=>?_)
   ·have b3:=eq_of_beq b3
    refine xx 1 _ 6 5 1 (Xc (l:=Hq l) (Zg a2) rfl (k:=5) Do).1 ?_
    refine xl 0 ((Xc (l:=Hq l) (Zg a2) rfl (k:=5) Do).2) ?_
    refine xg 3 [75,76,77] ((↑(Zn l 8 4):Int)==(0:Int)) (fun b0=>?_) (fun b0=>?_)
    ·have b0:=eq_of_beq b0
     have b8:=(a5.below a1).below a0
     refine xb 1 1 b8 ?_
     refine xg 1 [27,37,45,50,79,80] ((↑(Zn l 0 1):Int)==(1:Int)) (fun b5=>?_) (fun b5=>?_)
     ·have b5:=eq_of_beq b5
      refine xd 10 (.t w.heap.size [181]) ?_
      have d3:=Zb a2 (Za a4)
      refine xx (.e [1] 2) _ 6 2 1 (Xc (l:=Hq l) (Zg d3) rfl (k:=2) Do).1 ?_
      refine xlt (.e [] 3) (.t w.heap.size [181]) (fun V hV=>(Xc (l:=Hq l) (Zg (Zi d3 hV.2 Do)) rfl (k:=2) Do).2) ?_
      have e1:=b8.below (Za a4)
      refine xlv (.o [4] 0) e1.rp ?_
      have b9:=(((((u5.blk (k1.below n4.below) a3).below a7).below (Za W8)).below a1).below a0).below (Za a4)
      have g1:=n1.ge (B4 w)
      refine ysv (.o [] 5) b9 [V0 (↑(Zn l 1 1):Int),.bool ((↑(Zn l 0 1):Int)==(1:Int)),S0,S0] (.t w.heap.size [181]) fun h0 f1 g2=>⟨(Zt f1 b9 g1 Do),?_⟩
      have e3:=f1.below (bln (bln (bln (bln (bln (u5.below (bln a6 n4.below) g4) a7) (Za W8)) a1) a0) (Za a4)) g1
      exact xec (.r [6,7] 3) g2 (.tuple #[.agg #[V0 (↑(Zn l 1 1):Int),.bool ((↑(Zn l 0 1):Int)==(1:Int)),S0,S0],V0 (↑(Zn l 2 2):Int),.bool true]) (.inr ⟨decide_eq_true M0,rfl,e3⟩)
     have b5:=Vh b5
     refine xx 1 _ 6 2 1 (Xc (l:=Hq l) (Zg a2) rfl (k:=2) Do).1 ?_
     refine xl 0 ((Xc (l:=Hq l) (Zg a2) rfl (k:=2) Do).2) ?_
     refine xd 7 (.t w.heap.size [181]) ?_
     have c9:=Zb a2 (Za a4)
     refine xx (.e [1] 2) _ 6 2 1 (Xc (l:=Hq l) (Zg c9) rfl (k:=2) Do).1 ?_
     refine xlt (.e [] 3) (.t w.heap.size [181]) (fun V hV=>(Xc (l:=Hq l) (Zg (Zi c9 hV.2 Do)) rfl (k:=2) Do).2) ?_
     have d8:=b8.below (Za a4)
     refine xlv (.o [4] 0) d8.rp ?_
     have c6:=(((((u5.blk (k1.below n4.below) a3).below a7).below (Za W8)).below a1).below a0).below (Za a4)
     have g1:=n1.ge (B4 w)
     refine ysv (.o [] 5) c6 [V0 (↑(Zn l 1 1):Int),.bool ((↑(Zn l 0 1):Int)==(1:Int)),S0,S0] (.t w.heap.size [181]) fun h7 f0 f8=>⟨(Zt f0 c6 g1 Do),?_⟩
     have c2:=f0.below (bln (bln (bln (bln (bln (u5.below (bln a6 n4.below) g4) a7) (Za W8)) a1) a0) (Za a4)) g1
     refine xec (.r [6,7] 3) f8 (.tuple #[.agg #[V0 (↑(Zn l 1 1):Int),.bool ((↑(Zn l 0 1):Int)==(1:Int)),S0,S0],V0 (↑(Zn l 2 2):Int),.bool (decide ((↑(Zn l 2 2):Int)>(0:Int)))]) ?_
     rcases Bool.eq_false_or_eq_true (decide ((↑(Zn l 2 2):Int)>(0:Int))) with hq|hq
     ·have g7:=of_decide_eq_true hq
      rw[hq];exact .inr ⟨decide_eq_true M0,rfl,c2⟩
     ·have g7:=of_decide_eq_false hq
      rw[hq];exact .inl ⟨decide_eq_false M0,_,_,_,rfl,c2⟩
    have b0:=Vh b0
    refine xd 13 (.t w.heap.size [181]) ?_
    have c0:=Zb a2 (Za a4)
    refine xx (.e [1] 2) _ 6 2 1 (Xc (l:=Hq l) (Zg c0) rfl (k:=2) Do).1 ?_
    refine xlt (.e [] 3) (.t w.heap.size [181]) (fun V hV=>(Xc (l:=Hq l) (Zg (Zi c0 hV.2 Do)) rfl (k:=2) Do).2) ?_
    have e4:=((a5.below a1).below a0).below (Za a4)
    refine xlv (.o [4] 0) e4.rp ?_
    have c3:=(((((u5.blk (k1.below n4.below) a3).below a7).below (Za W8)).below a1).below a0).below (Za a4)
    have g1:=n1.ge (B4 w)
    refine ysv (.o [] 5) c3 [V0 (↑(Zn l 1 1):Int),.bool ((↑(Zn l 0 1):Int)==(1:Int)),S0,S0] (.t w.heap.size [181]) fun h1 f2 g6=>⟨(Zt f2 c3 g1 Do),?_⟩
    have d7:=f2.below (bln (bln (bln (bln (bln (u5.below (bln a6 n4.below) g4) a7) (Za W8)) a1) a0) (Za a4)) g1
    exact xec (.r [6,7] 3) g6 (.tuple #[.agg #[V0 (↑(Zn l 1 1):Int),.bool ((↑(Zn l 0 1):Int)==(1:Int)),S0,S0],V0 (↑(Zn l 2 2):Int),.bool false]) (.inl ⟨decide_eq_false M0,_,_,_,rfl,d7⟩)
   have b3:=Vh b3
   refine xd 19 (.t w.heap.size [181]) ?_
   have d2:=Zb a2 (Za a4)
   refine xx (.e [1] 2) _ 6 2 1 (Xc (l:=Hq l) (Zg d2) rfl (k:=2) Do).1 ?_
   refine xlt (.e [] 3) (.t w.heap.size [181]) (fun V hV=>(Xc (l:=Hq l) (Zg (Zi d2 hV.2 Do)) rfl (k:=2) Do).2) ?_
   have d4:=((a5.below a1).below a0).below (Za a4)
   refine xlv (.o [4] 0) d4.rp ?_
   have c1:=(((((u5.blk (k1.below n4.below) a3).below a7).below (Za W8)).below a1).below a0).below (Za a4)
   have g1:=n1.ge (B4 w)
   refine ysv (.o [] 5) c1 [V0 (↑(Zn l 1 1):Int),.bool ((↑(Zn l 0 1):Int)==(1:Int)),S0,S0] (.t w.heap.size [181]) fun h3 f3 g0=>⟨(Zt f3 c1 g1 Do),?_⟩
   have e7:=f3.below (bln (bln (bln (bln (bln (u5.below (bln a6 n4.below) g4) a7) (Za W8)) a1) a0) (Za a4)) g1
   exact xec (.r [6,7] 3) g0 (.tuple #[.agg #[V0 (↑(Zn l 1 1):Int),.bool ((↑(Zn l 0 1):Int)==(1:Int)),S0,S0],V0 (↑(Zn l 2 2):Int),.bool false]) (.inl ⟨decide_eq_false M0,_,_,_,rfl,e7⟩)
  have a8:=Vh a8
  refine xd 26 (.t w.heap.size [181]) ?_
  have d0:=Zb a2 (Za a4)
  refine xx (.e [1] 2) _ 6 2 1 (Xc (l:=Hq l) (Zg d0) rfl (k:=2) Do).1 ?_
  refine xlt (.e [] 3) (.t w.heap.size [181]) (fun V hV=>(Xc (l:=Hq l) (Zg (Zi d0 hV.2 Do)) rfl (k:=2) Do).2) ?_
  have e6:=((a5.below a1).below a0).below (Za a4)
  refine xlv (.o [4] 0) e6.rp ?_
  have c4:=(((((u5.blk (k1.below n4.below) a3).below a7).below (Za W8)).below a1).below a0).below (Za a4)
  have g1:=n1.ge (B4 w)
  refine ysv (.o [] 5) c4 [V0 (↑(Zn l 1 1):Int),.bool ((↑(Zn l 0 1):Int)==(1:Int)),S0,S0] (.t w.heap.size [181]) fun g9 e9 g5=>⟨(Zt e9 c4 g1 Do),?_⟩
  have e2:=e9.below (bln (bln (bln (bln (bln (u5.below (bln a6 n4.below) g4) a7) (Za W8)) a1) a0) (Za a4)) g1
  exact xec (.r [6,7] 3) g5 (.tuple #[.agg #[V0 (↑(Zn l 1 1):Int),.bool ((↑(Zn l 0 1):Int)==(1:Int)),S0,S0],V0 (↑(Zn l 2 2):Int),.bool false]) (.inl ⟨decide_eq_false M0,_,_,_,rfl,e2⟩)
 have b6:=of_decide_eq_false b6
 refine xd 33 (.t w.heap.size [181]) ?_
 have d1:=Zb a2 (Za a4)
 refine xx (.e [1] 2) _ 6 2 1 (Xc (l:=Hq l) (Zg d1) rfl (k:=2) Do).1 ?_
 refine xlt (.e [] 3) (.t w.heap.size [181]) (fun V hV=>(Xc (l:=Hq l) (Zg (Zi d1 hV.2 Do)) rfl (k:=2) Do).2) ?_
 have d6:=((a5.below a1).below a0).below (Za a4)
 refine xlv (.o [4] 0) d6.rp ?_
 have c7:=(((((u5.blk (k1.below n4.below) a3).below a7).below (Za W8)).below a1).below a0).below (Za a4)
 have g1:=n1.ge (B4 w)
 refine ysv (.o [] 5) c7 [V0 (↑(Zn l 1 1):Int),.bool ((↑(Zn l 0 1):Int)==(1:Int)),S0,S0] (.t w.heap.size [181]) fun h4 f5 f7=>⟨(Zt f5 c7 g1 Do),?_⟩
 have e5:=f5.below (bln (bln (bln (bln (bln (u5.below (bln a6 n4.below) g4) a7) (Za W8)) a1) a0) (Za a4)) g1
 exact xec (.r [6,7] 3) f7 (.tuple #[.agg #[V0 (↑(Zn l 1 1):Int),.bool ((↑(Zn l 0 1):Int)==(1:Int)),S0,S0],V0 (↑(Zn l 2 2):Int),.bool false]) (.inl ⟨decide_eq_false M0,_,_,_,rfl,e5⟩)
theorem Ztb(a:O0)(i c:Nat)(L:List Int)(k:Int)(w:World)(hL:L.length=i)(h:Sl w (.slice a i c) i (L.map V0))(hi:i≤1000) :
 C0 254 #[.slice a i c,V0 k] w (Ret (V0 (Zp3 L i k)) w):=by
 refine zin 26 Tryz.func254 ?_
 refine xg 12 [7,8] (decide (k<(0:Int))) (fun a0=>?_) (fun a0=>?_)
 ·have a0:=of_decide_eq_true a0
  exact xe 15 (V0 2) ⟨by rw[show Zp3 L i k=2 from by unfold Zp3;rw[if_pos M0]],(B4 w)⟩
 have a0:=of_decide_eq_false a0
 refine xid 6 (k>(281474976710655:Int)) (fun a3=>?_) (fun a3=>?_)
 ·exact xe 8 (V0 2) ⟨by rw[show Zp3 L i k=2 from by unfold Zp3;rw[if_pos M0]],(B4 w)⟩
 refine xg 6 [15,16] (decide ((i:Int)>(0:Int))) (fun a1=>?_) (fun a1=>?_)
 ·have a1:=of_decide_eq_true a1
  refine xwm 3 ((i:Int)-1) (↑(i-1):Int) ?_
  refine xx 0 _ i (i-1) 1 (IntsN.elem h hL (k:=(i-1)) M0).1 ?_
  refine xl 0 ((IntsN.elem h hL (k:=(i-1)) M0).2) ?_
  refine xid 6 ((L.getD (i-1) 0)≥k) (fun a2=>?_) (fun a2=>?_)
  ·exact xe 8 (V0 8) ⟨by rw[show Zp3 L i k=8 from by unfold Zp3;rw[if_neg M0,if_pos M0]],(B4 w)⟩
  exact xe 9 (V0 0) ⟨by rw[show Zp3 L i k=0 from by unfold Zp3;rw[if_neg M0,if_neg M0]],(B4 w)⟩
 have a1:=of_decide_eq_false a1
 exact xe 22 (V0 0) ⟨by rw[show Zp3 L i k=0 from by unfold Zp3;rw[if_neg M0,if_neg M0]],(B4 w)⟩
def Zfy(l:Bl)(i:Nat):Nat:=Zn l (12+i*8) 8
def Hh(l:Bl)(n:Nat):List Int:=(List.range n).map fun i=>(Zfy l i:Int)
theorem Lr(l:Bl)(n:Nat):(Hh l n).length=n:=by simp[Hh]
theorem Zo4(l:Bl)(n:Nat):Hh l (n+1)=Hh l n++[(Zfy l n:Int)]:=by simp[Hh,C3]
theorem Zg3(l:Bl){n i:Nat}(h:i<n):(Hh l n).getD i 0=(Zfy l i:Int):=by simp[Hh,List.getD,B8 h]
def Zpp(l:Bl)(i:Nat):Bl:=(l.drop (12+Gc l*8+i*Je l)).take (Je l)
def Nk(l:Bl)(n:Nat):List Bl:=(List.range n).map (Zpp l)
theorem Lv(l:Bl)(n:Nat):(Nk l n).length=n:=by simp[Nk]
theorem Zc9(l:Bl)(n:Nat):Nk l (n+1)=Nk l n++[Zpp l n]:=by simp[Nk,C3]
theorem Zic(l:Bl){n i:Nat}(h:i<n):(Nk l n).getD i []=Zpp l i:=by simp[Nk,List.getD,B8 h]
def Zfw(l:Bl)(i:Nat):Int:=if 281474976710655<Zfy l i then 2 else if 0<i∧Zfy l i≤Zfy l (i-1) then 8 else 0
def Vg(l:Bl):Nat→Int
 | 0=>0
 | i+1=>if Vg l i≠0 then Vg l i else Zfw l i
theorem Su{l:Bl}{i:Nat}(h:Vg l i≠0):∀ n,i≤n→Vg l n=Vg l i
 | 0,h2=>by
  obtain rfl:i=0:=by omega
  rfl
 | n+1,h2=>by
   by_cases e:i=n+1
   ·rw[e]
   ·have ih:=Su h n M0
    rw[Vg,if_pos (by rw[ih];exact h),ih]
theorem Zcx{l:Bl}{i n:Nat}(h:Vg l i=0)(he:Zfw l i≠0)(hi:i<n):Vg l n=Zfw l i:=by
 have e:Vg l (i+1)=Zfw l i:=by rw[Vg,if_neg (by rw[h];decide)]
 rw[Su (by rw[e];exact he) n hi,e]
theorem Bn{l:Bl}{i:Nat}(h:Vg l i=0)(he:Zfw l i=0):Vg l (i+1)=0:=by rw[Vg,if_neg (by rw[h];decide),he]
theorem keyE_R{l:Bl}{i:Nat}:Zp3 (Hh l i) i (Zfy l i:Int)=Zfw l i:=by
 unfold Zp3 Zfw
 by_cases h:281474976710655<Zfy l i
 ·rw[if_pos M0,if_pos h]
 ·rw[if_neg M0,if_neg h]
  by_cases h2:0<i
  ·rw[Zg3 l (show i-1<i by omega)]
   by_cases h3:Zfy l i≤Zfy l (i-1)
   ·rw[if_pos M0,if_pos M0]
   ·rw[if_neg M0,if_neg M0]
  ·rw[if_neg M0,if_neg M0]
def Zfr(l:Bl):Nat:=12+Xb l*8
def Zqr(l:Bl):Nat:=12+Gc l*8
def Zfb(l:Bl):Nat:=Zqr l+Xb l*Je l
def Zkt(l:Bl):Bool:=Hf ((l.drop (Zfr l)).take (Zqr l-Zfr l))&&Hf ((l.drop (Zfb l)).take (244-Zfb l))
def Uv(l:Bl):Int:=if Ot l then(if Zkt l then Vg l (Xb l) else 7) else 7
def NodeP(l:Bl)(w:World)(e:Ending)(w':World):Prop :=
 (Uv l≠0∧e=.returned (.tuple #[.agg #[V0 0,.bool false,S0,S0],V0 (Uv l)])∧B3 w w') ∨
 (Uv l=0∧∃ kp kc vp vc,e=.returned (.tuple #[.agg #[V0 (Qy l),.bool (Yj l),.slice kp (Xb l) kc,.slice vp (Xb l) vc],V0 0])∧B3 w w' ∧
  w'.ownsRow w.heap.size 3 1 (.slice kp (Xb l) kc) (Xb l) ((Hh l (Xb l)).map V0)∧w'.ownsRow w.heap.size 9 1 (.slice vp (Xb l) vc) (Xb l) ((Nk l (Xb l)).map sv))
theorem Dq{l:Bl}(h:Ot l=true):Xb l≤Gc l:=(of_decide_eq_true h).2.2.1
theorem Rj(a:O0)(n c:Nat)(l:Bl)(w:World)(hn:l.length=n)(hl:n≤100000000)(h:Bys w (.slice a n c) l):C0 185 #[.slice a n c] w (Ret (.bool (Hf l)) w):=by
 subst hn;exact Zxv a c l w hl h
theorem valN_bys{a:O0}{c i:Nat}{l:Bl}{w:World}(h:Bys w (.slice a 244 c) l)(hl:l.length=244)(hb:12+Gc l*8+(i+1)*Je l≤244)(hi:(i+1)*Je l=i*Je l+Je l) :
 Bys w (.slice (Mw a (12+Gc l*8+i*Je l) c 1) (12+Gc l*8+(i+1)*Je l-(12+Gc l*8+i*Je l)) (c-(12+Gc l*8+i*Je l))) (Zpp l i):=by
 have:=Bys.cut h hl (12+Gc l*8+i*Je l) (12+Gc l*8+(i+1)*Je l) M0 hb
 rw[show 12+Gc l*8+(i+1)*Je l-(12+Gc l*8+i*Je l)=Je l by omega] at this ⊢
 exact this
theorem Ztx{i:Nat}{l:Bl}(hl:l.length=244)(hb:12+Gc l*8+(i+1)*Je l≤244)(hi:(i+1)*Je l=i*Je l+Je l):(Zpp l i).length=12+Gc l*8+(i+1)*Je l-(12+Gc l*8+i*Je l):=by
 unfold Zpp;simp only[E3,K9];omega
def GetP(l:Bl)(k w:Nat)(W:World)(e:Ending)(w':World):Prop :=
 (Zn l k w<9223372036854775808∧e=.returned (.tuple #[V0 (Zn l k w:Int),V0 0])∧B3 W w')∨(¬ Zn l k w<9223372036854775808∧e=.returned (.tuple #[V0 0,V0 2])∧B3 W w')
theorem Get_P(a:O0)(n c k w:Nat)(l:Bl)(W:World)(hn:l.length=n)(hw:w=1∨w=2∨w=4∨w=8)(hk:k+w≤n)(hl:n≤100000000)(h:Bys W (.slice a n c) l)(wi:Int)(hwi:wi=(w:Int)) :
 C0 141 #[.slice a n c,V0 (k:Int),V0 wi] W (GetP l k w W):=by
 subst hn hwi
 by_cases hq:Zn l k w<9223372036854775808
 ·refine(Zgf a c k w l W hw hk hl h hq).mono ?_
  rintro e V ⟨rfl,hb⟩;exact .inl ⟨hq,rfl,hb⟩
 ·refine(Zt6 a c k w l W hw hk hl h hq).mono ?_
  rintro e V ⟨rfl,hb⟩;exact .inr ⟨hq,rfl,hb⟩
theorem Zuu(l:Bl)(a:O0)(i c:Nat)(w:World)(h:Sl w (.slice a i c) i ((Hh l i).map V0))(hi:i≤1000) :
 C0 254 #[.slice a i c,V0 (↑(Zfy l i):Int)] w (fun e w'=>(Zfw l i=0∧e=.returned (V0 0)∧B3 w w')∨(Zfw l i≠0∧e=.returned (V0 (Zfw l i))∧B3 w w')):=by
 refine(Ztb a i c (Hh l i) (Zfy l i) w (Lr l i) h hi).mono ?_
 rintro e W ⟨rfl,hb⟩
 rw[keyE_R]
 by_cases hz:Zfw l i=0
 ·exact .inl ⟨hz,by rw[hz],hb⟩
 ·exact .inr ⟨hz,rfl,hb⟩
theorem Zub(a:O0)(c:Nat)(l:Bl)(w:World)(hl:l.length=244)(h:Bys w (.slice a 244 c) l) :
 C0 203 #[.slice a 244 c] w (NodeP l w):=by
 have l7:=Bys.cap h hl
 refine zin 104 Tryz.func203 ?_
 refine xa 2 [V0 0,.bool false,S0,S0] 181 fun b1 W1 n1=>?_
 refine xc 6 (Zrf a c l _ hl (h.below n1.below)) ?_
 rintro e W2 l6
 rcases l6 with ⟨hs,t0,l0,c0,rfl,e7⟩|⟨hs,rfl,e7⟩
 ·refine xa 4 [V0 0,.bool false,S0,S0] 181 fun b3 W3 n3=>?_
  have k1:=n1.blk.below e7
  have e8:=n3.ne k1
  have f0:=bln n1.below e7
  have g3:=n3.ge f0
  refine xsv 0 n3.blk [V0 t0,.bool l0,S0,S0] fun W4 u4 k4=>?_
  have j3:=u4.blk (k1.below n3.below) e8
  refine xsv 15 j3 [V0 0,.bool false,S0,S0] fun W5 u5 k5=>?_
  have g1:=n1.ge (B4 w)
  have i3:=u5.below (u4.below (bln f0 n3.below) g3) g1
  refine xec 5 k5 (.tuple #[.agg #[V0 0,.bool false,S0,S0],V0 7]) ?_
  have he:Uv l=7:=by unfold Uv;simp[hs]
  exact .inl ⟨by rw[he];decide,by rw[he],i3⟩
 have l3:=Dq hs
 have k0:=fitG (Qy l) (Yj l)
 have j8:=maxG_le (Qy l) (Yj l)
 have i9:=widG_le (Qy l) (Yj l)
 change 12+Gc l*8+Gc l*Je l≤244 at k0
 change Gc l≤18 at j8
 change Je l≤24 at i9
 have n5:Xb l*Je l≤Gc l*Je l:=E7 _ l3
 refine xa 4 [V0 0,.bool false,S0,S0] 181 fun b6 W6 n6=>?_
 have k1:=n1.blk.below e7
 have a3:=n6.ne k1
 have h3:=bln n1.below e7
 have g6:=n6.ge h3
 refine xsv 0 n6.blk [V0 (Qy l),.bool (Yj l),S0,S0] fun W7 u7 k7=>?_
 refine xd 15 .z ?_
 have b7:=k7.below (Za W7)
 refine xb (.e [0] 1) 0 b7 ?_
 refine xb (.e [2] 3) 1 b7 ?_
 refine xb (.e [5] 6) 0 b7 ?_
 refine xb (.e [7] 8) 1 b7 ?_
 refine xr (.o [] 4) (Ds (Qy l) (Yj l) _) fun W8 f8=>?_
 refine xr (.o [] 9) (Zgt (Qy l) (Yj l) _) fun W9 h1=>?_
 refine xwm (.r [10,11] 5) ((↑(Gc l):Int)*8) (↑((Gc l)*8):Int) ?_
 refine xwm 0 (12+(↑((Gc l)*8):Int)) (↑(12+((Gc l)*8)):Int) ?_
 refine xwm 8 ((↑(Xb l):Int)*8) (↑((Xb l)*8):Int) ?_
 refine xwm 0 (12+(↑((Xb l)*8):Int)) (↑(12+((Xb l)*8)):Int) ?_
 refine xsB 1 (fun _ _ _ _ _ zo zx zy zz V=>Lu (k:=(12+((Xb l)*8))) (h:=(12+((Gc l)*8))) (b:=a) (n:=244) (c:=c) (i:=(↑(12+((Xb l)*8)):Int)) (ki:=.i64) (j:=(↑(12+((Gc l)*8)):Int)) (kj:=.i64) 1 zo zx zy rfl zz rfl M0 M0 Tryz.underlying22 K0 V) ?_
 have e2:=bln (bln (bln (u7.below (bln h3 n6.below) g6) (Za W7)) f8) h1
 refine xr 0 (args:=#[.slice (Mw a (12+((Xb l)*8)) c 1) ((12+((Gc l)*8))-(12+((Xb l)*8))) (c-(12+((Xb l)*8)))]) (Rj (Mw a (12+((Xb l)*8)) c 1) ((12+((Gc l)*8))-(12+((Xb l)*8))) (c-(12+((Xb l)*8))) _ _ (by simp;omega) M0 ((Bys.cut h hl (12+((Xb l)*8)) (12+((Gc l)*8)) M0 M0).below e2)) fun p0 b2=>?_
 refine xg 2 [42,43] (!(Hf ((l.drop (Zfr l)).take (Zqr l-Zfr l)))) (fun e3=>?_) (fun e3=>?_)
 ·have h4:Hf ((l.drop (Zfr l)).take (Zqr l-Zfr l))=false:=by simpa using e3
  have i0:=((((u7.blk (k1.below n6.below) a3).below (Za W7)).below f8).below h1).below b2
  refine xsv 16 i0 [V0 0,.bool false,S0,S0] fun o0 l5 m4=>?_
  have g1:=n1.ge (B4 w)
  have j6:=l5.below (bln e2 b2) g1
  refine xec 5 m4 (.tuple #[.agg #[V0 0,.bool false,S0,S0],V0 7]) ?_
  have he:Uv l=7:=by unfold Uv;simp[hs,Zkt,h4]
  exact .inl ⟨by rw[he];decide,by rw[he],j6⟩
 have h4:Hf ((l.drop (Zfr l)).take (Zqr l-Zfr l))=true:=by simpa using e3
 refine xwm 4 ((↑(Xb l):Int)*(↑(Je l):Int)) (↑((Xb l)*(Je l)):Int) ?_
 refine xwm 0 ((↑(12+((Gc l)*8)):Int)+(↑((Xb l)*(Je l)):Int)) (↑((12+((Gc l)*8))+((Xb l)*(Je l))):Int) ?_
 refine xsL 0 (fun _ _ _ _ zo zx zy V=>Wi (k:=((12+((Gc l)*8))+((Xb l)*(Je l)))) (b:=a) (n:=244) (c:=c) (i:=(↑((12+((Gc l)*8))+((Xb l)*(Je l))):Int)) (ki:=.i64) 1 zo zx zy rfl M0 Tryz.underlying22 K0 V) ?_
 have e0:=bln e2 b2
 refine xr 0 (args:=#[.slice (Mw a ((12+((Gc l)*8))+((Xb l)*(Je l))) c 1) (244-((12+((Gc l)*8))+((Xb l)*(Je l)))) (c-((12+((Gc l)*8))+((Xb l)*(Je l))))]) (Rj (Mw a ((12+((Gc l)*8))+((Xb l)*(Je l))) c 1) (244-((12+((Gc l)*8))+((Xb l)*(Je l)))) (c-((12+((Gc l)*8))+((Xb l)*(Je l)))) _ _ (by simp;omega) M0 ((Bys.cut h hl (12+((Gc l)*8)+((Xb l)*(Je l))) 244 M0 M0).below e0)) fun n8 c2=>?_
 refine xi 4 (!(Hf ((l.drop (Zfb l)).take (244-Zfb l)))) (fun e1=>?_) (fun e1=>?_)
 ·have h6:Hf ((l.drop (Zfb l)).take (244-Zfb l))=false:=by simpa using e1
  have i2:=(((((u7.blk (k1.below n6.below) a3).below (Za W7)).below f8).below h1).below b2).below c2
  refine xsv 3 i2 [V0 0,.bool false,S0,S0] fun o4 l9 l4=>?_
  have g1:=n1.ge (B4 w)
  have i7:=l9.below (bln e0 c2) g1
  refine xec 5 l4 (.tuple #[.agg #[V0 0,.bool false,S0,S0],V0 7]) ?_
  have he:Uv l=7:=by unfold Uv;simp[hs,Zkt,h4,h6]
  exact .inl ⟨by rw[he];decide,by rw[he],i7⟩
 have h6:Hf ((l.drop (Zfb l)).take (244-Zfb l))=true:=by simpa using e1
 have i8:Zkt l=true:=by unfold Zkt;rw[h4,h6];rfl
 have j9:=bln e0 c2
 have i4:=(((((u7.blk (k1.below n6.below) a3).below (Za W7)).below f8).below h1).below b2).below c2
 have h7:=(((b7.below f8).below h1).below b2).below c2
 refine zl 10 104 (fun zm m3 V=>∃ (i:Nat) (kp:O0) (kc:Nat) (vp:O0) (vc:Nat),m3=[(0,.slice a 244 c),(2,P0 b1),(4,P0 b6),(7,V0 (↑(Je l):Int)),(9,V0 (↑(12+((Gc l)*8)):Int)),(55,V0 (↑(Xb l):Int)),(56,V0 (i:Int))]∧zm=Xb l-((i:Int)).toNat∧B3 w V∧Blk V b1 ([V0 0,.bool false,S0,S0]) 181∧Blk V b6 ([V0 (Qy l),.bool (Yj l),.slice kp i kc,.slice vp i vc]) 181∧V.ownsRow w.heap.size 3 1 (.slice kp i kc) i ((Hh l i).map V0)∧V.ownsRow w.heap.size 9 1 (.slice vp i vc) i ((Nk l i).map sv)∧i≤Xb l∧Vg l i=0) ⟨0,none,0,none,0,rfl,rfl,j9,i4,h7,A5 _ _ _ _,A5 _ _ _ _,A3 _,rfl⟩ ?_
 rintro _ _ n2 ⟨i,kp,kc,vp,vc,rfl,rfl,a8,a0,b8,hK,hV,hi,hz⟩ o8 f7 p1
 have k9:(i+1)*Je l=i*Je l+Je l:=M6 i (Je l)
 have m6:i<Xb l→(i+1)*Je l≤Gc l*Je l:=fun hh=>E7 _ M0
 refine xid 6 ((i:Int)<(↑(Xb l):Int)) (fun k2=>?_) (fun k2=>?_)
 ·refine xwm 14 ((i:Int)*8) (↑(i*8):Int) ?_
  refine xwm 0 (12+(↑(i*8):Int)) (↑(12+(i*8)):Int) ?_
  refine xc 0 (Get_P a 244 c (12+(i*8)) 8 l _ hl Do M0 Do (h.below a8) 8 rfl) ?_
  rintro e n4 i6
  rcases i6 with ⟨n0,rfl,a2⟩|⟨n0,rfl,a2⟩
  ·have a7:=b8.below a2
   refine xb 17 2 a7 ?_
   have f9:=Zb hK a2
   refine xc 1 (Zuu l kp i kc _ (Zg f9) M0) ?_
   rintro e o1 j5
   rcases j5 with ⟨e5,rfl,a4⟩|⟨e5,rfl,a4⟩
   ·have a5:=a7.below a4
    refine xb 16 2 a5 ?_
    refine xbs 1 1 [V0 (↑(Zfy l i):Int)] 3 fun p3 o7 c7=>?_
    have g8:=bln (bln a8 a2) a4
    have o6:=c7.ge g8
    have f5:=Zb f9 a4
    have j2:=Zu f5 c7
    have c5:=Zb f5 c7.below
    have d8:=bln g8 c7.below
    refine xbi 0 fun _ _ _ _ zJ zQ zo zx zy zK=>Xi (m:=1) (news:=[V0 (↑(Zfy l i):Int)]) (V0 0) 1 8 (i+1) ((Hh l (i+1)).map V0) zo Tryz.underlying34 K0 rfl Do zx c5 zy (c7.blk.sl 1 1 Do Do) rfl (by simp[Value.oneCell']) (by unfold maxLen;omega) M0 d8.size (by rfl) (by rw[Zo4,B5];rfl) fun d9 e4 q0 l1 c9 j4=>?_
    refine zK _ _ ?_
    have a1:=(a5.below c7.below).grown c9 c5 Do
    refine xs 1 a1 [V0 (Qy l),.bool (Yj l),.slice d9 (i+1) e4,.slice vp i vc] fun d3 e6 k6=>?_
    refine xd 2 (.t w.heap.size [9,181]) ?_
    refine xwm (.e [0,2,3,4,5] 6) ((i:Int)*(↑(Je l):Int)) (↑(i*(Je l)):Int) ?_
    refine xwm (.e [] 7) ((↑(12+((Gc l)*8)):Int)+(↑(i*(Je l)):Int)) (↑((12+((Gc l)*8))+(i*(Je l))):Int) ?_
    refine xwm (.e [8,9] 10) ((i:Int)+1) (↑(i+1):Int) ?_
    refine xwm (.e [11] 12) ((↑(i+1):Int)*(↑(Je l):Int)) (↑((i+1)*(Je l)):Int) ?_
    refine xwm (.e [] 13) ((↑(12+((Gc l)*8)):Int)+(↑((i+1)*(Je l)):Int)) (↑((12+((Gc l)*8))+((i+1)*(Je l))):Int) ?_
    refine xsB (.e [] 14) (fun _ _ _ _ _ zo zx zy zz V=>Lu (k:=((12+((Gc l)*8))+(i*(Je l)))) (h:=((12+((Gc l)*8))+((i+1)*(Je l)))) (b:=a) (n:=244) (c:=c) (i:=(↑((12+((Gc l)*8))+(i*(Je l))):Int)) (ki:=.i64) (j:=(↑((12+((Gc l)*8))+((i+1)*(Je l))):Int)) (kj:=.i64) 1 zo zx zy rfl zz rfl M0 M0 Tryz.underlying22 K0 V) ?_
    have b4:=Zb (e6.own2 (Xe (Zb (Zb (Zb hV a2) a4) c7.below) c9 c5 Do) a1 Do) (Za d3)
    have a6:=bln (e6.below (d8.trans j4) g6) (Za d3)
    refine xcvt (.e [] 15) (.t w.heap.size [9,181]) (fun _ _ _ zo zx V b4=>Mx zo zx ((valN_bys h hl M0 k9).below (Zd7 a6 b4 (At _))) (Ztx hl M0 k9) Tryz.underlying22 Tryz.underlying5 Tryz.underlying9) ?_
    refine xm2 0 1 16 ?_ ?_
    ·have d2:=k6.below (Za d3)
     refine xb 0 3 d2 ?_
     refine xbs (.o [] 16) 1 [.string ⟨(Zpp l i).toArray⟩] 9 fun p9 n9 d1=>?_
     have p2:=d1.ge a6
     have j1:=Zu b4 d1
     have c6:=Zb b4 d1.below
     have d5:=bln a6 d1.below
     refine ybi (.o [] 17) (.t w.heap.size [9,181]) fun _ _ _ _ zJ zQ zo zx zy zK=>Xi (m:=1) (news:=[.string ⟨(Zpp l i).toArray⟩]) (.string ⟨#[]⟩) 1 16 (i+1) ((Nk l (i+1)).map sv) zo Tryz.underlying89 K0 rfl Do zx c6 zy (d1.blk.sl 1 1 Do Do) rfl (by simp[Value.oneCell']) (by unfold maxLen;omega) M0 d5.size (by rfl) (by rw[Zc9,B5];rfl) fun h5 i5 p6 m9 d0 g2=>?_
     refine zK _ _ (Yk g2 d0 c6 Do) ?_
     have a9:=(d2.below d1.below).grown d0 c6 Do
     refine ys (.o [18] 19) a9 [V0 (Qy l),.bool (Yj l),.slice d9 (i+1) e4,.slice h5 (i+1) i5] (.t w.heap.size [9,181]) fun p4 g7 l8=>⟨(Zt g7 a9 g6 Do),?_⟩
     refine xwm 4 ((i:Int)+1) (↑(i+1):Int) ?_
     have g9:=g7.below (d5.trans g2) g6
     have b9:=g7.blk ((((e6.blk ((((a0.below a2).below a4).below c7.below).grown c9 c5 Do) a3).below (Za d3)).below d1.below).grown d0 c6 Do) a3
     have h0:=g7.own2 (Xe (Zb (Zb (e6.own2 l1 a1 Do) (Za d3)) d1.below) d0 c6 Do) a9 Do
     have f2:=g7.own2 m9 a9 Do
     exact ze 2 (f7 _ _ _ ⟨i+1,_,_,_,_,rfl,rfl,g9,b9,l8,h0,f2,by omega,Bn hz e5⟩ M0)
    refine xbs 0 1 [.string ⟨(Zpp l i).toArray⟩] 9 fun o9 o3 d4=>?_
    have p8:=d4.ge a6
    have h9:=Zu b4 d4
    have d6:=(k6.below (Za d3)).below d4.below
    refine xb (.o [] 1) 3 d6 ?_
    have c1:=Zb b4 d4.below
    have d7:=bln a6 d4.below
    refine ybi (.o [] 17) (.t w.heap.size [9,181]) fun _ _ _ _ zJ zQ zo zx zy zK=>Xi (m:=1) (news:=[.string ⟨(Zpp l i).toArray⟩]) (.string ⟨#[]⟩) 1 16 (i+1) ((Nk l (i+1)).map sv) zo Tryz.underlying89 K0 rfl Do zx c1 zy (d4.blk.sl 1 1 Do Do) rfl (by simp[Value.oneCell']) (by unfold maxLen;omega) M0 d7.size (by rfl) (by rw[Zc9,B5];rfl) fun h8 j0 o2 m5 c8 f3=>?_
    refine zK _ _ (Yk f3 c8 c1 Do) ?_
    have b0:=d6.grown c8 c1 Do
    refine ys (.o [18] 19) b0 [V0 (Qy l),.bool (Yj l),.slice d9 (i+1) e4,.slice h8 (i+1) j0] (.t w.heap.size [9,181]) fun o5 h2 m0=>⟨(Zt h2 b0 g6 Do),?_⟩
    refine xwm 4 ((i:Int)+1) (↑(i+1):Int) ?_
    have f6:=h2.below (d7.trans f3) g6
    have c3:=h2.blk ((((e6.blk ((((a0.below a2).below a4).below c7.below).grown c9 c5 Do) a3).below (Za d3)).below d4.below).grown c8 c1 Do) a3
    have f1:=h2.own2 (Xe (Zb (Zb (e6.own2 l1 a1 Do) (Za d3)) d4.below) c8 c1 Do) b0 Do
    have f4:=h2.own2 m5 b0 Do
    exact ze 2 (f7 _ _ _ ⟨i+1,_,_,_,_,rfl,rfl,f6,c3,m0,f1,f4,by omega,Bn hz e5⟩ M0)
   refine xk 10 (show(((Zfw l i) != (0:Int)):Bool)=true from bne_iff_ne.2 e5) ?_
   have b5:=(a0.below a2).below a4
   refine xsv 4 b5 [V0 0,.bool false,S0,S0] fun p5 m7 l2=>?_
   have g1:=n1.ge (B4 w)
   have e9:=m7.below (bln (bln a8 a2) a4) g1
   refine xec 10 l2 (.tuple #[.agg #[V0 0,.bool false,S0,S0],V0 (Zfw l i)]) ?_
   have he:Uv l=Zfw l i:=by unfold Uv;rw[if_pos hs,if_pos i8,Zcx hz e5 M0]
   exact .inl ⟨by rw[he];exact e5,by rw[he],e9⟩
  have c4:=a0.below a2
  refine xsv 29 c4 [V0 0,.bool false,S0,S0] fun n7 m1 m2=>?_
  have g1:=n1.ge (B4 w)
  have g5:=m1.below (bln a8 a2) g1
  refine xec 10 m2 (.tuple #[.agg #[V0 0,.bool false,S0,S0],V0 2]) ?_
  have k8:Zfw l i=2:=by unfold Zfw;rw[if_pos (by unfold Zfy;omega)]
  have he:Uv l=2:=by unfold Uv;rw[if_pos hs,if_pos i8,Zcx hz (by rw[k8];decide) M0,k8]
  exact .inl ⟨by rw[he];decide,by rw[he],g5⟩
 refine xlv 7 b8.rp ?_
 refine xsv 0 a0 [V0 (Qy l),.bool (Yj l),.slice kp i kc,.slice vp i vc] fun p7 i1 m8=>?_
 have g1:=n1.ge (B4 w)
 have g0:=i1.below a8 g1
 have j7:=i1.own2 hK a0 Do
 have k3:=i1.own2 hV a0 Do
 refine xec 4 m8 (.tuple #[.agg #[V0 (Qy l),.bool (Yj l),.slice kp i kc,.slice vp i vc],V0 0]) ?_
 obtain rfl:i=Xb l:=by omega
 exact .inr ⟨by unfold Uv;rw[if_pos hs,if_pos i8,hz],_,_,_,_,rfl,g0,j7,k3⟩
end Go.Proofs.YtceeiinepijokaaGreatDoor
namespace Go.Proofs.YtceeiinepijokaaGreatDoor
set_option maxHeartbeats 8000000
set_option maxRecDepth 100000
open Go.RowKit Go.Extern.Stop Go.Stop Go.Extern
set_option linter.unusedVariables false
section
variable {P:Program} {a:Act} {w:World} {K:Act→World→Prop} {Q:Exit→Act→World→Prop}
theorem Zi5(l:Bl):Lib.strCells ⟨l.toArray⟩=l.map bv:=by
 unfold Lib.strCells bv
 simp
theorem op_appS{o:Oper}{s x:Operand}{t u e:TypeId}{base:Nat}{v:Value}{n:Nat}{xs:List Value}(l:Bl)(n':Nat)(xs':List Value)(ho:o.op=.call { callee:=.builtin .append,args:=#[s,x],argTypes:=#[t,u] })
 (ht:P.underlying t=some (.slice e)) (hu:P.underlying u=some .string) (hi:(P.info? e).map (fun i=>(i.zero,i.size,i.bytes))=some (some (.int .u8 0),1,1)) (hs:a.eval s=v) (hown:w.ownsRow base e 1 v n xs) (hx:a.eval x=.string ⟨l.toArray⟩)
 (hb:n+l.length≤100000000) (hbase:base≤w.heap.size) (hn:n+l.length=n') (hxs:xs++l.map bv=xs')
 (h:∀ b c W,W.ownsRow base e 1 (.slice b n' c) n' xs'→w.grownBy W v.ownBlock→Below base w W→K (a.put o.dst (.slice b n' c)) W):o.wp P a w K Q:=by
 cases hq:P.info? e with
 | none=>simp[hq] at hi
 | some i =>
  simp only[hq,D5,A0,D8] at hi
  have a0:(⟨l.toArray⟩:ByteArray).size=l.length:=by simp[ByteArray.size]
  obtain⟨v',W,hr,h2,h3,_⟩:=Lib.run_append_own_string (P:=P) w base t u o.type e i ht hu hq hi.1 hi.2.1 hi.2.2 v n xs hown ⟨l.toArray⟩ (by rw[a0];unfold maxLen;omega) (by rw[a0];omega) hbase
  rw[a0,Zi5] at h2
  subst hn hxs
  obtain⟨b,c,rfl⟩:=(Zg h2).slice
  unfold Oper.wp execOp
  simp only[ho,resolve,invoke,builtin,C9,H2,E1,L0,D7,H0,hs,hx,hr]
  exact h b c W h2 h3 (Gn h3 hown (At _) hbase)
theorem Zf9(g k:Nat):Zx (S1 g) (k*1)=⟨g,k,none⟩:=by
 simp[Zx,Addr.add];exact fun h=>h.symm
theorem Gd{o:Oper}{t e:TypeId}{x y:Operand}{g n c k base:Nat}{xs:List Value}{v:Value}(ho:o.op=.store t x y)(hx:a.eval x=.pointer (some (Zx (S1 g) (k*1))))(hy:a.eval y=v)
 (hi:(P.info? t).map (·.size)=some 1) (h1:v.oneCell'=true) (hown:w.ownsRow base e 1 (.slice (S1 g) n c) n xs) (hk:k<n)
 (h:∀ W,Upd w g W→W.ownsRow base e 1 (.slice (S1 g) n c) n (xs.set k v)→K (a.put o.dst undef) W):o.wp P a w K Q:=by
 obtain⟨hl,h2⟩:=hown
 rcases h2 with ⟨h2,_⟩|⟨g',a3,a0,hv,hg,hh,hc,hm,a1,a2⟩
 ·cases h2
 ·simp only[C2,A0,Addr.mk.injEq] at hv
  obtain⟨⟨rfl,_⟩,_,rfl⟩:=hv
  have hb:Blk w g a0.toList e:=by unfold Blk;simpa using hh
  rw[Zf9] at hx
  refine Yr ho hx hy hi h1 hb (by simp;omega) fun W hu hW=>h W hu ⟨by simpa using hl,.inr ⟨g,c,(a0.toList.set k v).toArray,rfl,hg,hW,hc,hm,by simpa using a1,?_⟩⟩
  rw[←a2]
  simp[List.take_set]
end
section
variable {P:Program} {ops:Array Oper} {Q:Exit→Act→World→Prop} {a a':Act} {w:World} {S:World→Prop} {md:Region.Mode} {L L':Array Bool} {fuel:Nat}
end
theorem De{w:World}{base e size g n c:Nat}{xs:List Value}(h:w.ownsRow base e size (.slice (S1 g) n c) n xs):base≤g:=(h.lt g rfl).1
theorem Za4{w:World}{base e size g n c:Nat}{xs:List Value}(h:w.ownsRow base e size (.slice (S1 g) n c) n xs):∃ cs,Blk w g cs e:=by
 rcases h.2 with ⟨h2,_⟩|⟨g',a1,a0,hv,hg,hh,_⟩
 ·cases h2
 ·simp only[C2,A0,Addr.mk.injEq] at hv
  obtain⟨⟨rfl,_⟩,_⟩:=hv
  exact⟨a0.toList,by unfold Blk;simpa using hh⟩
theorem Me{w:World}{base e size g n c b:Nat}{t:TypeId}{xs cs:List Value}(k:Blk w b cs t)(h:w.ownsRow base e size (.slice (S1 g) n c) n xs)(hne:t≠e):b≠g:=by
 rintro rfl
 obtain⟨a0,k'⟩:=Za4 h
 have h1:w.heap[b]? = some (.cells cs.toArray t (0,0)):=k
 rw[show w.heap[b]? = some (.cells a0.toArray e (0,0)) from k'] at h1
 simp only[A0,Obj.cells.injEq] at h1
 exact hne h1.2.1.symm
theorem Ze.of_updRow{T:List TypeId}{w W:World}{base e size g n c:Nat}{xs:List Value}(u:Upd w g W)(h:w.ownsRow base e size (.slice (S1 g) n c) n xs)(hT:T.contains e=true):Ze T w W:=by
 obtain⟨cs,k⟩:=Za4 h
 exact Q1 u k hT
theorem Upd.ownRow{w W:World}{base base2 e e2 size size2 g n c n2:Nat}{v:Value}{xs ys:List Value}(u:Upd w g W)(h:w.ownsRow base2 e2 size2 v n2 ys)(o:w.ownsRow base e size (.slice (S1 g) n c) n xs)(hne:e2≠e):W.ownsRow base2 e2 size2 v n2 ys:=by
 obtain⟨cs,k⟩:=Za4 o
 exact u.own2 h k hne
end Go.Proofs.YtceeiinepijokaaGreatDoor
namespace Go.Proofs.YtceeiinepijokaaGreatDoor
set_option maxHeartbeats 8000000
set_option maxRecDepth 100000
open Go.RowKit Go.Extern.Stop Go.Stop Go.Extern
set_option linter.unusedVariables false
attribute [local irreducible] wpList wpAnyH Code.wp Oper.wp Go
theorem Eb{P:Program}{a:Act}{w:World}{K:Act→World→Prop}{Q:Exit→Act→World→Prop}{o:Oper}{src dst e:TypeId}{x:Operand}(l:Bl)(ho:o.op=.convert src dst x)(hx:a.eval x=.string ⟨l.toArray⟩)
 (hs:P.underlying src=some .string) (hd:P.underlying dst=some (.slice e)) (he:P.underlying e=some (.int .u8)) (hl:l.length≤1000000)
 (k:∀ b c W,B3 w W→Bys W (.slice (S1 b) l.length c) l→K (a.put o.dst (.slice (S1 b) l.length c)) W):o.wp P a w K Q:=by
 have hr:=run_bytes_of_string (P:=P) w src dst e ⟨l.toArray⟩ hs hd he
 have a2:(⟨l.toArray⟩:ByteArray).size=l.length:=by simp[ByteArray.size]
 rw[a2] at hr
 obtain⟨W1,a1⟩:∃ W1,W1=w.drew.alloc (.cells (bytesRow ⟨l.toArray⟩ (grownCap w l.length 0 e)) e ((bytesRow ⟨l.toArray⟩ (grownCap w l.length 0 e)).size,(bytesRow ⟨l.toArray⟩ (grownCap w l.length 0 e)).size+1)):=⟨_,rfl⟩
 rw[←a1] at hr
 have h2:(execOp a.eval o).run P w=.ok (.value (.slice (some ⟨w.heap.size,0,none⟩) l.length (grownCap w l.length 0 e))) W1:=by
  simp only[execOp,ho,hx,C9,hr];rfl
 refine Wo h2 (k _ _ _ (by rw[a1];exact(Za w).trans (show Below w.drew.heap.size w.drew _ from blx w.drew _)) (.inr ⟨w.heap.size,0,_,rfl,grownCap_ge w l.length 0 e,grownCap_le_maxLen w l.length 0 e (by unfold maxLen;omega),fun j y hj=>?_⟩))
 have a0:j<l.length:=by have:=(List.getElem?_eq_some_iff.1 hj).1;simpa using this
 have hb:=bytesRow_at ⟨l.toArray⟩ (grownCap w l.length 0 e) j (by simpa using a0)
 have hy:y=.int .u8 ((l.toArray[j]'(by simpa using a0)).toNat:Int):=by
  rw[C4,A4 a0] at hj
  simp only[D5,A0] at hj
  rw[←hj];rfl
 have hh:W1.heap[w.heap.size]? = some (.cells (bytesRow ⟨l.toArray⟩ (grownCap w l.length 0 e)) e ((bytesRow ⟨l.toArray⟩ (grownCap w l.length 0 e)).size,(bytesRow ⟨l.toArray⟩ (grownCap w l.length 0 e)).size+1)):=by rw[a1];exact heap_alloc_new w.drew _
 rw[hy]
 simp[World.cell?,hh,hb]
def Qn(s:Bl):Int:=if s.length=4 then(if 1≤Zn s 0 4∧Zn s 0 4≤14399 then 0 else 2) else 7
def Hv(s:Bl):Nat:=if Qn s=0 then Zn s 0 4 else 0
theorem Znl(bs:ByteArray)(i:Nat)(r:Bl)(h:i≤bs.size):(ByteArray.toList.loop bs i r).length=r.length+(bs.size-i):=by
 rw[ByteArray.toList.loop]
 split
 ·rename_i h2
  rw[Znl bs (i+1) _ M0]
  simp;omega
 ·simp;omega
termination_by bs.size-i
theorem Zcn(bs:ByteArray):bs.toList.length=bs.size:=by
 unfold ByteArray.toList;rw[Znl _ _ _ (A3 _)];simp
theorem four_ne(n:Int):((⟨(leB n 4).toArray⟩:ByteArray).toList==(⟨#[]⟩:ByteArray).toList)=false:=by
 cases hq:((⟨(leB n 4).toArray⟩:ByteArray).toList==(⟨#[]⟩:ByteArray).toList) with
 | false=>rfl
 | true =>
  have e:=congrArg List.length (eq_of_beq hq)
  rw[Zcn,Zcn] at e
  simp[ByteArray.size,Zj] at e
theorem Zje(w:World) :
 C0 214 #[] w (Kc (fun w' r=>∃ b,r=.slice (S1 b) 1 1∧w.heap.size≤b∧Blk w' b [V0 4,V0 1,V0 14399] 312) w):=by
 refine zin 3 Tryz.func214 ?_
 refine xbs 8 1 [V0 4,V0 1,V0 14399] 312 fun b1 W1 n1=>?_
 have g1:=n1.ge (B4 w)
 exact xe 4 (.slice (S1 b1) 1 1) ⟨_,rfl,n1.below,_,rfl,g1,n1.blk⟩
theorem Zo9(gl:Nat)(an:O0)(cn:Nat)(n:Int)(w:World)(hl:Blk w gl [V0 4,V0 1,V0 14399] 312)(hn:Sl w (.slice an 1 cn) 1 [V0 n])(h1:1≤n)(h2:n≤14399) :
 C0 181 #[.slice (S1 gl) 1 1,.slice an 1 cn] w (Ret (.string ⟨(leB n 4).toArray⟩) w):=by
 have b5:=h1
 have b2:=h2
 clear h2
 refine zin 51 Tryz.func181 ?_
 refine xu 19 2 ?_
 refine xlv 15 hl.rp ?_
 refine xa 0 [V0 0,V0 0,V0 0] 312 fun b1 W1 n1=>?_
 have a6:=n1.ne hl
 refine xsv 1 n1.blk [V0 4,V0 1,V0 14399] fun W2 u2 k2=>?_
 have g1:=n1.ge (B4 w)
 refine xd 4 .z ?_
 refine xx (.e [0,1] 2) _ 1 0 1 (Ints.elem (l:=[n]) hn (k:=0) (by simp)).1 ?_
 have hB:=bln (u2.below n1.below g1) (Za W2)
 refine xl (.e [] 3) ((Ints.elem (l:=[n]) (hn.below hB) (k:=0) (by simp)).2) ?_
 have a1:=k2.below (Za W2)
 refine xb (.e [4] 5) 1 a1 ?_
 refine xgk (.b [6,7]) [23,24] (show(decide (n<(1:Int)):Bool)=false from decide_eq_false M0) ?_
 refine xx (.e [8,9] 10) _ 1 0 1 (Ints.elem (l:=[n]) hn (k:=0) (by simp)).1 ?_
 refine xl (.e [] 11) ((Ints.elem (l:=[n]) (hn.below hB) (k:=0) (by simp)).2) ?_
 refine xb (.e [12] 13) 2 a1 ?_
 refine xk (.r [14,15] 2) (show(decide (n>(14399:Int)):Bool)=false from decide_eq_false M0) ?_
 refine xd 3 .z ?_
 have a3:=a1.below (Za W2.drew)
 refine xb (.e [0] 1) 0 a3 ?_
 refine xx (.e [2,3] 4) _ 1 0 1 (Ints.elem (l:=[n]) hn (k:=0) (by simp)).1 ?_
 have a0:=bln hB (Za W2.drew)
 refine xl (.e [] 5) ((Ints.elem (l:=[n]) (hn.below a0) (k:=0) (by simp)).2) ?_
 refine xbs (.o [6] 7) 1 [V0 4,V0 n] 292 fun b4 W4 n4=>?_
 have g4:=n4.ge a0
 refine yc (.o [] 8) (args:=#[.slice (S1 b4) 1 1]) .z (Tu b4 n M0 M0 _ n4.blk) ?_
 rintro _ W5 ⟨_,rfl,a7,p2,c2,rfl,h2⟩
 have a9:=(bln a0 n4.below).size
 refine⟨a7,?_⟩
 have o6:=A5 W5 w.heap.size 5 1
 have a5:=Zf h2 a9
 have a2:=bln (bln a0 n4.below) a7
 refine xbi (.r [9,10,11,12,13] 5) fun _ _ _ _ zJ zQ zo zx zy zK=>Xi (m:=4) (news:=(leB n 4).map bv) (.int .u8 0) 1 1 (4) ((leB n 4).map bv) zo Tryz.underlying22 K0 rfl Do zx o6 zy (Zg a5) (by simp[Zj]) (Vy _) (by unfold maxLen;omega) M0 a2.size (by rfl) (by simp) fun b6 b0 W7 o7 b3 a8=>?_
 refine zK _ _ ?_
 refine xcv0 24 (fun _ _ _ zo zx=>Mx zo zx (Vc (Zg o7) (Zj _ _)) (Zj _ _) Tryz.underlying22 Tryz.underlying5 Tryz.underlying9) ?_
 have a4:=a2.trans a8
 exact xe 4 (.string ⟨(leB n 4).toArray⟩) ⟨rfl,a4⟩
theorem Zn3(gl:Nat)(an:O0)(cn:Nat)(n:Int)(w:World)(hl:Blk w gl [V0 4,V0 1,V0 14399] 312)(hn:Sl w (.slice an 1 cn) 1 [V0 n])(h:¬ (1≤n∧n≤14399)) :
 C0 181 #[.slice (S1 gl) 1 1,.slice an 1 cn] w (Ret (.string ⟨#[]⟩) w):=by
 refine zin 51 Tryz.func181 ?_
 refine xu 19 2 ?_
 refine xlv 15 hl.rp ?_
 refine xa 0 [V0 0,V0 0,V0 0] 312 fun b1 W1 n1=>?_
 have a2:=n1.ne hl
 refine xsv 1 n1.blk [V0 4,V0 1,V0 14399] fun W2 u2 k2=>?_
 have g1:=n1.ge (B4 w)
 refine xd 4 .z ?_
 refine xx (.e [0,1] 2) _ 1 0 1 (Ints.elem (l:=[n]) hn (k:=0) (by simp)).1 ?_
 have hB:=bln (u2.below n1.below g1) (Za W2)
 refine xl (.e [] 3) ((Ints.elem (l:=[n]) (hn.below hB) (k:=0) (by simp)).2) ?_
 have a0:=k2.below (Za W2)
 refine xb (.e [4] 5) 1 a0 ?_
 refine xg (.b [6,7]) [23,24] (decide (n<(1:Int))) (fun a1=>?_) (fun a1=>?_)
 ·have a1:=of_decide_eq_true a1
  exact xe (.r [8,9,10,11,12,13,14,15] 15) (.string ⟨#[]⟩) ⟨rfl,hB⟩
 have a1:=of_decide_eq_false a1
 refine xx (.e [8,9] 10) _ 1 0 1 (Ints.elem (l:=[n]) hn (k:=0) (by simp)).1 ?_
 refine xl (.e [] 11) ((Ints.elem (l:=[n]) (hn.below hB) (k:=0) (by simp)).2) ?_
 refine xb (.e [12] 13) 2 a0 ?_
 refine xk (.r [14,15] 2) (show(decide (n>(14399:Int)):Bool)=true from decide_eq_true M0) ?_
 exact xe 12 (.string ⟨#[]⟩) ⟨rfl,hB⟩
theorem Zb1(gl:Nat)(s:Bl)(w:World)(hl:Blk w gl [V0 4,V0 1,V0 14399] 312)(hs:s.length≤1000)(h4:s.length≠4) :
 C0 111 #[.slice (S1 gl) 1 1,.string ⟨s.toArray⟩] w (Kc (fun w' r=>∃ p c,r=.tuple #[.slice p 1 c,V0 7]∧w'.ownsRow w.heap.size 3 1 (.slice p 1 c) 1 [V0 0]) w):=by
 refine zin 54 Tryz.func111 ?_
 refine xu 25 2 ?_
 refine xlv 14 hl.rp ?_
 refine xa 0 [V0 0,V0 0,V0 0] 312 fun b1 W1 n1=>?_
 have a3:=n1.ne hl
 refine xsv 0 n1.blk [V0 4,V0 1,V0 14399] fun W2 u2 k2=>?_
 have g1:=n1.ge (B4 w)
 refine xb 6 0 k2 ?_
 refine xbs 0 1 [V0 4] 3 fun b3 W3 n3=>?_
 have o4:=A5 W3 w.heap.size 3 1
 have hB:=bln (u2.below n1.below g1) n3.below
 refine xbi 0 fun _ _ _ _ zJ zQ zo zx zy zK=>Xi (m:=1) (news:=[V0 4]) (V0 0) 1 8 (1) ([Value.int .i64 4]) zo Tryz.underlying34 K0 rfl Do zx o4 zy (n3.blk.sl 1 1 Do Do) rfl (by simp[Value.oneCell']) (by unfold maxLen;omega) M0 hB.size (by rfl) (by rfl) fun a7 a8 W5 o5 a5 a6=>?_
 refine zK _ _ ?_
 have a1:=(k2.below n3.below).grown a5 o4 Do
 refine xb 6 0 a1 ?_
 refine xk 31 (show(((s.length:Int) != (4:Int)):Bool)=true from bne_iff_ne.2 M0) ?_
 refine xmk 4 fun _ _ _ _ zJ zQ zo zx zy zK=>Gl 1 (V0 0) 1 8 [Value.int .i64 0] zo zx zy Tryz.underlying34 K0 rfl M0 M0 (rfl) fun b6 W6 n6=>?_
 have a0:=hB.trans a6
 have g6:=n6.ge a0
 have a4:=Zu o5 n6
 refine zK _ _ ?_
 have a2:=bln a0 n6.below
 have o6:=Yd (size:=1) (n:=1) n6.blk g6 (rfl) (by unfold maxLen;omega)
 exact xe 6 (.tuple #[.slice (S1 b6) 1 1,V0 7]) ⟨_,rfl,a2,_,_,rfl,o6⟩
theorem Zec(gl:Nat)(s:Bl)(w:World)(hl:Blk w gl [V0 4,V0 1,V0 14399] 312)(hs:s.length≤1000)(h4:s.length=4)(h1:1≤Zn s 0 4)(h2:Zn s 0 4≤14399) :
 C0 111 #[.slice (S1 gl) 1 1,.string ⟨s.toArray⟩] w (Kc (fun w' r=>∃ p c,r=.tuple #[.slice p 1 c,V0 0]∧w'.ownsRow w.heap.size 3 1 (.slice p 1 c) 1 [V0 (↑(Zn s 0 4):Int)]) w):=by
 refine zin 54 Tryz.func111 ?_
 refine xu 25 2 ?_
 refine xlv 14 hl.rp ?_
 refine xa 0 [V0 0,V0 0,V0 0] 312 fun b1 W1 n1=>?_
 have a0:=n1.ne hl
 refine xsv 0 n1.blk [V0 4,V0 1,V0 14399] fun W2 u2 k2=>?_
 have g1:=n1.ge (B4 w)
 refine xb 6 0 k2 ?_
 refine xbs 0 1 [V0 4] 3 fun b3 W3 n3=>?_
 have o4:=A5 W3 w.heap.size 3 1
 have hB:=bln (u2.below n1.below g1) n3.below
 refine xbi 0 fun _ _ _ _ zJ zQ zo zx zy zK=>Xi (m:=1) (news:=[V0 4]) (V0 0) 1 8 (1) ([Value.int .i64 4]) zo Tryz.underlying34 K0 rfl Do zx o4 zy (n3.blk.sl 1 1 Do Do) rfl (by simp[Value.oneCell']) (by unfold maxLen;omega) M0 hB.size (by rfl) (by rfl) fun b0 b4 W5 o5 a8 a9=>?_
 refine zK _ _ ?_
 have a6:=(k2.below n3.below).grown a8 o4 Do
 refine xb 6 0 a6 ?_
 refine xk 31 (show(((s.length:Int) != (4:Int)):Bool)=false from by rw[h4];rfl) ?_
 refine xcf 5 fun _ _ _ zJ zQ zo zx zK=>Eb s zo zx Tryz.underlying9 Tryz.underlying22 Tryz.underlying5 M0 ?_
 intro bz cz W6 a2 b7
 refine zK _ _ ?_
 have a7:=Zb o5 a2
 refine xc 1 (Rr (S1 bz) s.length cz s b0 b4 1 [4] [Zn s 0 4] _ rfl rfl rfl Do (by simp;omega) M0 Do b7 (Zg a7) (fun i hi=>by obtain rfl:i=0:=(by simpa using hi);have:=Kv s 0 4 Do;simp[Nu];omega)) ?_
 rintro _ W7 ⟨_,rfl,b2,p5,c5,rfl,h5⟩
 have b6:=(bln (hB.trans a9) a2).size
 have a3:=((((u2.blk (hl.below n1.below) a0).below n3.below).grown a8 o4 Do).below a2).below b2
 have a1:=Zf h5 b6
 refine xr 15 (Zo9 gl p5 c5 (↑(Zn s 0 4):Int) _ a3 (Zg a1) M0 M0) fun W8 b5=>?_
 refine xk 4 (show(((⟨(leB (↑(Zn s 0 4):Int) 4).toArray⟩:ByteArray).toList==(⟨#[]⟩:ByteArray).toList):Bool)=false from four_ne _) ?_
 have a5:=bln (bln (bln (hB.trans a9) a2) b2) b5
 have a4:=Zb a1 b5
 exact xe 10 (.tuple #[.slice p5 1 c5,V0 0]) ⟨_,rfl,a5,_,_,rfl,a4⟩
theorem Zch(gl:Nat)(s:Bl)(w:World)(hl:Blk w gl [V0 4,V0 1,V0 14399] 312)(hs:s.length≤1000)(h4:s.length=4)(h1:¬ (1≤(Zn s 0 4:Int)∧(Zn s 0 4:Int)≤14399)) :
 C0 111 #[.slice (S1 gl) 1 1,.string ⟨s.toArray⟩] w (Kc (fun w' r=>∃ p c,r=.tuple #[.slice p 1 c,V0 2]∧w'.ownsRow w.heap.size 3 1 (.slice p 1 c) 1 [V0 0]) w):=by
 refine zin 54 Tryz.func111 ?_
 refine xu 25 2 ?_
 refine xlv 14 hl.rp ?_
 refine xa 0 [V0 0,V0 0,V0 0] 312 fun b1 W1 n1=>?_
 have a0:=n1.ne hl
 refine xsv 0 n1.blk [V0 4,V0 1,V0 14399] fun W2 u2 k2=>?_
 have g1:=n1.ge (B4 w)
 refine xb 6 0 k2 ?_
 refine xbs 0 1 [V0 4] 3 fun b3 W3 n3=>?_
 have o4:=A5 W3 w.heap.size 3 1
 have hB:=bln (u2.below n1.below g1) n3.below
 refine xbi 0 fun _ _ _ _ zJ zQ zo zx zy zK=>Xi (m:=1) (news:=[V0 4]) (V0 0) 1 8 (1) ([Value.int .i64 4]) zo Tryz.underlying34 K0 rfl Do zx o4 zy (n3.blk.sl 1 1 Do Do) rfl (by simp[Value.oneCell']) (by unfold maxLen;omega) M0 hB.size (by rfl) (by rfl) fun b5 b6 W5 o5 b4 c0=>?_
 refine zK _ _ ?_
 have a5:=(k2.below n3.below).grown b4 o4 Do
 refine xb 6 0 a5 ?_
 refine xk 31 (show(((s.length:Int) != (4:Int)):Bool)=false from by rw[h4];rfl) ?_
 refine xcf 5 fun _ _ _ zJ zQ zo zx zK=>Eb s zo zx Tryz.underlying9 Tryz.underlying22 Tryz.underlying5 M0 ?_
 intro bz cz W6 a4 c2
 refine zK _ _ ?_
 have a1:=Zb o5 a4
 refine xc 1 (Rr (S1 bz) s.length cz s b5 b6 1 [4] [Zn s 0 4] _ rfl rfl rfl Do (by simp;omega) M0 Do c2 (Zg a1) (fun i hi=>by obtain rfl:i=0:=(by simpa using hi);have:=Kv s 0 4 Do;simp[Nu];omega)) ?_
 rintro _ W7 ⟨_,rfl,b2,p5,c5,rfl,h5⟩
 have c1:=(bln (hB.trans c0) a4).size
 have a6:=((((u2.blk (hl.below n1.below) a0).below n3.below).grown b4 o4 Do).below a4).below b2
 have a2:=Zf h5 c1
 refine xr 15 (Zn3 gl p5 c5 (↑(Zn s 0 4):Int) _ a6 (Zg a2) M0) fun W8 b0=>?_
 refine xmk 9 fun _ _ _ _ zJ zQ zo zx zy zK=>Gl 1 (V0 0) 1 8 [Value.int .i64 0] zo zx zy Tryz.underlying34 K0 rfl M0 M0 (rfl) fun b9 W9 n9=>?_
 have a3:=bln (bln (bln (hB.trans c0) a4) b2) b0
 have g9:=n9.ge a3
 have a9:=Zb (Zb a1 b2) b0
 have b7:=Zu a9 n9
 have a7:=Zb a2 b0
 have b8:=Zu a7 n9
 refine zK _ _ ?_
 have a8:=bln a3 n9.below
 have o9:=Yd (size:=1) (n:=1) n9.blk g9 (rfl) (by unfold maxLen;omega)
 exact xe 6 (.tuple #[.slice (S1 b9) 1 1,V0 2]) ⟨_,rfl,a8,_,_,rfl,o9⟩
theorem Zjp(gl:Nat)(s:Bl)(w:World)(hl:Blk w gl [V0 4,V0 1,V0 14399] 312)(hs:s.length≤1000):C0 111 #[.slice (S1 gl) 1 1,.string ⟨s.toArray⟩] w (Kc (fun w' r=>∃ p c,r=.tuple #[.slice p 1 c,V0 (Qn s)]∧w'.ownsRow w.heap.size 3 1 (.slice p 1 c) 1 [V0 (Hv s:Int)]) w):=by
 by_cases h4:s.length=4
 ·by_cases h1:1≤Zn s 0 4∧Zn s 0 4≤14399
  ·have he:Qn s=0:=by unfold Qn;rw[if_pos h4,if_pos h1]
   rw[he,Hv,if_pos he]
   exact Zec gl s w hl hs h4 h1.1 h1.2
  ·have he:Qn s=2:=by unfold Qn;rw[if_pos h4,if_neg h1]
   rw[he,Hv,if_neg (by rw[he];decide)]
   exact Zch gl s w hl hs h4 M0
 ·have he:Qn s=7:=by unfold Qn;rw[if_neg h4]
  rw[he,Hv,if_neg (by rw[he];decide)]
  exact Zb1 gl s w hl hs h4
theorem Gr(s:Bl)(w:World)(hs:s.length≤1000) :
 C0 176 #[.string ⟨s.toArray⟩] w (Ret (.tuple #[V0 (Hv s:Int),V0 (Qn s)]) w):=by
 refine zin 16 Tryz.func176 ?_
 refine xc 8 (Zje _) ?_
 rintro _ W1 ⟨_,rfl,a1,gl,rfl,gg,kl⟩
 refine xc 1 (Zjp gl s _ kl hs) ?_
 rintro _ W2 ⟨_,rfl,a2,p5,c5,rfl,h5⟩
 have a0:=Zf h5 a1.size
 refine xx 10 _ 1 0 1 (Ints.elem (l:=[(Hv s:Int)]) (Zg a0) (k:=0) (by simp)).1 ?_
 refine xl 0 ((Ints.elem (l:=[(Hv s:Int)]) (Zg a0) (k:=0) (by simp)).2) ?_
 have hB:=bln a1 a2
 exact xe 6 (.tuple #[V0 (↑(Hv s):Int),V0 (Qn s)]) ⟨rfl,hB⟩
abbrev Ln:=Nat×Int×Int
def Zkl(p:Ln):List Value:=[V0 (p.1:Int),V0 p.2.1,V0 p.2.2]
theorem Ns(p:Ln):(Zkl p).length=3:=rfl
def Qd:Ln:=(4,0,0)
def Gj(ps:List Ln):Prop:=ps.length≤1000∧∀ i,i<ps.length→((ps.getD i Qd).1=4∨(ps.getD i Qd).1=8)∧0≤(ps.getD i Qd).2.1∧(ps.getD i Qd).2.2<9223372036854775808∧((ps.getD i Qd).1=4→(ps.getD i Qd).2.2<4294967296)
def inP (p:Ln)(n:Int):Bool:=decide (p.2.1≤n∧n≤p.2.2)
def Us(ps:List Ln)(N:List Int)(k:Nat):Bool:=(List.range k).all fun i=>inP (ps.getD i Qd) (N.getD i 0)
theorem Zp7(ps:List Ln)(N:List Int)(k:Nat):Us ps N (k+1)=(Us ps N k&&inP (ps.getD k Qd) (N.getD k 0)):=by simp[Us,C3]
theorem Zcl{ps:List Ln}{N:List Int}{i k:Nat}(hi:i<k)(h:inP (ps.getD i Qd) (N.getD i 0)=false):Us ps N k=false:=by
 unfold Us
 rw[List.all_eq_false]
 exact⟨i,B9.2 hi,by rw[h];decide⟩
def Td(ps:List Ln)(N:List Int)(k:Nat):Bl:=(List.range k).flatMap fun i=>leB (N.getD i 0) (ps.getD i Qd).1
theorem Et(ps:List Ln)(N:List Int)(k:Nat):Td ps N (k+1)=Td ps N k++leB (N.getD k 0) (ps.getD k Qd).1:=by simp[Td,C3]
def Ny(ps:List Ln)(k:Nat):List Nat:=(List.range k).map fun i=>(ps.getD i Qd).1
theorem Hm(ps:List Ln)(k:Nat):Ny ps (k+1)=Ny ps k++[(ps.getD k Qd).1]:=by simp[Ny,C3]
theorem Fm(ps:List Ln)(k:Nat):(Ny ps k).length=k:=by simp[Ny]
theorem wids_get(ps:List Ln){k i:Nat}(h:i<k):(Ny ps k).getD i 0=(ps.getD i Qd).1:=by simp[Ny,List.getD,B8 h]
theorem Cw(ps:List Ln)(N:List Int)(k:Nat):(Td ps N k).length=(Ny ps k).sum:=by
 induction k with
 | zero=>rfl
 | succ k ih=>rw[Et,Hm,A8,Zj,ih];simp
theorem Pack_48(g w:Nat)(n:Int)(W:World)(hw:w=4∨w=8)(h0:0≤n)(hb:w=4→n<4294967296)(hk:Blk W g [V0 (w:Int),V0 n] 292):C0 168 #[.slice (S1 g) 1 1] W (Kc (fun w' r=>∃ p c,r=.tuple #[.slice p w c,V0 0]∧w'.ownsRow W.heap.size 5 1 (.slice p w c) w ((leB n w).map bv)) W):=by
 rcases hw with rfl|rfl
 ·exact Tu g n h0 (hb rfl) W hk
 ·exact Zv2 g n h0 W hk
def ValPutP(ps:List Ln)(N:List Int)(w:World)(e:Ending)(w':World):Prop :=
 (Us ps N ps.length=false∧e=.returned (.string ⟨#[]⟩)∧B3 w w')∨(Us ps N ps.length=true∧e=.returned (.string ⟨(Td ps N ps.length).toArray⟩)∧B3 w w')
theorem Zpl(ps:List Ln)(N:List Int)(gl gn:O0)(cl cn:Nat)(w:World)(hps:Gj ps)(hNl:N.length=ps.length)(hP:Sts Zkl w (.slice gl ps.length cl) ps)(hN:Sl w (.slice gn ps.length cn) ps.length (N.map V0)) :
 C0 181 #[.slice gl ps.length cl,.slice gn ps.length cn] w (ValPutP ps N w):=by
 have c1:=hps.1
 refine zin 51 Tryz.func181 ?_
 have hB:=Below.refl w.heap.size w
 refine zl 19 51 (fun zm b8 V=>∃ (i m:Nat) (q:O0) (d:Nat),b8=[(1,.slice gn ps.length cn),(5,.slice q m d),(10,.slice gl ps.length cl),(11,V0 (ps.length:Int)),(12,V0 (i:Int))]∧zm=ps.length-((i:Int)).toNat∧B3 w V∧V.ownsRow w.heap.size 5 1 (.slice q m d) m ((Td ps N i).map bv)∧i≤ps.length∧m=(Ny ps i).sum∧m≤i*8∧Us ps N i=true) ⟨0,0,_,_,rfl,rfl,hB,A5 _ _ _ _,A3 _,rfl,A3 _,rfl⟩ ?_
 rintro _ _ W1 ⟨i,m,q,d,rfl,rfl,a1,ho,hi,hm,c5,a5⟩ J1 b2 r1
 refine xid 6 ((i:Int)<(ps.length:Int)) (fun b4=>?_) (fun b4=>?_)
 ·refine xx 7 _ ps.length i 3 (Sts.cell hP Ns Qd (k:=i) (i:=0) M0 rfl).1 ?_
  refine xlv 0 (Sts.rp (k:=i) (hP.below a1) Ns Qd M0 Do) ?_
  refine xa 0 [V0 0,V0 0,V0 0] 312 fun b3 W3 n3=>?_
  have g3:=n3.ge a1
  refine xsv 1 n3.blk [V0 (↑(ps.getD i Qd).1:Int),V0 ((ps.getD i Qd).2.1),V0 ((ps.getD i Qd).2.2)] fun W4 u4 k4=>?_
  refine xd 4 .z ?_
  refine xx (.e [0,1] 2) _ ps.length i 1 (IntsN.elem hN hNl (k:=i) M0).1 ?_
  have a0:=bln (u4.below (bln a1 n3.below) g3) (Za W4)
  refine xl (.e [] 3) ((IntsN.elem (hN.below a0) hNl (k:=i) M0).2) ?_
  have a3:=k4.below (Za W4)
  refine xb (.e [4] 5) 1 a3 ?_
  refine xg (.b [6,7]) [23,24] (decide ((N.getD i 0)<(ps.getD i Qd).2.1)) (fun a6=>?_) (fun a6=>?_)
  ·have a6:=of_decide_eq_true a6
   exact xe (.r [8,9,10,11,12,13,14,15] 15) (.string ⟨#[]⟩) (.inl ⟨Zcl (i:=i) M0 (decide_eq_false M0),rfl,a0⟩)
  have a6:=of_decide_eq_false a6
  refine xx (.e [8,9] 10) _ ps.length i 1 (IntsN.elem hN hNl (k:=i) M0).1 ?_
  refine xl (.e [] 11) ((IntsN.elem (hN.below a0) hNl (k:=i) M0).2) ?_
  refine xb (.e [12] 13) 2 a3 ?_
  refine xid (.r [14,15] 2) ((N.getD i 0)>(ps.getD i Qd).2.2) (fun b6=>?_) (fun b6=>?_)
  ·exact xe 12 (.string ⟨#[]⟩) (.inl ⟨Zcl (i:=i) M0 (decide_eq_false M0),rfl,a0⟩)
  refine xd 3 .z ?_
  have a9:=a3.below (Za W4.drew)
  refine xb (.e [0] 1) 0 a9 ?_
  refine xx (.e [2,3] 4) _ ps.length i 1 (IntsN.elem hN hNl (k:=i) M0).1 ?_
  have a2:=bln a0 (Za W4.drew)
  refine xl (.e [] 5) ((IntsN.elem (hN.below a2) hNl (k:=i) M0).2) ?_
  refine xbs (.o [6] 7) 1 [V0 (↑(ps.getD i Qd).1:Int),V0 (N.getD i 0)] 292 fun b7 W7 n7=>?_
  have g7:=n7.ge a2
  refine yc (.o [] 8) (args:=#[.slice (S1 b7) 1 1]) .z (Pack_48 b7 (ps.getD i Qd).1 (N.getD i 0) _ (hps.2 i M0).1 (by have:=(hps.2 i M0).2.1;omega) (fun q=>by have:=(hps.2 i M0).2.2.2 q;omega) n7.blk) ?_
  rintro _ W8 ⟨_,rfl,b1,p2,c2,rfl,h2⟩
  have b5:=(bln a2 n7.below).size
  refine⟨b1,?_⟩
  have a7:=Zb (Zb (Zb (Zb (u4.own2 (Zb ho n3.below) n3.blk Do) (Za W4)) (Za W4.drew)) n7.below) b1
  have a8:=Zf h2 b5
  have a4:=bln (bln a2 n7.below) b1
  refine xbi (.r [9,10,11,12,13] 5) fun _ _ _ _ zJ zQ zo zx zy zK=>Xi (m:=(ps.getD i Qd).1) (news:=(leB (N.getD i 0) (ps.getD i Qd).1).map bv) (.int .u8 0) 1 1 ((m+(ps.getD i Qd).1)) (((Td ps N (i+1)).map bv)) zo Tryz.underlying22 K0 rfl Do zx a7 zy (Zg a8) (by simp[Zj]) (Vy _) (by unfold maxLen;have:=(hps.2 i M0).1;omega) (by have:=(hps.2 i M0).1;omega) a4.size (by rfl) (by rw[Et,B5]) fun c0 c3 W9 o9 c4 b9=>?_
  refine zK _ _ ?_
  refine xwm 5 ((i:Int)+1) (↑(i+1):Int) ?_
  have b0:=a4.trans b9
  exact ze 2 (b2 _ _ _ ⟨i+1,_,_,_,rfl,rfl,b0,o9,by omega,by rw[Hm,hm];simp,by have:=(hps.2 i M0).1;omega,by rw[Zp7,a5];exact decide_eq_true ⟨by omega,by omega⟩⟩ M0)
 refine xcv0 8 (fun _ _ _ zo zx=>Mx zo zx (Vc (Zg ho) (by rw[Cw];exact hm.symm)) (by rw[Cw];exact hm.symm) Tryz.underlying22 Tryz.underlying5 Tryz.underlying9) ?_
 refine xe 4 (.string ⟨(Td ps N i).toArray⟩) ?_
 obtain rfl:i=ps.length:=by omega
 exact .inr ⟨a5,rfl,a1⟩
def Mc(ps:List Ln)(s:Bl):List Nat:=Nu s 0 (Ny ps ps.length)
theorem Fu(ps:List Ln)(s:Bl):(Mc ps s).length=ps.length:=by rw[Mc,Zeh,Fm]
def Pu(ps:List Ln)(s:Bl):Bool:=Us ps ((Mc ps s).map fun n:Nat=>(n:Int)) ps.length
def Xn(ps:List Ln)(s:Bl):Int:=if s.length=(Ny ps ps.length).sum then(if Pu ps s then 0 else 2) else 7
def Xs(ps:List Ln)(s:Bl):List Nat:=if Xn ps s=0 then Mc ps s else List.replicate ps.length 0
theorem Ym(ps:List Ln)(s:Bl):(Xs ps s).length=ps.length:=by
 unfold Xs;split
 ·exact Fu ps s
 ·simp
theorem Ztl{ps:List Ln}{s:Bl}(hp:Gj ps)(h:Pu ps s=true):∀ i,i<(Ny ps ps.length).length→(Nu s 0 (Ny ps ps.length)).getD i 0<9223372036854775808:=by
 intro i hi
 rw[Fm] at hi
 unfold Pu Us at h
 rw[H7] at h
 have h1:=of_decide_eq_true (h i (B9.2 hi))
 have h2:=(hp.2 i hi).2.2.1
 rw[show((Mc ps s).map fun n:Nat=>(n:Int)).getD i 0=(((Mc ps s).getD i 0:Nat):Int) by simp[List.getD,show i<(Mc ps s).length by rw[Fu];exact hi]] at h1
 change (Mc ps s).getD i 0<_
 omega
theorem map_nv(l:List Nat):l.map nv=(l.map fun n:Nat=>(n:Int)).map V0:=by simp[nv]
theorem putL_ne{ps:List Ln}{N:List Int}(hp:Gj ps)(h0:0<ps.length):((⟨(Td ps N ps.length).toArray⟩:ByteArray).toList==(⟨#[]⟩:ByteArray).toList)=false:=by
 rw[show(⟨#[]⟩:ByteArray)=⟨([]:Bl).toArray⟩ from rfl,Zth]
 apply beq_false_of_ne
 intro q
 have h1:=congrArg List.length q
 obtain⟨k,hk⟩:∃ k,ps.length=k+1:=⟨ps.length-1,by omega⟩
 rw[hk,Et,A8,Zj] at h1
 rw[D6] at h1
 have:=(hp.2 k M0).1
 omega
theorem Zel(n:Nat):Hz (Value.int .i64 0).cells.toList n=(List.replicate n 0).map nv:=by
 rw[show(Value.int .i64 0).cells.toList=[Value.int .i64 0] from rfl,Hz,O5]
 induction n with
 | zero=>rfl
 | succ n ih=>rw[K4,P1,ih,K4];rfl
theorem Zbh(ps:List Ln)(s:Bl)(gl:O0)(cl:Nat)(w:World)(hps:Gj ps)(h0:0<ps.length)(hs:s.length≤100000)(hP:Sts Zkl w (.slice gl ps.length cl) ps)(hsl:s.length≠(Ny ps ps.length).sum) :
 C0 111 #[.slice gl ps.length cl,.string ⟨s.toArray⟩] w (Kc (fun w' r=>∃ p c,r=.tuple #[.slice p ps.length c,V0 (Xn ps s)]∧w'.ownsRow w.heap.size 3 1 (.slice p ps.length c) ps.length ((Xs ps s).map nv)) w):=by
 have c2:=hps.1
 refine zin 54 Tryz.func111 ?_
 have hB:=Below.refl w.heap.size w
 refine zl 25 54 (fun zm b6 V=>∃ (i:Nat) (q:O0) (d:Nat),b6=[(0,.slice gl ps.length cl),(1,.string ⟨s.toArray⟩),(4,S0),(5,V0 0),(6,.slice q i d),(7,V0 (↑(Ny ps i).sum:Int)),(12,.slice gl ps.length cl),(13,V0 (ps.length:Int)),(14,V0 (i:Int))]∧zm=ps.length-((i:Int)).toNat∧B3 w V∧V.ownsRow w.heap.size 3 1 (.slice q i d) i ((Ny ps i).map nv)∧i≤ps.length∧(Ny ps i).sum≤i*8) ⟨0,_,_,rfl,rfl,hB,A5 _ _ _ _,A3 _,A3 _⟩ ?_
 rintro _ _ W1 ⟨i,q,d,rfl,rfl,a0,ho,hi,c0⟩ J1 b0 r1
 have b4:i<ps.length→(ps.getD i Qd).1≤8:=fun q=>by have:=(hps.2 i q).1;omega
 refine xid 6 ((i:Int)<(ps.length:Int)) (fun b2=>?_) (fun b2=>?_)
 ·refine xx 6 _ ps.length i 3 (Sts.cell hP Ns Qd (k:=i) (i:=0) M0 rfl).1 ?_
  refine xlv 0 (Sts.rp (k:=i) (hP.below a0) Ns Qd M0 Do) ?_
  refine xa 0 [V0 0,V0 0,V0 0] 312 fun b3 W3 n3=>?_
  have g3:=n3.ge a0
  refine xsv 0 n3.blk [V0 (↑(ps.getD i Qd).1:Int),V0 ((ps.getD i Qd).2.1),V0 ((ps.getD i Qd).2.2)] fun W4 u4 k4=>?_
  refine xb 6 0 k4 ?_
  refine xbs 0 1 [V0 (↑(ps.getD i Qd).1:Int)] 3 fun b5 W5 n5=>?_
  have a3:=u4.below (bln a0 n3.below) g3
  have g5:=n5.ge a3
  have a1:=u4.own2 (Zb ho n3.below) n3.blk Do
  have a9:=Zu a1 n5
  have a4:=Zb a1 n5.below
  have a2:=bln a3 n5.below
  refine xbi 0 fun _ _ _ _ zJ zQ zo zx zy zK=>Xi (m:=1) (news:=[V0 (↑(ps.getD i Qd).1:Int)]) (V0 0) 1 8 (i+1) (((Ny ps (i+1)).map nv)) zo Tryz.underlying34 K0 rfl Do zx a4 zy (n5.blk.sl 1 1 Do Do) rfl (by simp[Value.oneCell']) (by unfold maxLen;omega) M0 a2.size (by rfl) (by rw[Hm,B5];rfl) fun b9 c1 W6 o6 b8 b1=>?_
  refine zK _ _ ?_
  have a5:=(k4.below n5.below).grown b8 a4 Do
  refine xb 6 0 a5 ?_
  refine xwm 0 ((↑(Ny ps i).sum:Int)+(↑(ps.getD i Qd).1:Int)) (↑((Ny ps i).sum+((ps.getD i Qd).1)):Int) ?_
  refine xwm 5 ((i:Int)+1) (↑(i+1):Int) ?_
  refine xv1 2 7 (show(V0 (↑((Ny ps i).sum+((ps.getD i Qd).1)):Int):Value)=V0 (↑(Ny ps (i+1)).sum:Int) from by rw[Hm];simp) ?_
  have a6:=a2.trans b1
  exact ze 0 (b0 _ _ _ ⟨i+1,_,_,rfl,rfl,a6,o6,by omega,by rw[Hm,F0,G5,N3];have:=b4 M0;omega⟩ M0)
 refine xk 14 (show(((s.length:Int) != (↑(Ny ps i).sum:Int)):Bool)=true from bne_iff_ne.2 (by rw[show i=ps.length by omega];omega)) ?_
 refine xmk 4 fun _ _ _ _ zJ zQ zo zx zy zK=>Gl ps.length (V0 0) 1 8 ((List.replicate ps.length 0).map nv) zo zx zy Tryz.underlying34 K0 rfl M0 M0 (Zel _) fun b7 W7 n7=>?_
 have g7:=n7.ge a0
 have a8:=Zu ho n7
 refine zK _ _ ?_
 have a7:=bln a0 n7.below
 have o7:=Yd (size:=1) (n:=ps.length) n7.blk g7 (by simp) (by unfold maxLen;omega)
 refine xe 6 (.tuple #[.slice (S1 b7) ps.length ps.length,V0 7]) ?_
 have he:Xn ps s=7:=if_neg hsl
 exact⟨_,rfl,a7,_,_,by rw[he],by rw[Xs,if_neg (by rw[he];decide)];exact o7⟩
def UnpP(s:Bl)(ws:List Nat)(n:Nat)(W:World)(e:Ending)(w':World):Prop :=
 ((¬ ∀ i,i<ws.length→(Nu s 0 ws).getD i 0<9223372036854775808)∧e=.returned (.tuple #[S0,V0 2])∧B3 W w') ∨
 ((∀ i,i<ws.length→(Nu s 0 ws).getD i 0<9223372036854775808)∧∃ p c,e=.returned (.tuple #[.slice p n c,V0 0])∧B3 W w'∧w'.ownsRow W.heap.size 3 1 (.slice p n c) n ((Nu s 0 ws).map nv))
theorem Unpack_P(a:O0)(n c m:Nat)(s:Bl)(aw:O0)(cw:Nat)(ws:List Nat)(W:World)(hn:s.length=n)(hm:ws.length=m)(hk:∀ i,i<ws.length→ws.getD i 0=1∨ws.getD i 0=2∨ws.getD i 0=4∨ws.getD i 0=8)(hs:ws.sum≤n)(hl:n≤100000000)(hw:m≤1000)(h:Bys W (.slice a n c) s)(hws:Sl W (.slice aw m cw) m (ws.map nv)) :
 C0 180 #[.slice a n c,.slice aw m cw] W (UnpP s ws m W):=by
 subst hn hm
 by_cases hq:∀ i,i<ws.length→(Nu s 0 ws).getD i 0<9223372036854775808
 ·refine(Zif a c s aw cw ws W hk hs hl hw h hws hq).mono ?_
  rintro e V ⟨_,rfl,hb,p,c2,rfl,ho⟩
  exact .inr ⟨hq,p,c2,rfl,hb,ho⟩
 ·refine(Zqe a c s aw cw ws W hk hs hl hw h hws hq).mono ?_
  rintro e V ⟨rfl,hb⟩
  exact .inl ⟨hq,rfl,hb⟩
theorem Zw6(ps:List Ln)(s:Bl)(k:Nat):((Nu s 0 (Ny ps k)).map fun n:Nat=>(n:Int)).length=k:=by rw[A6,Zeh,Fm]
theorem Ow(ps:List Ln)(N:List Int)(gl gn:O0)(cl cn n:Nat)(w:World)(hps:Gj ps)(hn:n=ps.length)(hNl:N.length=n)(hP:Sts Zkl w (.slice gl ps.length cl) ps)(hN:Sl w (.slice gn n cn) n (N.map V0)) :
 C0 181 #[.slice gl ps.length cl,.slice gn n cn] w (fun e w'=>(Us ps N n=false∧e=.returned (.string ⟨#[]⟩)∧B3 w w')∨(Us ps N n=true∧e=.returned (.string ⟨(Td ps N ps.length).toArray⟩)∧B3 w w')):=by
 subst hn;exact Zpl ps N gl gn cl cn w hps hNl hP hN
theorem Zce(ps:List Ln)(s:Bl)(gl:O0)(cl:Nat)(w:World)(hps:Gj ps)(h0:0<ps.length)(hs:s.length≤100000)(hP:Sts Zkl w (.slice gl ps.length cl) ps)(hsl:s.length=(Ny ps ps.length).sum) :
 C0 111 #[.slice gl ps.length cl,.string ⟨s.toArray⟩] w (Kc (fun w' r=>∃ p c,r=.tuple #[.slice p ps.length c,V0 (Xn ps s)]∧w'.ownsRow w.heap.size 3 1 (.slice p ps.length c) ps.length ((Xs ps s).map nv)) w):=by
 have f4:=hps.1
 refine zin 54 Tryz.func111 ?_
 have hB:=Below.refl w.heap.size w
 refine zl 25 54 (fun zm e6 V=>∃ (i:Nat) (q:O0) (d:Nat),e6=[(0,.slice gl ps.length cl),(1,.string ⟨s.toArray⟩),(4,S0),(5,V0 0),(6,.slice q i d),(7,V0 (↑(Ny ps i).sum:Int)),(12,.slice gl ps.length cl),(13,V0 (ps.length:Int)),(14,V0 (i:Int))]∧zm=ps.length-((i:Int)).toNat∧B3 w V∧V.ownsRow w.heap.size 3 1 (.slice q i d) i ((Ny ps i).map nv)∧i≤ps.length∧(Ny ps i).sum≤i*8) ⟨0,_,_,rfl,rfl,hB,A5 _ _ _ _,A3 _,A3 _⟩ ?_
 rintro _ _ W1 ⟨i,q,d,rfl,rfl,a0,ho,hi,f1⟩ J1 d6 r1
 have e1:i<ps.length→(ps.getD i Qd).1≤8:=fun q=>by have:=(hps.2 i q).1;omega
 refine xid 6 ((i:Int)<(ps.length:Int)) (fun d9=>?_) (fun d9=>?_)
 ·refine xx 6 _ ps.length i 3 (Sts.cell hP Ns Qd (k:=i) (i:=0) M0 rfl).1 ?_
  refine xlv 0 (Sts.rp (k:=i) (hP.below a0) Ns Qd M0 Do) ?_
  refine xa 0 [V0 0,V0 0,V0 0] 312 fun b3 W3 n3=>?_
  have g3:=n3.ge a0
  refine xsv 0 n3.blk [V0 (↑(ps.getD i Qd).1:Int),V0 ((ps.getD i Qd).2.1),V0 ((ps.getD i Qd).2.2)] fun W4 u4 k4=>?_
  refine xb 6 0 k4 ?_
  refine xbs 0 1 [V0 (↑(ps.getD i Qd).1:Int)] 3 fun b5 W5 n5=>?_
  have a8:=u4.below (bln a0 n3.below) g3
  have g5:=n5.ge a8
  have a6:=u4.own2 (Zb ho n3.below) n3.blk Do
  have d5:=Zu a6 n5
  have a9:=Zb a6 n5.below
  have a7:=bln a8 n5.below
  refine xbi 0 fun _ _ _ _ zJ zQ zo zx zy zK=>Xi (m:=1) (news:=[V0 (↑(ps.getD i Qd).1:Int)]) (V0 0) 1 8 (i+1) (((Ny ps (i+1)).map nv)) zo Tryz.underlying34 K0 rfl Do zx a9 zy (n5.blk.sl 1 1 Do Do) rfl (by simp[Value.oneCell']) (by unfold maxLen;omega) M0 a7.size (by rfl) (by rw[Hm,B5];rfl) fun e9 f2 W6 o6 e7 d8=>?_
  refine zK _ _ ?_
  have b7:=(k4.below n5.below).grown e7 a9 Do
  refine xb 6 0 b7 ?_
  refine xwm 0 ((↑(Ny ps i).sum:Int)+(↑(ps.getD i Qd).1:Int)) (↑((Ny ps i).sum+((ps.getD i Qd).1)):Int) ?_
  refine xwm 5 ((i:Int)+1) (↑(i+1):Int) ?_
  refine xv1 2 7 (show(V0 (↑((Ny ps i).sum+((ps.getD i Qd).1)):Int):Value)=V0 (↑(Ny ps (i+1)).sum:Int) from by rw[Hm];simp) ?_
  have c7:=a7.trans d8
  exact ze 0 (d6 _ _ _ ⟨i+1,_,_,rfl,rfl,c7,o6,by omega,by rw[Hm,F0,G5,N3];have:=e1 M0;omega⟩ M0)
 refine xk 14 (show(((s.length:Int) != (↑(Ny ps i).sum:Int)):Bool)=false from by rw[show i=ps.length by omega,hsl];simp) ?_
 refine xcf 5 fun _ _ _ zJ zQ zo zx zK=>Eb s zo zx Tryz.underlying9 Tryz.underlying22 Tryz.underlying5 M0 ?_
 intro bz cz W7 b6 e5
 refine zK _ _ ?_
 have a4:=Zb ho b6
 refine xc 1 (Unpack_P (S1 bz) s.length cz i s q d (Ny ps i) _ rfl (Fm ps i) (fun j hj=>by rw[Fm] at hj;rw[wids_get ps hj];have:=(hps.2 j M0).1;omega) (by rw[show i=ps.length by omega];omega) M0 M0 e5 (Zg a4)) ?_
 rintro e W8 d7
 rcases d7 with ⟨hq,rfl,b2⟩|⟨hq,p5,c5,rfl,b2,h5⟩
 ·have a5:i=ps.length:=by omega
  have c4:Pu ps s=false:=by rw[←Bool.not_eq_true];intro q;exact hq (by rw[a5];exact Ztl hps q)
  refine xmk 25 fun _ _ _ _ zJ zQ zo zx zy zK=>Gl ps.length (V0 0) 1 8 ((List.replicate ps.length 0).map nv) zo zx zy Tryz.underlying34 K0 rfl M0 M0 (Zel _) fun b9 W9 n9=>?_
  have b1:=bln (bln a0 b6) b2
  have g9:=n9.ge b1
  have d0:=Zb a4 b2
  have d4:=Zu d0 n9
  refine zK _ _ ?_
  have c6:=bln b1 n9.below
  have o9:=Yd (size:=1) (n:=ps.length) n9.blk g9 (by simp) (by unfold maxLen;omega)
  refine xe 6 (.tuple #[.slice (S1 b9) ps.length ps.length,V0 2]) ?_
  have he:Xn ps s=2:=by unfold Xn;rw[if_pos hsl,if_neg (by rw[c4];decide)]
  exact⟨_,rfl,c6,_,_,by rw[he],by rw[Xs,if_neg (by rw[he];decide)];exact o9⟩
 have e4:=(bln a0 b6).size
 have a5:i=ps.length:=by omega
 have a2:=Zf h5 e4
 have e2:Sl (W8) (.slice p5 i c5) i (((Nu s 0 (Ny ps i)).map fun n:Nat=>(n:Int)).map V0):=by have q:=Zg a2;rw[map_nv] at q;exact q
 have a3:=bln (bln a0 b6) b2
 refine xc 15 (Ow ps ((Nu s 0 (Ny ps i)).map fun n:Nat=>(n:Int)) gl p5 cl c5 i _ hps a5 (Zw6 ps s i) (hP.below a3) e2) ?_
 rintro e f3 d3
 rcases d3 with ⟨c1,rfl,a1⟩|⟨c1,rfl,a1⟩
 ·have c4:Pu ps s=false:=by unfold Pu Mc;rw[←a5];exact c1
  refine xmk 9 fun _ _ _ _ zJ zQ zo zx zy zK=>Gl ps.length (V0 0) 1 8 ((List.replicate ps.length 0).map nv) zo zx zy Tryz.underlying34 K0 rfl M0 M0 (Zel _) fun e3 f0 b0=>?_
  have b4:=bln a3 a1
  have e0:=b0.ge b4
  have c3:=Zb (Zb a4 b2) a1
  have d1:=Zu c3 b0
  have c2:=Zb a2 a1
  have d2:=Zu c2 b0
  refine zK _ _ ?_
  have c8:=bln b4 b0.below
  have e8:=Yd (size:=1) (n:=ps.length) b0.blk e0 (by simp) (by unfold maxLen;omega)
  refine xe 6 (.tuple #[.slice (S1 e3) ps.length ps.length,V0 2]) ?_
  have he:Xn ps s=2:=by unfold Xn;rw[if_pos hsl,if_neg (by rw[c4];decide)]
  exact⟨_,rfl,c8,_,_,by rw[he],by rw[Xs,if_neg (by rw[he];decide)];exact e8⟩
 have c0:Pu ps s=true:=by unfold Pu Mc;rw[←a5];exact c1
 refine xk 4 (show(((⟨(Td ps ((Nu s 0 (Ny ps i)).map fun n:Nat=>(n:Int)) ps.length).toArray⟩:ByteArray).toList==(⟨#[]⟩:ByteArray).toList):Bool)=false from putL_ne hps h0) ?_
 have c9:=bln a3 a1
 have b8:=Zb a2 a1
 refine xe 10 (.tuple #[.slice p5 i c5,V0 0]) ?_
 have he:Xn ps s=0:=by unfold Xn;rw[if_pos hsl,if_pos c0]
 subst a5
 exact⟨_,rfl,c9,_,_,by rw[he],by rw[Xs,if_pos he];exact b8⟩
theorem Lb(ps:List Ln)(s:Bl)(gl:O0)(cl:Nat)(w:World)(hps:Gj ps)(h0:0<ps.length)(hs:s.length≤100000)(hP:Sts Zkl w (.slice gl ps.length cl) ps) :
 C0 111 #[.slice gl ps.length cl,.string ⟨s.toArray⟩] w (Kc (fun w' r=>∃ p c,r=.tuple #[.slice p ps.length c,V0 (Xn ps s)]∧w'.ownsRow w.heap.size 3 1 (.slice p ps.length c) ps.length ((Xs ps s).map nv)) w):=by
 by_cases h:s.length=(Ny ps ps.length).sum
 ·exact Zce ps s gl cl w hps h0 hs hP h
 ·exact Zbh ps s gl cl w hps h0 hs hP h
end Go.Proofs.YtceeiinepijokaaGreatDoor
namespace Go.Proofs.YtceeiinepijokaaGreatDoor
set_option maxHeartbeats 8000000
set_option maxRecDepth 100000
open Go.RowKit
set_option linter.unusedVariables false
section
variable {P:Program} {a:Act}
theorem Zv7(l:Bl)(b c:Nat):(ByteArray.mk l.toArray).extract b c=ByteArray.mk ((l.drop b).take (c-b)).toArray:=ByteArray.extract_mk l b c
theorem run_strH{o:Oper}{t:TypeId}{x y:Operand}{l:Bl}{k:Nat}{j:Int}{kj:IntKind}(ho:o.op=.slice t x none (some y) none)(hx:a.eval x=.string ⟨l.toArray⟩)(hy:a.eval y=.int kj j)(hj:j=(k:Int))(hk:k≤l.length)
 (ht:P.underlying t=some .string) (w:World):(execOp a.eval o).run P w=.ok (.value (.string ⟨(l.take k).toArray⟩)) w:=by
 subst hj
 have hs:((k:Int))≤((⟨l.toArray⟩:ByteArray).size:Int):=by simp[ByteArray.size];omega
 have h:=run_slice_string_h (P:=P) (w:=w) (t:=t) (s:=⟨l.toArray⟩) ht kj (k:Int) M0 hs
 rw[Zv7,List.drop_zero,G1,Nat.sub_zero] at h
 simp only[execOp,ho,hx,D5,P8,hy]
 simp[run_sliceAt_string,ht,h]
theorem run_strL{o:Oper}{t:TypeId}{x y:Operand}{l:Bl}{k:Nat}{j:Int}{kj:IntKind}(ho:o.op=.slice t x (some y) none none)(hx:a.eval x=.string ⟨l.toArray⟩)(hy:a.eval y=.int kj j)(hj:j=(k:Int))(hk:k≤l.length)
 (ht:P.underlying t=some .string) (w:World):(execOp a.eval o).run P w=.ok (.value (.string ⟨(l.drop k).toArray⟩)) w:=by
 subst hj
 have hs:((k:Int))≤((⟨l.toArray⟩:ByteArray).size:Int):=by simp[ByteArray.size];omega
 have h:=run_slice_string_l (P:=P) (w:=w) (t:=t) (s:=⟨l.toArray⟩) ht kj (k:Int) M0 hs
 rw[Zv7,G1,show(⟨l.toArray⟩:ByteArray).size=l.length by simp[ByteArray.size],C1 (by simp)] at h
 simp only[execOp,ho,hx,D5,P8,hy]
 simp[run_sliceAt_string,ht,h]
end
end Go.Proofs.YtceeiinepijokaaGreatDoor
namespace Go.Proofs.YtceeiinepijokaaGreatDoor
set_option maxHeartbeats 8000000
set_option maxRecDepth 100000
open Go.RowKit Go.Extern.Stop Go.Stop Go.Extern
set_option linter.unusedVariables false
attribute [local irreducible] wpList wpAnyH Code.wp Oper.wp Go
section
variable {P:Program} {a:Act}
theorem Zxj{o:Oper}{t t2:TypeId}{x y:Operand}{n s:Nat}{j:Int}{kj:IntKind}(ho:o.op=.binOp .shr t x y t2)(hx:a.eval x=.int .u8 (n:Int))(hy:a.eval y=.int kj j)(hj:j=(s:Int))(hs:s≤8)(w:World):(execOp a.eval o).run P w=.ok (.value (.int .u8 ((n/2 ^ s:Nat):Int))) w:=by
 subst hj
 have e:=shift_shr_u8 kj (n:Int) (s:Int) (K1 s) M0
 simp only[execOp,ho,hx,hy,eqGuard_shr,binOp_shr,e]
 simp
end
theorem Zkg(a:O0)(n c k w:Nat)(ki wi:Int)(l:Bl)(W:World)(hn:l.length=n)(hki:ki=(k:Int))(hwi:wi=(w:Int))(hw:w=1∨w=2∨w=4)(hk:k+w≤n)(hl:n≤100000000)(h:Bys W (.slice a n c) l) :
 C0 141 #[.slice a n c,V0 ki,V0 wi] W (Ret (.tuple #[V0 (Zn l k w:Int),V0 0]) W):=by
 subst hn hki hwi;exact Zgf a c k w l W M0 hk hl h (by have:=Kv l k w M0;omega)
def Zrt(l:Bl)(i:Nat):Nat:=(l.getD (4+i/4) 0).toNat/2 ^ (i%4*2)%4
theorem i64_and3{n:Nat}(h:n<9223372036854775808):IntKind.i64.wrap (↑(BitVec.ofInt 64 (n:Int) &&& BitVec.ofInt 64 (3:Int)).toNat:Int)=((n%4:Nat):Int):=by
 rw[show(3:Int)=((3:Nat):Int) from rfl,E4,E4,P3,E6,E6,E2 M0,E2 M0]
 rw[show n &&& 3=n%4 from L8 n 2]
 exact Mk M0
theorem Ak(n k:Nat)(hn:n<9223372036854775808)(hk:0<k):IntKind.i64.wrap (Int.tdiv (n:Int) (k:Int))=((n/k:Nat):Int):=by
 rw[Int.tdiv_eq_ediv_of_nonneg (K1 _),←Int.natCast_ediv]
 exact Mk (I1 (O3 _ _) hn)
theorem Zhn(n k:Nat):Int.tmod (n:Int) (k:Int)=((n%k:Nat):Int):=by
 rw[Int.tmod_eq_emod_of_nonneg (K1 _),←Int.natCast_emod]
theorem shr_lt(l:Bl)(k s:Nat):(l.getD k 0).toNat/2 ^ s<256:=I1 (O3 _ _) (l.getD k 0).toNat_lt
def Zbi(l:Bl)(n:Nat):List Nat:=(List.range n).map (Zrt l)
theorem Zqf(l:Bl)(n:Nat):Zbi l (n+1)=Zbi l n++[Zrt l n]:=by simp[Zbi,C3]
def Zl1(l:Bl):Prop:=l.length=244∧Zn l 0 4≤960∧∀ i,i<960→Zn l 0 4≤i→Zrt l i=0
def BitsP(l:Bl)(w:World)(e:Ending)(w':World):Prop :=
 (¬ Zl1 l∧e=.returned (.tuple #[S0,V0 7])∧B3 w w') ∨
 (Zl1 l∧∃ p c,e=.returned (.tuple #[.slice p (Zn l 0 4) c,V0 0])∧B3 w w'∧w'.ownsRow w.heap.size 3 1 (.slice p (Zn l 0 4) c) (Zn l 0 4) ((Zbi l (Zn l 0 4)).map nv))
theorem Zuq(a:O0)(c:Nat)(l:Bl)(w:World)(hl:l.length≤100000000)(h:Bys w (.slice a l.length c) l) :
 C0 133 #[.slice a l.length c] w (BitsP l w):=by
 refine zin 47 Tryz.func133 ?_
 refine xin 14 (l.length:Int) (244:Int) (fun a7=>?_) (fun a7=>?_)
 ·exact xe 8 (.tuple #[S0,V0 7]) (.inl ⟨fun h=>by have:=h.1;omega,rfl,(B4 w)⟩)
 refine xr 5 (Zkg a l.length c 0 4 0 4 l _ rfl rfl rfl Do M0 hl (h.below (B4 w))) fun W2 a6=>?_
 refine xid 14 ((↑(Zn l 0 4):Int)>(960:Int)) (fun b2=>?_) (fun b2=>?_)
 ·exact xe 8 (.tuple #[S0,V0 7]) (.inl ⟨fun h=>by have:=h.2.1;omega,rfl,a6⟩)
 refine zl 14 47 (fun zm a9 V=>∃ (i m:Nat) (p:O0) (c2:Nat),a9=[(0,.slice a l.length c),(4,V0 (↑(Zn l 0 4):Int)),(6,.slice p m c2),(19,V0 (i:Int))]∧zm=960-((i:Int)).toNat∧B3 w V∧V.ownsRow w.heap.size 3 1 (.slice p m c2) m ((Zbi l m).map nv)∧i≤960∧m=min i (Zn l 0 4)∧(∀ j,j<i→Zn l 0 4≤j→Zrt l j=0)) ⟨0,0,_,_,rfl,rfl,a6,A5 _ _ _ _,A3 _,by omega,?_⟩ ?_
 ·exact fun j hj=>absurd hj M0
 rintro _ _ W4 ⟨i,m,p,c2,rfl,rfl,a0,ho,hi,hm,hz⟩ J4 a5 r4
 refine xid 6 ((i:Int)<(960:Int)) (fun b1=>?_) (fun b1=>?_)
 ·refine xq 14 (congrArg V0 (show(IntKind.i64.wrap (Int.tdiv (i:Int) 4):Int)=(↑(i/4):Int) from Ak i 4 M0 Do)) ?_
  refine xwm 0 (4+(↑(i/4):Int)) (↑(4+(i/4)):Int) ?_
  refine xx 0 _ l.length (4+(i/4)) 1 (Bys.elem h (k:=(4+(i/4))) M0).1 ?_
  refine xl 0 ((Bys.elem (h.below a0) (k:=(4+(i/4))) M0).2) ?_
  refine xq 1 (congrArg V0 (show(Int.tmod (i:Int) 4:Int)=(↑(i%4):Int) from Zhn i 4)) ?_
  refine xwm 0 ((↑(i%4):Int)*2) (↑((i%4)*2):Int) ?_
  refine xbo 0 (t:=5) (t2:=3) (fun _ _ _ _ zo zx zy V hV=>Zxj (n:=((l.getD (4+(i/4)) 0).toNat)) (s:=((i%4)*2)) (kj:=.i64) (j:=(↑((i%4)*2):Int)) zo zx zy rfl M0 V) ?_
  refine xq 0 (congrArg V0 (show(IntKind.i64.wrap (↑((l.getD (4+(i/4)) 0).toNat/2 ^ ((i%4)*2)):Int):Int)=(↑((l.getD (4+(i/4)) 0).toNat/2 ^ ((i%4)*2)):Int) from Mk (by have:=shr_lt l (4+i/4) (i%4*2);omega))) ?_
  refine xq 0 (congrArg V0 (show(IntKind.i64.wrap (↑(BitVec.ofInt 64 (↑((l.getD (4+(i/4)) 0).toNat/2 ^ ((i%4)*2)):Int) &&& BitVec.ofInt 64 (3:Int)).toNat:Int):Int)=(↑(Zrt l i):Int) from i64_and3 (by have:=shr_lt l (4+i/4) (i%4*2);omega))) ?_
  refine xid 12 ((i:Int)<(↑(Zn l 0 4):Int)) (fun b0=>?_) (fun b0=>?_)
  ·refine xbs 3 1 [V0 (↑(Zrt l i):Int)] 3 fun b7 W7 n7=>?_
   have g7:=n7.ge a0
   have a4:=Zu ho n7
   have a3:=Zb ho n7.below
   have a1:=bln a0 n7.below
   refine xbi 0 fun _ _ _ _ zJ zQ zo zx zy zK=>Xi (m:=1) (news:=[V0 (↑(Zrt l i):Int)]) (V0 0) 1 8 (m+1) ((Zbi l (m+1)).map nv) zo Tryz.underlying34 K0 rfl Do zx a3 zy (n7.blk.sl 1 1 Do Do) rfl (by simp[Value.oneCell']) (by unfold maxLen;omega) M0 a1.size (by rfl) (by rw[Zqf,B5,show m=i by omega];rfl) fun b4 b6 W8 o8 b5 b3=>?_
   refine zK _ _ ?_
   refine xwm 6 ((i:Int)+1) (↑(i+1):Int) ?_
   have a2:=a1.trans b3
   exact ze 2 (a5 _ _ _ ⟨i+1,m+1,_,_,rfl,rfl,a2,o8,by omega,by omega,fun j hj hc=>(G2 j i).elim (fun q=>hz j q hc) (fun q=>by obtain rfl:j=i:=M0;omega)⟩ M0)
  refine xin 7 (↑(Zrt l i):Int) (0:Int) (fun a8=>?_) (fun a8=>?_)
  ·exact xe 13 (.tuple #[S0,V0 7]) (.inl ⟨fun h=>by have:=h.2.2 i M0 M0;omega,rfl,a0⟩)
  refine xwm 5 ((i:Int)+1) (↑(i+1):Int) ?_
  exact ze 2 (a5 _ _ _ ⟨i+1,m,_,_,rfl,rfl,a0,ho,by omega,by omega,fun j hj hc=>(G2 j i).elim (fun q=>hz j q hc) (fun q=>by obtain rfl:j=i:=M0;omega)⟩ M0)
 refine xe 13 (.tuple #[.slice p m c2,V0 0]) ?_
 obtain rfl:m=Zn l 0 4:=by omega
 exact .inr ⟨⟨by omega,by omega,fun j hj hc=>hz j M0 hc⟩,_,_,rfl,a0,ho⟩
end Go.Proofs.YtceeiinepijokaaGreatDoor
namespace Go.Proofs.YtceeiinepijokaaGreatDoor
set_option maxHeartbeats 8000000
set_option maxRecDepth 100000
open Go.RowKit
theorem Blk.ty{w:World}{b:Nat}{cs cs':List Value}{t t':TypeId}(k:Blk w b cs t)(q:Blk w b cs' t'):t=t':=by
 have h1:w.heap[b]? = some (.cells cs.toArray t (0,0)):=k
 have h2:w.heap[b]? = some (.cells cs'.toArray t' (0,0)):=q
 rw[h1] at h2
 simp only[A0,Obj.cells.injEq] at h2
 exact h2.2.1
theorem Kr.upd{w W:World}{b:Nat}{cs:List Value}{t:TypeId}{l:List (Option Int)}{c:Option Int}{v:Value}(h:Kr w l c v)(u:Upd w b W)(k:Blk w b cs t)(hne:t≠191):Kr W l c v :=
 h.kept fun _ _ q=>u.blk q (by rintro rfl;exact hne (k.ty q))
theorem Kr.grown{w W:World}{e:TypeId}{base size n:Nat}{s:Value}{xs:List Value}{l:List (Option Int)}{c:Option Int}{v:Value}(h:Kr w l c v)(hg:w.grownBy W s.ownBlock)(hown:w.ownsRow base e size s n xs)(hne:e≠191):Kr W l c v :=
 h.kept fun _ _ q=>q.grown hg hown hne
theorem Kr.only{T:List TypeId}{w W:World}{l:List (Option Int)}{c:Option Int}{v:Value}(h:Kr w l c v)(k:Ze T w W)(hne:T.contains 191=false):Kr W l c v:=h.kept fun _ _ q=>q.only k hne
end Go.Proofs.YtceeiinepijokaaGreatDoor
namespace Go.Proofs.YtceeiinepijokaaGreatDoor
set_option maxHeartbeats 8000000
set_option maxRecDepth 100000
open Go.RowKit Go.Extern.Stop Go.Stop Go.Extern
set_option linter.unusedVariables false
attribute [local irreducible] wpList wpAnyH Code.wp Oper.wp Go
structure ImgR(B b:Nat)(p:Option Addr)(n c:Nat)(l:List UInt8)(w:World):Prop where
 blk:Blk w b [.slice p n c] 80
 row:w.ownsRow B 5 1 (.slice p n c) n (l.map bv)
 hn:n≤3686400
theorem ImgR.below{B b:Nat}{p:O0}{n c:Nat}{l:Bl}{w W:World}(h:ImgR B b p n c l w)(hb:B3 w W):ImgR B b p n c l W:=⟨h.blk.below hb,Zb h.row hb,h.hn⟩
theorem ImgR.only{B b:Nat}{p:O0}{n c:Nat}{l:Bl}{w W:World}{T:List TypeId}(h:ImgR B b p n c l w)(hO:Ze T w W)(hT:T.contains 80=false∧T.contains 5=false):ImgR B b p n c l W:=⟨h.blk.only hO hT.1,Zi h.row hO hT.2,h.hn⟩
theorem ImgR.len{B b:Nat}{p:O0}{n c:Nat}{l:Bl}{w:World}(h:ImgR B b p n c l w):l.length=n:=by have:=h.row.1;simpa using this
theorem ImgR.base{B b:Nat}{p:O0}{n c:Nat}{l:Bl}{w:World}(h:ImgR B b p n c l w)(hn:0<n):∃ g,p=some ⟨g,0,none⟩∧n≤c:=by
 rcases h.row.2 with ⟨_,h0⟩|⟨g,a0,a1,hv,_,_,hc,_⟩
 ·omega
 ·simp only[C2] at hv
  obtain⟨rfl,_,rfl⟩:=hv
  exact⟨g,rfl,hc⟩
def Vv(l:Bl)(j:Nat):Bl:=(l.drop (j*256)).take 256
theorem Jj{l:Bl}{j:Nat}(h:j<l.length/256):(Vv l j).length=256:=by simp[Vv];omega
theorem Bys.mid{w:World}{g off n c:Nat}{l:Bl}(h:Bys w (.slice (some ⟨g,off,none⟩) n c) l)(hl:l.length=n)(k m:Nat)(hm:0<m)(hk:k+m≤n):Bys w (.slice (some ⟨g,off+k,none⟩) m m) ((l.drop k).take m):=by
 have a0:((l.drop k).take m).length=m:=by simp;omega
 rcases h with ⟨a',c',h1,h2,h3⟩|⟨g',a1,a2,h1,h2,h3,h4⟩
 ·omega
 ·simp only[C2,A0,Addr.mk.injEq] at h1
  obtain⟨⟨rfl,rfl,_⟩,_,rfl⟩:=h1
  refine .inr ⟨g,off+k,m,by rw[a0],by omega,by omega,fun j x hj=>?_⟩
  rw[C4,G9] at hj
  split at hj
  ·rw[F7] at hj
   have:=h4 (k+j) x (by rw[C4];exact hj)
   rwa [←E9] at this
  ·cases hj
theorem ImgR.part{B b g:Nat}{n c:Nat}{l:Bl}{w:World}(h:ImgR B b (S1 g) n c l w){j:Nat}(hj:j<n/256):Bys w (.slice (some ⟨g,j*256,none⟩) 256 256) (Vv l j):=by
 have:=Bys.mid (Vc (Zg h.row) h.len) h.len (j*256) 256 Do M0
 rwa [F3] at this
def ReadP(n:Nat)(l:Bl)(k:Int)(w:World)(e:Ending)(w':World):Prop :=
 (¬ (0≤k∧k<(n/256:Nat))∧∃ v,e=.returned (.tuple #[v,V0 3])∧B3 w w') ∨
 (∃ j:Nat,k=(j:Int)∧j<n/256∧∃ p c,e=.returned (.tuple #[.slice p 256 c,V0 0])∧B3 w w'∧w'.ownsRow w.heap.size 5 1 (.slice p 256 c) 256 ((Vv l j).map bv))
theorem Zbl(b:Nat)(p:O0)(n c:Nat)(k:Int)(w:World)(hk:Blk w b [.slice p n c] 80)(hn:n≤100000000)(ho:¬ (0≤k∧k<(n/256:Nat))) :
 C0 90 #[P0 b,V0 k] w (Ret (.tuple #[S0,V0 3]) w):=by
 refine zin 33 Tryz.func90 ?_
 refine xg 21 [13,14] (decide (k<(0:Int))) (fun a0=>?_) (fun a0=>?_)
 ·have a0:=of_decide_eq_true a0
  exact xe 18 (.tuple #[S0,V0 3]) ⟨rfl,(B4 w)⟩
 have a0:=of_decide_eq_false a0
 refine xr 2 (args:=#[P0 b]) (Yz b _ n c _ (hk.below (B4 w)) hn) fun W2 a1=>?_
 refine xk 5 (show(decide (k≥(↑(n/256):Int)):Bool)=true from decide_eq_true M0) ?_
 exact xe 9 (.tuple #[S0,V0 3]) ⟨rfl,a1⟩
theorem Zb6(B b:Nat)(p:O0)(n c:Nat)(l:Bl)(k:Int)(w:World)(hI:ImgR B b p n c l w)(ho:¬ (0≤k∧k<(n/256:Nat))) :
 C0 43 #[P0 b,V0 k] w (Kc (fun _ r=>∃ v,r=.tuple #[v,V0 3]) w):=by
 refine zin 17 Tryz.func43 ?_
 refine xr 10 (Zbl b p n c k _ (hI.below (B4 w)).blk (by have:=hI.hn;omega) ho) fun W1 a0=>?_
 refine xc 10 (Zht 0 _) ?_
 rintro _ W2 ⟨v2,rfl,a1,_⟩
 have hB:=bln a0 a1
 exact xe 6 (.tuple #[v2,V0 3]) ⟨_,rfl,hB,_,rfl⟩
theorem Fi(B b g:Nat)(n c:Nat)(l:Bl)(j:Nat)(w:World)(hI:ImgR B b (S1 g) n c l w)(hj:j<n/256)(hc:n≤c) :
 C0 43 #[P0 b,V0 (j:Int)] w (Kc (fun w' r=>∃ p2 c3,r=.tuple #[.slice p2 256 c3,V0 0]∧w'.ownsRow w.heap.size 5 1 (.slice p2 256 c3) 256 ((Vv l j).map bv)) w):=by
 have a3:=Jj (l:=l) (j:=j) (by rw[hI.len];exact hj)
 refine zin 17 Tryz.func43 ?_
 refine xr 10 (Zbr b g n c j _ (hI.below (B4 w)).blk (by have:=hI.hn;omega) hc hj) fun W1 a1=>?_
 refine xc 10 (Jv (some ⟨g,(j*256),none⟩) 256 256 (Vv l j) _ a3 ((hI.below a1).part hj) Do) ?_
 rintro _ W2 ⟨_,rfl,a4,ho⟩
 have a0:=Zf ho a1.size
 unfold Du at a0
 rw[a3] at a0
 obtain⟨p2,c3,rfl⟩:=(Zg a0).slice
 have a2:=bln a1 a4
 exact xe 6 (.tuple #[.slice p2 256 c3,V0 0]) ⟨_,rfl,a2,_,_,rfl,a0⟩
theorem Co(B b:Nat)(p:O0)(n c:Nat)(l:Bl)(k:Int)(w:World)(hI:ImgR B b p n c l w) :
 C0 43 #[P0 b,V0 k] w (ReadP n l k w):=by
 by_cases h:0≤k∧k<(n/256:Nat)
 ·obtain⟨g,rfl,hc⟩:=hI.base M0
  obtain⟨j,rfl⟩:∃ j:Nat,k=j:=⟨k.toNat,by omega⟩
  refine(Fi B b g n c l j w hI M0 hc).mono ?_
  rintro e W ⟨_,rfl,hb,p2,c3,rfl,ho⟩
  exact .inr ⟨j,rfl,by omega,_,_,rfl,hb,ho⟩
 ·refine(Zb6 B b p n c l k w hI h).mono ?_
  rintro e W ⟨_,rfl,hb,v,rfl⟩
  exact .inl ⟨h,_,rfl,hb⟩
def inE (l:Bl)(kind no:Int):Int:=if 0≤no∧no<(l.length/256:Nat) then Qv kind no (Vv l no.toNat) else 3
def inB (l:Bl)(no:Int):Bl:=((Vv l no.toNat).drop 8).take 244
theorem Rq{l:Bl}{kind no:Int}{n:Nat}(hl:l.length=n)(h:¬ (0≤no∧no<(n/256:Nat))):inE l kind no=3:=by subst hl;exact if_neg h
theorem Zc8{l:Bl}{kind no:Int}{n j:Nat}(hl:l.length=n)(hk:no=(j:Int))(h:j<n/256):inE l kind no=Qv kind no (Vv l j):=by
 subst hl hk;rw[inE,if_pos ⟨by omega,by omega⟩];rfl
theorem Zdy{l:Bl}{no:Int}{j:Nat}(hk:no=(j:Int)):inB l no=((Vv l j).drop 8).take 244:=by subst hk;rfl
theorem Zfq{l:Bl}{no:Int}{n j:Nat}(hl:l.length=n)(hk:no=(j:Int))(h:j<n/256):(inB l no).length=244:=by
 subst hl hk;have:=Jj h;simp[inB,this]
theorem Se(kind no:Int)(a:O0)(n c:Nat)(l:Bl)(w:World)(hn:l.length=n)(h:Bys w (.slice a n c) l):C0 92 #[.slice a n c,V0 kind,V0 no] w (OpenP kind no l w):=by
 subst hn;exact Zbt kind no a c l w h
def Kk(l:Bl)(tree:Int):Int:=if Uv l=0 then(if tree=0∨Qy l=tree then 0 else 6) else Uv l
def Yb(l:Bl)(no tree:Int):Int:=if inE l 2 no=0 then Kk (inB l no) tree else inE l 2 no
def Node1P(l:Bl)(tree:Int)(w:World)(e:Ending)(w':World):Prop :=
 (Kk l tree≠0∧∃ a b kp n1 kc vp n2 vc,e=.returned (.tuple #[.agg #[V0 a,.bool b,.slice kp n1 kc,.slice vp n2 vc],V0 (Kk l tree)])∧B3 w w') ∨
 (Kk l tree=0∧∃ kp kc vp vc,e=.returned (.tuple #[.agg #[V0 (Qy l),.bool (Yj l),.slice kp (Xb l) kc,.slice vp (Xb l) vc],V0 0])∧B3 w w' ∧
  w'.ownsRow w.heap.size 3 1 (.slice kp (Xb l) kc) (Xb l) ((Hh l (Xb l)).map V0)∧w'.ownsRow w.heap.size 9 1 (.slice vp (Xb l) vc) (Xb l) ((Nk l (Xb l)).map sv))
def Zmv(l:Bl)(no tree:Int)(w:World)(e:Ending)(w':World):Prop :=
 (Yb l no tree≠0∧∃ b,e=.returned (.tuple #[.agg #[V0 0,.bool false,S0,S0],.iface 188 (P0 b)])∧B3 w w'∧Kr w' [some no] (some (Yb l no tree)) (.iface 188 (P0 b))) ∨
 (Yb l no tree=0∧∃ kp kc vp vc,e=.returned (.tuple #[.agg #[V0 (Qy (inB l no)),.bool (Yj (inB l no)),.slice kp (Xb (inB l no)) kc,.slice vp (Xb (inB l no)) vc],.nilIface])∧B3 w w' ∧
  w'.ownsRow w.heap.size 3 1 (.slice kp (Xb (inB l no)) kc) (Xb (inB l no)) ((Hh (inB l no) (Xb (inB l no))).map V0)∧w'.ownsRow w.heap.size 9 1 (.slice vp (Xb (inB l no)) vc) (Xb (inB l no)) ((Nk (inB l no) (Xb (inB l no))).map sv))
theorem node_1(tree:Int)(bt:Nat)(a:O0)(c:Nat)(l:Bl)(w:World)(kt:Blk w bt [V0 tree] 3)(hl:l.length=244)(h:Bys w (.slice a 244 c) l) :
 C0 202 #[.slice a 244 c,P0 bt] w (Node1P l tree w):=by
 refine zin 27 Tryz.func202 ?_
 refine xa 2 [V0 0,.bool false,S0,S0] 181 fun b1 W1 n1=>?_
 refine xc 6 (Zub a c l _ hl (h.below n1.below)) ?_
 rintro e W2 c8
 rcases c8 with ⟨hz,rfl,a4⟩|⟨hz,kp,kc,vp,vc,rfl,a4,hk,c5⟩
 ·refine xa 3 [V0 0,.bool false,S0,S0] 181 fun b3 W3 n3=>?_
  have k1:=n1.blk.below a4
  have a7:=n3.ne k1
  have b0:=bln n1.below a4
  have g3:=n3.ge b0
  refine xsv 0 n3.blk [V0 0,.bool false,S0,S0] fun W4 u4 k4=>?_
  refine xgk 9 [13,14] (show(((Uv l)==(0:Int)):Bool)=false from beq_false_of_ne hz) ?_
  refine xlv 16 k4.rp ?_
  have b2:=u4.blk (k1.below n3.below) a7
  refine xsv 1 b2 [V0 0,.bool false,S0,S0] fun W6 u6 k6=>?_
  have g1:=n1.ge (B4 w)
  have b9:=u6.below (u4.below (bln b0 n3.below) g3) g1
  exact xec 4 k6 (.tuple #[.agg #[V0 0,.bool false,S0,S0],V0 (Uv l)]) (.inl ⟨by unfold Kk;rw[if_neg hz];exact hz,_,_,_,_,_,_,_,_,by unfold Kk;rw[if_neg hz],b9⟩)
 refine xa 3 [V0 0,.bool false,S0,S0] 181 fun b7 W7 n7=>?_
 have k1:=n1.blk.below a4
 have a0:=n7.ne k1
 have a1:=bln n1.below a4
 have g7:=n7.ge a1
 refine xsv 0 n7.blk [V0 (Qy l),.bool (Yj l),.slice kp (Xb l) kc,.slice vp (Xb l) vc] fun W8 u8 k8=>?_
 have a6:=u8.blkT (((kt.below n1.below).below a4).below n7.below) n7.blk Do
 refine xb 9 0 a6 ?_
 refine xg 3 [16,17,18] (tree != (0:Int)) (fun a5=>?_) (fun a5=>?_)
 ·have a5:=Be a5
  refine xb 1 0 k8 ?_
  refine xb 0 0 a6 ?_
  refine xin 4 (Qy l) tree (fun c0=>?_) (fun c0=>?_)
  ·refine xlv 2 k8.rp ?_
   have c4:=u8.blk (k1.below n7.below) a0
   refine xsv 0 c4 [V0 (Qy l),.bool (Yj l),.slice kp (Xb l) kc,.slice vp (Xb l) vc] fun d1 c7 c6=>?_
   have g1:=n1.ge (B4 w)
   have c1:=c7.below (u8.below (bln a1 n7.below) g7) g1
   exact xec 5 c6 (.tuple #[.agg #[V0 (Qy l),.bool (Yj l),.slice kp (Xb l) kc,.slice vp (Xb l) vc],V0 6]) (.inl ⟨by unfold Kk;rw[if_pos hz,if_neg M0];decide,_,_,_,_,_,_,_,_,by unfold Kk;rw[if_pos hz,if_neg M0],c1⟩)
  refine xlv 4 k8.rp ?_
  have a2:=u8.blk (k1.below n7.below) a0
  refine xsv 1 a2 [V0 (Qy l),.bool (Yj l),.slice kp (Xb l) kc,.slice vp (Xb l) vc] fun d3 c2 d0=>?_
  have g1:=n1.ge (B4 w)
  have b8:=c2.below (u8.below (bln a1 n7.below) g7) g1
  have c3:=c2.own2 (u8.own2 (Zb (Zf hk n1.below.size) n7.below) n7.blk Do) a2 Do
  have a9:=c2.own2 (u8.own2 (Zb (Zf c5 n1.below.size) n7.below) n7.blk Do) a2 Do
  exact xec 4 d0 (.tuple #[.agg #[V0 (Qy l),.bool (Yj l),.slice kp (Xb l) kc,.slice vp (Xb l) vc],V0 0]) (.inr ⟨by unfold Kk;rw[if_pos hz,if_pos M0],_,_,_,_,rfl,b8,c3,a9⟩)
 have a5:=Vj a5
 refine xlv 12 k8.rp ?_
 have a3:=u8.blk (k1.below n7.below) a0
 refine xsv 1 a3 [V0 (Qy l),.bool (Yj l),.slice kp (Xb l) kc,.slice vp (Xb l) vc] fun d2 b6 c9=>?_
 have g1:=n1.ge (B4 w)
 have b5:=b6.below (u8.below (bln a1 n7.below) g7) g1
 have b4:=b6.own2 (u8.own2 (Zb (Zf hk n1.below.size) n7.below) n7.blk Do) a3 Do
 have a8:=b6.own2 (u8.own2 (Zb (Zf c5 n1.below.size) n7.below) n7.blk Do) a3 Do
 exact xec 4 c9 (.tuple #[.agg #[V0 (Qy l),.bool (Yj l),.slice kp (Xb l) kc,.slice vp (Xb l) vc],V0 0]) (.inr ⟨by unfold Kk;rw[if_pos hz,if_pos M0],_,_,_,_,rfl,b5,b4,a8⟩)
theorem readNode(B b:Nat)(p:O0)(n c:Nat)(l:Bl)(no tree:Int)(w:World)(hI:ImgR B b p n c l w)(bt:Nat)(kt:Blk w bt [V0 tree] 3) :
 C0 201 #[P0 b,V0 no,V0 2,.func (.func 202) #[] #[P0 bt]] w (Zmv l no tree w):=by
 refine zin 56 Tryz.func201 ?_
 refine xa 2 [V0 0,.bool false,S0,S0] 181 fun b1 W1 n1=>?_
 refine xa 5 [V0 0,.bool false,S0,S0] 181 fun b2 W2 n2=>?_
 have i1:=n2.ne n1.blk
 have hB:=bln n1.below n2.below
 refine xc 6 (Co B b p n c l no _ (hI.below hB)) ?_
 rintro e W3 j2
 rcases j2 with ⟨ho,vr,rfl,a0⟩|⟨j,hk,hj,p2,c2,rfl,a0,ho⟩
 ·refine xd 16 (.t w.heap.size [181]) ?_
  refine xm2 (.b [1,2,3]) 0 4 ?_ ?_
  ·have k2:=(n2.blk.below a0).below (Za W3)
   refine xlv 0 k2.rp ?_
   refine yc (.o [] 4) (.t w.heap.size [181]) (Yc no 3 _) ?_
   rintro _ W4 ⟨_,rfl,g5,g9⟩
   refine⟨(Q3 _ g5),?_⟩
   rw[if_neg Do,if_neg Do] at g9
   have i5:=g9
   obtain⟨i8,l0,rfl,_,_⟩:=i5
   have c6:=(((n1.blk.below n2.below).below a0).below (Za W3)).below g5
   have g1:=n1.ge (B4 w)
   refine ysv (.o [] 5) c6 [V0 0,.bool false,S0,S0] (.t w.heap.size [181]) fun W5 u5 k5=>⟨(Zt u5 c6 g1 Do),?_⟩
   have f0:=u5.below (bln (bln (bln hB a0) (Za W3)) g5) g1
   have d7:=g9.upd u5 c6 Do
   refine xec (.r [6] 4) k5 (.tuple #[.agg #[V0 0,.bool false,S0,S0],.iface 188 (P0 i8)]) ?_
   have he:Yb l no tree=3:=by unfold Yb;rw[Rq hI.len ho];rfl
   exact .inl ⟨by rw[he];decide,_,rfl,f0,by rw[he];exact d7⟩
  refine yc 0 (.t w.heap.size [181]) (Yc no 3 _) ?_
  rintro _ W6 ⟨_,rfl,e5,h6⟩
  refine⟨(Q3 _ e5),?_⟩
  rw[if_neg Do,if_neg Do] at h6
  have j4:=h6
  obtain⟨j9,l8,rfl,_,_⟩:=j4
  have k2:=((n2.blk.below a0).below (Za W3)).below e5
  refine xlv (.o [] 0) k2.rp ?_
  have b4:=(((n1.blk.below n2.below).below a0).below (Za W3)).below e5
  have g1:=n1.ge (B4 w)
  refine ysv (.o [] 5) b4 [V0 0,.bool false,S0,S0] (.t w.heap.size [181]) fun W7 u7 k7=>⟨(Zt u7 b4 g1 Do),?_⟩
  have f8:=u7.below (bln (bln (bln hB a0) (Za W3)) e5) g1
  have d9:=h6.upd u7 b4 Do
  refine xec (.r [6] 4) k7 (.tuple #[.agg #[V0 0,.bool false,S0,S0],.iface 188 (P0 j9)]) ?_
  have he:Yb l no tree=3:=by unfold Yb;rw[Rq hI.len ho];rfl
  exact .inl ⟨by rw[he];decide,_,rfl,f8,by rw[he];exact d9⟩
 have k3:=(bln n1.below n2.below).size
 have j6:j<l.length/256:=by rw[hI.len];exact hj
 have h9:=Jj j6
 have e0:=Zc8 (l:=l) (kind:=2) hI.len hk hj
 have f6:=Zf ho k3
 refine xc 22 (Se 2 no p2 256 c2 (Vv l j) _ h9 (Vc (Zg f6) h9)) ?_
 rintro e W8 j7
 rcases j7 with ⟨hs,rfl,a2⟩|⟨hs,p3,c3,rfl,a2,h3⟩
 ·refine xk 14 (show(((Qv 2 no (Vv l j)) != (0:Int)):Bool)=true from bne_iff_ne.2 hs) ?_
  refine xd 1 (.t w.heap.size [181]) ?_
  refine xm2 (.b [1,2,3]) 0 4 ?_ ?_
  ·have k2:=((n2.blk.below a0).below a2).below (Za W8)
   refine xlv 0 k2.rp ?_
   refine yc (.o [] 4) (.t w.heap.size [181]) (Yc no (Qv 2 no (Vv l j)) _) ?_
   rintro _ W9 ⟨_,rfl,h0,g8⟩
   refine⟨(Q3 _ h0),?_⟩
   rw[if_neg hs,if_neg hs] at g8
   have j1:=g8
   obtain⟨k4,m6,rfl,_,_⟩:=j1
   have b6:=((((n1.blk.below n2.below).below a0).below a2).below (Za W8)).below h0
   have g1:=n1.ge (B4 w)
   refine ysv (.o [] 5) b6 [V0 0,.bool false,S0,S0] (.t w.heap.size [181]) fun l9 f3 k0=>⟨(Zt f3 b6 g1 Do),?_⟩
   have h4:=f3.below (bln (bln (bln (bln hB a0) a2) (Za W8)) h0) g1
   have e1:=g8.upd f3 b6 Do
   refine xec (.r [6] 4) k0 (.tuple #[.agg #[V0 0,.bool false,S0,S0],.iface 188 (P0 k4)]) ?_
   have he:Yb l no tree=Qv 2 no (Vv l j):=by unfold Yb;rw[e0,if_neg hs]
   exact .inl ⟨by rw[he];exact hs,_,rfl,h4,by rw[he];exact e1⟩
  refine yc 0 (.t w.heap.size [181]) (Yc no (Qv 2 no (Vv l j)) _) ?_
  rintro _ l7 ⟨_,rfl,a9,c5⟩
  refine⟨(Q3 _ a9),?_⟩
  rw[if_neg hs,if_neg hs] at c5
  have f4:=c5
  obtain⟨g0,i3,rfl,_,_⟩:=f4
  have k2:=(((n2.blk.below a0).below a2).below (Za W8)).below a9
  refine xlv (.o [] 0) k2.rp ?_
  have c0:=((((n1.blk.below n2.below).below a0).below a2).below (Za W8)).below a9
  have g1:=n1.ge (B4 w)
  refine ysv (.o [] 5) c0 [V0 0,.bool false,S0,S0] (.t w.heap.size [181]) fun l3 f1 j3=>⟨(Zt f1 c0 g1 Do),?_⟩
  have g7:=f1.below (bln (bln (bln (bln hB a0) a2) (Za W8)) a9) g1
  have b3:=c5.upd f1 c0 Do
  refine xec (.r [6] 4) j3 (.tuple #[.agg #[V0 0,.bool false,S0,S0],.iface 188 (P0 g0)]) ?_
  have he:Yb l no tree=Qv 2 no (Vv l j):=by unfold Yb;rw[e0,if_neg hs]
  exact .inl ⟨by rw[he];exact hs,_,rfl,g7,by rw[he];exact b3⟩
 have j8:=(bln hB a0).size
 have d5:=Zf h3 j8
 have i6:((Vv l j).drop 8).take 244=inB l no:=(Zdy hk).symm
 have h8:=Zfq hI.len hk hj
 rw[i6] at d5
 have d0:=bln (bln hB a0) a2
 refine xc 21 (node_1 tree bt p3 c3 (inB l no) _ (kt.below d0) h8 (Vc (Zg d5) h8)) ?_
 rintro e l2 h7
 rcases h7 with ⟨hz,a5,b5,kp,m1,kc,vp,m2,vc,rfl,a1⟩|⟨hz,kp,kc,vp,vc,rfl,a1,hk,k6⟩
 ·refine xa 3 [V0 0,.bool false,S0,S0] 181 fun m0 m4 a6=>?_
  have b9:=(((n1.blk.below n2.below).below a0).below a2).below a1
  have a4:=a6.ne b9
  have k2:=((n2.blk.below a0).below a2).below a1
  have a3:=a6.ne k2
  have b8:=bln d0 a1
  have i0:=a6.ge b8
  refine xsv 0 a6.blk [V0 a5,.bool b5,.slice kp m1 kc,.slice vp m2 vc] fun d4 d3 l1=>?_
  refine xk 10 (show(((Kk (inB l no) tree) != (0:Int)):Bool)=true from bne_iff_ne.2 hz) ?_
  refine xd 1 (.t w.heap.size [181]) ?_
  refine xm2 (.b [1,2,3]) 0 4 ?_ ?_
  ·have h2:=(d3.blk (k2.below a6.below) a3).below (Za d4)
   refine xlv 0 h2.rp ?_
   refine yc (.o [] 4) (.t w.heap.size [181]) (Yc no (Kk (inB l no) tree) _) ?_
   rintro _ k8 ⟨_,rfl,c9,c7⟩
   refine⟨(Q3 _ c9),?_⟩
   rw[if_neg hz,if_neg hz] at c7
   have e8:=c7
   obtain⟨g3,i9,rfl,_,_⟩:=e8
   have c4:=((d3.blk (b9.below a6.below) a4).below (Za d4)).below c9
   have g1:=n1.ge (B4 w)
   refine ysv (.o [] 5) c4 [V0 0,.bool false,S0,S0] (.t w.heap.size [181]) fun m3 e9 k1=>⟨(Zt e9 c4 g1 Do),?_⟩
   have g2:=e9.below (bln (bln (d3.below (bln b8 a6.below) i0) (Za d4)) c9) g1
   have c8:=c7.upd e9 c4 Do
   refine xec (.r [6] 4) k1 (.tuple #[.agg #[V0 0,.bool false,S0,S0],.iface 188 (P0 g3)]) ?_
   have he:Yb l no tree=Kk (inB l no) tree:=by unfold Yb;rw[e0,if_pos hs]
   exact .inl ⟨by rw[he];exact hz,_,rfl,g2,by rw[he];exact c8⟩
  refine yc 0 (.t w.heap.size [181]) (Yc no (Kk (inB l no) tree) _) ?_
  rintro _ k9 ⟨_,rfl,a8,b0⟩
  refine⟨(Q3 _ a8),?_⟩
  rw[if_neg hz,if_neg hz] at b0
  have f9:=b0
  obtain⟨g6,i2,rfl,_,_⟩:=f9
  have h1:=((d3.blk (k2.below a6.below) a3).below (Za d4)).below a8
  refine xlv (.o [] 0) h1.rp ?_
  have d1:=((d3.blk (b9.below a6.below) a4).below (Za d4)).below a8
  have g1:=n1.ge (B4 w)
  refine ysv (.o [] 5) d1 [V0 0,.bool false,S0,S0] (.t w.heap.size [181]) fun l4 f7 i7=>⟨(Zt f7 d1 g1 Do),?_⟩
  have h5:=f7.below (bln (bln (d3.below (bln b8 a6.below) i0) (Za d4)) a8) g1
  have d2:=b0.upd f7 d1 Do
  refine xec (.r [6] 4) i7 (.tuple #[.agg #[V0 0,.bool false,S0,S0],.iface 188 (P0 g6)]) ?_
  have he:Yb l no tree=Kk (inB l no) tree:=by unfold Yb;rw[e0,if_pos hs]
  exact .inl ⟨by rw[he];exact hz,_,rfl,h5,by rw[he];exact d2⟩
 have e3:=(bln (bln hB a0) a2).size
 refine xa 3 [V0 0,.bool false,S0,S0] 181 fun m5 l6 a7=>?_
 have d8:=(((n1.blk.below n2.below).below a0).below a2).below a1
 have b7:=a7.ne d8
 have k2:=((n2.blk.below a0).below a2).below a1
 have e7:=a7.ne k2
 have e2:=bln d0 a1
 have j5:=a7.ge e2
 refine xsv 0 a7.blk [V0 (Qy (inB l no)),.bool (Yj (inB l no)),.slice kp (Xb (inB l no)) kc,.slice vp (Xb (inB l no)) vc] fun m7 e6 j0=>?_
 refine xlv 15 j0.rp ?_
 have c1:=e6.blk (d8.below a7.below) b7
 refine xsv 0 c1 [V0 (Qy (inB l no)),.bool (Yj (inB l no)),.slice kp (Xb (inB l no)) kc,.slice vp (Xb (inB l no)) vc] fun l5 f5 i4=>?_
 have g1:=n1.ge (B4 w)
 have e4:=f5.below (e6.below (bln e2 a7.below) j5) g1
 have f2:=f5.own2 (e6.own2 (Zb (Zf hk e3) a7.below) a7.blk Do) c1 Do
 have d6:=f5.own2 (e6.own2 (Zb (Zf k6 e3) a7.below) a7.blk Do) c1 Do
 exact xec 4 i4 (.tuple #[.agg #[V0 (Qy (inB l no)),.bool (Yj (inB l no)),.slice kp (Xb (inB l no)) kc,.slice vp (Xb (inB l no)) vc],.nilIface]) (.inr ⟨by unfold Yb;rw[e0,if_pos hs,hz],_,_,_,_,rfl,e4,f2,d6⟩)
theorem Sa(B b:Nat)(p:O0)(n c:Nat)(l:Bl)(no tree:Int)(w:World)(hI:ImgR B b p n c l w) :
 C0 134 #[P0 b,V0 no,V0 tree] w (Zmv l no tree w):=by
 refine zin 14 Tryz.func134 ?_
 refine xa 2 [V0 tree] 3 fun b1 W1 n1=>?_
 refine xa 0 [V0 0,.bool false,S0,S0] 181 fun b2 W2 n2=>?_
 have hB:=bln n1.below n2.below
 have k1:=n1.blk.below n2.below
 refine xc 8 (readNode B b p n c l no tree _ (hI.below hB) b1 k1) ?_
 rintro e W3 a7
 rcases a7 with ⟨he,bf,rfl,a1,hv⟩|⟨he,kp,kc,vp,vc,rfl,a1,hk,a8⟩
 ·have k2:=n2.blk.below a1
  refine xsv 2 k2 [V0 0,.bool false,S0,S0] fun W4 u4 k4=>?_
  have g2:=n2.ge n1.below
  have a3:=u4.below (bln hB a1) g2
  have a4:=hv.upd u4 k2 Do
  exact xec 4 k4 (.tuple #[.agg #[V0 0,.bool false,S0,S0],.iface 188 (P0 bf)]) (.inl ⟨he,_,rfl,a3,a4⟩)
 have a6:=(bln n1.below n2.below).size
 have k2:=n2.blk.below a1
 refine xsv 2 k2 [V0 (Qy (inB l no)),.bool (Yj (inB l no)),.slice kp (Xb (inB l no)) kc,.slice vp (Xb (inB l no)) vc] fun W5 u5 k5=>?_
 have g2:=n2.ge n1.below
 have a5:=u5.below (bln hB a1) g2
 have a2:=u5.own2 (Zf hk a6) k2 Do
 have a0:=u5.own2 (Zf a8 a6) k2 Do
 exact xec 4 k5 (.tuple #[.agg #[V0 (Qy (inB l no)),.bool (Yj (inB l no)),.slice kp (Xb (inB l no)) kc,.slice vp (Xb (inB l no)) vc],.nilIface]) (.inr ⟨he,_,_,_,_,rfl,a5,a2,a0⟩)
end Go.Proofs.YtceeiinepijokaaGreatDoor
