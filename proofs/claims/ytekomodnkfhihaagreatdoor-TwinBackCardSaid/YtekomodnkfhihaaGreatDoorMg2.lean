/- errors.Is of one Errno at another, as a contract. -/
import Derived.Deep.MidRow
import Derived.Lib.BufferWrite
import Derived.Lib.AppendStr
import Derived.Laws.IdiomStrings
import Derived.Test.YtekomodnkfhihaaGreatDoorMg1
namespace Go.Proofs.YtekomodnkfhihaaGreatDoor
set_option maxHeartbeats 8000000
open Prod (fst)
open List (range replicate getD)
set_option maxRecDepth 100000
set_option linter.unusedVariables false
section
open Go.RowKit Go.Extern.Stop Go.Stop Go.Extern
theorem errno_eq{P:V4}(w:V1){ti tn:V3}{ms:Array (String×V3)}{i:TypeInfo}{k:IntKind}(a b:Int)
 (hi:P.underlying ti=some (.interface ms)) (hn:P.underlying tn=some (.int k)) (hinfo:P.info? tn=some i) (hcomp:i.comparable=true) :
 (binOp .eql ti (.iface tn (.int k a)) (.iface tn (.int k b))).run P w=.ok (.bool (a==b)) w:=by
 have h:∀ d:Nat,(Op.equalIn (d+2) ti (.iface tn (.int k a)) (.iface tn (.int k b))).run P w=.ok (a==b) w:=fun d=>by simp[Op.equalIn,run_underlying hi,run_underlying hn,typeInfo,hinfo,hcomp]
 simp only[binOp]
 simp[Op.equal,Op.maxDepth,h 9998]
theorem Tryz.k3(a b:Int)(w:V1):(binOp .eql 39 (.iface 33 (V0 a)) (.iface 33 (V0 b))).run Tryz.prog w=.ok (.bool (a==b)) w:=by
 obtain⟨i,h1,h2⟩:=Option.map_eq_some_iff.1 (show(Tryz.prog.info? 33).map (·.comparable)=some true by kernel_rfl);exact errno_eq w a b Tryz.underlying39 Tryz.underlying33 h1 h2
theorem X6 (h : V2) (w : V1) : (Go.method 523 311 (.agg #[h]) "Comparable").run Tryz.prog w = .ok (317, .agg #[h]) w := by kernel_rfl
theorem Tryz.c4(w:V1):(callFunc 317 #[.agg #[.pointer (some ⟨4,33,none⟩)]]).run Tryz.prog w=.ok (Next.value (.bool true)) w:=K0
theorem Zpm(c d:Int)(w:V1):C0 225 #[.iface 33 (V0 c),.iface 33 (V0 d),.bool true] w (Ret (.bool (c==d)) w):=by
 have y1:=Tryz.k3;have y2:=Tryz.i2;have y3:=Tryz.e0;have y4:=Tryz.c8;go_enter Tryz.func225,Tryz.ntmps225;go_wp2_with fail;go_loopw [0] (fun v wr=>v=.iface 33 (V0 c)∧wr=w) (fun _ _=>0);case atStart=>exact⟨rfl,rfl⟩
 case round =>
  obtain⟨rfl,rfl⟩:=hrel
  by_cases h:c=d
  ·have h':(c==d)=true:=by simpa using h
   clear h
   go_wp2_with fail
   go_ret
   exact⟨by rw[h'];rfl,U3 _ _⟩
  ·have h':(c==d)=false:=by simpa using h
   clear h
   go_wp2_with fail
   go_ret
   exact⟨by rw[h'];rfl,U3 _ _⟩
theorem Zdr(c d:Int)(w:V1):C0 169 #[.iface 33 (V0 c),.iface 33 (V0 d)] w (Ret (.bool (c==d)) w):=by
 have a0:=@run_callFunc_extern Tryz.prog 208 _ ReflectliteType.typeOf Tryz.func208 K0 K0 K0 K0;have y1:=X7;have y2:=X6;have y3:=Tryz.c4;go_enter Tryz.func169,Tryz.ntmps169;go_wp2_with fail;refine(Zpm c d _).mono ?_;rintro e w' ⟨rfl,hb⟩;go_wp2_with fail;go_ret;exact⟨rfl,hb⟩
theorem Ya(no c:Int)(w:V1):C0 100 #[V0 no,.iface 33 (V0 c)] w (Kd (fun w' r=>Kx w' (if c=0 then [] else [some no]) (if c=0 then none else some c) r) w):=by
 by_cases h:c=0
 ·subst h;go_enter Tryz.func100,Tryz.ntmps100;go_wp2_with fail;refine(Zdr 0 0 _).mono ?_;rintro e w1 ⟨rfl,hb⟩;rw[show((0:Int)==0)=true from rfl];go_wp2_with fail;go_ret;exact⟨_,rfl,hb,rfl⟩
 ·have h':(c==0)=false:=by simpa using h
  simp only[h,if_false];clear h;go_enter Tryz.func100,Tryz.ntmps100;go_wp2_with fail;refine(Zdr c 0 _).mono ?_;rintro e w1 ⟨rfl,hb⟩;rw[h'];go_wp2_with fail;refine(Vw no (some c) [] _ w1 rfl).mono ?_;rintro e w2 ⟨r,rfl,a0,h2⟩;go_wp2_with fail;go_ret;exact⟨_,rfl,bln hb a0,h2⟩
theorem Blk.range{w:V1}{b:Nat}{cs:V6 V2}{t:V3}(h:Blk w b cs t):w.rangeAt b 0 cs:=fun j v hj=>by rw[F5];exact h.cell hj
theorem Blk.there{w:V1}{b:Nat}{cs:V6 V2}{t:V3}(h:Blk w b cs t){n:Nat}(hn:n=cs.length):w.there b 0 n:=fun j hj=>by
 rw[F5];exact⟨by rw[h.cell (A9 M0)];rfl,h.frozen j⟩
section
attribute [local irreducible] wpList wpAnyH Code.wp Oper.wp Go
theorem Zx5(n k:Nat)(hn:n<9223372036854775808)(hk:0<k):IntKind.i64.wrap (Int.tdiv (n:Int) (k:Int))=((n/k:Nat):Int):=by
 rw[Int.tdiv_eq_ediv_of_nonneg (K3 _),←Int.natCast_ediv];exact Lj (I6 (O8 _ _) hn)
theorem Zot(a b:Nat):(if(b:Int)<(a:Int) then(b:Int) else(a:Int))=((min a b:Nat):Int):=by split<;>omega
theorem Hc(b:Nat)(p:O0)(n c:Nat)(w:V1)(hk:Blk w b [.slice p n c] 108)(hn:n≤100000000) :
 C0 87 #[P0 b] w (Ret (V0 ((n/256:Nat):Int)) w):=by
 refine zin 11 Tryz.func87 ?_
 refine xb 20 0 hk ?_
 refine xq 1 (congrArg V0 (show(IntKind.i64.wrap (Int.tdiv (n:Int) 256):Int)=(↑(n/256):Int) from Zx5 n 256 M0 Do)) ?_
 exact xe 4 (V0 (↑(n/256):Int)) ⟨rfl,(B4 w)⟩
theorem Oy(b g:Nat)(n c k:Nat)(w:V1)(hk:Blk w b [.slice (S3 g) n c] 108)(hn:n≤100000000)(hc:n≤c)(hkn:k<n/256) :
 C0 168 #[P0 b,V0 (k:Int)] w (Ret (.tuple #[.slice (some ⟨g,k*256,none⟩) 256 256,V0 0]) w):=by
 refine zin 33 Tryz.func168 ?_
 refine xgk 21 [13,14] (show(decide ((k:Int)<(0:Int)):Bool)=false from V9 M0) ?_
 refine xr 2 (args:=#[P0 b]) (Hc b _ n c _ (hk.i (B4 w)) hn) fun W2 a1=>?_
 refine xk 5 (show(decide ((k:Int)≥(↑(n/256):Int)):Bool)=false from V9 M0) ?_
 refine xwm 6 ((k:Int)*256) (↑(k*256):Int) ?_
 refine xwm 1 ((k:Int)+1) (↑(k+1):Int) ?_
 refine xwm 0 ((↑(k+1):Int)*256) (↑((k+1)*256):Int) ?_
 have a0:=hk.i a1
 refine xb 9 0 a0 ?_
 refine xs3 3 (fun _ _ _ _ _ _ zo zx zy zz zm V=>Zsa (k:=(k*256)) (h:=((k+1)*256)) (b:=g) (off:=0) (n:=n) (c:=c) (i:=(↑(k*256):Int)) (ki:=.i64) (j:=(↑((k+1)*256):Int)) (kj:=.i64) (j2:=(↑((k+1)*256):Int)) (kj2:=.i64) 1 (k*256) 256 zo zx zy rfl zz rfl zm rfl M0 M0 M0 M0 Tryz.underlying50 K0 V) ?_
 exact xe 5 (.tuple #[.slice (some ⟨g,(k*256),none⟩) 256 256,V0 0]) ⟨rfl,a1⟩
def WroteB(B g n c:Nat)(l:Bl)(v:V2)(w:V1)(e:V5)(w':V1):Prop :=
 e=.returned v∧Below B w w'∧Zd [5] w w'∧Fr [g] w w'∧w'.ownsRow B 5 1 (.slice (S3 g) n c) n (l.map bv)
theorem Zl8(B b g:Nat)(n c k:Nat)(l:Bl)(a:O0)(cx:Nat)(lx:Bl)(w:V1)(hk:Blk w b [.slice (S3 g) n c] 108)(ho:w.ownsRow B 5 1 (.slice (S3 g) n c) n (l.map bv))(hn:n≤100000000)(hc:n≤c)(hkn:k<n/256)(hx:Bys w (.slice a 256 cx) lx)(hlx:lx.length=256)(hBw:B≤w.heap.size) :
 C0 99 #[P0 b,V0 (k:Int),.slice a 256 cx] w (WroteB B g n c (Qj l (k*256) lx) (V0 0) w):=by
 replace hx:Sl w (.slice a 256 cx) 256 (lx.map bv):=by
  have:=hx;unfold Bys at this;rwa [hlx] at this
 refine zin 24 Tryz.func99 ?_
 refine xr 9 (Oy b g n c k _ hk hn hc hkn) fun W1 a0=>?_
 have a1:=Zb ho a0
 have a3:=hx.i a0
 have hB:=blB (U3 B w) hBw a0
 refine xbi 32 (t2:=50) fun _ _ _ _ zJ zQ zo zx zy zK=>Ct (dLen:=256) (dCap:=256) (off:=(k*256)) 256 (lx.map bv) ((Qj l (k*256) lx).map bv) zo Tryz.underlying50 K0 zx zy a3 a1 (by simpa using hlx) M0 M0 (Vq _) (N0 hBw hB.size) (by simp[Qj,hlx,I8,L9]) fun W2 o2 a4 a5=>?_
 refine zK _ _ ?_
 have a2:=hB.trans a5
 have hO:=(show Zd [5] w _ from(Q0 a0)).trans (Q4 a4 a1 Do)
 have hX:=(show Fr [g] w _ from(Q2 a0)).trans (Fr.e7 a4 Y5)
 exact xe 8 (V0 0) ⟨rfl,a2,hO,hX,o2⟩
theorem Ox(B b g:Nat)(n c k:Nat)(l:Bl)(kind:Int)(a:O0)(ca:Nat)(li:Bl)(w:V1)(hk:Blk w b [.slice (S3 g) n c] 108)(ho:w.ownsRow B 5 1 (.slice (S3 g) n c) n (l.map bv))(hn:n≤3686400)(hc:n≤c)(hkn:k<n/256)(h1:1≤kind)(h2:kind≤4)(hin:Bys w (.slice a li.length ca) li)(hl:li.length≤244)(hBw:B≤w.heap.size) :
 C0 47 #[P0 b,V0 (k:Int),V0 kind,.slice a li.length ca] w (WroteB B g n c (Qj l (k*256) (Yf kind k li)) .nilIface w):=by
 refine zin 28 Tryz.func47 ?_
 refine xc 10 (Zu2 kind k h1 h2 M0 M0 a ca li _ hl hin) ?_
 rintro _ W1 ⟨_,rfl,a1,p,c2,rfl,o⟩
 have b0:=At w.heap.size
 have a3:=hk.i a1
 have a5:=Zb ho a1
 have a7:=Zg o b0
 have hB:=blB (U3 B w) hBw a1
 refine xc 19 (Zl8 B b g n c k l p c2 (Yf kind k li) _ a3 a5 M0 hc hkn (Vr (Zf a7) (Yr hl)) (Yr hl) (N0 hBw hB.size)) ?_
 rintro _ W2 ⟨rfl,a8,a9,a6,b1⟩
 refine xc 8 (Ya k 0 _) ?_
 rintro _ W3 ⟨r,rfl,a2,hr⟩
 obtain rfl:r=.nilIface:=hr
 have a4:=blB (hB.trans a8) hBw a2
 have hO:=((show Zd [5] w _ from(Q0 a1)).trans a9).trans (Q0 a2)
 have hX:=((show Fr [g] w _ from(Q2 a1)).trans (a6.mono Y5)).trans (Q2 a2)
 have a0:=Zb b1 a2
 exact xe 4 .nilIface ⟨rfl,a4,hO,hX,a0⟩
def Zb9(f j:Nat):V6 Int:=(range j).map fun i=>((f+i:Nat):Int)
theorem Zuu(f j:Nat):Zb9 f (j+1)=Zb9 f j++[((f+j:Nat):Int)]:=by simp[Zb9,B8]
theorem Zms{f N k:Nat}(h:k<N):(Zb9 f N).getD k 0=((f+k:Nat):Int):=by simp[Zb9,getD,C1 h]
theorem Zn8(f j:Nat):(Zb9 f j).length=j:=by simp[Zb9]
structure Al(B ba b g n c:Nat)(pa:Option Addr)(ca f N k:Nat)(l:V6 UInt8)(w:V1):Prop where
 U:Blk w ba [.slice pa N ca,.int .i64 (k:Int),.pointer (some ⟨b,0,none⟩)] 169
 a7:Blk w b [.slice (some ⟨g,0,none⟩) n c] 108
 data:w.ownsRow B 5 1 (.slice (some ⟨g,0,none⟩) n c) n (l.map bv)
 a1:w.ownsRow B 3 1 (.slice pa N ca) N ((Zb9 f N).map (Value.int .i64))
structure AlC(B ba n c ca f N:Nat):Prop where
 hn:n≤3686400
 hc:n≤c
 hca:N≤ca
 hf:f+N≤n/256
 hB:B≤ba
theorem Zv9(b:Nat)(p0:O0)(n c f:Nat)(w:V1)(hk:Blk w b [.slice p0 n c] 108)(hn:n≤3686400)(h1:1≤f)(h2:f≤n/256) :
 C0 42 #[P0 b,V0 (f:Int)] w (Kd (fun w' r=>∃ ba p c2,r=.tuple #[P0 ba,.nilIface]∧w.heap.size≤ba∧Blk w' ba [.slice p (n/256-f) c2,V0 0,P0 b] 169∧w'.ownsRow w.heap.size 3 1 (.slice p (n/256-f) c2) (n/256-f) ((Zb9 f (n/256-f)).map V0)) w):=by
 refine zin 37 Tryz.func42 ?_
 refine xgk 16 [12,13,14] (show(decide ((f:Int)<(1:Int)):Bool)=false from V9 M0) ?_
 refine xr 2 (Hc b p0 n c _ hk M0) fun W2 b3=>?_
 refine xk 4 (show(decide ((f:Int)>(↑(n/256):Int)):Bool)=false from V9 M0) ?_
 have a7:=hk.i b3
 refine zl 15 37 (fun zm b7 V=>∃ (j:Nat) (p:O0) (c2:Nat),b7=[(0,P0 b),(4,.pointer none),(5,.nilIface),(6,.slice p j c2),(7,V0 (↑(f+j):Int))]∧zm=n/256-((↑(f+j):Int)).toNat∧B3 w V∧Blk V b ([.slice p0 n c]) 108∧V.ownsRow w.heap.size 3 1 (.slice p j c2) j ((Zb9 f j).map V0)∧f+j≤n/256) ⟨0,_,_,rfl,rfl,b3,a7,A8 _ _ _ _,M0⟩ ?_
 rintro _ _ W3 ⟨j,p,c2,rfl,rfl,a2,a3,ho,hj⟩ J3 b5 r3
 refine xr 5 (Hc b p0 n c _ a3 M0) fun W4 a5=>?_
 refine xid 3 ((↑(f+j):Int)<(↑(n/256):Int)) (fun b9=>?_) (fun b9=>?_)
 ·refine xbs 7 1 [V0 (↑(f+j):Int)] 3 fun b6 W6 n6=>?_
  have a9:=bln a2 a5
  have b0:=Zb ho a5
  have a4:=Zb b0 n6.i
  have a1:=bln a9 n6.i
  refine xbi 0 fun _ _ _ _ zJ zQ zo zx zy zK=>Xd (m:=1) (news:=[V0 (↑(f+j):Int)]) (V0 0) 1 8 (j+1) ((Zb9 f (j+1)).map V0) zo Tryz.underlying27 K0 rfl Do zx a4 zy (n6.blk.sl 1 1 Do Do) rfl Y4 Y2 M0 a1.size Y6 (by rw[Zuu];simp) fun c1 c3 W7 o7 c0 b4=>?_
  refine zK _ _ ?_
  refine xwm 6 ((↑(f+j):Int)+1) (↑((f+j)+1):Int) ?_
  have b2:=a1.trans b4
  have a0:=((a3.i a5).i n6.i).grown c0 a4 Do
  exact ze 2 (b5 _ _ _ ⟨j+1,_,_,rfl,rfl,b2,a0,o7,M0⟩ M0)
 refine xa 11 [.slice p j c2,V0 0,P0 b] 169 fun b8 W8 n8=>?_
 have a6:=bln a2 a5
 have g8:=n8.ge a6
 have b1:=bln a6 n8.i
 have a8:=Zb (Zb ho a5) n8.i
 refine xe 5 (.tuple #[P0 b8,.nilIface]) ?_
 obtain rfl:j=n/256-f:=M0
 exact⟨_,rfl,b1,_,_,_,rfl,g8,n8.blk,a8⟩
theorem Ul(ba b:Nat)(v x:V2)(w:V1)(hk:Blk w ba [v,x,P0 b] 169) :
 C0 157 #[P0 ba] w (Ret (.bool false) w):=by
 refine zin 12 Tryz.func157 ?_
 refine xb 13 2 hk ?_
 exact xe 6 (.bool false) ⟨rfl,(B4 w)⟩
theorem Zc6(ba:Nat)(p:O0)(N c k:Nat)(m:V2)(w:V1)(hk:Blk w ba [.slice p N c,V0 (k:Int),m] 169)(h1:k≤N) :
 C0 218 #[P0 ba] w (Ret (.slice (Li p k c 1) (N-k) (c-k)) w):=by
 refine zin 12 Tryz.func218 ?_
 refine xd 6 .z ?_
 have a0:=hk.i (Za w)
 refine xb (.e [0,1,2] 3) 0 a0 ?_
 refine xb (.e [4,5,6] 7) 1 a0 ?_
 refine xsL (.e [] 8) (fun _ _ _ _ zo zx zy V=>Wv (k:=k) (b:=p) (n:=N) (c:=c) (i:=(k:Int)) (ki:=.i64) 1 zo zx zy rfl M0 Tryz.underlying27 K0 V) ?_
 have hB:=(Za w)
 exact xe (.r [9] 3) (.slice (Li p k c 1) (N-k) (c-k)) ⟨rfl,hB⟩
theorem Rp(ba b:Nat)(p:O0)(N c k:Nat)(w:V1)(hk:Blk w ba [.slice p N c,V0 (k:Int),P0 b] 169)(h1:k≤N) :
 C0 153 #[P0 ba] w (Ret (V0 ((N-k:Nat):Int)) w):=by
 refine zin 10 Tryz.func153 ?_
 refine xr 9 (args:=#[P0 ba]) (Ul ba b _ _ _ hk) fun W1 a1=>?_
 have a0:=hk.i a1
 refine xr 10 (args:=#[P0 ba]) (Zc6 ba p N c k _ _ a0 h1) fun W2 a2=>?_
 have hB:=bln a1 a2
 exact xe 5 (V0 (↑(N-k):Int)) ⟨rfl,hB⟩
theorem Zsv(ba b:Nat)(v:V2)(k:Nat)(w:V1)(hk:Blk w ba [v,V0 (k:Int),P0 b] 169) :
 C0 93 #[P0 ba] w (Ret (V0 (k:Int)) w):=by
 refine zin 10 Tryz.func93 ?_
 refine xr 9 (args:=#[P0 ba]) (Ul ba b _ _ _ hk) fun W1 a1=>?_
 have a0:=hk.i a1
 refine xb 11 1 a0 ?_
 exact xe 4 (V0 (k:Int)) ⟨rfl,a1⟩
def Took(B ba:Nat)(p:O0)(N c k:Nat)(m:V2)(L:V6 Int)(v:V2)(w:V1)(e:V5)(w':V1):Prop :=
 e=.returned v∧Below B w w'∧Zd [169] w w'∧Fr [ba] w w'∧Blk w' ba [.slice p N c,V0 ((k+1:Nat):Int),m] 169∧w'.ownsRow B 3 1 (.slice p N c) N (L.map V0)
theorem IntsN.elem{w:V1}{b:O0}{n c:Nat}{l:V6 Int}(h:Sl w (.slice b n c) n (l.map V0))(hl:l.length=n){k:Nat}(hk:k<n):b.isSome=true∧w.cell? (Zx b (k*1))=some (V0 (l.getD k 0)):=by
 subst hl;exact Ints.elem h hk
theorem Zo9(B ba:Nat)(p:O0)(N c k:Nat)(L:V6 Int)(hL:L.length=N)(m:V2)(w:V1)(hk:Blk w ba [.slice p N c,V0 (k:Int),m] 169)(ho:w.ownsRow B 3 1 (.slice p N c) N (L.map V0))(hB0:B≤ba)(hBw:B≤w.heap.size)(hN:N≤1000000)(hkN:k<N) :
 C0 263 #[P0 ba] w (Took B ba p N c k m L (.tuple #[V0 (L.getD k 0),.bool true]) w):=by
 refine zin 32 Tryz.func263 ?_
 refine xd 8 .z ?_
 have a0:=hk.i (Za w)
 refine xb (.e [0,1,2] 3) 1 a0 ?_
 refine xb (.e [4,5,6] 7) 0 a0 ?_
 refine xk (.r [8,9] 2) (show(decide ((k:Int)≥(N:Int)):Bool)=false from V9 M0) ?_
 refine xb 7 1 a0 ?_
 refine xwm 0 ((k:Int)+1) (↑(k+1):Int) ?_
 refine xs 2 a0 [.slice p N c,V0 (↑(k+1):Int),m] fun W1 u1 k1=>?_
 refine xd 3 .z ?_
 have a2:=k1.i (Za W1)
 refine xb (.e [0,1,2] 3) 0 a2 ?_
 refine xb (.e [4,5,6] 7) 1 a2 ?_
 refine xwm (.e [] 8) ((↑(k+1):Int)-1) (k:Int) ?_
 have a1:=Zb (u1.j (Zb ho (Za w)) a0 Do) (Za W1)
 refine xx (.e [] 9) _ N k 1 (IntsN.elem (Zf a1) hL (k:=k) M0).1 ?_
 refine xl (.e [] 10) ((IntsN.elem (Zf a1) hL (k:=k) M0).2) ?_
 have hB:=blB (u1.i (blB (U3 B w) hBw (Za w)) hB0) hBw (Za W1)
 have hO:=((show Zd [169] w _ from(Q0 (Za w))).trans (Q1 u1 a0 Do)).trans (Q0 (Za W1))
 have hX:=((show Fr [ba] w _ from(Q2 (Za w))).trans (X2 u1 Y5)).trans (Q2 (Za W1))
 exact xe (.r [11,12] 3) (.tuple #[V0 (L.getD k 0),.bool true]) ⟨rfl,hB,hO,hX,a2,a1⟩
theorem Zsy(B ba:Nat)(p:O0)(N c k:Nat)(L:V6 Int)(hL:L.length=N)(b q:Nat)(hq:L.getD k 0=(q:Int))(w:V1)(hk:Blk w ba [.slice p N c,V0 (k:Int),P0 b] 169)(ho:w.ownsRow B 3 1 (.slice p N c) N (L.map V0))(hB0:B≤ba)(hBw:B≤w.heap.size)(hN:N≤1000000)(hkN:k<N) :
 C0 220 #[P0 ba] w (Took B ba p N c k (P0 b) L (.tuple #[V0 (q:Int),.nilIface]) w):=by
 refine zin 20 Tryz.func220 ?_
 refine xr 10 (args:=#[P0 ba]) (Ul ba b _ _ _ hk) fun W1 a0=>?_
 have a1:=hk.i a0
 have a3:=Zb ho a0
 have hB:=blB (U3 B w) hBw a0
 refine xc 10 (args:=#[P0 ba]) (Zo9 B ba p N c k L hL _ _ a1 a3 hB0 (N0 hBw hB.size) hN hkN) ?_
 rintro _ W2 ⟨rfl,a5,a6,a4,kA,ho⟩
 rw[hq]
 have a2:=hB.trans a5
 have hO:=(show Zd [169] w _ from(Q0 a0)).trans a6
 have hX:=(show Fr [ba] w _ from(Q2 a0)).trans (a4.mono Y5)
 exact xe 25 (.tuple #[V0 (q:Int),.nilIface]) ⟨rfl,a2,hO,hX,kA,ho⟩
def Laid(B ba b g n c:Nat)(pa:O0)(ca f N k:Nat)(l:Bl)(kind:Int)(li:Bl)(w:V1)(e:V5)(w':V1):Prop :=
 e=.returned (.tuple #[V0 ((f+k:Nat):Int),.nilIface])∧Below B w w'∧Zd [169,5] w w'∧Fr [ba,g] w w'∧Al B ba b g n c pa ca f N (k+1) (Qj l ((f+k)*256) (Yf kind ((f+k:Nat):Int) li)) w'
theorem Zd.mono{T T':V6 V3}{w w':V1}(h:Zd T w w')(hT:∀ t,T'.contains t=false→T.contains t=false):Zd T' w w':=fun k cs t fr hk ht=>h k cs t fr hk (hT t ht)
theorem only_aa{w w':V1}(h:Zd [169] w w'):Zd [169,5] w w':=h.mono fun t ht=>by simp at ht ⊢;exact ht.1
theorem only_ab{w w':V1}(h:Zd [5] w w'):Zd [169,5] w w':=h.mono fun t ht=>by simp at ht ⊢;exact ht.2
theorem Zvc(B ba b g n c:Nat)(p:O0)(ca f N k:Nat)(l:Bl)(kind:Int)(a:O0)(ci:Nat)(li:Bl)(w:V1)(hC:AlC B ba n c ca f N)(hA:Al B ba b g n c p ca f N k l w)(hkN:k<N)(h1:1≤kind)(h2:kind≤4)(hin:∀ W,Below B w W→Zd [169] w W→Bys W (.slice a li.length ci) li)(hl:li.length≤244)(hBw:B≤w.heap.size) :
 C0 161 #[P0 ba,V0 kind,.slice a li.length ci] w (Laid B ba b g n c p ca f N k l kind li w):=by
 obtain⟨hk,hi,hd,ho⟩:=hA
 refine zin 35 Tryz.func161 ?_
 refine xc 9 (args:=#[P0 ba]) (Zsy B ba p N ca k (Zb9 f N) (Zn8 f N) b (f+k) (Zms hkN) _ hk ho hC.hB (N0 hBw (U3 B _).size) (by have:=hC.hf;have:=hC.hn;omega) hkN) ?_
 rintro _ W1 ⟨rfl,a4,a1,b1,kA,ho⟩
 replace hin:=hin _ a4 a1
 refine xb 23 2 kA ?_
 have a0:=hi.q a1 Do
 have a6:=Zi hd a1 Do
 refine xc 3 (Ox B b g n c (f+k) l kind a ci li _ a0 a6 hC.hn hC.hc (by have:=hC.hf;omega) h1 h2 hin hl (N0 hBw a4.size)) ?_
 rintro _ W2 ⟨rfl,b0,a2,a9,hd⟩
 have a5:=a4.trans b0
 have hO:=(show Zd [169,5] w _ from(only_aa a1)).trans (only_ab a2)
 have hX:=(show Fr [ba,g] w _ from(b1.mono Y5)).trans (a9.mono Y5)
 have a3:=kA.q a2 Do
 have a8:=a0.q a2 Do
 have a7:=Zi ho a2 Do
 exact xe 20 (.tuple #[V0 (↑(f+k):Int),.nilIface]) ⟨rfl,a5,hO,hX,a3,a8,hd,a7⟩
theorem Th(w:V1) :
 C0 145 #[V0 1,.bool true] w (Ret (V0 4) w):=by
 refine zin 31 Tryz.func145 ?_
 exact xe 94 (V0 4) ⟨rfl,(B4 w)⟩
theorem Zr9(w:V1) :
 C0 85 #[V0 1,.bool true] w (Ret (V0 18) w):=by
 refine zin 16 Tryz.func85 ?_
 refine xr 9 (Th _) fun W1 a0=>?_
 exact xe 24 (V0 18) ⟨rfl,a0⟩
theorem Ts(w:V1) :
 C0 145 #[V0 1,.bool false] w (Ret (V0 4) w):=by
 refine zin 31 Tryz.func145 ?_
 exact xe 41 (V0 4) ⟨rfl,(B4 w)⟩
theorem Zqt(w:V1) :
 C0 85 #[V0 1,.bool false] w (Ret (V0 18) w):=by
 refine zin 16 Tryz.func85 ?_
 refine xr 9 (Ts _) fun W1 a0=>?_
 exact xe 24 (V0 18) ⟨rfl,a0⟩
theorem Su(w:V1) :
 C0 145 #[V0 2,.bool true] w (Ret (V0 8) w):=by
 refine zin 31 Tryz.func145 ?_
 exact xe 101 (V0 8) ⟨rfl,(B4 w)⟩
theorem Zsz(w:V1) :
 C0 85 #[V0 2,.bool true] w (Ret (V0 12) w):=by
 refine zin 16 Tryz.func85 ?_
 refine xr 9 (Su _) fun W1 a0=>?_
 exact xe 24 (V0 12) ⟨rfl,a0⟩
theorem Sz(w:V1) :
 C0 145 #[V0 2,.bool false] w (Ret (V0 4) w):=by
 refine zin 31 Tryz.func145 ?_
 exact xe 41 (V0 4) ⟨rfl,(B4 w)⟩
theorem Zr1(w:V1) :
 C0 85 #[V0 2,.bool false] w (Ret (V0 18) w):=by
 refine zin 16 Tryz.func85 ?_
 refine xr 9 (Sz _) fun W1 a0=>?_
 exact xe 24 (V0 18) ⟨rfl,a0⟩
theorem Tm(w:V1) :
 C0 145 #[V0 3,.bool true] w (Ret (V0 24) w):=by
 refine zin 31 Tryz.func145 ?_
 exact xe 93 (V0 24) ⟨rfl,(B4 w)⟩
theorem Zqk(w:V1) :
 C0 85 #[V0 3,.bool true] w (Ret (V0 6) w):=by
 refine zin 16 Tryz.func85 ?_
 refine xr 9 (Tm _) fun W1 a0=>?_
 exact xe 24 (V0 6) ⟨rfl,a0⟩
theorem Tj(w:V1) :
 C0 145 #[V0 3,.bool false] w (Ret (V0 4) w):=by
 refine zin 31 Tryz.func145 ?_
 exact xe 41 (V0 4) ⟨rfl,(B4 w)⟩
theorem Zpn(w:V1) :
 C0 85 #[V0 3,.bool false] w (Ret (V0 18) w):=by
 refine zin 16 Tryz.func85 ?_
 refine xr 9 (Tj _) fun W1 a0=>?_
 exact xe 24 (V0 18) ⟨rfl,a0⟩
theorem Tk(w:V1) :
 C0 145 #[V0 4,.bool true] w (Ret (V0 16) w):=by
 refine zin 31 Tryz.func145 ?_
 exact xe 98 (V0 16) ⟨rfl,(B4 w)⟩
theorem Zss(w:V1) :
 C0 85 #[V0 4,.bool true] w (Ret (V0 9) w):=by
 refine zin 16 Tryz.func85 ?_
 refine xr 9 (Tk _) fun W1 a0=>?_
 exact xe 24 (V0 9) ⟨rfl,a0⟩
theorem Ss(w:V1) :
 C0 145 #[V0 4,.bool false] w (Ret (V0 4) w):=by
 refine zin 31 Tryz.func145 ?_
 exact xe 41 (V0 4) ⟨rfl,(B4 w)⟩
theorem Zrw(w:V1) :
 C0 85 #[V0 4,.bool false] w (Ret (V0 18) w):=by
 refine zin 16 Tryz.func85 ?_
 refine xr 9 (Ss _) fun W1 a0=>?_
 exact xe 24 (V0 18) ⟨rfl,a0⟩
theorem Tp(w:V1) :
 C0 145 #[V0 5,.bool true] w (Ret (V0 4) w):=by
 refine zin 31 Tryz.func145 ?_
 exact xe 94 (V0 4) ⟨rfl,(B4 w)⟩
theorem Zsn(w:V1) :
 C0 85 #[V0 5,.bool true] w (Ret (V0 18) w):=by
 refine zin 16 Tryz.func85 ?_
 refine xr 9 (Tp _) fun W1 a0=>?_
 exact xe 24 (V0 18) ⟨rfl,a0⟩
theorem Tn(w:V1) :
 C0 145 #[V0 5,.bool false] w (Ret (V0 4) w):=by
 refine zin 31 Tryz.func145 ?_
 exact xe 41 (V0 4) ⟨rfl,(B4 w)⟩
theorem Zqv(w:V1) :
 C0 85 #[V0 5,.bool false] w (Ret (V0 18) w):=by
 refine zin 16 Tryz.func85 ?_
 refine xr 9 (Tn _) fun W1 a0=>?_
 exact xe 24 (V0 18) ⟨rfl,a0⟩
def Jl(t:Int)(dx:Bool):Nat:=if dx=false then 4 else if t=2 then 8 else if t=3 then 24 else if t=4 then 16 else 4
def Jj(t:Int)(dx:Bool):Nat:=if dx=false then 18 else if t=2 then 12 else if t=3 then 6 else if t=4 then 9 else 18
theorem Zdg(t:Int)(dx:Bool)(h1:1≤t)(h2:t≤5)(w:V1):C0 145 #[V0 t,.bool dx] w (Ret (V0 (Jl t dx:Int)) w):=by
 obtain rfl|rfl|rfl|rfl|rfl:t=1∨t=2∨t=3∨t=4∨t=5:=M0;all_goals cases dx
 ·exact Ts w
 ·exact Th w
 ·exact Sz w
 ·exact Su w
 ·exact Tj w
 ·exact Tm w
 ·exact Ss w
 ·exact Tk w
 ·exact Tn w
 ·exact Tp w
theorem Au(t:Int)(dx:Bool)(h1:1≤t)(h2:t≤5)(w:V1):C0 85 #[V0 t,.bool dx] w (Ret (V0 (Jj t dx:Int)) w):=by
 obtain rfl|rfl|rfl|rfl|rfl:t=1∨t=2∨t=3∨t=4∨t=5:=M0;all_goals cases dx
 ·exact Zqt w
 ·exact Zr9 w
 ·exact Zr1 w
 ·exact Zsz w
 ·exact Zpn w
 ·exact Zqk w
 ·exact Zrw w
 ·exact Zss w
 ·exact Zqv w
 ·exact Zsn w
theorem Qc(t:Int)(dx:Bool):1≤Jj t dx∧Jj t dx≤18:=by
 unfold Jj;repeat' split
 all_goals decide
theorem run_quo{P:V4}{a:Act}{o:Oper}{t:V3}{x y:Operand}{t2:V3}{p q r:Int}{k:IntKind}(ho:o.op=.binOp .quo t x y t2)(hx:a.eval x=.int k p)(hy:a.eval y=.int k q)(hq:q≠0)(hr:k.wrap (Int.tdiv p q)=r)(w:V1) :
 (execOp a.eval o).run P w=.ok (.value (.int k r)) w:=by
 subst hr
 have hb:(binOp .quo t (.int k p) (.int k q)).run P w=.ok (.int k (k.wrap (p.tdiv q))) w:=by
  simp[binOp,Op.intDiv,hq]
 have hg:(eqGuard .quo t x y (.int k p) (.int k q)).run P w=.ok () w:=rfl
 simp only[execOp,ho,hx,hy,C9,hg,E0,hb]
 rfl
def ovN (n m:Nat):Nat:=max 1 ((n+m-1)/m)
theorem max_cast(a b:Nat):(if(b:Int)>(a:Int) then(b:Int) else(a:Int))=((max a b:Nat):Int):=by split<;>omega
theorem Yu(n m:Nat):1≤ovN n m:=by unfold ovN;omega
theorem Zix(n m:Nat)(hm:1≤m):ovN n m≤n+1:=by
 have:(n+m-1)/m≤n:=by
  rw[Lt M0];have:=Nat.le_mul_of_pos_left n hm;omega
 unfold ovN;omega
theorem Znf{x:Nat}(h:2≤x):ovN x 18≤x/2:=by unfold ovN;omega
theorem Od(n m:Nat)(w:V1)(hn:n≤1000000)(hm:1≤m)(hm2:m≤1000000) :
 C0 86 #[V0 (n:Int),V0 (m:Int)] w (Ret (V0 (ovN n m:Int)) w):=by
 refine zin 12 Tryz.func86 ?_
 refine xwm 9 ((n:Int)+(m:Int)) (↑(n+m):Int) ?_
 refine xwm 0 ((↑(n+m):Int)-1) (↑((n+m)-1):Int) ?_
 refine xbo 1 (t:=3) (t2:=3) (fun _ _ _ _ zo zx zy V hV=>run_quo (r:=(↑((n+m-1)/m):Int)) zo zx zy M0 (Zx5 (n+m-1) m M0 M0) V) ?_
 refine xq 0 (congrArg V0 (show(if(↑((n+m-1)/m):Int)>(1:Int) then(↑((n+m-1)/m):Int) else(1:Int):Int)=(↑(ovN n m):Int) from max_cast 1 ((n+m-1)/m))) ?_
 exact xe 4 (V0 (↑(ovN n m):Int)) ⟨rfl,(B4 w)⟩
def lenOf:V2→Nat
 | .slice _ n _=>n
 | _=>0
def nv (n:Nat):V2:=V0 (n:Int)
def Vz(x:Nat):V6 Nat:=if h:x≤1 then [x] else x::Vz (ovN x 18)
termination_by x
decreasing_by have:=Znf (x:=x) M0;omega
theorem Ja{x:Nat}(h:x≤1):Vz x=[x]:=by rw[Vz];simp[h]
theorem Qv{x:Nat}(h:¬ x≤1):Vz x=x::Vz (ovN x 18):=by rw[Vz];simp[h]
theorem levs_sum{x:Nat}(h:1≤x):(Vz x).sum≤2*x:=by
 induction x using Nat.strongRecOn with
 | _ x ih =>
  by_cases h1:x≤1
  ·rw[Ja h1];simp;omega
  ·rw[Qv h1,G3];have h2:=Znf (x:=x) M0;have:=ih (ovN x 18) M0 (Yu _ _);omega
theorem levs_len{x:Nat}(h:1≤x):(Vz x).length≤x:=by
 induction x using Nat.strongRecOn with
 | _ x ih =>
  by_cases h1:x≤1
  ·rw[Ja h1];simpa using h
  ·rw[Qv h1,C5];have h2:=Znf (x:=x) M0;have:=ih (ovN x 18) M0 (Yu _ _);omega
theorem Zz{w:V1}{b:O0}{n c:Nat}{l:V6 Nat}(h:Sl w (.slice b n c) n (l.map nv))(hl:l.length=n){k:Nat}(hk:k<n):b.isSome=true∧w.cell? (Zx b (k*1))=some (V0 ((l.getD k 0:Nat):Int)):=by
 have e:l.map nv=(l.map fun x:Nat=>(x:Int)).map V0:=by simp[nv]
 rw[e] at h;have:=IntsN.elem h (by simpa using hl) hk;rw[show(l.map fun x:Nat=>(x:Int)).getD k 0=((l.getD k 0:Nat):Int) by simp[getD,A9 (show k<l.length by omega)]] at this;exact this
theorem Ziq{xs:V6 Nat}{x j:Nat}(h:xs.length=j):(xs++[x]).getD j 0=x:=by subst h;simp[getD]
theorem Ia{L:V6 Nat}{k:Nat}(h:k<L.length):(L.take (k+1)).sum=(L.take k).sum+L.getD k 0:=by
 rw[List.take_add_one,E8];simp[getD,A9 h]
theorem Zw8{L:V6 Nat}(k:Nat):(L.take k).sum≤L.sum:=by
 conv=>rhs;rw[←G9 k L,E8]
 omega
def Ue(t:Int)(n:Nat):V6 Nat:=Vz (ovN n (Jj t true))
def Zy(t:Int)(n:Nat):Nat:=(Ue t n).sum
theorem levL_len(t:Int)(n:Nat):(Ue t n).length≤n+1:=by
 have:=levs_len (Yu n (Jj t true));have:=Zix n (Jj t true) (Qc t true).1;unfold Ue;omega
theorem Pc(t:Int)(n:Nat):Zy t n≤2*n+2:=by
 have:=levs_sum (Yu n (Jj t true));have:=Zix n (Jj t true) (Qc t true).1;unfold Zy Ue;omega
theorem Zj0(t:Int)(n:Nat)(w:V1)(h1:1≤t)(h2:t≤5)(hn:n≤32768) :
 C0 40 #[V0 t,V0 (n:Int)] w (Kd (fun w' r=>∃ p c,r=.slice p (Ue t n).length c∧w'.ownsRow w.heap.size 3 1 (.slice p (Ue t n).length c) (Ue t n).length ((Ue t n).map nv)) w):=by
 have b0:=(Qc t true).1
 have c8:=(Qc t true).2
 have d0:=Zix n (Jj t true) b0
 have b8:=Yu n (Jj t true)
 refine zin 45 Tryz.func40 ?_
 refine xr 8 (Au t true h1 h2 _) fun W1 b1=>?_
 refine xr 1 (Au t false h1 h2 _) fun W2 b4=>?_
 refine xgk 10 [13,14] (show(((↑(Jj t true):Int)==(0:Int)):Bool)=false from by simp;omega) ?_
 refine xgk 4 [16,17,18] (show(decide ((n:Int)<(0:Int)):Bool)=false from V9 M0) ?_
 refine xk 5 (show(decide ((n:Int)>(32768:Int)):Bool)=false from V9 M0) ?_
 refine xr 6 (Od n (Jj t true) _ M0 b0 M0) fun W5 b3=>?_
 refine xbs 0 1 [V0 (↑(ovN n (Jj t true)):Int)] 3 fun b6 W6 n6=>?_
 have g6:=n6.ge (bln (bln b1 b4) b3)
 have hB:=bln (bln (bln b1 b4) b3) n6.i
 refine zl 5 45 (fun zm b9 V=>∃ (j x:Nat) (xs:V6 Nat) (p:O0) (c:Nat),b9=[(4,S1),(6,V0 18),(7,.slice p (j+1) c)]∧zm=40000-(j+1)∧B3 w V∧V.ownsRow w.heap.size 3 1 (.slice p (j+1) c) (j+1) ((xs++[x]).map nv)∧xs.length=j∧1≤x∧x≤32769∧xs++Vz x=Ue t n∧j+x≤40000) ⟨0,(ovN n (Jj t true)),[],_,_,rfl,rfl,hB,Xw (size:=1) (n:=1) n6.blk g6 rfl (by unfold maxLen;decide),rfl,b8,M0,rfl,M0⟩ ?_
 rintro _ _ W7 ⟨j,x,xs,p,c,rfl,rfl,a2,ho,a0,c5,c7,a9,hj⟩ J7 b7 r7
 refine xwm 6 ((↑(j+1):Int)-1) (j:Int) ?_
 refine xx 0 _ (j+1) j 1 (Zz (Zf ho) (by simp[a0]) (k:=j) M0).1 ?_
 refine xl 0 (by have:=(Zz (Zf ho) (by simp[a0]) (k:=j) M0).2;rwa [Ziq a0] at this) ?_
 refine xid 3 ((x:Int)>(1:Int)) (fun c2=>?_) (fun c2=>?_)
 ·refine xwm 8 ((↑(j+1):Int)-1) (j:Int) ?_
  refine xx 0 _ (j+1) j 1 (Zz (Zf ho) (by simp[a0]) (k:=j) M0).1 ?_
  refine xl 0 (by have:=(Zz (Zf ho) (by simp[a0]) (k:=j) M0).2;rwa [Ziq a0] at this) ?_
  refine xr 1 (Od x 18 _ M0 Do Do) fun W9 b2=>?_
  refine xbs 0 1 [V0 (↑(ovN x 18):Int)] 3 fun c9 d1 a7=>?_
  have a3:=bln a2 b2
  have a5:=Zb ho b2
  have a4:=Zb a5 a7.i
  have a1:=bln a3 a7.i
  refine xbi 0 fun _ _ _ _ zJ zQ zo zx zy zK=>Xd (m:=1) (news:=[V0 (↑(ovN x 18):Int)]) (V0 0) 1 8 (j+1+1) (((xs++[x])++[ovN x 18]).map nv) zo Tryz.underlying27 K0 rfl Do zx a4 zy (a7.blk.sl 1 1 Do Do) rfl Y4 Y2 M0 a1.size Y6 (by simp[nv]) fun c0 c3 c4 b5 c1 a8=>?_
  refine zK _ _ ?_
  have c6:=Znf (x:=x) M0
  have a6:=a1.trans a8
  exact ze 3 (b7 _ _ _ ⟨j+1,(ovN x 18),xs++[x],_,_,rfl,rfl,a6,b5,by simp[a0],Yu _ _,M0,by rw[←a9,Qv (x:=x) M0];simp,M0⟩ M0)
 refine xe 12 (.slice p (j+1) c) ?_
 have e:Ue t n=xs++[x]:=by rw[←a9,Ja (x:=x) M0]
 have el:(Ue t n).length=j+1:=by rw[e];simp[a0]
 exact⟨_,rfl,a2,p,c,by rw[el],by rw[el,e];exact ho⟩
theorem Qu(t:Int)(n:Nat)(w:V1)(h1:1≤t)(h2:t≤5)(hn:n≤32768) :
 C0 13 #[V0 t,V0 (n:Int)] w (Ret (V0 (Zy t n:Int)) w):=by
 refine zin 21 Tryz.func13 ?_
 refine xc 15 (Zj0 t n _ h1 h2 hn) ?_
 rintro _ W1 ⟨_,rfl,a4,p,c,rfl,ho⟩
 have a2:=At w.heap.size
 have a1:=Zg ho a2
 refine zl 5 21 (fun zm a3 V=>∃ (k:Nat),a3=[(4,V0 0),(5,V0 (↑((Ue t n).take k).sum:Int)),(10,.slice p ((Ue t n).length) c),(11,V0 (↑((Ue t n).length):Int)),(12,V0 (k:Int))]∧zm=(Ue t n).length-((k:Int)).toNat∧B3 w V∧V.ownsRow w.heap.size 3 1 (.slice p (Ue t n).length c) (Ue t n).length ((Ue t n).map nv)∧k≤(Ue t n).length) ⟨0,rfl,rfl,a4,a1,A5 _⟩ ?_
 rintro _ _ W2 ⟨k,rfl,rfl,a0,ho,hk⟩ J2 a5 r2
 have a8:=levL_len t n
 have a2:=Pc t n
 unfold Zy at a2
 have a9:=Zw8 (L:=Ue t n) (k+1)
 have a7:k<(Ue t n).length→((Ue t n).take (k+1)).sum=((Ue t n).take k).sum+(Ue t n).getD k 0:=Ia
 refine xid 6 ((k:Int)<(↑((Ue t n).length):Int)) (fun a6=>?_) (fun a6=>?_)
 ·refine xx 6 _ ((Ue t n).length) k 1 (Zz (Zf ho) rfl (k:=k) M0).1 ?_
  refine xl 0 ((Zz (Zf ho) rfl (k:=k) M0).2) ?_
  refine xwm 6 ((↑((Ue t n).take k).sum:Int)+(↑((Ue t n).getD k 0):Int)) (↑(((Ue t n).take k).sum+((Ue t n).getD k 0)):Int) ?_
  refine xwm 5 ((k:Int)+1) (↑(k+1):Int) ?_
  refine xv1 2 5 (show(V0 (↑(((Ue t n).take k).sum+((Ue t n).getD k 0)):Int):V2)=V0 (↑((Ue t n).take (k+1)).sum:Int) from by rw[Ia M0]) ?_
  exact ze 0 (a5 _ _ _ ⟨k+1,rfl,rfl,a0,ho,M0⟩ M0)
 refine xe 12 (V0 (↑((Ue t n).take k).sum:Int)) ?_
 have e:k=(Ue t n).length:=M0
 subst e
 rw[L4]
 exact⟨rfl,a0⟩
def Yq(n m i:Nat):Nat:=min m (n-i*m)
theorem Zg3{n m i:Nat}(hm:1≤m)(h:i<ovN n m):i*m≤n:=by
 unfold ovN at h;rcases H8 i with rfl|hi
 ·omega
 ·have h1:i+1≤(n+m-1)/m:=M0;have h2:=(Nat.le_div_iff_mul_le M0).1 h1;rw[G8] at h2;omega
def Zgr(n m k:Nat):V6 V2:=(range (ovN n m)).map fun i=>V0 (if i<k then(Yq n m i:Int) else 0)
def sizL(n m:Nat):V6 Nat:=(range (ovN n m)).map (Yq n m)
theorem Zxt(n m:Nat):Gw (Value.int .i64 0).cells.toList (ovN n m)=Zgr n m 0:=by
 rw[show(Value.int .i64 0).cells.toList=[Value.int .i64 0] from rfl,Gw,Zgr];simp[List.map_const']
theorem sizK_all(n m:Nat):Zgr n m (ovN n m)=(sizL n m).map nv:=by
 unfold Zgr sizL nv;rw[L5];apply F9;intro i hi;rw[A7] at hi;simp[hi]
theorem sizK_set{n m k:Nat}(h:k<ovN n m):(Zgr n m k).set k (V0 (Yq n m k:Int))=Zgr n m (k+1):=by
 apply H3;intro i;by_cases hi:i<ovN n m
 ·by_cases e:k=i
  ·subst e;rw[K8 (by simpa [Zgr] using h)];simp[Zgr,C1 h]
  ·rw[H7 e];simp only[Zgr,C3,C1 hi,D3];by_cases e2:i<k
   ·simp[e2,show i<k+1 by omega]
   ·simp[e2,show ¬ i<k+1 by omega]
 ·rw[C4 (by simp[Zgr];omega),C4 (by simp[Zgr];omega)]
theorem sizL_len(n m:Nat):(sizL n m).length=ovN n m:=by simp[sizL]
theorem Zrd(n m:Nat)(w:V1)(hn:n≤32768)(hm:1≤m)(hm2:m≤32768) :
 C0 259 #[V0 (n:Int),V0 (m:Int)] w (Kd (fun w' r=>∃ p c,r=.slice p (ovN n m) c∧w'.ownsRow w.heap.size 3 1 (.slice p (ovN n m) c) (ovN n m) ((sizL n m).map nv)) w):=by
 have a7:=Zix n m hm
 refine zin 40 Tryz.func259 ?_
 refine xgk 11 [8,9] (show(decide ((n:Int)<(0:Int)):Bool)=false from V9 M0) ?_
 refine xgk 4 [11,12,13] (show(decide ((n:Int)>(32768:Int)):Bool)=false from V9 M0) ?_
 refine xk 5 (show(decide ((m:Int)<(1:Int)):Bool)=false from V9 M0) ?_
 refine xq 5 (congrArg V0 (show(if(32768:Int)<(m:Int) then(32768:Int) else(m:Int):Int)=(m:Int) from V7 M0)) ?_
 refine xr 7 (Od n m _ M0 hm M0) fun W3 a2=>?_
 refine xmk 0 fun _ _ _ _ zJ zQ zo zx zy zK=>Ht (ovN n m) (V0 0) 1 8 (Zgr n m 0) zo zx zy Tryz.underlying27 K0 rfl M0 M0 (Zxt n m) fun b4 W4 n4=>?_
 refine zK _ _ ?_
 have hB:=bln a2 n4.i
 refine zl 12 40 (fun zm a4 V=>∃ (k:Nat),a4=[(0,V0 (n:Int)),(1,V0 (m:Int)),(4,S1),(5,.slice (S3 b4) (ovN n m) (ovN n m)),(24,V0 (↑(ovN n m):Int)),(25,V0 (k:Int))]∧zm=ovN n m-((k:Int)).toNat∧B3 w V∧Blk V b4 (Zgr n m k) 3∧k≤ovN n m) ⟨0,rfl,rfl,hB,n4.blk,A5 _⟩ ?_
 rintro _ _ W5 ⟨k,rfl,rfl,a1,a0,hk⟩ J5 a5 r5
 have a8:k<ovN n m→k*m≤n:=Zg3 hm
 refine xid 6 ((k:Int)<(↑(ovN n m):Int)) (fun a6=>?_) (fun a6=>?_)
 ·refine xwm 17 ((k:Int)*(m:Int)) (↑(k*m):Int) ?_
  refine xwm 0 ((n:Int)-(↑(k*m):Int)) (↑(n-(k*m)):Int) ?_
  refine xxb 1 b4 0 (ovN n m) k 1 ?_
  refine xsg 0 a0 (0+k*1) (V0 (if(↑(n-(k*m)):Int)<(m:Int) then(↑(n-(k*m)):Int) else(m:Int))) (by simp[Zgr];omega) fun W7 u7 k7=>?_
  replace k7:Blk W7 b4 (Zgr n m (k+1)) 3:=by rw[←(show(Zgr n m k).set (0+k*1) (V0 (if(↑(n-(k*m)):Int)<(m:Int) then(↑(n-(k*m)):Int) else(m:Int)))=Zgr n m (k+1) from by rw[show 0+k*1=k by omega,show(if(↑(n-(k*m)):Int)<(m:Int) then(↑(n-(k*m)):Int) else(m:Int))=(↑(Yq n m k):Int) from Zot m (n-k*m)];exact sizK_set M0)];exact k7
  have g4:=n4.ge a2
  refine xwm 4 ((k:Int)+1) (↑(k+1):Int) ?_
  have a3:=u7.i a1 g4
  exact ze 2 (a5 _ _ _ ⟨k+1,rfl,rfl,a3,k7,M0⟩ M0)
 have g4:=n4.ge a2
 refine xe 12 (.slice (S3 b4) (ovN n m) (ovN n m)) ?_
 have e:k=ovN n m:=M0
 subst e
 have ho:=Xw (size:=1) (n:=ovN n m) a0 g4 (by simp[Zgr]) Y2
 rw[sizK_all] at ho
 exact⟨_,rfl,a1,_,_,rfl,ho⟩
def Zo(l:Bl):Nat→Nat→Nat
 | _,0=>0
 | k,w+1=>(l.getD k 0).toNat+256*Zo l (k+1) w
theorem Zgd(l:Bl):∀ (w k:Nat),Zo l k w<256 ^ w
 | 0,k=>by simp[Zo]
 | w+1,k=>by
  have:=Zgd l w (k+1);have h:=(l.getD k 0).toNat_lt;rw[Zo,M3];omega
theorem Zm4(l:Bl)(k w:Nat)(hw:w≤7):Zo l k w<72057594037927936:=D5 (Zgd l w k) (by rw[show(72057594037927936:Nat)=256 ^ 7 from rfl];exact Nat.pow_le_pow_right Do hw)
theorem Jb(l:Bl)(k w:Nat)(hw:w≤4):Zo l k w<4294967296:=D5 (Zgd l w k) (by rw[show(4294967296:Nat)=256 ^ 4 from rfl];exact Nat.pow_le_pow_right Do hw)
theorem Zop{n b:Nat}(hn:n<72057594037927936)(hb:b<256):IntKind.u64.wrap (↑(BitVec.ofInt 64 (IntKind.u64.wrap ((n:Int)*2 ^ 8)) ||| BitVec.ofInt 64 (b:Int)).toNat:Int)=((b+256*n:Nat):Int):=by
 have h1:IntKind.u64.wrap ((n:Int)*2 ^ 8)=((n*2 ^ 8:Nat):Int):=by
  rw[show(n:Int)*2 ^ 8=((n*2 ^ 8:Nat):Int) by omega];exact IntWalk.u64_in _ (by constructor<;>omega)
 rw[h1,E6,E6,BitVec.toNat_or,E9,E9,E5 M0,E5 M0];rw[←Nat.shiftLeft_eq,←Nat.shiftLeft_add_eq_or_of_lt (by exact hb:b<2 ^ 8),Nat.shiftLeft_eq,IntWalk.u64_in _ (by constructor<;>omega)];congr 1;omega
theorem Zwj{n:Nat}(h:n<18446744073709551616):IntKind.u64.wrap (n:Int)=(n:Int):=IntWalk.u64_in _ (by constructor<;>omega)
theorem Zoq(a:O0)(m c k w:Nat)(hw:w=1∨w=2∨w=4∨w=8)(hk:k+w≤m)(hm:m≤100000000)(W:V1) :
 C0 222 #[.slice a m c,V0 (k:Int),V0 (w:Int)] W (Ret (V0 0) W):=by
 rcases hw with rfl|rfl|rfl|rfl
 ·exact there_1 a m c k hk hm W
 ·exact Zxb a m c k hk hm W
 ·exact Zwi a m c k hk hm W
 ·exact there_8 a m c k hk hm W
theorem Znn(a:O0)(c k w:Nat)(l:Bl)(W:V1)(hw:w=1∨w=2∨w=4∨w=8)(hk:k+w≤l.length)(hl:l.length≤100000000)(h:Bys W (.slice a l.length c) l)(hq:Zo l k w<9223372036854775808) :
 C0 190 #[.slice a l.length c,V0 (k:Int),V0 (w:Int)] W (Ret (.tuple #[V0 (Zo l k w:Int),V0 0]) W):=by
 refine zin 38 Tryz.func190 ?_
 refine xr 12 (Zoq a l.length c k w hw hk hl _) fun W1 a2=>?_
 refine xw 21 ((w:Int)-1) ?_
 refine zl 4 38 (fun zm a1 V=>∃ (j r:Nat),a1=[(0,.slice a l.length c),(1,V0 (k:Int)),(6,V0 0),(7,V0 0),(9,.int .u64 (↑(Zo l (k+j) r):Int)),(10,V0 ((j:Int)-1))]∧zm=(((j:Int)-1)+1).toNat∧B3 W V∧j+r=w) ⟨w,0,rfl,rfl,a2,M0⟩ ?_
 rintro _ _ W2 ⟨j,r,rfl,rfl,a0,a5⟩ J2 a3 r2
 refine xid 7 ((j:Int)-1≥(0:Int)) (fun a4=>?_) (fun a4=>?_)
 ·refine xq 10 (congrArg V0 (show IntKind.i64.wrap ((k:Int)+((j:Int)-1))=(↑(k+(j-1)):Int) from(show IntKind.i64.wrap ((k:Int)+((j:Int)-1))=((k:Int)+((j:Int)-1)) from by first|exact IntWalk.i64_in _ M0|(simp only[IntKind.wrap];omega)).trans M0)) ?_
  refine xx 0 _ l.length (k+(j-1)) 1 (Bys.elem h (k:=(k+(j-1))) M0).1 ?_
  refine xl 0 ((Bys.elem (h.i a0) (k:=(k+(j-1))) M0).2) ?_
  refine xq 0 (congrArg (Value.int .u64) (show(IntKind.u64.wrap (↑(l.getD (k+(j-1)) 0).toNat:Int):Int)=(↑(l.getD (k+(j-1)) 0).toNat:Int) from Zwj (by have:=(l.getD (k+(j-1)) 0).toNat_lt;omega))) ?_
  refine xq 0 (congrArg (Value.int .u64) (show(IntKind.u64.wrap (↑(BitVec.ofInt 64 (IntKind.u64.wrap ((↑(Zo l (k+j) r):Int)*2 ^ 8)) ||| BitVec.ofInt 64 (↑(l.getD (k+(j-1)) 0).toNat:Int)).toNat:Int):Int)=(↑(Zo l (k+(j-1)) (r+1)):Int) from(Zop (Zm4 l (k+j) r M0) (l.getD (k+(j-1)) 0).toNat_lt).trans (congrArg (fun x:Nat=>(x:Int)) (by rw[Zo,show k+(j-1)+1=k+j by omega])))) ?_
  refine xq 6 (congrArg V0 (show IntKind.i64.wrap ((j:Int)-1-1)=((↑(j-1:Nat):Int)-1) from(show IntKind.i64.wrap ((j:Int)-1-1)=((j:Int)-1-1) from by first|exact IntWalk.i64_in _ M0|(simp only[IntKind.wrap];omega)).trans M0)) ?_
  exact ze 2 (a3 _ _ _ ⟨j-1,r+1,rfl,rfl,a0,M0⟩ M0)
 refine xk 12 (show(decide ((↑(Zo l (k+j) r):Int)≥(9223372036854775808:Int)):Bool)=false from by rw[(show Zo l (k+j) r=Zo l k w from by rw[show j=0 by omega,show r=w by omega];rfl)];exact V9 M0) ?_
 refine xq 5 (congrArg V0 (show(IntKind.i64.wrap (↑(Zo l (k+j) r):Int):Int)=(↑(Zo l k w):Int) from by rw[(show Zo l (k+j) r=Zo l k w from by rw[show j=0 by omega,show r=w by omega];rfl)];exact Lj hq)) ?_
 exact xe 5 (.tuple #[V0 (↑(Zo l k w):Int),V0 0]) ⟨rfl,a0⟩
theorem Zyx(a:O0)(c k w:Nat)(l:Bl)(W:V1)(hw:w=1∨w=2∨w=4∨w=8)(hk:k+w≤l.length)(hl:l.length≤100000000)(h:Bys W (.slice a l.length c) l)(hq:¬ Zo l k w<9223372036854775808) :
 C0 190 #[.slice a l.length c,V0 (k:Int),V0 (w:Int)] W (Ret (.tuple #[V0 0,V0 2]) W):=by
 refine zin 38 Tryz.func190 ?_
 refine xr 12 (Zoq a l.length c k w hw hk hl _) fun W1 a2=>?_
 refine xw 21 ((w:Int)-1) ?_
 refine zl 4 38 (fun zm a1 V=>∃ (j r:Nat),a1=[(0,.slice a l.length c),(1,V0 (k:Int)),(6,V0 0),(7,V0 0),(9,.int .u64 (↑(Zo l (k+j) r):Int)),(10,V0 ((j:Int)-1))]∧zm=(((j:Int)-1)+1).toNat∧B3 W V∧j+r=w) ⟨w,0,rfl,rfl,a2,M0⟩ ?_
 rintro _ _ W2 ⟨j,r,rfl,rfl,a0,a5⟩ J2 a3 r2
 refine xid 7 ((j:Int)-1≥(0:Int)) (fun a4=>?_) (fun a4=>?_)
 ·refine xq 10 (congrArg V0 (show IntKind.i64.wrap ((k:Int)+((j:Int)-1))=(↑(k+(j-1)):Int) from(show IntKind.i64.wrap ((k:Int)+((j:Int)-1))=((k:Int)+((j:Int)-1)) from by first|exact IntWalk.i64_in _ M0|(simp only[IntKind.wrap];omega)).trans M0)) ?_
  refine xx 0 _ l.length (k+(j-1)) 1 (Bys.elem h (k:=(k+(j-1))) M0).1 ?_
  refine xl 0 ((Bys.elem (h.i a0) (k:=(k+(j-1))) M0).2) ?_
  refine xq 0 (congrArg (Value.int .u64) (show(IntKind.u64.wrap (↑(l.getD (k+(j-1)) 0).toNat:Int):Int)=(↑(l.getD (k+(j-1)) 0).toNat:Int) from Zwj (by have:=(l.getD (k+(j-1)) 0).toNat_lt;omega))) ?_
  refine xq 0 (congrArg (Value.int .u64) (show(IntKind.u64.wrap (↑(BitVec.ofInt 64 (IntKind.u64.wrap ((↑(Zo l (k+j) r):Int)*2 ^ 8)) ||| BitVec.ofInt 64 (↑(l.getD (k+(j-1)) 0).toNat:Int)).toNat:Int):Int)=(↑(Zo l (k+(j-1)) (r+1)):Int) from(Zop (Zm4 l (k+j) r M0) (l.getD (k+(j-1)) 0).toNat_lt).trans (congrArg (fun x:Nat=>(x:Int)) (by rw[Zo,show k+(j-1)+1=k+j by omega])))) ?_
  refine xq 6 (congrArg V0 (show IntKind.i64.wrap ((j:Int)-1-1)=((↑(j-1:Nat):Int)-1) from(show IntKind.i64.wrap ((j:Int)-1-1)=((j:Int)-1-1) from by first|exact IntWalk.i64_in _ M0|(simp only[IntKind.wrap];omega)).trans M0)) ?_
  exact ze 2 (a3 _ _ _ ⟨j-1,r+1,rfl,rfl,a0,M0⟩ M0)
 refine xk 12 (show(decide ((↑(Zo l (k+j) r):Int)≥(9223372036854775808:Int)):Bool)=true from by rw[(show Zo l (k+j) r=Zo l k w from by rw[show j=0 by omega,show r=w by omega];rfl)];exact U0 M0) ?_
 exact xe 8 (.tuple #[V0 0,V0 2]) ⟨rfl,a0⟩
def Mk(l:Bl):Nat→V6 Nat→V6 Nat
 | _,[]=>[]
 | k,w::r=>Zo l k w::Mk l (k+w) r
theorem Zem(l:Bl):∀ (ws:V6 Nat) (k:Nat),(Mk l k ws).length=ws.length
 | [],k=>rfl
 | w::r,k=>by simp[Mk,Zem l r]
theorem Fj(l:Bl)(w:Nat):∀ (ws:V6 Nat) (k:Nat),Mk l k (ws++[w])=Mk l k ws++[Zo l (k+ws.sum) w]
 | [],k=>by simp[Mk]
 | x::r,k=>by simp[Mk,Fj l w r,F2]
theorem Ze1(l:Bl):∀ (ws:V6 Nat) (k i:Nat),i<ws.length→(Mk l k ws).getD i 0=Zo l (k+(ws.take i).sum) (ws.getD i 0)
 | [],k,i,h=>by simp at h
 | w::r,k,0,h=>by simp[Mk]
 | w::r,k,i+1,h=>by
  have:=Ze1 l r (k+w) i (by simpa using h);simp only[List.getD_eq_getElem?_getD] at this ⊢;simp[Mk,this,F2]
theorem Fb{ws:V6 Nat}{i:Nat}(h:i<ws.length):ws.take (i+1)=ws.take i++[ws.getD i 0]:=by
 rw[B5 h];simp[getD,h]
theorem Ov{ws:V6 Nat}{i:Nat}(h:i<ws.length):(ws.take i).sum+ws.getD i 0≤ws.sum:=by
 have h1:=Ia h;have h2:=Zw8 (L:=ws) (i+1);omega
def getV(l:Bl)(k w:Nat):Int:=if Zo l k w<9223372036854775808 then(Zo l k w:Int) else 0
def Zug(l:Bl)(k w:Nat):Int:=if Zo l k w<9223372036854775808 then 0 else 2
theorem Zzh{l:Bl}{k w:Nat}(h:Zug l k w=0):Zo l k w<9223372036854775808:=by unfold Zug at h;split at h;assumption;cases h
theorem getE_two{l:Bl}{k w:Nat}(h:Zug l k w≠0):¬ Zo l k w<9223372036854775808∧Zug l k w=2:=by unfold Zug at h ⊢;split at h;exact absurd rfl h;rename_i h2;exact⟨h2,V7 h2⟩
theorem Zyy{l:Bl}{k w:Nat}(h:Zo l k w<9223372036854775808):Zug l k w=0:=V8 h
theorem Zjp{l:Bl}{k w:Nat}(h:Zo l k w<9223372036854775808):getV l k w=(Zo l k w:Int):=V8 h
theorem Zu8(a:O0)(c k w:Nat)(l:Bl)(W:V1)(hw:w=1∨w=2∨w=4∨w=8)(hk:k+w≤l.length)(hl:l.length≤100000000)(h:Bys W (.slice a l.length c) l) :
 C0 190 #[.slice a l.length c,V0 (k:Int),V0 (w:Int)] W (Ret (.tuple #[V0 (getV l k w),V0 (Zug l k w)]) W):=by
 by_cases hq:Zo l k w<9223372036854775808
 ·rw[Zjp hq,Zyy hq];exact Znn a c k w l W hw hk hl h hq
 ·rw[getV,Zug,V7 hq,V7 hq];exact Zyx a c k w l W hw hk hl h hq
theorem Zgw(a:O0)(c:Nat)(l:Bl)(aw:O0)(cw:Nat)(ws:V6 Nat)(W:V1)(hk:∀ i,i<ws.length→ws.getD i 0=1∨ws.getD i 0=2∨ws.getD i 0=4∨ws.getD i 0=8)(hs:ws.sum≤l.length)(hl:l.length≤100000000)(hw:ws.length≤1000)(h:Bys W (.slice a l.length c) l)(hws:Sl W (.slice aw ws.length cw) ws.length (ws.map nv))(hq:∀ i,i<ws.length→(Mk l 0 ws).getD i 0<9223372036854775808) :
 C0 198 #[.slice a l.length c,.slice aw ws.length cw] W (Kd (fun w' r=>∃ p c,r=.tuple #[.slice p ws.length c,V0 0]∧w'.ownsRow W.heap.size 3 1 (.slice p ws.length c) ws.length ((Mk l 0 ws).map nv)) W):=by
 refine zin 37 Tryz.func198 ?_
 have hB:=U3 W.heap.size W
 refine zl 25 37 (fun zm a8 V=>∃ (i:Nat) (p:O0) (c2:Nat),a8=[(0,.slice a l.length c),(6,.slice p i c2),(7,V0 (↑(ws.take i).sum:Int)),(12,.slice aw ws.length cw),(13,V0 (ws.length:Int)),(14,V0 (i:Int))]∧zm=ws.length-((i:Int)).toNat∧B3 W V∧V.ownsRow W.heap.size 3 1 (.slice p i c2) i ((Mk l 0 (ws.take i)).map nv)∧i≤ws.length) ⟨0,_,_,rfl,rfl,hB,A8 _ _ _ _,A5 _⟩ ?_
 rintro _ _ W1 ⟨i,p,c2,rfl,rfl,a0,ho,hi⟩ J1 b0 r1
 have b5:i<ws.length→(ws.take i).sum+ws.getD i 0≤ws.sum:=Ov
 have a7:i<ws.length→(Mk l 0 ws).getD i 0=Zo l (ws.take i).sum (ws.getD i 0):=fun h=>by rw[Ze1 l ws 0 i h,F5]
 refine xid 6 ((i:Int)<(ws.length:Int)) (fun b1=>?_) (fun b1=>?_)
 ·refine xx 6 _ ws.length i 1 (Zz hws rfl (k:=i) M0).1 ?_
  refine xl 0 ((Zz (hws.i a0) rfl (k:=i) M0).2) ?_
  refine xr 8 (Zu8 a c (ws.take i).sum (ws.getD i 0) l _ (hk i M0) M0 hl (h.i a0)) fun W3 a6=>?_
  refine xk 14 (show(((Zug l (ws.take i).sum (ws.getD i 0)) != (0:Int)):Bool)=false from by rw[Zyy (by rw[←a7 M0];exact hq i M0)];rfl) ?_
  refine xbs 6 1 [V0 (getV l (ws.take i).sum (ws.getD i 0))] 3 fun b4 W4 n4=>?_
  have a3:=bln a0 a6
  have a5:=Zb ho a6
  have a4:=Zb a5 n4.i
  have a1:=bln a3 n4.i
  refine xbi 0 fun _ _ _ _ zJ zQ zo zx zy zK=>Xd (m:=1) (news:=[V0 (getV l (ws.take i).sum (ws.getD i 0))]) (V0 0) 1 8 (i+1) ((Mk l 0 (ws.take (i+1))).map nv) zo Tryz.underlying27 K0 rfl Do zx a4 zy (n4.blk.sl 1 1 Do Do) rfl Y4 Y2 M0 a1.size Y6 (by rw[Fb M0,Fj,F5,A6];simp only[D7,H0,nv];rw[Zjp (by rw[←a7 M0];exact hq i M0)]) fun b2 b6 W5 o5 b3 a9=>?_
  refine zK _ _ ?_
  refine xwm 6 ((↑(ws.take i).sum:Int)+(↑(ws.getD i 0):Int)) (↑((ws.take i).sum+(ws.getD i 0)):Int) ?_
  refine xwm 5 ((i:Int)+1) (↑(i+1):Int) ?_
  refine xv1 2 7 (show(V0 (↑((ws.take i).sum+(ws.getD i 0)):Int):V2)=V0 (↑(ws.take (i+1)).sum:Int) from by rw[Fb M0,E8];simp) ?_
  have a2:=a1.trans a9
  exact ze 0 (b0 _ _ _ ⟨i+1,_,_,rfl,rfl,a2,o5,M0⟩ M0)
 refine xe 13 (.tuple #[.slice p i c2,V0 0]) ?_
 obtain rfl:i=ws.length:=M0
 rw[L4] at ho
 exact⟨_,rfl,a0,_,_,rfl,ho⟩
theorem Zqf(a:O0)(c:Nat)(l:Bl)(aw:O0)(cw:Nat)(ws:V6 Nat)(W:V1)(hk:∀ i,i<ws.length→ws.getD i 0=1∨ws.getD i 0=2∨ws.getD i 0=4∨ws.getD i 0=8)(hs:ws.sum≤l.length)(hl:l.length≤100000000)(hw:ws.length≤1000)(h:Bys W (.slice a l.length c) l)(hws:Sl W (.slice aw ws.length cw) ws.length (ws.map nv))(hq:¬ ∀ i,i<ws.length→(Mk l 0 ws).getD i 0<9223372036854775808) :
 C0 198 #[.slice a l.length c,.slice aw ws.length cw] W (Ret (.tuple #[S1,V0 2]) W):=by
 refine zin 37 Tryz.func198 ?_
 have hB:=U3 W.heap.size W
 refine zl 25 37 (fun zm b3 V=>∃ (i:Nat) (p:O0) (c2:Nat),b3=[(0,.slice a l.length c),(6,.slice p i c2),(7,V0 (↑(ws.take i).sum:Int)),(12,.slice aw ws.length cw),(13,V0 (ws.length:Int)),(14,V0 (i:Int))]∧zm=ws.length-((i:Int)).toNat∧B3 W V∧V.ownsRow W.heap.size 3 1 (.slice p i c2) i ((Mk l 0 (ws.take i)).map nv)∧i≤ws.length∧(∀ j,j<i→(Mk l 0 ws).getD j 0<9223372036854775808)) ⟨0,_,_,rfl,rfl,hB,A8 _ _ _ _,A5 _,?_⟩ ?_
 ·exact fun j hj=>absurd hj M0
 rintro _ _ W1 ⟨i,p,c2,rfl,rfl,a0,ho,hi,a1⟩ J1 b2 r1
 have b9:i<ws.length→(ws.take i).sum+ws.getD i 0≤ws.sum:=Ov
 have b4:i<ws.length→(Mk l 0 ws).getD i 0=Zo l (ws.take i).sum (ws.getD i 0):=fun h=>by rw[Ze1 l ws 0 i h,F5]
 refine xid 6 ((i:Int)<(ws.length:Int)) (fun b7=>?_) (fun b7=>?_)
 ·refine xx 6 _ ws.length i 1 (Zz hws rfl (k:=i) M0).1 ?_
  refine xl 0 ((Zz (hws.i a0) rfl (k:=i) M0).2) ?_
  refine xr 8 (Zu8 a c (ws.take i).sum (ws.getD i 0) l _ (hk i M0) M0 hl (h.i a0)) fun W3 b0=>?_
  refine xin 14 (Zug l (ws.take i).sum (ws.getD i 0)) (0:Int) (fun a8=>?_) (fun a8=>?_)
  ·have a4:=getE_two a8
   have a6:=bln a0 b0
   refine xe 14 (.tuple #[S1,V0 (Zug l (ws.take i).sum (ws.getD i 0))]) ?_
   rw[a4.2];exact⟨rfl,a6⟩
  have a4:=Zzh a8
  refine xbs 6 1 [V0 (getV l (ws.take i).sum (ws.getD i 0))] 3 fun b5 W5 n5=>?_
  have a5:=bln a0 b0
  have a2:=Zb ho b0
  have b1:=Hg a2 n5
  have a7:=Zb a2 n5.i
  have a3:=bln a5 n5.i
  refine xbi 0 fun _ _ _ _ zJ zQ zo zx zy zK=>Xd (m:=1) (news:=[V0 (getV l (ws.take i).sum (ws.getD i 0))]) (V0 0) 1 8 (i+1) ((Mk l 0 (ws.take (i+1))).map nv) zo Tryz.underlying27 K0 rfl Do zx a7 zy (n5.blk.sl 1 1 Do Do) rfl Y4 Y2 M0 a3.size Y6 (by rw[Fb M0,Fj,F5,A6];simp only[D7,H0,nv];rw[Zjp a4]) fun c0 b8 W6 o6 c1 b6=>?_
  refine zK _ _ ?_
  refine xwm 6 ((↑(ws.take i).sum:Int)+(↑(ws.getD i 0):Int)) (↑((ws.take i).sum+(ws.getD i 0)):Int) ?_
  refine xwm 5 ((i:Int)+1) (↑(i+1):Int) ?_
  refine xv1 2 7 (show(V0 (↑((ws.take i).sum+(ws.getD i 0)):Int):V2)=V0 (↑(ws.take (i+1)).sum:Int) from by rw[Fb M0,E8];simp) ?_
  have a9:=a3.trans b6
  exact ze 0 (b2 _ _ _ ⟨i+1,_,_,rfl,rfl,a9,o6,M0,fun j hj=>(F0 j i).elim (fun q=>a1 j q) (fun q=>by obtain rfl:j=i:=M0;rw[b4 M0];exact a4)⟩ M0)
 refine xe 13 (.tuple #[.slice p i c2,V0 0]) ?_
 exact absurd (fun j hj=>a1 j M0) hq
end
end
section
open Go.RowKit
theorem Zve(bs:ByteArray)(i:Nat)(r:Bl):ByteArray.toList.loop bs i r=r.reverse++bs.data.toList.drop i:=by
 have hs:bs.data.toList.length=bs.size:=by rw[O5];rfl
 rw[ByteArray.toList.loop];split
 ·rename_i h;have h':i<bs.data.toList.length:=M0;rw[Zve bs (i+1) _,F8 h'];have e:bs.get! i=bs.data.toList[i]:=by
   have h2:i<bs.data.size:=(by rw[←O5];exact h');show bs.data[i]! = _;rw[getElem!_pos bs.data i h2];simp
  rw[e];simp
 ·rename_i h;rw[E3 M0];simp
termination_by bs.size-i
theorem Zou(a:Bl):(⟨a.toArray⟩:ByteArray).toList=a:=by
 unfold ByteArray.toList;rw[Zve];simp
theorem Zx7(a b:Bl):((⟨a.toArray⟩:ByteArray).toList==(⟨b.toArray⟩:ByteArray).toList)=(a==b):=by rw[Zou,Zou]
theorem Za4(l:Bl):∀ (w k i:Nat),i<w→Zo l k w/256 ^ i%256=(l.getD (k+i) 0).toNat
 | 0,k,i,h=>absurd h M0
 | w+1,k,0,_=>by
  have:=(l.getD k 0).toNat_lt;rw[Zo];simp only[Nat.pow_zero,Nat.div_one,G4];omega
 | w+1,k,i+1,h=>by
  have:=(l.getD k 0).toNat_lt;have ih:=Za4 l w (k+1) i M0;rw[Zo,M3,M4 (256 ^ i) 256,←N4,show((l.getD k 0).toNat+256*Zo l (k+1) w)/256=Zo l (k+1) w by omega,ih,show k+1+i=k+(i+1) by omega]
theorem leB_raw{l:Bl}{k w:Nat}(h:k+w≤l.length):leB (Zo l k w:Int) w=(l.drop k).take w:=by
 apply F6
 ·simp[Zl];omega
 intro i h1 h2;have hw:i<w:=by simpa [Zl] using h1
 have e:=Za4 l w k i hw;apply UInt8.toNat_inj.1;simp only[leB,List.getElem_map,List.getElem_range,Xh,G6,UInt8.toNat_ofNat',List.getElem_take,List.getElem_drop];have e2:l.getD (k+i) 0=l[k+i]' M0:=by simp[getD,show k+i<l.length by omega]
 rw[e2] at e;rw[←e]
theorem leB_inj{m n w:Nat}(hm:m<256 ^ w)(hn:n<256 ^ w)(h:leB (m:Int) w=leB (n:Int) w):m=n:=by
 have e:∀ i,i<w→m/256 ^ i%256=n/256 ^ i%256:=fun i hi=>by
  have:=congrArg (fun l=>(l.getD i 0).toNat) h;simpa [leB,Xh,getD,C1 hi,UInt8.toNat_ofNat'] using this
 clear h;induction w generalizing m n with
 | zero=>simp at hm hn;omega
 | succ w ih =>
  have h0:=e 0 M0;have h1:m/256=n/256:=ih (by rw[M3] at hm;omega) (by rw[M3] at hn;omega) fun i hi=>by
   have:=e (i+1) M0;rw[M3,M4 (256 ^ i) 256,←N4,←N4] at this;exact this
  simp only[Nat.pow_zero,Nat.div_one] at h0;omega
theorem Zci{b:Bool}(h:(!b)=true):b=false:=by simpa using h
theorem Zcj{b:Bool}(h:(!b)=false):b=true:=by simpa using h
end
section
open Go.RowKit Go.Extern.Stop Go.Stop Go.Extern
section
attribute [local irreducible] wpList wpAnyH Code.wp Oper.wp Go
theorem Mq{P:V4}{a:Act}{o:Oper}{src dst e:V3}{x:Operand}{b:O0}{n c:Nat}{l:Bl}{w:V1}(ho:o.op=.convert src dst x)(hx:a.eval x=.slice b n c)(h:Bys w (.slice b n c) l)(hl:l.length=n)
 (hs:P.underlying src=some (.slice e)) (he:P.underlying e=some (.int .u8)) (hd:P.underlying dst=some .string):(execOp a.eval o).run P w=.ok (.value (.string ⟨l.toArray⟩)) w:=by
 have hr:(convert src dst (.slice b n c)).run P w=.ok (.string ⟨l.toArray⟩) w:=by
  subst hl;rcases Sl.at h with hn|⟨g,a0,rfl,hc⟩
  ·obtain rfl:l=[]:=(by simpa using hn);cases b with
   | none=>rw[run_convert_bytes_string w src dst e none _ c hs he hd];rfl
   | some p=>exact run_convert_bytes_back w src dst e p c [] hs he hd (fun j hj=>by simp at hj)
  ·exact run_convert_bytes_back w src dst e _ c l hs he hd (fun j hj=>by rw[Addr.add_mid];exact hc j _ (by simp[A9 hj,bv]))
 simp only[execOp,ho,hx,C9,hr];rfl
theorem Al.i{B ba b g n c:Nat}{pa:O0}{ca f N k:Nat}{l:Bl}{w W:V1}(h:Al B ba b g n c pa ca f N k l w)(hb:B3 w W):Al B ba b g n c pa ca f N k l W:=⟨h.U.i hb,h.a7.i hb,Zb h.data hb,Zb h.a1 hb⟩
theorem Nr{w:V1}{base n c size:Nat}{e:V3}{p:O0}{xs:V6 V2}(h:w.ownsRow base e size (.slice p n c) n xs)(hn:0<n):∃ g,p=some ⟨g,0,none⟩∧n≤c:=by
 rcases h.2 with ⟨_,h0⟩|⟨g,a0,a1,hv,_,_,hc,_⟩
 ·omega
 ·simp only[C2] at hv;exact⟨g,hv.1,M0⟩
theorem Bys.cap{w:V1}{a:O0}{n c:Nat}{l:Bl}(h:Bys w (.slice a n c) l)(hl:l.length=n):n≤c:=by
 rcases h with ⟨a',c',h1,h2,_⟩|⟨b,a0,cap,h1,h2,_,_⟩
 ·omega
 ·simp only[C2] at h1;omega
theorem Zqw(b:Nat)(p0:O0)(n c f N:Nat)(fi:Int)(hfi:fi=(f:Int))(hN:n/256-f=N)(w:V1)(hk:Blk w b [.slice p0 n c] 108)(hn:n≤3686400)(h1:1≤f)(h2:f≤n/256) :
 C0 42 #[P0 b,V0 fi] w (Kd (fun w' r=>∃ ba p c2,r=.tuple #[P0 ba,.nilIface]∧w.heap.size≤ba∧Blk w' ba [.slice p N c2,V0 0,P0 b] 169∧w'.ownsRow w.heap.size 3 1 (.slice p N c2) N ((Zb9 f N).map V0)) w):=by
 subst hfi hN;exact Zv9 b p0 n c f w hk hn h1 h2
end
section
attribute [local irreducible] wpList wpAnyH Code.wp Oper.wp Go
section
variable {P:V4} {a:Act}
theorem Bc{o:Oper}{t e:V3}{x y y2:Operand}{b:O0}{n k h c:Nat}{i j:Int}{ki kj:IntKind}(size:Nat)(ho:o.op=.slice t x (some y) (some y2) none)(hx:a.eval x=.slice b n c)(hy:a.eval y=.int ki i)(hi:i=(k:Int))(hy2:a.eval y2=.int kj j)(hj:j=(h:Int))(hk:k≤h)(hc:h≤c)
 (ht:P.underlying t=some (.slice e)) (hs:(P.info? e).map (·.size)=some size) (w:V1):(execOp a.eval o).run P w=.ok (.value (.slice (Li b k c size) (h-k) (c-k))) w:=by
 cases hq:P.info? e with
 | none=>simp[hq] at hs
 | some q =>
  have a0:q.size=size:=by simpa [hq] using hs
  subst hi hj
  by_cases h5:c=k
  ·simp_all [execOp,Instr.sliceAt,Instr.slice,Instr.sliceBounds,Instr.sliceBound,asIntOf,run_underlying ht,sizeOf,typeInfo,Li]
  ·simp_all [execOp,Instr.sliceAt,Instr.slice,Instr.sliceBounds,Instr.sliceBound,asIntOf,run_underlying ht,sizeOf,typeInfo,Li]
end
theorem Y1{w:V1}{b:O0}{n c:Nat}{l:Bl}(h:Bys w (.slice b n c) l)(hl:l.length=n)(k m:Nat)(hk:k≤m)(hm:m≤n):Bys w (.slice (Li b k c 1) (m-k) (c-k)) ((l.drop k).take (m-k)):=by
 have a0:((l.drop k).take (m-k)).length=m-k:=by simp;omega
 have a2:=Bys.cap h hl;rcases h with ⟨a',c',h1,h2,h3⟩|⟨g,a1,a3,h1,h2,h3,h4⟩
 ·obtain rfl:k=0:=M0;obtain rfl:m=0:=M0;refine .inl ⟨Li b 0 c 1,c-0,?_,Y5,Y5⟩;simp
 ·simp only[C2] at h1;obtain⟨rfl,_,rfl⟩:=h1;by_cases hz:m-k=0
  ·refine .inl ⟨Li (some ⟨g,a1,none⟩) k c 1,c-k,by rw[hz],M0,?_⟩;rw[hz];rfl
  ·refine .inr ⟨g,a1+k*1,c-k,?_,M0,M0,fun j x hj=>?_⟩
   ·rw[Li,V7 M0,a0];simp[Addr.add]
   ·rw[C3,H2] at hj;split at hj
    ·rw[G0] at hj;have:=h4 (k+j) x (by rw[C3];exact hj);rwa [G7,F2]
    ·cases hj
def Hv(l:Bl):Bool:=l.all (·==0)
theorem Zdo{l:Bl}(h:∀ j,j<l.length→l.getD j 0=0):Hv l=true:=by
 unfold Hv;rw[I0];intro x hx;obtain⟨j,hj,rfl⟩:=List.mem_iff_getElem.1 hx;have:=h j hj;simpa [getD,hj] using this
theorem Zkd{l:Bl}{j:Nat}(hj:j<l.length)(h:((l.getD j 0).toNat:Int)≠0):Hv l=false:=by
 unfold Hv;rw[List.all_eq_false];refine⟨l[j],F3 hj,?_⟩;intro h2;apply h;have:l[j]=0:=by simpa using h2
 simp[getD,hj,this]
theorem Ztr{x:UInt8}(h:(x.toNat:Int)=0):x=0:=by
 have h1:x.toNat=0:=M0;exact UInt8.toNat_inj.1 (by rw[h1];rfl)
theorem zero_1(n:Int)(w:V1) :
 C0 251 #[.int .u8 n] w (Ret (.bool (n != 0)) w):=by
 refine zin 5 Tryz.func251 ?_
 exact xe 13 (.bool (n != (0:Int))) ⟨rfl,(B4 w)⟩
theorem Zvk(a:O0)(c:Nat)(l:Bl)(w:V1)(hl:l.length≤100000000)(h:Bys w (.slice a l.length c) l) :
 C0 271 #[.slice a l.length c,.func (.func 251) #[] #[]] w (fun e w'=>(Hv l=true∧e=.returned (V0 (-1))∧B3 w w')∨(Hv l=false∧∃ i:Nat,e=.returned (V0 (i:Int))∧B3 w w')):=by
 refine zin 19 Tryz.func271 ?_
 have hB:=U3 w.heap.size w
 refine zl 14 19 (fun zm a4 V=>∃ (i:Nat),a4=[(0,.slice a l.length c),(1,.func (.func 251) #[] #[]),(7,V0 (l.length:Int)),(8,V0 (i:Int))]∧zm=l.length-((i:Int)).toNat∧B3 w V∧i≤l.length∧(∀ j,j<i→l.getD j 0=0)) ⟨0,rfl,rfl,hB,A5 _,?_⟩ ?_
 ·exact fun j hj=>absurd hj M0
 rintro _ _ W1 ⟨i,rfl,rfl,a0,hi,hz⟩ J1 a6 r1
 refine xid 6 ((i:Int)<(l.length:Int)) (fun a7=>?_) (fun a7=>?_)
 ·refine xx 15 _ l.length i 1 (Bys.elem h (k:=i) M0).1 ?_
  refine xl 0 ((Bys.elem (h.i a0) (k:=i) M0).2) ?_
  refine xr 0 (zero_1 (↑(l.getD i 0).toNat:Int) _) fun W3 a3=>?_
  refine xin 2 (↑(l.getD i 0).toNat:Int) (0:Int) (fun a5=>?_) (fun a5=>?_)
  ·have a2:=bln a0 a3
   exact xe 12 (V0 (i:Int)) (.inr ⟨Zkd (j:=i) M0 Y3,_,rfl,a2⟩)
  refine xwm 4 ((i:Int)+1) (↑(i+1):Int) ?_
  have a1:=bln a0 a3
  exact ze 2 (a6 _ _ _ ⟨i+1,rfl,rfl,a1,M0,fun j hj=>(F0 j i).elim (hz j) (fun q=>by obtain rfl:j=i:=M0;exact Ztr Y3)⟩ M0)
 exact xe 11 (V0 (-1)) (.inl ⟨Zdo (fun j hj=>hz j M0),rfl,a0⟩)
theorem Zh9(a:O0)(c:Nat)(l:Bl)(w:V1)(hl:l.length≤100000000)(h:Bys w (.slice a l.length c) l) :
 C0 250 #[.slice a l.length c,.func (.func 251) #[] #[]] w (Ret (.bool (!Hv l)) w):=by
 refine zin 9 Tryz.func250 ?_
 refine xc 9 (Zvk a c l _ hl (h.i (B4 w))) ?_
 rintro e W1 a1
 rcases a1 with ⟨hz,rfl,a0⟩|⟨hz,i0,rfl,a0⟩
 ·refine xe 5 (.bool false) ?_
  rw[hz];exact⟨rfl,a0⟩
 refine xe 5 (.bool (decide ((i0:Int)≥(0:Int)))) ?_
 rw[hz,show decide ((i0:Int)≥(0:Int))=true from U0 M0];exact⟨rfl,a0⟩
theorem Zyf(a:O0)(c:Nat)(l:Bl)(w:V1)(hl:l.length≤100000000)(h:Bys w (.slice a l.length c) l) :
 C0 203 #[.slice a l.length c] w (Ret (.bool (Hv l)) w):=by
 refine zin 6 Tryz.func203 ?_
 refine xr 8 (Zh9 a c l _ hl (h.i (B4 w))) fun W1 a0=>?_
 refine xe 5 (.bool (!(!Hv l))) ?_
 rw[Bool.not_not];exact⟨rfl,a0⟩
def Tl(kind no:Int):Bool:=decide (1≤kind∧kind≤4∧0≤no∧no<14400)
theorem Zl7(kind no:Int)(w:V1) :
 C0 165 #[V0 kind,V0 no] w (Ret (.bool (Tl kind no)) w):=by
 refine zin 19 Tryz.func165 ?_
 refine xg 10 [6,7] (decide (kind≥(1:Int))) (fun a0=>?_) (fun a0=>?_)
 ·have a0:=U1 a0
  refine xg 4 [9,10,11] (decide (kind≤(4:Int))) (fun a2=>?_) (fun a2=>?_)
  ·have a2:=U1 a2
   refine xg 4 [13,14,15] (decide (no≥(0:Int))) (fun a1=>?_) (fun a1=>?_)
   ·have a1:=U1 a1
    exact xe 7 (.bool (decide (no<(14400:Int)))) ⟨by rw[show Tl kind no=decide (no<14400) from decide_eq_decide.2 ⟨fun h=>h.2.2.2,fun h=>⟨M0,M0,M0,h⟩⟩],(B4 w)⟩
   have a1:=U2 a1
   exact xe 7 (.bool false) ⟨by rw[show Tl kind no=false from V9 M0],(B4 w)⟩
  have a2:=U2 a2
  exact xe 11 (.bool false) ⟨by rw[show Tl kind no=false from V9 M0],(B4 w)⟩
 have a0:=U2 a0
 exact xe 15 (.bool false) ⟨by rw[show Tl kind no=false from V9 M0],(B4 w)⟩
theorem Zwm(a:O0)(c k w:Nat)(l:Bl)(W:V1)(hw:w=1∨w=2∨w=4)(hk:k+w≤l.length)(hl:l.length≤100000000)(h:Bys W (.slice a l.length c) l) :
 C0 237 #[.slice a l.length c,V0 (k:Int),V0 (w:Int)] W (Ret (V0 (Zo l k w:Int)) W):=by
 refine zin 17 Tryz.func237 ?_
 refine xr 10 (Znn a c k w l _ M0 hk hl (h.i (B4 W)) (by have:=Jb l k w M0;omega)) fun W1 a0=>?_
 exact xe 14 (V0 (↑(Zo l k w):Int)) ⟨rfl,a0⟩
theorem Cw(a:O0)(n c k w:Nat)(ki wi:Int)(l:Bl)(W:V1)(hn:l.length=n)(hki:ki=(k:Int))(hwi:wi=(w:Int))(hw:w=1∨w=2∨w=4)(hk:k+w≤n)(hl:n≤100000000)(h:Bys W (.slice a n c) l) :
 C0 237 #[.slice a n c,V0 ki,V0 wi] W (Ret (V0 (Zo l k w:Int)) W):=by
 subst hn hki hwi;exact Zwm a c k w l W hw hk hl h
def Ex(kind no:Int)(l:Bl):Nat→Bool
 | 0=>!Tl kind no
 | 1=>(l.length:Int) != 256
 | 2=>(Zo l 252 4:Int) != (Zjl l kind:Int)
 | 3=>(Zo l 0 4:Int) != no
 | 4=>(Zo l 4 2:Int) != kind
 | _=>(Zo l 6 2:Int) != 0
def Qz(kind no:Int)(l:Bl):Int :=
 if Ex kind no l 0 then 1 else if Ex kind no l 1 then 7 else if Ex kind no l 2 then 4 else if Ex kind no l 3 then 5 else if Ex kind no l 4 then 6 else if Ex kind no l 5 then 7 else 0
theorem Zs8{kind no:Int}{l:Bl}(h:Ex kind no l 1=false):l.length=256:=by
 have:(l.length:Int)=256:=Vg h;omega
theorem open_1(kind no:Int)(w:V1)(l:Bl)(bk:Nat)(kk:Blk w bk [V0 kind] 3)(bn:Nat)(kn:Blk w bn [V0 no] 3) :
 C0 234 #[P0 bk,P0 bn] w (Ret (.bool (Ex kind no l 0)) w):=by
 refine zin 7 Tryz.func234 ?_
 refine xb 7 0 kk ?_
 refine xb 0 0 kn ?_
 refine xr 0 (Zl7 kind no _) fun W1 a0=>?_
 exact xe 5 (.bool (!(Tl kind no))) ⟨rfl,a0⟩
theorem open_2(kind no:Int)(w:V1)(bb:Nat)(a:O0)(c:Nat)(l:Bl)(kb:Blk w bb [.slice a l.length c] 50) :
 C0 235 #[P0 bb] w (Ret (.bool (Ex kind no l 1)) w):=by
 refine zin 5 Tryz.func235 ?_
 refine xb 7 0 kb ?_
 exact xe 6 (.bool ((l.length:Int) != (256:Int))) ⟨rfl,(B4 w)⟩
theorem Zuh(kind:Int)(a:O0)(c n:Nat)(l:Bl)(w:V1)(hn:l.length=n)(h256:n=256)(hc:256≤c)(h:Bys w (.slice a n c) l) :
 C0 167 #[.slice a n c,V0 kind] w (Ret (V0 (Zjl l kind:Int)) w):=by
 subst h256;exact Znc kind a c l w hn hc h
theorem open_3(kind no:Int)(w:V1)(bb:Nat)(a:O0)(c:Nat)(l:Bl)(kb:Blk w bb [.slice a l.length c] 50)(bk:Nat)(kk:Blk w bk [V0 kind] 3)(hl:l.length=256)(hc:256≤c)(h:Bys w (.slice a l.length c) l) :
 C0 236 #[P0 bb,P0 bk] w (Ret (.bool (Ex kind no l 2)) w):=by
 refine zin 9 Tryz.func236 ?_
 refine xd 6 .z ?_
 have a0:=kb.i (Za w)
 refine xb (.e [] 0) 0 a0 ?_
 refine xb (.e [] 2) 0 a0 ?_
 have a3:=kk.i (Za w)
 refine xb (.e [] 3) 0 a3 ?_
 have hB:=(Za w)
 refine xr (.o [] 1) (Cw a l.length c 252 4 252 4 l _ rfl rfl rfl Do M0 M0 (h.i hB)) fun W1 a4=>?_
 have a1:=bln hB a4
 refine xr (.o [] 4) (Zuh kind a c l.length l _ rfl hl hc (h.i a1)) fun W2 a5=>?_
 have a2:=bln a1 a5
 exact xe (.r [5,6] 3) (.bool ((↑(Zo l 252 4):Int) != (↑(Zjl l kind):Int))) ⟨rfl,a2⟩
theorem open_4(kind no:Int)(w:V1)(bb:Nat)(a:O0)(c:Nat)(l:Bl)(kb:Blk w bb [.slice a l.length c] 50)(bn:Nat)(kn:Blk w bn [V0 no] 3)(hl:l.length=256)(hc:256≤c)(h:Bys w (.slice a l.length c) l) :
 C0 238 #[P0 bb,P0 bn] w (Ret (.bool (Ex kind no l 3)) w):=by
 refine zin 7 Tryz.func238 ?_
 refine xd 6 .z ?_
 have a1:=kb.i (Za w)
 refine xb (.e [] 0) 0 a1 ?_
 have a2:=kn.i (Za w)
 refine xb (.e [] 2) 0 a2 ?_
 have hB:=(Za w)
 refine xr (.o [] 1) (Cw a l.length c 0 4 0 4 l _ rfl rfl rfl Do M0 M0 (h.i hB)) fun W1 a3=>?_
 have a0:=bln hB a3
 exact xe (.r [3,4] 3) (.bool ((↑(Zo l 0 4):Int) != no)) ⟨rfl,a0⟩
theorem open_5(kind no:Int)(w:V1)(bb:Nat)(a:O0)(c:Nat)(l:Bl)(kb:Blk w bb [.slice a l.length c] 50)(bk:Nat)(kk:Blk w bk [V0 kind] 3)(hl:l.length=256)(hc:256≤c)(h:Bys w (.slice a l.length c) l) :
 C0 239 #[P0 bb,P0 bk] w (Ret (.bool (Ex kind no l 4)) w):=by
 refine zin 7 Tryz.func239 ?_
 refine xd 6 .z ?_
 have a1:=kb.i (Za w)
 refine xb (.e [] 0) 0 a1 ?_
 have a2:=kk.i (Za w)
 refine xb (.e [] 2) 0 a2 ?_
 have hB:=(Za w)
 refine xr (.o [] 1) (Cw a l.length c 4 2 4 2 l _ rfl rfl rfl Do M0 M0 (h.i hB)) fun W1 a3=>?_
 have a0:=bln hB a3
 exact xe (.r [3,4] 3) (.bool ((↑(Zo l 4 2):Int) != kind)) ⟨rfl,a0⟩
theorem open_6(kind no:Int)(w:V1)(bb:Nat)(a:O0)(c:Nat)(l:Bl)(kb:Blk w bb [.slice a l.length c] 50)(hl:l.length=256)(hc:256≤c)(h:Bys w (.slice a l.length c) l) :
 C0 240 #[P0 bb] w (Ret (.bool (Ex kind no l 5)) w):=by
 refine zin 5 Tryz.func240 ?_
 refine xb 7 0 kb ?_
 refine xr 0 (Cw a l.length c 6 2 6 2 l _ rfl rfl rfl Do M0 M0 (h.i (B4 w))) fun W1 a0=>?_
 exact xe 5 (.bool ((↑(Zo l 6 2):Int) != (0:Int))) ⟨rfl,a0⟩
def OpenP(kind no:Int)(l:Bl)(w:V1)(e:V5)(w':V1):Prop :=
 (Qz kind no l≠0∧e=.returned (.tuple #[S1,V0 (Qz kind no l)])∧B3 w w') ∨
 (Qz kind no l=0∧∃ p c,e=.returned (.tuple #[.slice p 244 c,V0 0])∧B3 w w'∧w'.ownsRow w.heap.size 5 1 (.slice p 244 c) 244 (((l.drop 8).take 244).map bv))
theorem Zhj(kind no:Int)(a:O0)(c:Nat)(l:Bl)(w:V1)(h:Bys w (.slice a l.length c) l) :
 C0 188 #[.slice a l.length c,V0 kind,V0 no] w (OpenP kind no l w):=by
 have i9:=h.cap rfl
 refine zin 39 Tryz.func188 ?_
 refine xa 2 [.slice a l.length c] 50 fun b1 W1 n1=>?_
 refine xa 0 [V0 kind] 3 fun b2 W2 n2=>?_
 refine xa 0 [V0 no] 3 fun b3 W3 n3=>?_
 refine xbs 18 6 [.func (.func 234) #[] #[P0 b2,P0 b3],V0 1,.func (.func 235) #[] #[P0 b1],V0 7,.func (.func 236) #[] #[P0 b1,P0 b2],V0 4,.func (.func 238) #[] #[P0 b1,P0 b3],V0 5,.func (.func 239) #[] #[P0 b1,P0 b2],V0 6,.func (.func 240) #[] #[P0 b1],V0 7] 338 fun b4 W4 n4=>?_
 refine xu 12 7 ?_
 refine xlv 14 (n4.blk.a2 0 2) ?_
 refine xa 0 [.nilFunc,V0 0] 338 fun b5 W5 n5=>?_
 have d8:=n5.ne n4.blk
 refine xsv 0 n5.blk [.func (.func 234) #[] #[P0 b2,P0 b3],V0 1] fun W6 u6 k6=>?_
 have g5:=n5.ge (bln (bln (bln n1.i n2.i) n3.i) n4.i)
 refine xb 5 0 k6 ?_
 have f5:=u6.A (((n2.blk.i n3.i).i n4.i).i n5.i) n5.blk Do
 have k3:=u6.A ((n3.blk.i n4.i).i n5.i) n5.blk Do
 refine xr 0 (open_1 kind no _ l b2 f5 b3 k3) fun W7 a9=>?_
 refine xi 2 (Ex kind no l 0) (fun g8=>?_) (fun g8=>?_)
 ·have b7:=g8
  refine xd 1 .z ?_
  have g2:=(k6.i a9).i (Za W7)
  refine xb (.e [0] 1) 1 g2 ?_
  have hB:=bln (bln (u6.i (bln (bln (bln (bln n1.i n2.i) n3.i) n4.i) n5.i) g5) a9) (Za W7)
  refine xe (.r [2,3] 8) (.tuple #[S1,V0 1]) ?_
  have he:Qz kind no l=1:=by simp[Qz,b7]
  exact .inl ⟨by rw[he];decide,by rw[he],hB⟩
 have b7:=g8
 have c5:=(u6.blk (n4.blk.i n5.i) d8).i a9
 refine xlv 22 (c5.a2 2 2) ?_
 refine xa 0 [.nilFunc,V0 0] 338 fun b9 W9 n9=>?_
 have e2:=n9.ne c5
 refine xsv 0 n9.blk [.func (.func 235) #[] #[P0 b1],V0 7] fun l0 d6 i7=>?_
 have g9:=n9.ge (bln (u6.i (bln (bln (bln (bln n1.i n2.i) n3.i) n4.i) n5.i) g5) a9)
 refine xb 5 0 i7 ?_
 have k1:=d6.A (((u6.A ((((n1.blk.i n2.i).i n3.i).i n4.i).i n5.i) n5.blk Do).i a9).i n9.i) n9.blk Do
 refine xr 0 (open_2 kind no _ b1 a c l k1) fun h8 a1=>?_
 refine xi 2 (Ex kind no l 1) (fun c6=>?_) (fun c6=>?_)
 ·have a0:=c6
  refine xd 1 .z ?_
  have e1:=(i7.i a1).i (Za h8)
  refine xb (.e [0] 1) 1 e1 ?_
  have hB:=bln (bln (d6.i (bln (bln (u6.i (bln (bln (bln (bln n1.i n2.i) n3.i) n4.i) n5.i) g5) a9) n9.i) g9) a1) (Za h8)
  refine xe (.r [2,3] 8) (.tuple #[S1,V0 7]) ?_
  have he:Qz kind no l=7:=by simp[Qz,b7,a0]
  exact .inl ⟨by rw[he];decide,by rw[he],hB⟩
 have a0:=c6
 have h9:=Zs8 a0
 have c2:=(d6.blk (c5.i n9.i) e2).i a1
 refine xlv 22 (c2.a2 4 2) ?_
 refine xa 0 [.nilFunc,V0 0] 338 fun j6 k7 a8=>?_
 have c4:=a8.ne c2
 have hB:=bln (d6.i (bln (bln (u6.i (bln (bln (bln (bln n1.i n2.i) n3.i) n4.i) n5.i) g5) a9) n9.i) g9) a1
 have j0:=a8.ge hB
 refine xsv 0 a8.blk [.func (.func 236) #[] #[P0 b1,P0 b2],V0 4] fun k2 e6 i0=>?_
 refine xb 5 0 i0 ?_
 have e7:=e6.A ((k1.i a1).i a8.i) a8.blk Do
 have e9:=e6.A (((d6.A ((f5.i a9).i n9.i) n9.blk Do).i a1).i a8.i) a8.blk Do
 have d2:=e6.i (bln hB a8.i) j0
 refine xr 0 (open_3 kind no _ b1 a c l e7 b2 e9 (Zs8 a0) (by have:=Zs8 a0;have:=h.cap rfl;omega) (h.i d2)) fun i2 a2=>?_
 refine xi 2 (Ex kind no l 2) (fun c8=>?_) (fun c8=>?_)
 ·have d7:=c8
  refine xd 1 .z ?_
  have f0:=(i0.i a2).i (Za i2)
  refine xb (.e [0] 1) 1 f0 ?_
  have h1:=bln (bln d2 a2) (Za i2)
  refine xe (.r [2,3] 8) (.tuple #[S1,V0 4]) ?_
  have he:Qz kind no l=4:=by simp[Qz,b7,a0,d7]
  exact .inl ⟨by rw[he];decide,by rw[he],h1⟩
 have d7:=c8
 have c7:=(e6.blk (c2.i a8.i) c4).i a2
 refine xlv 22 (c7.a2 6 2) ?_
 refine xa 0 [.nilFunc,V0 0] 338 fun k4 j9 a5=>?_
 have d3:=a5.ne c7
 have f7:=bln d2 a2
 have j3:=a5.ge f7
 refine xsv 0 a5.blk [.func (.func 238) #[] #[P0 b1,P0 b3],V0 5] fun j8 f1 i4=>?_
 refine xb 5 0 i4 ?_
 have f9:=f1.A ((e7.i a2).i a5.i) a5.blk Do
 have g6:=f1.A (((e6.A (((d6.A ((k3.i a9).i n9.i) n9.blk Do).i a1).i a8.i) a8.blk Do).i a2).i a5.i) a5.blk Do
 have c9:=f1.i (bln f7 a5.i) j3
 refine xr 0 (open_4 kind no _ b1 a c l f9 b3 g6 (Zs8 a0) (by have:=Zs8 a0;have:=h.cap rfl;omega) (h.i c9)) fun i8 a4=>?_
 refine xi 2 (Ex kind no l 3) (fun c1=>?_) (fun c1=>?_)
 ·have e8:=c1
  refine xd 1 .z ?_
  have f8:=(i4.i a4).i (Za i8)
  refine xb (.e [0] 1) 1 f8 ?_
  have h5:=bln (bln c9 a4) (Za i8)
  refine xe (.r [2,3] 8) (.tuple #[S1,V0 5]) ?_
  have he:Qz kind no l=5:=by simp[Qz,b7,a0,d7,e8]
  exact .inl ⟨by rw[he];decide,by rw[he],h5⟩
 have e8:=c1
 have d1:=(f1.blk (c7.i a5.i) d3).i a4
 refine xlv 22 (d1.a2 8 2) ?_
 refine xa 0 [.nilFunc,V0 0] 338 fun k0 j7 b0=>?_
 have d0:=b0.ne d1
 have f6:=bln c9 a4
 have j1:=b0.ge f6
 refine xsv 0 b0.blk [.func (.func 239) #[] #[P0 b1,P0 b2],V0 6] fun k5 g0 i1=>?_
 refine xb 5 0 i1 ?_
 have e3:=g0.A ((f9.i a4).i b0.i) b0.blk Do
 have h2:=g0.A (((f1.A ((e9.i a2).i a5.i) a5.blk Do).i a4).i b0.i) b0.blk Do
 have d5:=g0.i (bln f6 b0.i) j1
 refine xr 0 (open_5 kind no _ b1 a c l e3 b2 h2 (Zs8 a0) (by have:=Zs8 a0;have:=h.cap rfl;omega) (h.i d5)) fun i6 a6=>?_
 refine xi 2 (Ex kind no l 4) (fun d4=>?_) (fun d4=>?_)
 ·have g1:=d4
  refine xd 1 .z ?_
  have f2:=(i1.i a6).i (Za i6)
  refine xb (.e [0] 1) 1 f2 ?_
  have h6:=bln (bln d5 a6) (Za i6)
  refine xe (.r [2,3] 8) (.tuple #[S1,V0 6]) ?_
  have he:Qz kind no l=6:=by simp[Qz,b7,a0,d7,e8,g1]
  exact .inl ⟨by rw[he];decide,by rw[he],h6⟩
 have g1:=d4
 have h3:=(g0.blk (d1.i b0.i) d0).i a6
 refine xlv 22 (h3.a2 10 2) ?_
 refine xa 0 [.nilFunc,V0 0] 338 fun k9 j4 f4=>?_
 have d9:=bln d5 a6
 have j2:=f4.ge d9
 refine xsv 0 f4.blk [.func (.func 240) #[] #[P0 b1],V0 7] fun j5 h7 i3=>?_
 refine xb 5 0 i3 ?_
 have e5:=h7.A ((e3.i a6).i f4.i) f4.blk Do
 have a3:=h7.i (bln d9 f4.i) j2
 refine xr 0 (open_6 kind no _ b1 a c l e5  (Zs8 a0) (by have:=Zs8 a0;have:=h.cap rfl;omega) (h.i a3)) fun i5 a7=>?_
 refine xi 2 (Ex kind no l 5) (fun c0=>?_) (fun c0=>?_)
 ·have g7:=c0
  refine xd 1 .z ?_
  have e0:=(i3.i a7).i (Za i5)
  refine xb (.e [0] 1) 1 e0 ?_
  have e4:=bln (bln a3 a7) (Za i5)
  refine xe (.r [2,3] 8) (.tuple #[S1,V0 7]) ?_
  have he:Qz kind no l=7:=by simp[Qz,b7,a0,d7,e8,g1,g7]
  exact .inl ⟨by rw[he];decide,by rw[he],e4⟩
 have g7:=c0
 have h0:=e5.i a7
 refine xb 22 0 h0 ?_
 refine xsB 0 (fun _ _ _ _ _ zo zx zy zz V=>Bc (k:=8) (h:=252) (b:=a) (n:=l.length) (c:=c) (i:=8) (ki:=.i64) (j:=252) (kj:=.i64) 1 zo zx zy rfl zz rfl M0 M0 Tryz.underlying50 K0 V) ?_
 have b8:=bln a3 a7
 refine xc 0 (Hd (Li a 8 c 1) 244 (c-8) ((l.drop 8).take 244) _ (by have:=Zs8 a0;simp;omega) ((Y1 h rfl 8 252 Do (by have:=Zs8 a0;omega)).i b8) Do) ?_
 rintro _ k8 ⟨_,rfl,h4,ho⟩
 have g3:=(bln a3 a7).size
 have b6:=Zg ho g3
 unfold Et at b6
 rw[show((l.drop 8).take 244).length=244 from by have:=Zs8 a0;simp;omega] at b6
 obtain⟨p,c3,rfl⟩:=(Zf b6).slice
 have f3:=bln b8 h4
 exact xe 5 (.tuple #[.slice p 244 c3,V0 0]) (.inr ⟨by simp[Qz,b7,a0,d7,e8,g1,g7],_,_,rfl,f3,b6⟩)
end
section
section
variable {P:V4} {Q:Exit→Act→V1→Prop} {a:Act} {w:V1} {K:Act→V1→Prop}
theorem Zn7{o:Oper}{d x:Operand}{dT sT e:V3}{base g off n cap dLen dCap:Nat}{xs:V6 V2}(l:Bl)(xs':V6 V2)(ho:o.op=.call { callee:=.builtin .copy,args:=#[d,x],argTypes:=#[dT,sT] })(hu:P.underlying dT=some (.slice e))(hsz:(P.info? e).map (·.size)=some 1)
 (hd:a.eval d=.slice (some ⟨g,off,none⟩) dLen dCap) (hs:a.eval x=.string ⟨l.toArray⟩) (hown:w.ownsRow base e 1 (.slice (S3 g) n cap) n xs) (hm:l.length≤dLen) (hfit:off+l.length≤n)
 (hbase:base≤w.heap.size) (hxs:xs.take off++l.map bv++xs.drop (off+l.length)=xs')
 (h:∀ W,W.ownsRow base e 1 (.slice (S3 g) n cap) n xs'→w.grownBy W (Value.slice (S3 g) n cap).ownBlock→Below base w W→K (a.put o.dst (V0 (l.length:Int))) W):o.wp P a w K Q:=by
 obtain⟨hl,hr⟩:=hown
 rcases hr with ⟨hv,_⟩|⟨g2,b2,a1,hv,a5,hh,a6,a9,a4,a7⟩
 ·cases hv
 simp only[C2,A0,Addr.mk.injEq] at hv
 obtain⟨⟨rfl,_,_⟩,_,rfl⟩:=hv
 have a3:a1.toList.length=cap:=by simpa using a4
 have a8:(l.map bv).length=l.length:=Y5
 have b0:∀ W,W.heap[g]? = some (.cells (a1.toList.take off++l.map bv++a1.toList.drop (off+l.length)).toArray e (0,0))→w.grownBy W (some g)→K (a.put o.dst (V0 (l.length:Int))) W:=by
  intro W hW hg;refine h W ⟨?_,.inr ⟨g,cap,_,rfl,a5,hW,a6,a9,?_,?_⟩⟩ hg (Gr (v:=.slice (S3 g) n cap) hg ⟨hl,.inr ⟨g,cap,a1,rfl,a5,hh,a6,a9,a4,a7⟩⟩ (At _) hbase)
  ·rw[←hxs];simp;omega
  ·simp only[Gt,A1,D8,L3,a3,G7,a8];omega
  ·have hA:(a1.toList.take off++l.map bv).length=off+l.length:=(by simp only[A1,D8,a3,a8];omega);rw[←hxs,←a7];simp only[G7];rw[List.take_append,B9 (by rw[hA];omega),hA,P8,I4 (by omega:off≤n),List.drop_take]
 have a0:(⟨l.toArray⟩:ByteArray).size=l.length:=by show l.toArray.size=l.length;simp
 have a2:=Go.Lib.run_copy_row_string (P:=P) w dT sT o.type e g off dLen dCap ⟨l.toArray⟩ a1 e hu hsz hh (by rw[a0];exact hm) (by rw[a0,a4];omega)
 rw[a0] at a2
 have b1:Go.Lib.byteCells (⟨l.toArray⟩:ByteArray).data.toList=l.map bv:=rfl
 rw[b1] at a2
 have h2:(execOp a.eval o).run P w=.ok (.value (V0 (l.length:Int))) (w.setRow g (a1.toList.take off++l.map bv++a1.toList.drop (off+l.length)).toArray):=by
  simp[execOp,ho,resolve,invoke,builtin,hd,hs,a2,Result.andThen,goInt]
 exact Uw h2 (b0 _ (setRow_heap w g _ _ e _ hh) ⟨rfl,rfl,rfl,Y5,fun k _ hk=>setRow_other w g k _ (fun e=>hk (by rw[e]))⟩)
theorem Sl.head{b:O0}{n c:Nat}{xs:V6 V2}(h:Sl w (.slice b n c) n xs)(hn:xs.length=n)(m:Nat)(hm:m≤n):Sl w (.slice b m c) m (xs.take m):=by
 rcases h with ⟨a',c',h1,h2,h3⟩|⟨b',a1,a2,h1,h2,h3,h4⟩
 ·obtain rfl:m=0:=M0;simp only[C2] at h1;exact .inl ⟨b,c,rfl,rfl,Y5⟩
 ·simp only[C2] at h1;obtain⟨rfl,_,rfl⟩:=h1;refine .inr ⟨b',a1,c,rfl,M0,h3,fun j x hj=>h4 j x ?_⟩;have a0:j<m:=by have:=(List.getElem?_eq_some_iff.1 hj).1;simp at this;omega
  rwa [I3 a0] at hj
def sv (l:Bl):V2:=.string ⟨l.toArray⟩
theorem Strs.elem{b:O0}{n c:Nat}{V:V6 Bl}(h:Sl w (.slice b n c) n (V.map sv))(hl:V.length=n){k:Nat}(hk:k<n):b.isSome=true∧w.cell? (Zx b (k*1))=some (.string ⟨(V.getD k []).toArray⟩):=by
 rcases h with ⟨a',c',h1,h2,h3⟩|⟨b',a0,a1,h1,h2,h3,h4⟩
 ·omega
 ·simp only[C2] at h1;obtain⟨rfl,_,rfl⟩:=h1;refine⟨rfl,?_⟩;have:=h4 k (sv (V.getD k [])) (by simp[getD,A9 (show k<V.length by omega)]);rw[G7];show w.cell? ((⟨b',a0,none⟩:Addr).add k)=_;rw[Addr.add_mid];exact this
end
end
section
attribute [local irreducible] wpList wpAnyH Code.wp Oper.wp Go
theorem Sl.cap{w:V1}{b:O0}{n c:Nat}{xs:V6 V2}(h:Sl w (.slice b n c) n xs):n≤c:=by
 rcases h with ⟨a',c',h1,h2,_⟩|⟨b',a0,cap,h1,h2,_,_⟩
 ·omega
 ·simp only[C2] at h1;omega
def Ll(b:Bool):Int:=if b then 1 else 0
theorem Zfo(b:Bool):0≤Ll b∧Ll b<256:=by cases b<;>decide
structure NodeOk(t:Int)(dx:Bool)(n m v:Nat)(K:V6 Int)(Vs:V6 (V6 UInt8)):Prop where
 ht1:1≤t
 ht2:t≤5
 hm:Jj t dx=m
 hv:Jl t dx=v
 hK:K.length=n
 hV:Vs.length=n
 hn:n≤m
 hl:dx=false→1≤n
 hk0:∀ i,i<n→0≤K.getD i 0∧K.getD i 0≤281474976710655
 hk1:∀ j,j+1<n→K.getD j 0<K.getD (j+1) 0
 hw:∀ i,i<n→(Vs.getD i []).length=v
theorem Ow(t:Int)(dx:Bool):4≤Jl t dx∧Jl t dx≤24:=by
 unfold Jl;repeat' split
 all_goals decide
theorem fitN(t:Int)(dx:Bool):12+Jj t dx*8+Jj t dx*Jl t dx≤244:=by
 unfold Jl Jj;repeat' split
 all_goals decide
theorem Zhf{K:V6 Int}{i j:Nat}(h:j<i):(K.take i).getD j 0=K.getD j 0:=by simp[getD,I3 h]
theorem Zbf(t:Int)(dx:Bool)(m:Nat)(hm:Jj t dx=m)(h1:1≤t)(h2:t≤5)(w:V1):C0 85 #[V0 t,.bool dx] w (Ret (V0 (m:Int)) w):=by
 subst hm;exact Au t dx h1 h2 w
theorem Ec(t:Int)(dx:Bool)(v:Nat)(hv:Jl t dx=v)(h1:1≤t)(h2:t≤5)(w:V1):C0 145 #[V0 t,.bool dx] w (Ret (V0 (v:Int)) w):=by
 subst hv;exact Zdg t dx h1 h2 w
theorem Zvf(dx:Bool)(w:V1) :
 C0 280 #[.bool dx] w (Ret (V0 (Ll dx)) w):=by
 refine zin 4 Tryz.func280 ?_
 refine xi 11 dx (fun a0=>?_) (fun a0=>?_)
 ·exact xe 7 (V0 1) ⟨by simp_all [Ll],(B4 w)⟩
 exact xe 8 (V0 0) ⟨by simp_all [Ll],(B4 w)⟩
theorem Zmd(a:O0)(i c:Nat)(L:V6 Int)(k:Int)(w:V1)(hL:L.length=i)(h:Sl w (.slice a i c) i (L.map V0))(h1:0≤k)(h2:k≤281474976710655)(h3:∀ j,i=j+1→L.getD j 0<k)(hi:i≤1000) :
 C0 273 #[.slice a i c,V0 k] w (Ret (V0 0) w):=by
 refine zin 26 Tryz.func273 ?_
 refine xgk 12 [7,8] (show(decide (k<(0:Int)):Bool)=false from V9 M0) ?_
 refine xk 6 (show(decide (k>(281474976710655:Int)):Bool)=false from V9 M0) ?_
 refine xg 6 [15,16] (decide ((i:Int)>(0:Int))) (fun a0=>?_) (fun a0=>?_)
 ·have a0:=U1 a0
  refine xwm 3 ((i:Int)-1) (↑(i-1):Int) ?_
  refine xx 0 _ i (i-1) 1 (IntsN.elem h hL (k:=(i-1)) M0).1 ?_
  refine xl 0 ((IntsN.elem h hL (k:=(i-1)) M0).2) ?_
  refine xk 6 (show(decide ((L.getD (i-1) 0)≥k):Bool)=false from V9 (by have:=h3 (i-1) M0;omega)) ?_
  exact xe 9 (V0 0) ⟨rfl,(B4 w)⟩
 have a0:=U2 a0
 exact xe 22 (V0 0) ⟨rfl,(B4 w)⟩
theorem Zpt(t:Int)(dx:Bool)(n m v:Nat)(K:V6 Int)(Vs:V6 Bl)(ak av:O0)(ck cv:Nat)(w:V1)(N:NodeOk t dx n m v K Vs)(hKs:Sl w (.slice ak n ck) n (K.map V0))(hVs:Sl w (.slice av n cv) n (Vs.map sv)) :
 C0 279 #[.agg #[V0 t,.bool dx,.slice ak n ck,.slice av n cv]] w (Ret (.bool true) w):=by
 have b9:=N.ht1
 have c0:=N.ht2
 have d0:=N.hn
 have c6:=Ow t dx
 rw[N.hv] at c6
 have c4:=Qc t dx
 rw[N.hm] at c4
 have b3:=fitN t dx
 rw[N.hm,N.hv] at b3
 have c1:=Sl.cap hKs
 refine zin 70 Tryz.func279 ?_
 refine xa 2 [V0 t,.bool dx,.slice ak n ck,.slice av n cv] 191 fun b1 W1 n1=>?_
 refine xb 6 0 n1.blk ?_
 refine xb 1 1 n1.blk ?_
 refine xr 0 (Ec t dx v N.hv b9 c0 _) fun W2 b8=>?_
 refine xd 5 .z ?_
 refine xgk (.b [0,1,2]) [12,13] (show(((v:Int)==(0:Int)):Bool)=false from by simp;omega) ?_
 have a6:=(n1.blk.i b8).i (Za W2)
 refine xb (.e [3] 4) 2 a6 ?_
 refine xb (.e [5,6] 7) 0 a6 ?_
 refine xb (.e [8] 9) 1 a6 ?_
 refine xr (.o [] 10) (Zbf t dx m N.hm b9 c0 _) fun W4 b6=>?_
 refine xgk (.b [11,12,13]) [22,23,24] (show(decide ((n:Int)>(m:Int)):Bool)=false from V9 M0) ?_
 have a1:=a6.i b6
 refine xb (.e [14] 15) 3 a1 ?_
 refine xb (.e [16,17] 18) 2 a1 ?_
 refine xgk (.b [19,20,21,22]) [31,32,33] (show(((n:Int) != (n:Int)):Bool)=false from by simp) ?_
 refine xb (.e [23] 24) 1 a1 ?_
 refine xg (.b [25,26]) [36,37] (!dx) (fun c3=>?_) (fun c3=>?_)
 ·refine xb (.e [27] 28) 2 a1 ?_
  refine xk (.r [29,30,31,32] 2) (show(((n:Int)==(0:Int)):Bool)=false from by have:=N.hl (by simp_all);simp;omega) ?_
  refine xb 6 2 a1 ?_
  have hB:=bln (bln (bln n1.i b8) (Za W2)) b6
  refine zl 5 70 (fun zm b4 V=>∃ (i:Nat),b4=[(1,P0 b1),(3,V0 (v:Int)),(45,.slice ak n ck),(46,V0 (n:Int)),(47,V0 (i:Int))]∧zm=n-((i:Int)).toNat∧B3 w V∧Blk V b1 ([V0 t,.bool dx,.slice ak n ck,.slice av n cv]) 191∧i≤n) ⟨0,rfl,rfl,hB,a1,A5 _⟩ ?_
  rintro _ _ W8 ⟨i,rfl,rfl,a5,a7,hi⟩ J8 c2 r8
  refine xid 6 ((i:Int)<(n:Int)) (fun c5=>?_) (fun c5=>?_)
  ·refine xx 7 _ n i 1 (IntsN.elem hKs N.hK (k:=i) M0).1 ?_
   refine xl 0 ((IntsN.elem (hKs.i a5) N.hK (k:=i) M0).2) ?_
   refine xb 7 2 a7 ?_
   refine xsH 1 (fun _ _ _ _ zo zx zy V=>Ka (k:=i) (b:=ak) (n:=n) (c:=ck) (i:=(i:Int)) (ki:=.i64) zo zx zy rfl M0 Tryz.underlying27 K0 V) ?_
   refine xr 1 (Zmd ak i ck (K.take i) (K.getD i 0) _ (by rw[D8,N.hK];omega) (by rw[I8];exact(hKs.i a5).head (by simpa using N.hK) i M0) (N.hk0 i M0).1 (N.hk0 i M0).2 (fun j e=>by subst e;rw[Zhf M0];exact N.hk1 j M0) M0) fun d2 a8=>?_
   have a2:=a7.i a8
   refine xb 3 3 a2 ?_
   refine xx 1 _ n i 1 (Strs.elem hVs N.hV (k:=i) M0).1 ?_
   have b2:=bln a5 a8
   refine xl 0 ((Strs.elem (hVs.i b2) N.hV (k:=i) M0).2) ?_
   refine xk 6 (show(((↑(Vs.getD i []).length:Int) != (v:Int)):Bool)=false from by rw[N.hw i M0];simp) ?_
   refine xw 4 ((i:Int)+1) ?_
   exact ze 2 (c2 _ _ _ ⟨i+1,rfl,rfl,b2,a2,M0⟩ M0)
  exact xe 11 (.bool true) ⟨rfl,a5⟩
 refine xb (.r [27,28,29,30,31,32] 9) 2 a1 ?_
 have hB:=bln (bln (bln n1.i b8) (Za W2)) b6
 refine zl 5 70 (fun zm b4 V=>∃ (i:Nat),b4=[(1,P0 b1),(3,V0 (v:Int)),(45,.slice ak n ck),(46,V0 (n:Int)),(47,V0 (i:Int))]∧zm=n-((i:Int)).toNat∧B3 w V∧Blk V b1 ([V0 t,.bool dx,.slice ak n ck,.slice av n cv]) 191∧i≤n) ⟨0,rfl,rfl,hB,a1,A5 _⟩ ?_
 rintro _ _ c7 ⟨i,rfl,rfl,a3,a4,hi⟩ d1 b7 c9
 refine xid 6 ((i:Int)<(n:Int)) (fun b5=>?_) (fun b5=>?_)
 ·refine xx 7 _ n i 1 (IntsN.elem hKs N.hK (k:=i) M0).1 ?_
  refine xl 0 ((IntsN.elem (hKs.i a3) N.hK (k:=i) M0).2) ?_
  refine xb 7 2 a4 ?_
  refine xsH 1 (fun _ _ _ _ zo zx zy V=>Ka (k:=i) (b:=ak) (n:=n) (c:=ck) (i:=(i:Int)) (ki:=.i64) zo zx zy rfl M0 Tryz.underlying27 K0 V) ?_
  refine xr 1 (Zmd ak i ck (K.take i) (K.getD i 0) _ (by rw[D8,N.hK];omega) (by rw[I8];exact(hKs.i a3).head (by simpa using N.hK) i M0) (N.hk0 i M0).1 (N.hk0 i M0).2 (fun j e=>by subst e;rw[Zhf M0];exact N.hk1 j M0) M0) fun c8 b0=>?_
  have a0:=a4.i b0
  refine xb 3 3 a0 ?_
  refine xx 1 _ n i 1 (Strs.elem hVs N.hV (k:=i) M0).1 ?_
  have a9:=bln a3 b0
  refine xl 0 ((Strs.elem (hVs.i a9) N.hV (k:=i) M0).2) ?_
  refine xk 6 (show(((↑(Vs.getD i []).length:Int) != (v:Int)):Bool)=false from by rw[N.hw i M0];simp) ?_
  refine xw 4 ((i:Int)+1) ?_
  exact ze 2 (b7 _ _ _ ⟨i+1,rfl,rfl,a9,a0,M0⟩ M0)
 exact xe 11 (.bool true) ⟨rfl,a3⟩
def widG(t:Int)(dx:Bool):Nat:=if 1≤t∧t≤5 then Jl t dx else 0
def Zvz(t:Int)(dx:Bool):Nat:=if 1≤t∧t≤5 then Jj t dx else 0
theorem fitG(t:Int)(dx:Bool):12+Zvz t dx*8+Zvz t dx*widG t dx≤244:=by
 unfold Zvz widG;split
 ·exact fitN t dx
 ·decide
theorem maxG_le(t:Int)(dx:Bool):Zvz t dx≤18:=by
 unfold Zvz;split
 ·exact(Qc t dx).2
 ·decide
theorem widG_le(t:Int)(dx:Bool):widG t dx≤24:=by
 unfold widG;split
 ·exact(Ow t dx).2
 ·decide
theorem Dr(t:Int)(dx:Bool)(w:V1)(h:¬ (1≤t∧t≤5)) :
 C0 145 #[V0 t,.bool dx] w (Ret (V0 0) w):=by
 refine zin 31 Tryz.func145 ?_
 refine xg 17 [8,9] (decide (t<(1:Int))) (fun a0=>?_) (fun a0=>?_)
 ·have a0:=U1 a0
  exact xe 15 (V0 0) ⟨rfl,(B4 w)⟩
 have a0:=U2 a0
 refine xk 6 (show(decide (t>(5:Int)):Bool)=true from U0 M0) ?_
 exact xe 8 (V0 0) ⟨rfl,(B4 w)⟩
theorem Er(t:Int)(dx:Bool)(w:V1):C0 145 #[V0 t,.bool dx] w (Ret (V0 (widG t dx:Int)) w):=by
 unfold widG;by_cases h:1≤t∧t≤5
 ·rw[V8 h];exact Zdg t dx h.1 h.2 w
 ·rw[V7 h];exact Dr t dx w h
theorem Zhy(t:Int)(dx:Bool)(w:V1)(h:¬ (1≤t∧t≤5)) :
 C0 85 #[V0 t,.bool dx] w (Ret (V0 0) w):=by
 refine zin 16 Tryz.func85 ?_
 refine xr 9 (Dr t dx _ h) fun W1 a0=>?_
 exact xe 18 (V0 0) ⟨rfl,a0⟩
theorem Zhd(t:Int)(dx:Bool)(w:V1):C0 85 #[V0 t,.bool dx] w (Ret (V0 (Zvz t dx:Int)) w):=by
 unfold Zvz;by_cases h:1≤t∧t≤5
 ·rw[V8 h];exact Au t dx h.1 h.2 w
 ·rw[V7 h];exact Zhy t dx w h
def Zry(L:V6 Int)(i:Nat)(k:Int):Int:=if k<0∨281474976710655<k then 2 else if 0<i∧k≤L.getD (i-1) 0 then 8 else 0
def Qt(l:Bl):Int:=(Zo l 1 1:Int)
def Yg(l:Bl):Bool:=(Zo l 0 1:Int)==(1:Int)
def Xa(l:Bl):Nat:=Zo l 2 2
def Jt(l:Bl):Nat:=widG (Qt l) (Yg l)
def Gu(l:Bl):Nat:=Zvz (Qt l) (Yg l)
def Zax(l:Bl):Bool:=decide (Zo l 0 1≤1∧Jt l≠0∧Zo l 2 2≤Gu l∧Zo l 4 2=Jt l∧Zo l 6 2=Gu l∧Zo l 8 4=0∧(Zo l 0 1=1∨0<Zo l 2 2))
def ShapeP(l:Bl)(w:V1)(e:V5)(w':V1):Prop :=
 (Zax l=false∧∃ a b c,e=.returned (.tuple #[.agg #[V0 a,.bool b,S1,S1],V0 c,.bool false])∧B3 w w') ∨
 (Zax l=true∧e=.returned (.tuple #[.agg #[V0 (Qt l),.bool (Yg l),S1,S1],V0 (Xa l:Int),.bool true])∧B3 w w')
theorem Ro(a:O0)(n c:Nat)(l:Bl)(aw:O0)(cw m:Nat)(ws:V6 Nat)(xs:V6 Nat)(W:V1)(hn:l.length=n)(hm:ws.length=m)(hx:Mk l 0 ws=xs)(hk:∀ i,i<ws.length→ws.getD i 0=1∨ws.getD i 0=2∨ws.getD i 0=4∨ws.getD i 0=8)(hs:ws.sum≤n)(hl:n≤100000000)(hw:ws.length≤1000)(h:Bys W (.slice a n c) l)(hws:Sl W (.slice aw m cw) m (ws.map nv))(hq:∀ i,i<ws.length→(Mk l 0 ws).getD i 0<9223372036854775808) :
 C0 198 #[.slice a n c,.slice aw m cw] W (Kd (fun w' r=>∃ p c,r=.tuple #[.slice p m c,V0 0]∧w'.ownsRow W.heap.size 3 1 (.slice p m c) m (xs.map nv)) W):=by
 subst hn hm hx;exact Zgw a c l aw cw ws W hk hs hl hw h hws hq
def Hl(l:Bl):V6 Nat:=[Zo l 0 1,Zo l 1 1,Zo l 2 2,Zo l 4 2,Zo l 6 2,Zo l 8 4]
theorem head6_bd(l:Bl)(i:Nat)(hi:i<6):(Mk l 0 [1,1,2,2,2,4]).getD i 0<9223372036854775808:=by
 have h1:=Jb l 0 1 Do;have h2:=Jb l 1 1 Do;have h3:=Jb l 2 2 Do;have h4:=Jb l 4 2 Do;have h5:=Jb l 6 2 Do;have h6:=Jb l 8 4 Do;obtain rfl|rfl|rfl|rfl|rfl|rfl:i=0∨i=1∨i=2∨i=3∨i=4∨i=5:=M0
 all_goals simp[Mk]
 all_goals omega
theorem Zp1(a:O0)(c:Nat)(l:Bl)(w:V1)(hl:l.length=244)(h:Bys w (.slice a 244 c) l) :
 C0 272 #[.slice a 244 c] w (ShapeP l w):=by
 refine zin 92 Tryz.func272 ?_
 refine xa 2 [V0 0,.bool false,S1,S1] 191 fun b1 W1 n1=>?_
 refine xbs 18 6 [V0 1,V0 1,V0 2,V0 2,V0 2,V0 4] 3 fun b2 W2 n2=>?_
 have hB:=bln n1.i n2.i
 refine xc 0 (Ro a 244 c l (S3 b2) 6 6 [1,1,2,2,2,4] (Hl l) _ hl rfl rfl Do Do Do Do (h.i hB) (n2.blk.sl 6 6 Do Do) (head6_bd l)) ?_
 rintro _ W3 ⟨_,rfl,f4,p5,c5,rfl,h5⟩
 have g5:=(bln n1.i n2.i).size
 refine xd 8 (.t w.heap.size [191]) ?_
 have b6:=Zb (Zg h5 g5) (Za W3)
 refine xx (.e [0] 1) _ 6 1 1 (Zz (l:=Hl l) (Zf b6) rfl (k:=1) Do).1 ?_
 refine xlt (.e [] 2) (.t w.heap.size [191]) (fun V hV=>(Zz (l:=Hl l) (Zf (Zi b6 hV.2 Do)) rfl (k:=1) Do).2) ?_
 refine xx (.e [3] 4) _ 6 0 1 (Zz (l:=Hl l) (Zf b6) rfl (k:=0) Do).1 ?_
 refine xlt (.e [] 5) (.t w.heap.size [191]) (fun V hV=>(Zz (l:=Hl l) (Zf (Zi b6 hV.2 Do)) rfl (k:=0) Do).2) ?_
 refine xa (.o [6,7] 8) [V0 0,.bool false,S1,S1] 191 fun b4 W4 n4=>?_
 have k1:=((n1.blk.i n2.i).i f4).i (Za W3)
 have a3:=n4.ne k1
 have a5:=bln (bln hB f4) (Za W3)
 have g4:=n4.ge a5
 refine ysv (.o [] 9) n4.blk [V0 (↑(Zo l 1 1):Int),.bool ((↑(Zo l 0 1):Int)==(1:Int)),S1,S1] (.t w.heap.size [191]) fun W5 u5 k5=>⟨(Zr u5 n4.blk g4 Do),?_⟩
 have b7:=u5.j (Zb b6 n4.i) n4.blk Do
 refine xx 6 _ 6 0 1 (Zz (l:=Hl l) (Zf b7) rfl (k:=0) Do).1 ?_
 refine xl 0 ((Zz (l:=Hl l) (Zf b7) rfl (k:=0) Do).2) ?_
 refine xg 2 [32,33] (decide ((↑(Zo l 0 1):Int)>(1:Int))) (fun d1=>?_) (fun d1=>?_)
 ·have d1:=U1 d1
  have e0:=u5.blk (k1.i n4.i) a3
  refine xsv 13 e0 [V0 0,.bool false,S1,S1] fun W7 u7 k7=>?_
  have g1:=n1.ge (B4 w)
  have d4:=u7.i (u5.i (bln a5 n4.i) g4) g1
  exact xec 6 k7 (.tuple #[.agg #[V0 0,.bool false,S1,S1],V0 0,.bool false]) (.inl ⟨V9 M0,_,_,_,rfl,d4⟩)
 have d1:=U2 d1
 refine xb 1 0 k5 ?_
 refine xb 1 1 k5 ?_
 refine xr 0 (Er (Qt l) (Yg l) _) fun W8 a7=>?_
 refine xie 4 (↑(Jt l):Int) (0:Int) (fun g6=>?_) (fun g6=>?_)
 ·have e6:=(u5.blk (k1.i n4.i) a3).i a7
  refine xsv 3 e6 [V0 0,.bool false,S1,S1] fun h6 f7 g2=>?_
  have g1:=n1.ge (B4 w)
  have e3:=f7.i (bln (u5.i (bln a5 n4.i) g4) a7) g1
  exact xec 6 g2 (.tuple #[.agg #[V0 0,.bool false,S1,S1],V0 0,.bool false]) (.inl ⟨V9 M0,_,_,_,rfl,e3⟩)
 refine xd 3 .z ?_
 have a6:=(k5.i a7).i (Za W8)
 refine xb (.e [0] 1) 0 a6 ?_
 refine xb (.e [2] 3) 1 a6 ?_
 refine xb (.e [5] 6) 0 a6 ?_
 refine xb (.e [7] 8) 1 a6 ?_
 refine xr (.o [] 4) (Er (Qt l) (Yg l) _) fun g9 a1=>?_
 refine xr (.o [] 9) (Zhd (Qt l) (Yg l) _) fun a4 a0=>?_
 have a2:=Zb (Zb (Zb (Zb b7 a7) (Za W8)) a1) a0
 refine xx (.r [10,11] 5) _ 6 2 1 (Zz (l:=Hl l) (Zf a2) rfl (k:=2) Do).1 ?_
 refine xl 0 ((Zz (l:=Hl l) (Zf a2) rfl (k:=2) Do).2) ?_
 refine xg 3 [56,57] (decide ((↑(Zo l 2 2):Int)≤(↑(Gu l):Int))) (fun b3=>?_) (fun b3=>?_)
 ·have b3:=U1 b3
  refine xx 1 _ 6 3 1 (Zz (l:=Hl l) (Zf a2) rfl (k:=3) Do).1 ?_
  refine xl 0 ((Zz (l:=Hl l) (Zf a2) rfl (k:=3) Do).2) ?_
  refine xg 4 [62,63,64] ((↑(Zo l 4 2):Int)==(↑(Jt l):Int)) (fun a8=>?_) (fun a8=>?_)
  ·have a8:=eq_of_beq a8
   refine xx 1 _ 6 4 1 (Zz (l:=Hl l) (Zf a2) rfl (k:=4) Do).1 ?_
   refine xl 0 ((Zz (l:=Hl l) (Zf a2) rfl (k:=4) Do).2) ?_
   refine xg 4 [69,70,71] ((↑(Zo l 6 2):Int)==(↑(Gu l):Int)) (fun a9=>?_) (fun a9=>?_)
   ·have a9:=eq_of_beq a9
    refine xx 1 _ 6 5 1 (Zz (l:=Hl l) (Zf a2) rfl (k:=5) Do).1 ?_
    refine xl 0 ((Zz (l:=Hl l) (Zf a2) rfl (k:=5) Do).2) ?_
    refine xg 3 [75,76,77] ((↑(Zo l 8 4):Int)==(0:Int)) (fun b0=>?_) (fun b0=>?_)
    ·have b0:=eq_of_beq b0
     have b8:=(a6.i a1).i a0
     refine xb 1 1 b8 ?_
     refine xg 1 [27,37,45,50,79,80] ((↑(Zo l 0 1):Int)==(1:Int)) (fun b5=>?_) (fun b5=>?_)
     ·have b5:=eq_of_beq b5
      refine xd 10 (.t w.heap.size [191]) ?_
      have c7:=Zb a2 (Za a4)
      refine xx (.e [1] 2) _ 6 2 1 (Zz (l:=Hl l) (Zf c7) rfl (k:=2) Do).1 ?_
      refine xlt (.e [] 3) (.t w.heap.size [191]) (fun V hV=>(Zz (l:=Hl l) (Zf (Zi c7 hV.2 Do)) rfl (k:=2) Do).2) ?_
      have d9:=b8.i (Za a4)
      refine xlv (.o [4] 0) d9.rp ?_
      have b9:=(((((u5.blk (k1.i n4.i) a3).i a7).i (Za W8)).i a1).i a0).i (Za a4)
      have g1:=n1.ge (B4 w)
      refine ysv (.o [] 5) b9 [V0 (↑(Zo l 1 1):Int),.bool ((↑(Zo l 0 1):Int)==(1:Int)),S1,S1] (.t w.heap.size [191]) fun h1 f0 g8=>⟨(Zr f0 b9 g1 Do),?_⟩
      have e2:=f0.i (bln (bln (bln (bln (bln (u5.i (bln a5 n4.i) g4) a7) (Za W8)) a1) a0) (Za a4)) g1
      exact xec (.r [6,7] 3) g8 (.tuple #[.agg #[V0 (↑(Zo l 1 1):Int),.bool ((↑(Zo l 0 1):Int)==(1:Int)),S1,S1],V0 (↑(Zo l 2 2):Int),.bool true]) (.inr ⟨U0 M0,rfl,e2⟩)
     have b5:=Vn b5
     refine xx 1 _ 6 2 1 (Zz (l:=Hl l) (Zf a2) rfl (k:=2) Do).1 ?_
     refine xl 0 ((Zz (l:=Hl l) (Zf a2) rfl (k:=2) Do).2) ?_
     refine xd 7 (.t w.heap.size [191]) ?_
     have c2:=Zb a2 (Za a4)
     refine xx (.e [1] 2) _ 6 2 1 (Zz (l:=Hl l) (Zf c2) rfl (k:=2) Do).1 ?_
     refine xlt (.e [] 3) (.t w.heap.size [191]) (fun V hV=>(Zz (l:=Hl l) (Zf (Zi c2 hV.2 Do)) rfl (k:=2) Do).2) ?_
     have d6:=b8.i (Za a4)
     refine xlv (.o [4] 0) d6.rp ?_
     have c4:=(((((u5.blk (k1.i n4.i) a3).i a7).i (Za W8)).i a1).i a0).i (Za a4)
     have g1:=n1.ge (B4 w)
     refine ysv (.o [] 5) c4 [V0 (↑(Zo l 1 1):Int),.bool ((↑(Zo l 0 1):Int)==(1:Int)),S1,S1] (.t w.heap.size [191]) fun h7 f1 f9=>⟨(Zr f1 c4 g1 Do),?_⟩
     have d0:=f1.i (bln (bln (bln (bln (bln (u5.i (bln a5 n4.i) g4) a7) (Za W8)) a1) a0) (Za a4)) g1
     refine xec (.r [6,7] 3) f9 (.tuple #[.agg #[V0 (↑(Zo l 1 1):Int),.bool ((↑(Zo l 0 1):Int)==(1:Int)),S1,S1],V0 (↑(Zo l 2 2):Int),.bool (decide ((↑(Zo l 2 2):Int)>(0:Int)))]) ?_
     rcases Bool.eq_false_or_eq_true (decide ((↑(Zo l 2 2):Int)>(0:Int))) with hq|hq
     ·have g0:=U1 hq
      rw[hq];exact .inr ⟨U0 M0,rfl,d0⟩
     ·have g0:=U2 hq
      rw[hq];exact .inl ⟨V9 M0,_,_,_,rfl,d0⟩
    have b0:=Vn b0
    refine xd 13 (.t w.heap.size [191]) ?_
    have c8:=Zb a2 (Za a4)
    refine xx (.e [1] 2) _ 6 2 1 (Zz (l:=Hl l) (Zf c8) rfl (k:=2) Do).1 ?_
    refine xlt (.e [] 3) (.t w.heap.size [191]) (fun V hV=>(Zz (l:=Hl l) (Zf (Zi c8 hV.2 Do)) rfl (k:=2) Do).2) ?_
    have d5:=((a6.i a1).i a0).i (Za a4)
    refine xlv (.o [4] 0) d5.rp ?_
    have c9:=(((((u5.blk (k1.i n4.i) a3).i a7).i (Za W8)).i a1).i a0).i (Za a4)
    have g1:=n1.ge (B4 w)
    refine ysv (.o [] 5) c9 [V0 (↑(Zo l 1 1):Int),.bool ((↑(Zo l 0 1):Int)==(1:Int)),S1,S1] (.t w.heap.size [191]) fun h4 f5 g7=>⟨(Zr f5 c9 g1 Do),?_⟩
    have e1:=f5.i (bln (bln (bln (bln (bln (u5.i (bln a5 n4.i) g4) a7) (Za W8)) a1) a0) (Za a4)) g1
    exact xec (.r [6,7] 3) g7 (.tuple #[.agg #[V0 (↑(Zo l 1 1):Int),.bool ((↑(Zo l 0 1):Int)==(1:Int)),S1,S1],V0 (↑(Zo l 2 2):Int),.bool false]) (.inl ⟨V9 M0,_,_,_,rfl,e1⟩)
   have a9:=Vn a9
   refine xd 19 (.t w.heap.size [191]) ?_
   have d3:=Zb a2 (Za a4)
   refine xx (.e [1] 2) _ 6 2 1 (Zz (l:=Hl l) (Zf d3) rfl (k:=2) Do).1 ?_
   refine xlt (.e [] 3) (.t w.heap.size [191]) (fun V hV=>(Zz (l:=Hl l) (Zf (Zi d3 hV.2 Do)) rfl (k:=2) Do).2) ?_
   have e7:=((a6.i a1).i a0).i (Za a4)
   refine xlv (.o [4] 0) e7.rp ?_
   have c0:=(((((u5.blk (k1.i n4.i) a3).i a7).i (Za W8)).i a1).i a0).i (Za a4)
   have g1:=n1.ge (B4 w)
   refine ysv (.o [] 5) c0 [V0 (↑(Zo l 1 1):Int),.bool ((↑(Zo l 0 1):Int)==(1:Int)),S1,S1] (.t w.heap.size [191]) fun h0 f2 f6=>⟨(Zr f2 c0 g1 Do),?_⟩
   have e5:=f2.i (bln (bln (bln (bln (bln (u5.i (bln a5 n4.i) g4) a7) (Za W8)) a1) a0) (Za a4)) g1
   exact xec (.r [6,7] 3) f6 (.tuple #[.agg #[V0 (↑(Zo l 1 1):Int),.bool ((↑(Zo l 0 1):Int)==(1:Int)),S1,S1],V0 (↑(Zo l 2 2):Int),.bool false]) (.inl ⟨V9 M0,_,_,_,rfl,e5⟩)
  have a8:=Vn a8
  refine xd 26 (.t w.heap.size [191]) ?_
  have c6:=Zb a2 (Za a4)
  refine xx (.e [1] 2) _ 6 2 1 (Zz (l:=Hl l) (Zf c6) rfl (k:=2) Do).1 ?_
  refine xlt (.e [] 3) (.t w.heap.size [191]) (fun V hV=>(Zz (l:=Hl l) (Zf (Zi c6 hV.2 Do)) rfl (k:=2) Do).2) ?_
  have d7:=((a6.i a1).i a0).i (Za a4)
  refine xlv (.o [4] 0) d7.rp ?_
  have d2:=(((((u5.blk (k1.i n4.i) a3).i a7).i (Za W8)).i a1).i a0).i (Za a4)
  have g1:=n1.ge (B4 w)
  refine ysv (.o [] 5) d2 [V0 (↑(Zo l 1 1):Int),.bool ((↑(Zo l 0 1):Int)==(1:Int)),S1,S1] (.t w.heap.size [191]) fun h2 f3 f8=>⟨(Zr f3 d2 g1 Do),?_⟩
  have e4:=f3.i (bln (bln (bln (bln (bln (u5.i (bln a5 n4.i) g4) a7) (Za W8)) a1) a0) (Za a4)) g1
  exact xec (.r [6,7] 3) f8 (.tuple #[.agg #[V0 (↑(Zo l 1 1):Int),.bool ((↑(Zo l 0 1):Int)==(1:Int)),S1,S1],V0 (↑(Zo l 2 2):Int),.bool false]) (.inl ⟨V9 M0,_,_,_,rfl,e4⟩)
 have b3:=U2 b3
 refine xd 33 (.t w.heap.size [191]) ?_
 have c3:=Zb a2 (Za a4)
 refine xx (.e [1] 2) _ 6 2 1 (Zz (l:=Hl l) (Zf c3) rfl (k:=2) Do).1 ?_
 refine xlt (.e [] 3) (.t w.heap.size [191]) (fun V hV=>(Zz (l:=Hl l) (Zf (Zi c3 hV.2 Do)) rfl (k:=2) Do).2) ?_
 have d8:=((a6.i a1).i a0).i (Za a4)
 refine xlv (.o [4] 0) d8.rp ?_
 have c1:=(((((u5.blk (k1.i n4.i) a3).i a7).i (Za W8)).i a1).i a0).i (Za a4)
 have g1:=n1.ge (B4 w)
 refine ysv (.o [] 5) c1 [V0 (↑(Zo l 1 1):Int),.bool ((↑(Zo l 0 1):Int)==(1:Int)),S1,S1] (.t w.heap.size [191]) fun h3 e9 g3=>⟨(Zr e9 c1 g1 Do),?_⟩
 have e8:=e9.i (bln (bln (bln (bln (bln (u5.i (bln a5 n4.i) g4) a7) (Za W8)) a1) a0) (Za a4)) g1
 exact xec (.r [6,7] 3) g3 (.tuple #[.agg #[V0 (↑(Zo l 1 1):Int),.bool ((↑(Zo l 0 1):Int)==(1:Int)),S1,S1],V0 (↑(Zo l 2 2):Int),.bool false]) (.inl ⟨V9 M0,_,_,_,rfl,e8⟩)
theorem Zue(a:O0)(i c:Nat)(L:V6 Int)(k:Int)(w:V1)(hL:L.length=i)(h:Sl w (.slice a i c) i (L.map V0))(hi:i≤1000) :
 C0 273 #[.slice a i c,V0 k] w (Ret (V0 (Zry L i k)) w):=by
 refine zin 26 Tryz.func273 ?_
 refine xg 12 [7,8] (decide (k<(0:Int))) (fun a0=>?_) (fun a0=>?_)
 ·have a0:=U1 a0
  exact xe 15 (V0 2) ⟨by rw[show Zry L i k=2 from by unfold Zry;rw[V8 M0]],(B4 w)⟩
 have a0:=U2 a0
 refine xid 6 (k>(281474976710655:Int)) (fun a2=>?_) (fun a2=>?_)
 ·exact xe 8 (V0 2) ⟨by rw[show Zry L i k=2 from by unfold Zry;rw[V8 M0]],(B4 w)⟩
 refine xg 6 [15,16] (decide ((i:Int)>(0:Int))) (fun a1=>?_) (fun a1=>?_)
 ·have a1:=U1 a1
  refine xwm 3 ((i:Int)-1) (↑(i-1):Int) ?_
  refine xx 0 _ i (i-1) 1 (IntsN.elem h hL (k:=(i-1)) M0).1 ?_
  refine xl 0 ((IntsN.elem h hL (k:=(i-1)) M0).2) ?_
  refine xid 6 ((L.getD (i-1) 0)≥k) (fun a3=>?_) (fun a3=>?_)
  ·exact xe 8 (V0 8) ⟨by rw[show Zry L i k=8 from by unfold Zry;rw[V7 M0,V8 M0]],(B4 w)⟩
  exact xe 9 (V0 0) ⟨by rw[show Zry L i k=0 from by unfold Zry;rw[V7 M0,V7 M0]],(B4 w)⟩
 have a1:=U2 a1
 exact xe 22 (V0 0) ⟨by rw[show Zry L i k=0 from by unfold Zry;rw[V7 M0,V7 M0]],(B4 w)⟩
def Zgp(l:Bl)(i:Nat):Nat:=Zo l (12+i*8) 8
def Hy(l:Bl)(n:Nat):V6 Int:=(range n).map fun i=>(Zgp l i:Int)
theorem Bb(l:Bl)(n:Nat):(Hy l n).length=n:=by simp[Hy]
theorem Zpx(l:Bl)(n:Nat):Hy l (n+1)=Hy l n++[(Zgp l n:Int)]:=by simp[Hy,B8]
theorem Zjc(l:Bl){n i:Nat}(h:i<n):(Hy l n).getD i 0=(Zgp l i:Int):=by simp[Hy,getD,C1 h]
def Zo3(l:Bl)(i:Nat):Bl:=(l.drop (12+Gu l*8+i*Jt l)).take (Jt l)
def Nt(l:Bl)(n:Nat):V6 Bl:=(range n).map (Zo3 l)
theorem Cj(l:Bl)(n:Nat):(Nt l n).length=n:=by simp[Nt]
theorem Zef(l:Bl)(n:Nat):Nt l (n+1)=Nt l n++[Zo3 l n]:=by simp[Nt,B8]
theorem Zhi(l:Bl){n i:Nat}(h:i<n):(Nt l n).getD i []=Zo3 l i:=by simp[Nt,getD,C1 h]
def Zf9(l:Bl)(i:Nat):Int:=if 281474976710655<Zgp l i then 2 else if 0<i∧Zgp l i≤Zgp l (i-1) then 8 else 0
def Vh(l:Bl):Nat→Int
 | 0=>0
 | i+1=>if Vh l i≠0 then Vh l i else Zf9 l i
theorem Ty{l:Bl}{i:Nat}(h:Vh l i≠0):∀ n,i≤n→Vh l n=Vh l i
 | 0,h2=>by
  obtain rfl:i=0:=M0;rfl
 | n+1,h2=>by
   by_cases e:i=n+1
   ·rw[e]
   ·have ih:=Ty h n M0;rw[Vh,V8 (by rw[ih];exact h),ih]
theorem Zda{l:Bl}{i n:Nat}(h:Vh l i=0)(he:Zf9 l i≠0)(hi:i<n):Vh l n=Zf9 l i:=by
 have e:Vh l (i+1)=Zf9 l i:=by rw[Vh,V7 (by rw[h];decide)]
 rw[Ty (by rw[e];exact he) n hi,e]
theorem Ck{l:Bl}{i:Nat}(h:Vh l i=0)(he:Zf9 l i=0):Vh l (i+1)=0:=by rw[Vh,V7 (by rw[h];decide),he]
theorem keyE_R{l:Bl}{i:Nat}:Zry (Hy l i) i (Zgp l i:Int)=Zf9 l i:=by
 unfold Zry Zf9;by_cases h:281474976710655<Zgp l i
 ·rw[V8 M0,V8 h]
 ·rw[V7 M0,V7 h];by_cases h2:0<i
  ·rw[Zjc l (show i-1<i by omega)];by_cases h3:Zgp l i≤Zgp l (i-1)
   ·rw[V8 M0,V8 M0]
   ·rw[V7 M0,V7 M0]
  ·rw[V7 M0,V7 M0]
def Zej(l:Bl):Nat:=12+Xa l*8
def Zpi(l:Bl):Nat:=12+Gu l*8
def Ze8(l:Bl):Nat:=Zpi l+Xa l*Jt l
def Zlj(l:Bl):Bool:=Hv ((l.drop (Zej l)).take (Zpi l-Zej l))&&Hv ((l.drop (Ze8 l)).take (244-Ze8 l))
def We(l:Bl):Int:=if Zax l then(if Zlj l then Vh l (Xa l) else 7) else 7
def NodeP(l:Bl)(w:V1)(e:V5)(w':V1):Prop :=
 (We l≠0∧e=.returned (.tuple #[.agg #[V0 0,.bool false,S1,S1],V0 (We l)])∧B3 w w') ∨
 (We l=0∧∃ kp kc vp vc,e=.returned (.tuple #[.agg #[V0 (Qt l),.bool (Yg l),.slice kp (Xa l) kc,.slice vp (Xa l) vc],V0 0])∧B3 w w' ∧
  w'.ownsRow w.heap.size 3 1 (.slice kp (Xa l) kc) (Xa l) ((Hy l (Xa l)).map V0)∧w'.ownsRow w.heap.size 9 1 (.slice vp (Xa l) vc) (Xa l) ((Nt l (Xa l)).map sv))
theorem Ee{l:Bl}(h:Zax l=true):Xa l≤Gu l:=(U1 h).2.2.1
theorem Sj(a:O0)(n c:Nat)(l:Bl)(w:V1)(hn:l.length=n)(hl:n≤100000000)(h:Bys w (.slice a n c) l):C0 203 #[.slice a n c] w (Ret (.bool (Hv l)) w):=by
 subst hn;exact Zyf a c l w hl h
theorem valN_bys{a:O0}{c i:Nat}{l:Bl}{w:V1}(h:Bys w (.slice a 244 c) l)(hl:l.length=244)(hb:12+Gu l*8+(i+1)*Jt l≤244)(hi:(i+1)*Jt l=i*Jt l+Jt l) :
 Bys w (.slice (Li a (12+Gu l*8+i*Jt l) c 1) (12+Gu l*8+(i+1)*Jt l-(12+Gu l*8+i*Jt l)) (c-(12+Gu l*8+i*Jt l))) (Zo3 l i):=by
 have:=Y1 h hl (12+Gu l*8+i*Jt l) (12+Gu l*8+(i+1)*Jt l) M0 hb
 rw[show 12+Gu l*8+(i+1)*Jt l-(12+Gu l*8+i*Jt l)=Jt l by omega] at this ⊢
 exact this
theorem Zyc{i:Nat}{l:Bl}(hl:l.length=244)(hb:12+Gu l*8+(i+1)*Jt l≤244)(hi:(i+1)*Jt l=i*Jt l+Jt l):(Zo3 l i).length=12+Gu l*8+(i+1)*Jt l-(12+Gu l*8+i*Jt l):=by
 unfold Zo3;simp only[D8,L3];omega
def GetP(l:Bl)(k w:Nat)(W:V1)(e:V5)(w':V1):Prop :=
 (Zo l k w<9223372036854775808∧e=.returned (.tuple #[V0 (Zo l k w:Int),V0 0])∧B3 W w')∨(¬ Zo l k w<9223372036854775808∧e=.returned (.tuple #[V0 0,V0 2])∧B3 W w')
theorem Get_P(a:O0)(n c k w:Nat)(l:Bl)(W:V1)(hn:l.length=n)(hw:w=1∨w=2∨w=4∨w=8)(hk:k+w≤n)(hl:n≤100000000)(h:Bys W (.slice a n c) l)(wi:Int)(hwi:wi=(w:Int)) :
 C0 190 #[.slice a n c,V0 (k:Int),V0 wi] W (GetP l k w W):=by
 subst hn hwi
 by_cases hq:Zo l k w<9223372036854775808
 ·refine(Znn a c k w l W hw hk hl h hq).mono ?_
  rintro e V ⟨rfl,hb⟩;exact .inl ⟨hq,rfl,hb⟩
 ·refine(Zyx a c k w l W hw hk hl h hq).mono ?_
  rintro e V ⟨rfl,hb⟩;exact .inr ⟨hq,rfl,hb⟩
theorem Ztx(l:Bl)(a:O0)(i c:Nat)(w:V1)(h:Sl w (.slice a i c) i ((Hy l i).map V0))(hi:i≤1000) :
 C0 273 #[.slice a i c,V0 (↑(Zgp l i):Int)] w (fun e w'=>(Zf9 l i=0∧e=.returned (V0 0)∧B3 w w')∨(Zf9 l i≠0∧e=.returned (V0 (Zf9 l i))∧B3 w w')):=by
 refine(Zue a i c (Hy l i) (Zgp l i) w (Bb l i) h hi).mono ?_
 rintro e W ⟨rfl,hb⟩
 rw[keyE_R]
 by_cases hz:Zf9 l i=0
 ·exact .inl ⟨hz,by rw[hz],hb⟩
 ·exact .inr ⟨hz,rfl,hb⟩
theorem Zvq(a:O0)(c:Nat)(l:Bl)(w:V1)(hl:l.length=244)(h:Bys w (.slice a 244 c) l) :
 C0 254 #[.slice a 244 c] w (NodeP l w):=by
 have k8:=Bys.cap h hl
 refine zin 104 Tryz.func254 ?_
 refine xa 2 [V0 0,.bool false,S1,S1] 191 fun b1 W1 n1=>?_
 refine xc 6 (Zp1 a c l _ hl (h.i n1.i)) ?_
 rintro e W2 m0
 rcases m0 with ⟨hs,t0,l0,c0,rfl,h1⟩|⟨hs,rfl,h1⟩
 ·refine xa 4 [V0 0,.bool false,S1,S1] 191 fun b3 W3 n3=>?_
  have k1:=n1.blk.i h1
  have e9:=n3.ne k1
  have g8:=bln n1.i h1
  have g3:=n3.ge g8
  refine xsv 0 n3.blk [V0 t0,.bool l0,S1,S1] fun W4 u4 k4=>?_
  have i5:=u4.blk (k1.i n3.i) e9
  refine xsv 15 i5 [V0 0,.bool false,S1,S1] fun W5 u5 k5=>?_
  have g1:=n1.ge (B4 w)
  have i1:=u5.i (u4.i (bln g8 n3.i) g3) g1
  refine xec 5 k5 (.tuple #[.agg #[V0 0,.bool false,S1,S1],V0 7]) ?_
  have he:We l=7:=by unfold We;simp[hs]
  exact .inl ⟨by rw[he];decide,by rw[he],i1⟩
 have m7:=Ee hs
 have h4:=fitG (Qt l) (Yg l)
 have i8:=maxG_le (Qt l) (Yg l)
 have i9:=widG_le (Qt l) (Yg l)
 change 12+Gu l*8+Gu l*Jt l≤244 at h4
 change Gu l≤18 at i8
 change Jt l≤24 at i9
 have n4:Xa l*Jt l≤Gu l*Jt l:=F1 _ m7
 refine xa 4 [V0 0,.bool false,S1,S1] 191 fun b6 W6 n6=>?_
 have k1:=n1.blk.i h1
 have a3:=n6.ne k1
 have h0:=bln n1.i h1
 have g6:=n6.ge h0
 refine xsv 0 n6.blk [V0 (Qt l),.bool (Yg l),S1,S1] fun W7 u7 k7=>?_
 refine xd 15 .z ?_
 have b8:=k7.i (Za W7)
 refine xb (.e [0] 1) 0 b8 ?_
 refine xb (.e [2] 3) 1 b8 ?_
 refine xb (.e [5] 6) 0 b8 ?_
 refine xb (.e [7] 8) 1 b8 ?_
 refine xr (.o [] 4) (Er (Qt l) (Yg l) _) fun W8 g7=>?_
 refine xr (.o [] 9) (Zhd (Qt l) (Yg l) _) fun W9 f2=>?_
 refine xwm (.r [10,11] 5) ((↑(Gu l):Int)*8) (↑((Gu l)*8):Int) ?_
 refine xwm 0 (12+(↑((Gu l)*8):Int)) (↑(12+((Gu l)*8)):Int) ?_
 refine xwm 8 ((↑(Xa l):Int)*8) (↑((Xa l)*8):Int) ?_
 refine xwm 0 (12+(↑((Xa l)*8):Int)) (↑(12+((Xa l)*8)):Int) ?_
 refine xsB 1 (fun _ _ _ _ _ zo zx zy zz V=>Bc (k:=(12+((Xa l)*8))) (h:=(12+((Gu l)*8))) (b:=a) (n:=244) (c:=c) (i:=(↑(12+((Xa l)*8)):Int)) (ki:=.i64) (j:=(↑(12+((Gu l)*8)):Int)) (kj:=.i64) 1 zo zx zy rfl zz rfl M0 M0 Tryz.underlying50 K0 V) ?_
 have d9:=bln (bln (bln (u7.i (bln h0 n6.i) g6) (Za W7)) g7) f2
 refine xr 0 (args:=#[.slice (Li a (12+((Xa l)*8)) c 1) ((12+((Gu l)*8))-(12+((Xa l)*8))) (c-(12+((Xa l)*8)))]) (Sj (Li a (12+((Xa l)*8)) c 1) ((12+((Gu l)*8))-(12+((Xa l)*8))) (c-(12+((Xa l)*8))) _ _ (by simp;omega) M0 ((Y1 h hl (12+((Xa l)*8)) (12+((Gu l)*8)) M0 M0).i d9)) fun p3 b0=>?_
 refine xg 2 [42,43] (!(Hv ((l.drop (Zej l)).take (Zpi l-Zej l)))) (fun d8=>?_) (fun d8=>?_)
 ·have h2:Hv ((l.drop (Zej l)).take (Zpi l-Zej l))=false:=by simpa using d8
  have j9:=((((u7.blk (k1.i n6.i) a3).i (Za W7)).i g7).i f2).i b0
  refine xsv 16 j9 [V0 0,.bool false,S1,S1] fun p2 m1 k9=>?_
  have g1:=n1.ge (B4 w)
  have j6:=m1.i (bln d9 b0) g1
  refine xec 5 k9 (.tuple #[.agg #[V0 0,.bool false,S1,S1],V0 7]) ?_
  have he:We l=7:=by unfold We;simp[hs,Zlj,h2]
  exact .inl ⟨by rw[he];decide,by rw[he],j6⟩
 have h2:Hv ((l.drop (Zej l)).take (Zpi l-Zej l))=true:=by simpa using d8
 refine xwm 4 ((↑(Xa l):Int)*(↑(Jt l):Int)) (↑((Xa l)*(Jt l)):Int) ?_
 refine xwm 0 ((↑(12+((Gu l)*8)):Int)+(↑((Xa l)*(Jt l)):Int)) (↑((12+((Gu l)*8))+((Xa l)*(Jt l))):Int) ?_
 refine xsL 0 (fun _ _ _ _ zo zx zy V=>Wv (k:=((12+((Gu l)*8))+((Xa l)*(Jt l)))) (b:=a) (n:=244) (c:=c) (i:=(↑((12+((Gu l)*8))+((Xa l)*(Jt l))):Int)) (ki:=.i64) 1 zo zx zy rfl M0 Tryz.underlying50 K0 V) ?_
 have e2:=bln d9 b0
 refine xr 0 (args:=#[.slice (Li a ((12+((Gu l)*8))+((Xa l)*(Jt l))) c 1) (244-((12+((Gu l)*8))+((Xa l)*(Jt l)))) (c-((12+((Gu l)*8))+((Xa l)*(Jt l))))]) (Sj (Li a ((12+((Gu l)*8))+((Xa l)*(Jt l))) c 1) (244-((12+((Gu l)*8))+((Xa l)*(Jt l)))) (c-((12+((Gu l)*8))+((Xa l)*(Jt l)))) _ _ (by simp;omega) M0 ((Y1 h hl (12+((Gu l)*8)+((Xa l)*(Jt l))) 244 M0 M0).i e2)) fun o8 b9=>?_
 refine xi 4 (!(Hv ((l.drop (Ze8 l)).take (244-Ze8 l)))) (fun d6=>?_) (fun d6=>?_)
 ·have i6:Hv ((l.drop (Ze8 l)).take (244-Ze8 l))=false:=by simpa using d6
  have i0:=(((((u7.blk (k1.i n6.i) a3).i (Za W7)).i g7).i f2).i b0).i b9
  refine xsv 3 i0 [V0 0,.bool false,S1,S1] fun o0 l5 m3=>?_
  have g1:=n1.ge (B4 w)
  have j8:=l5.i (bln e2 b9) g1
  refine xec 5 m3 (.tuple #[.agg #[V0 0,.bool false,S1,S1],V0 7]) ?_
  have he:We l=7:=by unfold We;simp[hs,Zlj,h2,i6]
  exact .inl ⟨by rw[he];decide,by rw[he],j8⟩
 have i6:Hv ((l.drop (Ze8 l)).take (244-Ze8 l))=true:=by simpa using d6
 have h3:Zlj l=true:=by unfold Zlj;rw[h2,i6];rfl
 have j7:=bln e2 b9
 have i4:=(((((u7.blk (k1.i n6.i) a3).i (Za W7)).i g7).i f2).i b0).i b9
 have i3:=(((b8.i g7).i f2).i b0).i b9
 refine zl 10 104 (fun zm l7 V=>∃ (i:Nat) (kp:O0) (kc:Nat) (vp:O0) (vc:Nat),l7=[(0,.slice a 244 c),(2,P0 b1),(4,P0 b6),(7,V0 (↑(Jt l):Int)),(9,V0 (↑(12+((Gu l)*8)):Int)),(55,V0 (↑(Xa l):Int)),(56,V0 (i:Int))]∧zm=Xa l-((i:Int)).toNat∧B3 w V∧Blk V b1 ([V0 0,.bool false,S1,S1]) 191∧Blk V b6 ([V0 (Qt l),.bool (Yg l),.slice kp i kc,.slice vp i vc]) 191∧V.ownsRow w.heap.size 3 1 (.slice kp i kc) i ((Hy l i).map V0)∧V.ownsRow w.heap.size 9 1 (.slice vp i vc) i ((Nt l i).map sv)∧i≤Xa l∧Vh l i=0) ⟨0,none,0,none,0,rfl,rfl,j7,i4,i3,A8 _ _ _ _,A8 _ _ _ _,A5 _,rfl⟩ ?_
 rintro _ _ o5 ⟨i,kp,kc,vp,vc,rfl,rfl,a6,a0,c4,hK,hV,hi,hz⟩ o6 g0 o3
 have k3:(i+1)*Jt l=i*Jt l+Jt l:=N6 i (Jt l)
 have l1:i<Xa l→(i+1)*Jt l≤Gu l*Jt l:=fun hh=>F1 _ M0
 refine xid 6 ((i:Int)<(↑(Xa l):Int)) (fun i7=>?_) (fun i7=>?_)
 ·refine xwm 14 ((i:Int)*8) (↑(i*8):Int) ?_
  refine xwm 0 (12+(↑(i*8):Int)) (↑(12+(i*8)):Int) ?_
  refine xc 0 (Get_P a 244 c (12+(i*8)) 8 l _ hl Do M0 Do (h.i a6) 8 rfl) ?_
  rintro e n8 h8
  rcases h8 with ⟨l6,rfl,a2⟩|⟨l6,rfl,a2⟩
  ·have a5:=c4.i a2
   refine xb 17 2 a5 ?_
   have f4:=Zb hK a2
   refine xc 1 (Ztx l kp i kc _ (Zf f4) M0) ?_
   rintro e p4 j1
   rcases j1 with ⟨e5,rfl,a4⟩|⟨e5,rfl,a4⟩
   ·have a7:=a5.i a4
    refine xb 16 2 a7 ?_
    refine xbs 1 1 [V0 (↑(Zgp l i):Int)] 3 fun o4 o2 d7=>?_
    have h7:=bln (bln a6 a2) a4
    have j0:=Zb f4 a4
    have b7:=Zb j0 d7.i
    have d0:=bln h7 d7.i
    refine xbi 0 fun _ _ _ _ zJ zQ zo zx zy zK=>Xd (m:=1) (news:=[V0 (↑(Zgp l i):Int)]) (V0 0) 1 8 (i+1) ((Hy l (i+1)).map V0) zo Tryz.underlying27 K0 rfl Do zx b7 zy (d7.blk.sl 1 1 Do Do) rfl Y4 Y2 M0 d0.size Y6 (by rw[Zpx,A6];rfl) fun e1 e0 n7 k0 c9 h9=>?_
    refine zK _ _ ?_
    have a1:=(a7.i d7.i).grown c9 b7 Do
    refine xs 1 a1 [V0 (Qt l),.bool (Yg l),.slice e1 (i+1) e0,.slice vp i vc] fun d3 e3 k2=>?_
    refine xd 2 (.t w.heap.size [9,191]) ?_
    refine xwm (.e [0,2,3,4,5] 6) ((i:Int)*(↑(Jt l):Int)) (↑(i*(Jt l)):Int) ?_
    refine xwm (.e [] 7) ((↑(12+((Gu l)*8)):Int)+(↑(i*(Jt l)):Int)) (↑((12+((Gu l)*8))+(i*(Jt l))):Int) ?_
    refine xwm (.e [8,9] 10) ((i:Int)+1) (↑(i+1):Int) ?_
    refine xwm (.e [11] 12) ((↑(i+1):Int)*(↑(Jt l):Int)) (↑((i+1)*(Jt l)):Int) ?_
    refine xwm (.e [] 13) ((↑(12+((Gu l)*8)):Int)+(↑((i+1)*(Jt l)):Int)) (↑((12+((Gu l)*8))+((i+1)*(Jt l))):Int) ?_
    refine xsB (.e [] 14) (fun _ _ _ _ _ zo zx zy zz V=>Bc (k:=((12+((Gu l)*8))+(i*(Jt l)))) (h:=((12+((Gu l)*8))+((i+1)*(Jt l)))) (b:=a) (n:=244) (c:=c) (i:=(↑((12+((Gu l)*8))+(i*(Jt l))):Int)) (ki:=.i64) (j:=(↑((12+((Gu l)*8))+((i+1)*(Jt l))):Int)) (kj:=.i64) 1 zo zx zy rfl zz rfl M0 M0 Tryz.underlying50 K0 V) ?_
    have c7:=Zb (e3.j (Zt (Zb (Zb (Zb hV a2) a4) d7.i) c9 b7 Do) a1 Do) (Za d3)
    have c1:=bln (e3.i (d0.trans h9) g6) (Za d3)
    refine xcvt (.e [] 15) (.t w.heap.size [9,191]) (fun _ _ _ zo zx V c7=>Mq zo zx ((valN_bys h hl M0 k3).i (Zf7 c1 c7 (At _))) (Zyc hl M0 k3) Tryz.underlying50 Tryz.underlying5 Tryz.underlying9) ?_
    refine xm2 0 1 16 ?_ ?_
    ·have d5:=k2.i (Za d3)
     refine xb 0 3 d5 ?_
     refine xbs (.o [] 16) 1 [.string ⟨(Zo3 l i).toArray⟩] 9 fun m9 p1 e4=>?_
     have b2:=Zb c7 e4.i
     have d2:=bln c1 e4.i
     refine ybi (.o [] 17) (.t w.heap.size [9,191]) fun _ _ _ _ zJ zQ zo zx zy zK=>Xd (m:=1) (news:=[.string ⟨(Zo3 l i).toArray⟩]) (.string ⟨#[]⟩) 1 16 (i+1) ((Nt l (i+1)).map sv) zo Tryz.underlying109 K0 rfl Do zx b2 zy (e4.blk.sl 1 1 Do Do) rfl Y4 Y2 M0 d2.size Y6 (by rw[Zef,A6];rfl) fun h6 j3 n2 l8 c8 f8=>?_
     refine zK _ _ (Xj f8 c8 b2 Do) ?_
     have a8:=(d5.i e4.i).grown c8 b2 Do
     refine ys (.o [18] 19) a8 [V0 (Qt l),.bool (Yg l),.slice e1 (i+1) e0,.slice h6 (i+1) j3] (.t w.heap.size [9,191]) fun n0 f0 m6=>⟨(Zr f0 a8 g6 Do),?_⟩
     refine xwm 4 ((i:Int)+1) (↑(i+1):Int) ?_
     have g9:=f0.i (d2.trans f8) g6
     have c3:=f0.blk ((((e3.blk ((((a0.i a2).i a4).i d7.i).grown c9 b7 Do) a3).i (Za d3)).i e4.i).grown c8 b2 Do) a3
     have f9:=f0.j (Zt (Zb (Zb (e3.j k0 a1 Do) (Za d3)) e4.i) c8 b2 Do) a8 Do
     have f7:=f0.j l8 a8 Do
     exact ze 2 (g0 _ _ _ ⟨i+1,_,_,_,_,rfl,rfl,g9,c3,m6,f9,f7,M0,Ck hz e5⟩ M0)
    refine xbs 0 1 [.string ⟨(Zo3 l i).toArray⟩] 9 fun o9 n5 e6=>?_
    have d4:=(k2.i (Za d3)).i e6.i
    refine xb (.o [] 1) 3 d4 ?_
    have b4:=Zb c7 e6.i
    have d1:=bln c1 e6.i
    refine ybi (.o [] 17) (.t w.heap.size [9,191]) fun _ _ _ _ zJ zQ zo zx zy zK=>Xd (m:=1) (news:=[.string ⟨(Zo3 l i).toArray⟩]) (.string ⟨#[]⟩) 1 16 (i+1) ((Nt l (i+1)).map sv) zo Tryz.underlying109 K0 rfl Do zx b4 zy (e6.blk.sl 1 1 Do Do) rfl Y4 Y2 M0 d1.size Y6 (by rw[Zef,A6];rfl) fun i2 j2 o7 l3 c6 f6=>?_
    refine zK _ _ (Xj f6 c6 b4 Do) ?_
    have a9:=d4.grown c6 b4 Do
    refine ys (.o [18] 19) a9 [V0 (Qt l),.bool (Yg l),.slice e1 (i+1) e0,.slice i2 (i+1) j2] (.t w.heap.size [9,191]) fun m8 f3 m2=>⟨(Zr f3 a9 g6 Do),?_⟩
    refine xwm 4 ((i:Int)+1) (↑(i+1):Int) ?_
    have f1:=f3.i (d1.trans f6) g6
    have c5:=f3.blk ((((e3.blk ((((a0.i a2).i a4).i d7.i).grown c9 b7 Do) a3).i (Za d3)).i e6.i).grown c6 b4 Do) a3
    have e8:=f3.j (Zt (Zb (Zb (e3.j k0 a1 Do) (Za d3)) e6.i) c6 b4 Do) a9 Do
    have g2:=f3.j l3 a9 Do
    exact ze 2 (g0 _ _ _ ⟨i+1,_,_,_,_,rfl,rfl,f1,c5,m2,e8,g2,M0,Ck hz e5⟩ M0)
   refine xk 10 (show(((Zf9 l i) != (0:Int)):Bool)=true from bne_iff_ne.2 e5) ?_
   have c2:=(a0.i a2).i a4
   refine xsv 4 c2 [V0 0,.bool false,S1,S1] fun p0 m5 m4=>?_
   have g1:=n1.ge (B4 w)
   have g5:=m5.i (bln (bln a6 a2) a4) g1
   refine xec 10 m4 (.tuple #[.agg #[V0 0,.bool false,S1,S1],V0 (Zf9 l i)]) ?_
   have he:We l=Zf9 l i:=by unfold We;rw[V8 hs,V8 h3,Zda hz e5 M0]
   exact .inl ⟨by rw[he];exact e5,by rw[he],g5⟩
  have b5:=a0.i a2
  refine xsv 29 b5 [V0 0,.bool false,S1,S1] fun o1 l2 l9=>?_
  have g1:=n1.ge (B4 w)
  have f5:=l2.i (bln a6 a2) g1
  refine xec 10 l9 (.tuple #[.agg #[V0 0,.bool false,S1,S1],V0 2]) ?_
  have k6:Zf9 l i=2:=by unfold Zf9;rw[V8 (by unfold Zgp;omega)]
  have he:We l=2:=by unfold We;rw[V8 hs,V8 h3,Zda hz (by rw[k6];decide) M0,k6]
  exact .inl ⟨by rw[he];decide,by rw[he],f5⟩
 refine xlv 7 c4.rp ?_
 refine xsv 0 a0 [V0 (Qt l),.bool (Yg l),.slice kp i kc,.slice vp i vc] fun n9 h5 l4=>?_
 have g1:=n1.ge (B4 w)
 have e7:=h5.i a6 g1
 have j5:=h5.j hK a0 Do
 have j4:=h5.j hV a0 Do
 refine xec 4 l4 (.tuple #[.agg #[V0 (Qt l),.bool (Yg l),.slice kp i kc,.slice vp i vc],V0 0]) ?_
 obtain rfl:i=Xa l:=M0
 exact .inr ⟨by unfold We;rw[V8 hs,V8 h3,hz],_,_,_,_,rfl,e7,j5,j4⟩
end
section
section
variable {P:V4} {a:Act} {w:V1} {K:Act→V1→Prop} {Q:Exit→Act→V1→Prop}
theorem Zkj(l:Bl):Lib.strCells ⟨l.toArray⟩=l.map bv:=by
 unfold Lib.strCells bv;simp
theorem Zxj{o:Oper}{s x:Operand}{t u e:V3}{base:Nat}{v:V2}{n:Nat}{xs:V6 V2}(l:Bl)(n':Nat)(xs':V6 V2)(ho:o.op=.call { callee:=.builtin .append,args:=#[s,x],argTypes:=#[t,u] })
 (ht:P.underlying t=some (.slice e)) (hu:P.underlying u=some .string) (hi:(P.info? e).map (fun i=>(i.zero,i.size,i.bytes))=some (some (.int .u8 0),1,1)) (hs:a.eval s=v) (hown:w.ownsRow base e 1 v n xs) (hx:a.eval x=.string ⟨l.toArray⟩)
 (hb:n+l.length≤100000000) (hbase:base≤w.heap.size) (hn:n+l.length=n') (hxs:xs++l.map bv=xs')
 (h:∀ b c W,W.ownsRow base e 1 (.slice b n' c) n' xs'→w.grownBy W v.ownBlock→Below base w W→K (a.put o.dst (.slice b n' c)) W):o.wp P a w K Q:=by
 cases hq:P.info? e with
 | none=>simp[hq] at hi
 | some i =>
  simp only[hq,D3,A0,D9] at hi
  have a0:(⟨l.toArray⟩:ByteArray).size=l.length:=by simp[ByteArray.size]
  obtain⟨v',W,hr,h2,h3,_⟩:=Lib.run_append_own_string (P:=P) w base t u o.type e i ht hu hq hi.1 hi.2.1 hi.2.2 v n xs hown ⟨l.toArray⟩ (by rw[a0];unfold maxLen;omega) (by rw[a0];omega) hbase
  rw[a0,Zkj] at h2
  subst hn hxs
  obtain⟨b,c,rfl⟩:=(Zf h2).slice
  unfold Oper.wp execOp
  simp only[ho,resolve,invoke,builtin,C9,H5,E0,M2,D7,H0,hs,hx,hr]
  exact h b c W h2 h3 (Gr h3 hown (At _) hbase)
theorem Zi6(g k:Nat):Zx (S3 g) (k*1)=⟨g,k,none⟩:=by
 simp[Zx,Addr.add];exact fun h=>h.symm
theorem Vx{o:Oper}{t e:V3}{x y:Operand}{g n c k base:Nat}{xs:V6 V2}{v:V2}(ho:o.op=.store t x y)(hx:a.eval x=.pointer (some (Zx (S3 g) (k*1))))(hy:a.eval y=v)
 (hi:(P.info? t).map (·.size)=some 1) (h1:v.oneCell'=true) (hown:w.ownsRow base e 1 (.slice (S3 g) n c) n xs) (hk:k<n)
 (h:∀ W,Upd w g W→W.ownsRow base e 1 (.slice (S3 g) n c) n (xs.set k v)→K (a.put o.dst undef) W):o.wp P a w K Q:=by
 obtain⟨hl,h2⟩:=hown
 rcases h2 with ⟨h2,_⟩|⟨g',a3,a0,hv,hg,hh,hc,hm,a2,a1⟩
 ·cases h2
 ·simp only[C2,A0,Addr.mk.injEq] at hv
  obtain⟨⟨rfl,_⟩,_,rfl⟩:=hv
  have hb:Blk w g a0.toList e:=by unfold Blk;simpa using hh
  rw[Zi6] at hx
  refine Kk ho hx hy hi h1 hb (by simp;omega) fun W hu hW=>h W hu ⟨by simpa using hl,.inr ⟨g,c,(a0.toList.set k v).toArray,rfl,hg,hW,hc,hm,by simpa using a2,?_⟩⟩
  rw[←a1]
  simp[List.take_set]
end
section
variable {P:V4} {ops:Array Oper} {Q:Exit→Act→V1→Prop} {a a':Act} {w:V1} {S:V1→Prop} {md:Region.Mode} {L L':Array Bool} {am:Nat}
end
theorem Ux{w:V1}{base e size g n c:Nat}{xs:V6 V2}(h:w.ownsRow base e size (.slice (S3 g) n c) n xs):base≤g:=(h.lt g rfl).1
theorem Zai{w:V1}{base e size g n c:Nat}{xs:V6 V2}(h:w.ownsRow base e size (.slice (S3 g) n c) n xs):∃ cs,Blk w g cs e:=by
 rcases h.2 with ⟨h2,_⟩|⟨g',a1,a0,hv,hg,hh,_⟩
 ·cases h2
 ·simp only[C2,A0,Addr.mk.injEq] at hv;obtain⟨⟨rfl,_⟩,_⟩:=hv;exact⟨a0.toList,by unfold Blk;simpa using hh⟩
theorem Yc{w:V1}{base e size g n c b:Nat}{t:V3}{xs cs:V6 V2}(k:Blk w b cs t)(h:w.ownsRow base e size (.slice (S3 g) n c) n xs)(hne:t≠e):b≠g:=by
 rintro rfl;obtain⟨a0,k'⟩:=Zai h;have h1:w.heap[b]? = some (.cells cs.toArray t (0,0)):=k;rw[show w.heap[b]? = some (.cells a0.toArray e (0,0)) from k'] at h1;simp only[A0,Obj.cells.injEq] at h1;exact hne h1.2.1.symm
theorem Q9{T:V6 V3}{w W:V1}{base e size g n c:Nat}{xs:V6 V2}(u:Upd w g W)(h:w.ownsRow base e size (.slice (S3 g) n c) n xs)(hT:T.contains e=true):Zd T w W:=by
 obtain⟨cs,k⟩:=Zai h;exact Q1 u k hT
theorem Upd.e2{w W:V1}{base base2 e e2 size size2 g n c n2:Nat}{v:V2}{xs ys:V6 V2}(u:Upd w g W)(h:w.ownsRow base2 e2 size2 v n2 ys)(o:w.ownsRow base e size (.slice (S3 g) n c) n xs)(hne:e2≠e):W.ownsRow base2 e2 size2 v n2 ys:=by
 obtain⟨cs,k⟩:=Zai o;exact u.j h k hne
end
section
attribute [local irreducible] wpList wpAnyH Code.wp Oper.wp Go
theorem Eu{P:V4}{a:Act}{w:V1}{K:Act→V1→Prop}{Q:Exit→Act→V1→Prop}{o:Oper}{src dst e:V3}{x:Operand}(l:Bl)(ho:o.op=.convert src dst x)(hx:a.eval x=.string ⟨l.toArray⟩)
 (hs:P.underlying src=some .string) (hd:P.underlying dst=some (.slice e)) (he:P.underlying e=some (.int .u8)) (hl:l.length≤1000000)
 (k:∀ b c W,B3 w W→Bys W (.slice (S3 b) l.length c) l→K (a.put o.dst (.slice (S3 b) l.length c)) W):o.wp P a w K Q:=by
 have hr:=run_bytes_of_string (P:=P) w src dst e ⟨l.toArray⟩ hs hd he
 have a2:(⟨l.toArray⟩:ByteArray).size=l.length:=by simp[ByteArray.size]
 rw[a2] at hr
 obtain⟨W1,a1⟩:∃ W1,W1=w.drew.alloc (.cells (bytesRow ⟨l.toArray⟩ (grownCap w l.length 0 e)) e ((bytesRow ⟨l.toArray⟩ (grownCap w l.length 0 e)).size,(bytesRow ⟨l.toArray⟩ (grownCap w l.length 0 e)).size+1)):=⟨_,rfl⟩
 rw[←a1] at hr
 have h2:(execOp a.eval o).run P w=.ok (.value (.slice (some ⟨w.heap.size,0,none⟩) l.length (grownCap w l.length 0 e))) W1:=by
  simp only[execOp,ho,hx,C9,hr];rfl
 refine Uw h2 (k _ _ _ (by rw[a1];exact(Za w).trans (show Below w.drew.heap.size w.drew _ from blx w.drew _)) (.inr ⟨w.heap.size,0,_,rfl,grownCap_ge w l.length 0 e,grownCap_le_maxLen w l.length 0 e Y2,fun j y hj=>?_⟩))
 have a0:j<l.length:=by have:=(List.getElem?_eq_some_iff.1 hj).1;simpa using this
 have hb:=bytesRow_at ⟨l.toArray⟩ (grownCap w l.length 0 e) j (by simpa using a0)
 have hy:y=.int .u8 ((l.toArray[j]'(by simpa using a0)).toNat:Int):=by
  rw[C3,A9 a0] at hj;simp only[D3,A0] at hj;rw[←hj];rfl
 have hh:W1.heap[w.heap.size]? = some (.cells (bytesRow ⟨l.toArray⟩ (grownCap w l.length 0 e)) e ((bytesRow ⟨l.toArray⟩ (grownCap w l.length 0 e)).size,(bytesRow ⟨l.toArray⟩ (grownCap w l.length 0 e)).size+1)):=by rw[a1];exact heap_alloc_new w.drew _
 rw[hy]
 simp[World.cell?,hh,hb]
def Qi(s:Bl):Int:=if s.length=4 then(if 1≤Zo s 0 4∧Zo s 0 4≤14399 then 0 else 2) else 7
def Ga(s:Bl):Nat:=if Qi s=0 then Zo s 0 4 else 0
theorem Zn1(bs:ByteArray)(i:Nat)(r:Bl)(h:i≤bs.size):(ByteArray.toList.loop bs i r).length=r.length+(bs.size-i):=by
 rw[ByteArray.toList.loop];split
 ·rename_i h2;rw[Zn1 bs (i+1) _ M0];simp;omega
 ·simp;omega
termination_by bs.size-i
theorem Zd4(bs:ByteArray):bs.toList.length=bs.size:=by
 unfold ByteArray.toList;rw[Zn1 _ _ _ (A5 _)];simp
theorem four_ne(n:Int):((⟨(leB n 4).toArray⟩:ByteArray).toList==(⟨#[]⟩:ByteArray).toList)=false:=by
 cases hq:((⟨(leB n 4).toArray⟩:ByteArray).toList==(⟨#[]⟩:ByteArray).toList) with
 | false=>rfl
 | true =>
  have e:=congrArg List.length (eq_of_beq hq);rw[Zd4,Zd4] at e;simp[ByteArray.size,Zl] at e
theorem Zl9(w:V1) :
 C0 149 #[] w (Kd (fun w' r=>∃ b,r=.slice (S3 b) 1 1∧w.heap.size≤b∧Blk w' b [V0 4,V0 1,V0 14399] 298) w):=by
 refine zin 3 Tryz.func149 ?_
 refine xbs 8 1 [V0 4,V0 1,V0 14399] 298 fun b1 W1 n1=>?_
 have g1:=n1.ge (B4 w)
 exact xe 4 (.slice (S3 b1) 1 1) ⟨_,rfl,n1.i,_,rfl,g1,n1.blk⟩
theorem Zpd(gl:Nat)(an:O0)(cn:Nat)(n:Int)(w:V1)(hl:Blk w gl [V0 4,V0 1,V0 14399] 298)(hn:Sl w (.slice an 1 cn) 1 [V0 n])(h1:1≤n)(h2:n≤14399) :
 C0 146 #[.slice (S3 gl) 1 1,.slice an 1 cn] w (Ret (.string ⟨(leB n 4).toArray⟩) w):=by
 have a9:=h2
 clear h2
 refine zin 51 Tryz.func146 ?_
 refine xu 19 2 ?_
 refine xlv 15 hl.rp ?_
 refine xa 0 [V0 0,V0 0,V0 0] 298 fun b1 W1 n1=>?_
 refine xsv 1 n1.blk [V0 4,V0 1,V0 14399] fun W2 u2 k2=>?_
 have g1:=n1.ge (B4 w)
 refine xd 4 .z ?_
 refine xx (.e [0,1] 2) _ 1 0 1 (Ints.elem (l:=[n]) hn (k:=0) Y5).1 ?_
 have hB:=bln (u2.i n1.i g1) (Za W2)
 refine xl (.e [] 3) ((Ints.elem (l:=[n]) (hn.i hB) (k:=0) Y5).2) ?_
 have a1:=k2.i (Za W2)
 refine xb (.e [4] 5) 1 a1 ?_
 refine xgk (.b [6,7]) [23,24] (show(decide (n<(1:Int)):Bool)=false from V9 M0) ?_
 refine xx (.e [8,9] 10) _ 1 0 1 (Ints.elem (l:=[n]) hn (k:=0) Y5).1 ?_
 refine xl (.e [] 11) ((Ints.elem (l:=[n]) (hn.i hB) (k:=0) Y5).2) ?_
 refine xb (.e [12] 13) 2 a1 ?_
 refine xk (.r [14,15] 2) (show(decide (n>(14399:Int)):Bool)=false from V9 M0) ?_
 refine xd 3 .z ?_
 have a3:=a1.i (Za W2.drew)
 refine xb (.e [0] 1) 0 a3 ?_
 refine xx (.e [2,3] 4) _ 1 0 1 (Ints.elem (l:=[n]) hn (k:=0) Y5).1 ?_
 have a0:=bln hB (Za W2.drew)
 refine xl (.e [] 5) ((Ints.elem (l:=[n]) (hn.i a0) (k:=0) Y5).2) ?_
 refine xbs (.o [6] 7) 1 [V0 4,V0 n] 178 fun b4 W4 n4=>?_
 refine yc (.o [] 8) (args:=#[.slice (S3 b4) 1 1]) .z (Td b4 n M0 M0 _ n4.blk) ?_
 rintro _ W5 ⟨_,rfl,a6,p2,c2,rfl,h2⟩
 have a7:=(bln a0 n4.i).size
 refine⟨a6,?_⟩
 have o6:=A8 W5 w.heap.size 5 1
 have a5:=Zg h2 a7
 have a2:=bln (bln a0 n4.i) a6
 refine xbi (.r [9,10,11,12,13] 5) fun _ _ _ _ zJ zQ zo zx zy zK=>Xd (m:=4) (news:=(leB n 4).map bv) (.int .u8 0) 1 1 (4) ((leB n 4).map bv) zo Tryz.underlying50 K0 rfl Do zx o6 zy (Zf a5) (by simp[Zl]) (Vq _) Y2 M0 a2.size Y6 Y5 fun b0 b3 W7 o7 b2 a8=>?_
 refine zK _ _ ?_
 refine xcv0 24 (fun _ _ _ zo zx=>Mq zo zx (Vr (Zf o7) (Zl _ _)) (Zl _ _) Tryz.underlying50 Tryz.underlying5 Tryz.underlying9) ?_
 have a4:=a2.trans a8
 exact xe 4 (.string ⟨(leB n 4).toArray⟩) ⟨rfl,a4⟩
theorem Zq0(gl:Nat)(an:O0)(cn:Nat)(n:Int)(w:V1)(hl:Blk w gl [V0 4,V0 1,V0 14399] 298)(hn:Sl w (.slice an 1 cn) 1 [V0 n])(h:¬ (1≤n∧n≤14399)) :
 C0 146 #[.slice (S3 gl) 1 1,.slice an 1 cn] w (Ret (.string ⟨#[]⟩) w):=by
 refine zin 51 Tryz.func146 ?_
 refine xu 19 2 ?_
 refine xlv 15 hl.rp ?_
 refine xa 0 [V0 0,V0 0,V0 0] 298 fun b1 W1 n1=>?_
 have a2:=n1.ne hl
 refine xsv 1 n1.blk [V0 4,V0 1,V0 14399] fun W2 u2 k2=>?_
 have g1:=n1.ge (B4 w)
 refine xd 4 .z ?_
 refine xx (.e [0,1] 2) _ 1 0 1 (Ints.elem (l:=[n]) hn (k:=0) Y5).1 ?_
 have hB:=bln (u2.i n1.i g1) (Za W2)
 refine xl (.e [] 3) ((Ints.elem (l:=[n]) (hn.i hB) (k:=0) Y5).2) ?_
 have a1:=k2.i (Za W2)
 refine xb (.e [4] 5) 1 a1 ?_
 refine xg (.b [6,7]) [23,24] (decide (n<(1:Int))) (fun a0=>?_) (fun a0=>?_)
 ·have a0:=U1 a0
  exact xe (.r [8,9,10,11,12,13,14,15] 15) (.string ⟨#[]⟩) ⟨rfl,hB⟩
 have a0:=U2 a0
 refine xx (.e [8,9] 10) _ 1 0 1 (Ints.elem (l:=[n]) hn (k:=0) Y5).1 ?_
 refine xl (.e [] 11) ((Ints.elem (l:=[n]) (hn.i hB) (k:=0) Y5).2) ?_
 refine xb (.e [12] 13) 2 a1 ?_
 refine xk (.r [14,15] 2) (show(decide (n>(14399:Int)):Bool)=true from U0 M0) ?_
 exact xe 12 (.string ⟨#[]⟩) ⟨rfl,hB⟩
theorem Zce(gl:Nat)(s:Bl)(w:V1)(hl:Blk w gl [V0 4,V0 1,V0 14399] 298)(hs:s.length≤1000)(h4:s.length≠4) :
 C0 127 #[.slice (S3 gl) 1 1,.string ⟨s.toArray⟩] w (Kd (fun w' r=>∃ p c,r=.tuple #[.slice p 1 c,V0 7]∧w'.ownsRow w.heap.size 3 1 (.slice p 1 c) 1 [V0 0]) w):=by
 refine zin 54 Tryz.func127 ?_
 refine xu 25 2 ?_
 refine xlv 14 hl.rp ?_
 refine xa 0 [V0 0,V0 0,V0 0] 298 fun b1 W1 n1=>?_
 have a3:=n1.ne hl
 refine xsv 0 n1.blk [V0 4,V0 1,V0 14399] fun W2 u2 k2=>?_
 have g1:=n1.ge (B4 w)
 refine xb 6 0 k2 ?_
 refine xbs 0 1 [V0 4] 3 fun b3 W3 n3=>?_
 have o4:=A8 W3 w.heap.size 3 1
 have hB:=bln (u2.i n1.i g1) n3.i
 refine xbi 0 fun _ _ _ _ zJ zQ zo zx zy zK=>Xd (m:=1) (news:=[V0 4]) (V0 0) 1 8 (1) ([Value.int .i64 4]) zo Tryz.underlying27 K0 rfl Do zx o4 zy (n3.blk.sl 1 1 Do Do) rfl Y4 Y2 M0 hB.size Y6 Y6 fun a6 a7 W5 o5 a4 a5=>?_
 refine zK _ _ ?_
 have a2:=(k2.i n3.i).grown a4 o4 Do
 refine xb 6 0 a2 ?_
 refine xk 31 (show(((s.length:Int) != (4:Int)):Bool)=true from bne_iff_ne.2 M0) ?_
 refine xmk 4 fun _ _ _ _ zJ zQ zo zx zy zK=>Ht 1 (V0 0) 1 8 [Value.int .i64 0] zo zx zy Tryz.underlying27 K0 rfl M0 M0 (rfl) fun b6 W6 n6=>?_
 have a0:=hB.trans a5
 have g6:=n6.ge a0
 refine zK _ _ ?_
 have a1:=bln a0 n6.i
 have o6:=Xw (size:=1) (n:=1) n6.blk g6 (rfl) Y2
 exact xe 6 (.tuple #[.slice (S3 b6) 1 1,V0 7]) ⟨_,rfl,a1,_,_,rfl,o6⟩
theorem Zfp(gl:Nat)(s:Bl)(w:V1)(hl:Blk w gl [V0 4,V0 1,V0 14399] 298)(hs:s.length≤1000)(h4:s.length=4)(h1:1≤Zo s 0 4)(h2:Zo s 0 4≤14399) :
 C0 127 #[.slice (S3 gl) 1 1,.string ⟨s.toArray⟩] w (Kd (fun w' r=>∃ p c,r=.tuple #[.slice p 1 c,V0 0]∧w'.ownsRow w.heap.size 3 1 (.slice p 1 c) 1 [V0 (↑(Zo s 0 4):Int)]) w):=by
 refine zin 54 Tryz.func127 ?_
 refine xu 25 2 ?_
 refine xlv 14 hl.rp ?_
 refine xa 0 [V0 0,V0 0,V0 0] 298 fun b1 W1 n1=>?_
 have a1:=n1.ne hl
 refine xsv 0 n1.blk [V0 4,V0 1,V0 14399] fun W2 u2 k2=>?_
 have g1:=n1.ge (B4 w)
 refine xb 6 0 k2 ?_
 refine xbs 0 1 [V0 4] 3 fun b3 W3 n3=>?_
 have o4:=A8 W3 w.heap.size 3 1
 have hB:=bln (u2.i n1.i g1) n3.i
 refine xbi 0 fun _ _ _ _ zJ zQ zo zx zy zK=>Xd (m:=1) (news:=[V0 4]) (V0 0) 1 8 (1) ([Value.int .i64 4]) zo Tryz.underlying27 K0 rfl Do zx o4 zy (n3.blk.sl 1 1 Do Do) rfl Y4 Y2 M0 hB.size Y6 Y6 fun a9 b5 W5 o5 b0 b2=>?_
 refine zK _ _ ?_
 have a6:=(k2.i n3.i).grown b0 o4 Do
 refine xb 6 0 a6 ?_
 refine xk 31 (show(((s.length:Int) != (4:Int)):Bool)=false from by rw[h4];rfl) ?_
 refine xcf 5 fun _ _ _ zJ zQ zo zx zK=>Eu s zo zx Tryz.underlying9 Tryz.underlying50 Tryz.underlying5 M0 ?_
 intro bz cz W6 a2 b7
 refine zK _ _ ?_
 have a5:=Zb o5 a2
 refine xc 1 (Ro (S3 bz) s.length cz s a9 b5 1 [4] [Zo s 0 4] _ rfl rfl rfl Do (by simp;omega) M0 Do b7 (Zf a5) (fun i hi=>by obtain rfl:i=0:=(by simpa using hi);have:=Jb s 0 4 Do;simp[Mk];omega)) ?_
 rintro _ W7 ⟨_,rfl,b4,p5,c5,rfl,h5⟩
 have b6:=(bln (hB.trans b2) a2).size
 have a7:=((((u2.blk (hl.i n1.i) a1).i n3.i).grown b0 o4 Do).i a2).i b4
 have a0:=Zg h5 b6
 refine xr 15 (Zpd gl p5 c5 (↑(Zo s 0 4):Int) _ a7 (Zf a0) M0 M0) fun W8 a8=>?_
 refine xk 4 (show(((⟨(leB (↑(Zo s 0 4):Int) 4).toArray⟩:ByteArray).toList==(⟨#[]⟩:ByteArray).toList):Bool)=false from four_ne _) ?_
 have a4:=bln (bln (bln (hB.trans b2) a2) b4) a8
 have a3:=Zb a0 a8
 exact xe 10 (.tuple #[.slice p5 1 c5,V0 0]) ⟨_,rfl,a4,_,_,rfl,a3⟩
theorem Zcf(gl:Nat)(s:Bl)(w:V1)(hl:Blk w gl [V0 4,V0 1,V0 14399] 298)(hs:s.length≤1000)(h4:s.length=4)(h1:¬ (1≤(Zo s 0 4:Int)∧(Zo s 0 4:Int)≤14399)) :
 C0 127 #[.slice (S3 gl) 1 1,.string ⟨s.toArray⟩] w (Kd (fun w' r=>∃ p c,r=.tuple #[.slice p 1 c,V0 2]∧w'.ownsRow w.heap.size 3 1 (.slice p 1 c) 1 [V0 0]) w):=by
 refine zin 54 Tryz.func127 ?_
 refine xu 25 2 ?_
 refine xlv 14 hl.rp ?_
 refine xa 0 [V0 0,V0 0,V0 0] 298 fun b1 W1 n1=>?_
 have a1:=n1.ne hl
 refine xsv 0 n1.blk [V0 4,V0 1,V0 14399] fun W2 u2 k2=>?_
 have g1:=n1.ge (B4 w)
 refine xb 6 0 k2 ?_
 refine xbs 0 1 [V0 4] 3 fun b3 W3 n3=>?_
 have o4:=A8 W3 w.heap.size 3 1
 have hB:=bln (u2.i n1.i g1) n3.i
 refine xbi 0 fun _ _ _ _ zJ zQ zo zx zy zK=>Xd (m:=1) (news:=[V0 4]) (V0 0) 1 8 (1) ([Value.int .i64 4]) zo Tryz.underlying27 K0 rfl Do zx o4 zy (n3.blk.sl 1 1 Do Do) rfl Y4 Y2 M0 hB.size Y6 Y6 fun a8 b4 W5 o5 a9 b0=>?_
 refine zK _ _ ?_
 have a5:=(k2.i n3.i).grown a9 o4 Do
 refine xb 6 0 a5 ?_
 refine xk 31 (show(((s.length:Int) != (4:Int)):Bool)=false from by rw[h4];rfl) ?_
 refine xcf 5 fun _ _ _ zJ zQ zo zx zK=>Eu s zo zx Tryz.underlying9 Tryz.underlying50 Tryz.underlying5 M0 ?_
 intro bz cz W6 a2 b7
 refine zK _ _ ?_
 have a4:=Zb o5 a2
 refine xc 1 (Ro (S3 bz) s.length cz s a8 b4 1 [4] [Zo s 0 4] _ rfl rfl rfl Do (by simp;omega) M0 Do b7 (Zf a4) (fun i hi=>by obtain rfl:i=0:=(by simpa using hi);have:=Jb s 0 4 Do;simp[Mk];omega)) ?_
 rintro _ W7 ⟨_,rfl,b2,p5,c5,rfl,h5⟩
 have b6:=(bln (hB.trans b0) a2).size
 have a6:=((((u2.blk (hl.i n1.i) a1).i n3.i).grown a9 o4 Do).i a2).i b2
 have a7:=Zg h5 b6
 refine xr 15 (Zq0 gl p5 c5 (↑(Zo s 0 4):Int) _ a6 (Zf a7) M0) fun W8 b5=>?_
 refine xmk 9 fun _ _ _ _ zJ zQ zo zx zy zK=>Ht 1 (V0 0) 1 8 [Value.int .i64 0] zo zx zy Tryz.underlying27 K0 rfl M0 M0 (rfl) fun b9 W9 n9=>?_
 have a0:=bln (bln (bln (hB.trans b0) a2) b2) b5
 have g9:=n9.ge a0
 refine zK _ _ ?_
 have a3:=bln a0 n9.i
 have o9:=Xw (size:=1) (n:=1) n9.blk g9 (rfl) Y2
 exact xe 6 (.tuple #[.slice (S3 b9) 1 1,V0 2]) ⟨_,rfl,a3,_,_,rfl,o9⟩
theorem Zln(gl:Nat)(s:Bl)(w:V1)(hl:Blk w gl [V0 4,V0 1,V0 14399] 298)(hs:s.length≤1000):C0 127 #[.slice (S3 gl) 1 1,.string ⟨s.toArray⟩] w (Kd (fun w' r=>∃ p c,r=.tuple #[.slice p 1 c,V0 (Qi s)]∧w'.ownsRow w.heap.size 3 1 (.slice p 1 c) 1 [V0 (Ga s:Int)]) w):=by
 by_cases h4:s.length=4
 ·by_cases h1:1≤Zo s 0 4∧Zo s 0 4≤14399
  ·have he:Qi s=0:=(by unfold Qi;rw[V8 h4,V8 h1]);rw[he,Ga,V8 he];exact Zfp gl s w hl hs h4 h1.1 h1.2
  ·have he:Qi s=2:=(by unfold Qi;rw[V8 h4,V7 h1]);rw[he,Ga,V7 (by rw[he];decide)];exact Zcf gl s w hl hs h4 M0
 ·have he:Qi s=7:=by unfold Qi;rw[V7 h4]
  rw[he,Ga,V7 (by rw[he];decide)];exact Zce gl s w hl hs h4
theorem Ua(s:Bl)(w:V1)(hs:s.length≤1000) :
 C0 194 #[.string ⟨s.toArray⟩] w (Ret (.tuple #[V0 (Ga s:Int),V0 (Qi s)]) w):=by
 refine zin 16 Tryz.func194 ?_
 refine xc 8 (Zl9 _) ?_
 rintro _ W1 ⟨_,rfl,a1,gl,rfl,gg,kl⟩
 refine xc 1 (Zln gl s _ kl hs) ?_
 rintro _ W2 ⟨_,rfl,a2,p5,c5,rfl,h5⟩
 have a0:=Zg h5 a1.size
 refine xx 10 _ 1 0 1 (Ints.elem (l:=[(Ga s:Int)]) (Zf a0) (k:=0) Y5).1 ?_
 refine xl 0 ((Ints.elem (l:=[(Ga s:Int)]) (Zf a0) (k:=0) Y5).2) ?_
 have hB:=bln a1 a2
 exact xe 6 (.tuple #[V0 (↑(Ga s):Int),V0 (Qi s)]) ⟨rfl,hB⟩
abbrev Ly:=Nat×Int×Int
def Zlg(p:Ly):V6 V2:=[V0 (p.1:Int),V0 p.2.1,V0 p.2.2]
theorem Ml(p:Ly):(Zlg p).length=3:=rfl
def Yx:Ly:=(4,0,0)
def Gm(ps:V6 Ly):Prop:=ps.length≤1000∧∀ i,i<ps.length→((ps.getD i Yx).1=4∨(ps.getD i Yx).1=8)∧0≤(ps.getD i Yx).2.1∧(ps.getD i Yx).2.2<9223372036854775808∧((ps.getD i Yx).1=4→(ps.getD i Yx).2.2<4294967296)
def inP (p:Ly)(n:Int):Bool:=decide (p.2.1≤n∧n≤p.2.2)
def Wg(ps:V6 Ly)(N:V6 Int)(k:Nat):Bool:=(range k).all fun i=>inP (ps.getD i Yx) (N.getD i 0)
theorem Zq1(ps:V6 Ly)(N:V6 Int)(k:Nat):Wg ps N (k+1)=(Wg ps N k&&inP (ps.getD k Yx) (N.getD k 0)):=by simp[Wg,B8]
theorem Zc9{ps:V6 Ly}{N:V6 Int}{i k:Nat}(hi:i<k)(h:inP (ps.getD i Yx) (N.getD i 0)=false):Wg ps N k=false:=by
 unfold Wg;rw[List.all_eq_false];exact⟨i,A7.2 hi,by rw[h];decide⟩
def Tr(ps:V6 Ly)(N:V6 Int)(k:Nat):Bl:=(range k).flatMap fun i=>leB (N.getD i 0) (ps.getD i Yx).1
theorem Fg(ps:V6 Ly)(N:V6 Int)(k:Nat):Tr ps N (k+1)=Tr ps N k++leB (N.getD k 0) (ps.getD k Yx).1:=by simp[Tr,B8]
def Nn(ps:V6 Ly)(k:Nat):V6 Nat:=(range k).map fun i=>(ps.getD i Yx).1
theorem Hr(ps:V6 Ly)(k:Nat):Nn ps (k+1)=Nn ps k++[(ps.getD k Yx).1]:=by simp[Nn,B8]
theorem Fs(ps:V6 Ly)(k:Nat):(Nn ps k).length=k:=by simp[Nn]
theorem wids_get(ps:V6 Ly){k i:Nat}(h:i<k):(Nn ps k).getD i 0=(ps.getD i Yx).1:=by simp[Nn,getD,C1 h]
theorem Dg(ps:V6 Ly)(N:V6 Int)(k:Nat):(Tr ps N k).length=(Nn ps k).sum:=by
 induction k with
 | zero=>rfl
 | succ k ih=>rw[Fg,Hr,A1,Zl,ih];simp
theorem Pack_48(g w:Nat)(n:Int)(W:V1)(hw:w=4∨w=8)(h0:0≤n)(hb:w=4→n<4294967296)(hk:Blk W g [V0 (w:Int),V0 n] 178):C0 97 #[.slice (S3 g) 1 1] W (Kd (fun w' r=>∃ p c,r=.tuple #[.slice p w c,V0 0]∧w'.ownsRow W.heap.size 5 1 (.slice p w c) w ((leB n w).map bv)) W):=by
 rcases hw with rfl|rfl
 ·exact Td g n h0 (hb rfl) W hk
 ·exact Zu7 g n h0 W hk
def ValPutP(ps:V6 Ly)(N:V6 Int)(w:V1)(e:V5)(w':V1):Prop :=
 (Wg ps N ps.length=false∧e=.returned (.string ⟨#[]⟩)∧B3 w w')∨(Wg ps N ps.length=true∧e=.returned (.string ⟨(Tr ps N ps.length).toArray⟩)∧B3 w w')
theorem Zqb(ps:V6 Ly)(N:V6 Int)(gl gn:O0)(cl cn:Nat)(w:V1)(hps:Gm ps)(hNl:N.length=ps.length)(hP:Sts Zlg w (.slice gl ps.length cl) ps)(hN:Sl w (.slice gn ps.length cn) ps.length (N.map V0)) :
 C0 146 #[.slice gl ps.length cl,.slice gn ps.length cn] w (ValPutP ps N w):=by
 have c5:=hps.1
 refine zin 51 Tryz.func146 ?_
 have hB:=U3 w.heap.size w
 refine zl 19 51 (fun zm b4 V=>∃ (i m:Nat) (q:O0) (d:Nat),b4=[(1,.slice gn ps.length cn),(5,.slice q m d),(10,.slice gl ps.length cl),(11,V0 (ps.length:Int)),(12,V0 (i:Int))]∧zm=ps.length-((i:Int)).toNat∧B3 w V∧V.ownsRow w.heap.size 5 1 (.slice q m d) m ((Tr ps N i).map bv)∧i≤ps.length∧m=(Nn ps i).sum∧m≤i*8∧Wg ps N i=true) ⟨0,0,_,_,rfl,rfl,hB,A8 _ _ _ _,A5 _,rfl,A5 _,rfl⟩ ?_
 rintro _ _ W1 ⟨i,m,q,d,rfl,rfl,a1,ho,hi,hm,c4,a4⟩ J1 b2 r1
 refine xid 6 ((i:Int)<(ps.length:Int)) (fun b9=>?_) (fun b9=>?_)
 ·refine xx 7 _ ps.length i 3 (Sts.cell hP Ml Yx (k:=i) (i:=0) M0 rfl).1 ?_
  refine xlv 0 (Sts.rp (k:=i) (hP.i a1) Ml Yx M0 Do) ?_
  refine xa 0 [V0 0,V0 0,V0 0] 298 fun b3 W3 n3=>?_
  have g3:=n3.ge a1
  refine xsv 1 n3.blk [V0 (↑(ps.getD i Yx).1:Int),V0 ((ps.getD i Yx).2.1),V0 ((ps.getD i Yx).2.2)] fun W4 u4 k4=>?_
  refine xd 4 .z ?_
  refine xx (.e [0,1] 2) _ ps.length i 1 (IntsN.elem hN hNl (k:=i) M0).1 ?_
  have a0:=bln (u4.i (bln a1 n3.i) g3) (Za W4)
  refine xl (.e [] 3) ((IntsN.elem (hN.i a0) hNl (k:=i) M0).2) ?_
  have a3:=k4.i (Za W4)
  refine xb (.e [4] 5) 1 a3 ?_
  refine xg (.b [6,7]) [23,24] (decide ((N.getD i 0)<(ps.getD i Yx).2.1)) (fun a5=>?_) (fun a5=>?_)
  ·have a5:=U1 a5
   exact xe (.r [8,9,10,11,12,13,14,15] 15) (.string ⟨#[]⟩) (.inl ⟨Zc9 (i:=i) M0 (V9 M0),rfl,a0⟩)
  have a5:=U2 a5
  refine xx (.e [8,9] 10) _ ps.length i 1 (IntsN.elem hN hNl (k:=i) M0).1 ?_
  refine xl (.e [] 11) ((IntsN.elem (hN.i a0) hNl (k:=i) M0).2) ?_
  refine xb (.e [12] 13) 2 a3 ?_
  refine xid (.r [14,15] 2) ((N.getD i 0)>(ps.getD i Yx).2.2) (fun b8=>?_) (fun b8=>?_)
  ·exact xe 12 (.string ⟨#[]⟩) (.inl ⟨Zc9 (i:=i) M0 (V9 M0),rfl,a0⟩)
  refine xd 3 .z ?_
  have a9:=a3.i (Za W4.drew)
  refine xb (.e [0] 1) 0 a9 ?_
  refine xx (.e [2,3] 4) _ ps.length i 1 (IntsN.elem hN hNl (k:=i) M0).1 ?_
  have a2:=bln a0 (Za W4.drew)
  refine xl (.e [] 5) ((IntsN.elem (hN.i a2) hNl (k:=i) M0).2) ?_
  refine xbs (.o [6] 7) 1 [V0 (↑(ps.getD i Yx).1:Int),V0 (N.getD i 0)] 178 fun b7 W7 n7=>?_
  refine yc (.o [] 8) (args:=#[.slice (S3 b7) 1 1]) .z (Pack_48 b7 (ps.getD i Yx).1 (N.getD i 0) _ (hps.2 i M0).1 (by have:=(hps.2 i M0).2.1;omega) (fun q=>by have:=(hps.2 i M0).2.2.2 q;omega) n7.blk) ?_
  rintro _ W8 ⟨_,rfl,a8,p2,c2,rfl,h2⟩
  have b6:=(bln a2 n7.i).size
  refine⟨a8,?_⟩
  have b0:=Zb (Zb (Zb (Zb (u4.j (Zb ho n3.i) n3.blk Do) (Za W4)) (Za W4.drew)) n7.i) a8
  have a7:=Zg h2 b6
  have a6:=bln (bln a2 n7.i) a8
  refine xbi (.r [9,10,11,12,13] 5) fun _ _ _ _ zJ zQ zo zx zy zK=>Xd (m:=(ps.getD i Yx).1) (news:=(leB (N.getD i 0) (ps.getD i Yx).1).map bv) (.int .u8 0) 1 1 ((m+(ps.getD i Yx).1)) (((Tr ps N (i+1)).map bv)) zo Tryz.underlying50 K0 rfl Do zx b0 zy (Zf a7) (by simp[Zl]) (Vq _) (by unfold maxLen;have:=(hps.2 i M0).1;omega) (by have:=(hps.2 i M0).1;omega) a6.size Y6 (by rw[Fg,A6]) fun c1 c0 W9 o9 c3 b5=>?_
  refine zK _ _ ?_
  refine xwm 5 ((i:Int)+1) (↑(i+1):Int) ?_
  have b1:=a6.trans b5
  exact ze 2 (b2 _ _ _ ⟨i+1,_,_,_,rfl,rfl,b1,o9,M0,by rw[Hr,hm];simp,by have:=(hps.2 i M0).1;omega,by rw[Zq1,a4];exact U0 ⟨M0,M0⟩⟩ M0)
 refine xcv0 8 (fun _ _ _ zo zx=>Mq zo zx (Vr (Zf ho) (by rw[Dg];exact hm.symm)) (by rw[Dg];exact hm.symm) Tryz.underlying50 Tryz.underlying5 Tryz.underlying9) ?_
 refine xe 4 (.string ⟨(Tr ps N i).toArray⟩) ?_
 obtain rfl:i=ps.length:=M0
 exact .inr ⟨a4,rfl,a1⟩
def Np(ps:V6 Ly)(s:Bl):V6 Nat:=Mk s 0 (Nn ps ps.length)
theorem Rb(ps:V6 Ly)(s:Bl):(Np ps s).length=ps.length:=by rw[Np,Zem,Fs]
def Pv(ps:V6 Ly)(s:Bl):Bool:=Wg ps ((Np ps s).map fun n:Nat=>(n:Int)) ps.length
def Xn(ps:V6 Ly)(s:Bl):Int:=if s.length=(Nn ps ps.length).sum then(if Pv ps s then 0 else 2) else 7
def Xq(ps:V6 Ly)(s:Bl):V6 Nat:=if Xn ps s=0 then Np ps s else replicate ps.length 0
theorem Yi(ps:V6 Ly)(s:Bl):(Xq ps s).length=ps.length:=by
 unfold Xq;split
 ·exact Rb ps s
 ·simp
theorem Zv5{ps:V6 Ly}{s:Bl}(hp:Gm ps)(h:Pv ps s=true):∀ i,i<(Nn ps ps.length).length→(Mk s 0 (Nn ps ps.length)).getD i 0<9223372036854775808:=by
 intro i hi;rw[Fs] at hi;unfold Pv Wg at h;rw[I0] at h;have h1:=U1 (h i (A7.2 hi));have h2:=(hp.2 i hi).2.2.1;rw[show((Np ps s).map fun n:Nat=>(n:Int)).getD i 0=(((Np ps s).getD i 0:Nat):Int) by simp[getD,show i<(Np ps s).length by rw[Rb];exact hi]] at h1;change (Np ps s).getD i 0<_;omega
theorem map_nv(l:V6 Nat):l.map nv=(l.map fun n:Nat=>(n:Int)).map V0:=by simp[nv]
theorem putL_ne{ps:V6 Ly}{N:V6 Int}(hp:Gm ps)(h0:0<ps.length):((⟨(Tr ps N ps.length).toArray⟩:ByteArray).toList==(⟨#[]⟩:ByteArray).toList)=false:=by
 rw[show(⟨#[]⟩:ByteArray)=⟨([]:Bl).toArray⟩ from rfl,Zx7];apply beq_false_of_ne;intro q;have h1:=congrArg List.length q;obtain⟨k,hk⟩:∃ k,ps.length=k+1:=⟨ps.length-1,M0⟩;rw[hk,Fg,A1,Zl] at h1;rw[E4] at h1;have:=(hp.2 k M0).1;omega
theorem Zfm(n:Nat):Gw (Value.int .i64 0).cells.toList n=(replicate n 0).map nv:=by
 rw[show(Value.int .i64 0).cells.toList=[Value.int .i64 0] from rfl,Gw,O9];induction n with
 | zero=>rfl
 | succ n ih=>rw[K7,P3,ih,K7];rfl
theorem Zbl(ps:V6 Ly)(s:Bl)(gl:O0)(cl:Nat)(w:V1)(hps:Gm ps)(h0:0<ps.length)(hs:s.length≤100000)(hP:Sts Zlg w (.slice gl ps.length cl) ps)(hsl:s.length≠(Nn ps ps.length).sum) :
 C0 127 #[.slice gl ps.length cl,.string ⟨s.toArray⟩] w (Kd (fun w' r=>∃ p c,r=.tuple #[.slice p ps.length c,V0 (Xn ps s)]∧w'.ownsRow w.heap.size 3 1 (.slice p ps.length c) ps.length ((Xq ps s).map nv)) w):=by
 have b8:=hps.1
 refine zin 54 Tryz.func127 ?_
 have hB:=U3 w.heap.size w
 refine zl 25 54 (fun zm a8 V=>∃ (i:Nat) (q:O0) (d:Nat),a8=[(0,.slice gl ps.length cl),(1,.string ⟨s.toArray⟩),(4,S1),(5,V0 0),(6,.slice q i d),(7,V0 (↑(Nn ps i).sum:Int)),(12,.slice gl ps.length cl),(13,V0 (ps.length:Int)),(14,V0 (i:Int))]∧zm=ps.length-((i:Int)).toNat∧B3 w V∧V.ownsRow w.heap.size 3 1 (.slice q i d) i ((Nn ps i).map nv)∧i≤ps.length∧(Nn ps i).sum≤i*8) ⟨0,_,_,rfl,rfl,hB,A8 _ _ _ _,A5 _,A5 _⟩ ?_
 rintro _ _ W1 ⟨i,q,d,rfl,rfl,a0,ho,hi,c0⟩ J1 b2 r1
 have b0:i<ps.length→(ps.getD i Yx).1≤8:=fun q=>by have:=(hps.2 i q).1;omega
 refine xid 6 ((i:Int)<(ps.length:Int)) (fun b4=>?_) (fun b4=>?_)
 ·refine xx 6 _ ps.length i 3 (Sts.cell hP Ml Yx (k:=i) (i:=0) M0 rfl).1 ?_
  refine xlv 0 (Sts.rp (k:=i) (hP.i a0) Ml Yx M0 Do) ?_
  refine xa 0 [V0 0,V0 0,V0 0] 298 fun b3 W3 n3=>?_
  have g3:=n3.ge a0
  refine xsv 0 n3.blk [V0 (↑(ps.getD i Yx).1:Int),V0 ((ps.getD i Yx).2.1),V0 ((ps.getD i Yx).2.2)] fun W4 u4 k4=>?_
  refine xb 6 0 k4 ?_
  refine xbs 0 1 [V0 (↑(ps.getD i Yx).1:Int)] 3 fun b5 W5 n5=>?_
  have a6:=u4.i (bln a0 n3.i) g3
  have a7:=u4.j (Zb ho n3.i) n3.blk Do
  have a2:=Zb a7 n5.i
  have a1:=bln a6 n5.i
  refine xbi 0 fun _ _ _ _ zJ zQ zo zx zy zK=>Xd (m:=1) (news:=[V0 (↑(ps.getD i Yx).1:Int)]) (V0 0) 1 8 (i+1) (((Nn ps (i+1)).map nv)) zo Tryz.underlying27 K0 rfl Do zx a2 zy (n5.blk.sl 1 1 Do Do) rfl Y4 Y2 M0 a1.size Y6 (by rw[Hr,A6];rfl) fun b9 b6 W6 o6 b1 a9=>?_
  refine zK _ _ ?_
  have a5:=(k4.i n5.i).grown b1 a2 Do
  refine xb 6 0 a5 ?_
  refine xwm 0 ((↑(Nn ps i).sum:Int)+(↑(ps.getD i Yx).1:Int)) (↑((Nn ps i).sum+((ps.getD i Yx).1)):Int) ?_
  refine xwm 5 ((i:Int)+1) (↑(i+1):Int) ?_
  refine xv1 2 7 (show(V0 (↑((Nn ps i).sum+((ps.getD i Yx).1)):Int):V2)=V0 (↑(Nn ps (i+1)).sum:Int) from by rw[Hr];simp) ?_
  have a4:=a1.trans a9
  exact ze 0 (b2 _ _ _ ⟨i+1,_,_,rfl,rfl,a4,o6,M0,by rw[Hr,E8,G3,N9];have:=b0 M0;omega⟩ M0)
 refine xk 14 (show(((s.length:Int) != (↑(Nn ps i).sum:Int)):Bool)=true from bne_iff_ne.2 (by rw[show i=ps.length by omega];omega)) ?_
 refine xmk 4 fun _ _ _ _ zJ zQ zo zx zy zK=>Ht ps.length (V0 0) 1 8 ((replicate ps.length 0).map nv) zo zx zy Tryz.underlying27 K0 rfl M0 M0 (Zfm _) fun b7 W7 n7=>?_
 have g7:=n7.ge a0
 refine zK _ _ ?_
 have a3:=bln a0 n7.i
 have o7:=Xw (size:=1) (n:=ps.length) n7.blk g7 Y5 Y2
 refine xe 6 (.tuple #[.slice (S3 b7) ps.length ps.length,V0 7]) ?_
 have he:Xn ps s=7:=V7 hsl
 exact⟨_,rfl,a3,_,_,by rw[he],by rw[Xq,V7 (by rw[he];decide)];exact o7⟩
def UnpP(s:Bl)(ws:V6 Nat)(n:Nat)(W:V1)(e:V5)(w':V1):Prop :=
 ((¬ ∀ i,i<ws.length→(Mk s 0 ws).getD i 0<9223372036854775808)∧e=.returned (.tuple #[S1,V0 2])∧B3 W w') ∨
 ((∀ i,i<ws.length→(Mk s 0 ws).getD i 0<9223372036854775808)∧∃ p c,e=.returned (.tuple #[.slice p n c,V0 0])∧B3 W w'∧w'.ownsRow W.heap.size 3 1 (.slice p n c) n ((Mk s 0 ws).map nv))
theorem Unpack_P(a:O0)(n c m:Nat)(s:Bl)(aw:O0)(cw:Nat)(ws:V6 Nat)(W:V1)(hn:s.length=n)(hm:ws.length=m)(hk:∀ i,i<ws.length→ws.getD i 0=1∨ws.getD i 0=2∨ws.getD i 0=4∨ws.getD i 0=8)(hs:ws.sum≤n)(hl:n≤100000000)(hw:m≤1000)(h:Bys W (.slice a n c) s)(hws:Sl W (.slice aw m cw) m (ws.map nv)) :
 C0 198 #[.slice a n c,.slice aw m cw] W (UnpP s ws m W):=by
 subst hn hm
 by_cases hq:∀ i,i<ws.length→(Mk s 0 ws).getD i 0<9223372036854775808
 ·refine(Zgw a c s aw cw ws W hk hs hl hw h hws hq).mono ?_
  rintro e V ⟨_,rfl,hb,p,c2,rfl,ho⟩
  exact .inr ⟨hq,p,c2,rfl,hb,ho⟩
 ·refine(Zqf a c s aw cw ws W hk hs hl hw h hws hq).mono ?_
  rintro e V ⟨rfl,hb⟩
  exact .inl ⟨hq,rfl,hb⟩
theorem Zxo(ps:V6 Ly)(s:Bl)(k:Nat):((Mk s 0 (Nn ps k)).map fun n:Nat=>(n:Int)).length=k:=by rw[A3,Zem,Fs]
theorem Ok(ps:V6 Ly)(N:V6 Int)(gl gn:O0)(cl cn n:Nat)(w:V1)(hps:Gm ps)(hn:n=ps.length)(hNl:N.length=n)(hP:Sts Zlg w (.slice gl ps.length cl) ps)(hN:Sl w (.slice gn n cn) n (N.map V0)) :
 C0 146 #[.slice gl ps.length cl,.slice gn n cn] w (fun e w'=>(Wg ps N n=false∧e=.returned (.string ⟨#[]⟩)∧B3 w w')∨(Wg ps N n=true∧e=.returned (.string ⟨(Tr ps N ps.length).toArray⟩)∧B3 w w')):=by
 subst hn;exact Zqb ps N gl gn cl cn w hps hNl hP hN
theorem Zcm(ps:V6 Ly)(s:Bl)(gl:O0)(cl:Nat)(w:V1)(hps:Gm ps)(h0:0<ps.length)(hs:s.length≤100000)(hP:Sts Zlg w (.slice gl ps.length cl) ps)(hsl:s.length=(Nn ps ps.length).sum) :
 C0 127 #[.slice gl ps.length cl,.string ⟨s.toArray⟩] w (Kd (fun w' r=>∃ p c,r=.tuple #[.slice p ps.length c,V0 (Xn ps s)]∧w'.ownsRow w.heap.size 3 1 (.slice p ps.length c) ps.length ((Xq ps s).map nv)) w):=by
 have e5:=hps.1
 refine zin 54 Tryz.func127 ?_
 have hB:=U3 w.heap.size w
 refine zl 25 54 (fun zm d3 V=>∃ (i:Nat) (q:O0) (d:Nat),d3=[(0,.slice gl ps.length cl),(1,.string ⟨s.toArray⟩),(4,S1),(5,V0 0),(6,.slice q i d),(7,V0 (↑(Nn ps i).sum:Int)),(12,.slice gl ps.length cl),(13,V0 (ps.length:Int)),(14,V0 (i:Int))]∧zm=ps.length-((i:Int)).toNat∧B3 w V∧V.ownsRow w.heap.size 3 1 (.slice q i d) i ((Nn ps i).map nv)∧i≤ps.length∧(Nn ps i).sum≤i*8) ⟨0,_,_,rfl,rfl,hB,A8 _ _ _ _,A5 _,A5 _⟩ ?_
 rintro _ _ W1 ⟨i,q,d,rfl,rfl,a0,ho,hi,e4⟩ J1 d2 r1
 have d6:i<ps.length→(ps.getD i Yx).1≤8:=fun q=>by have:=(hps.2 i q).1;omega
 refine xid 6 ((i:Int)<(ps.length:Int)) (fun e1=>?_) (fun e1=>?_)
 ·refine xx 6 _ ps.length i 3 (Sts.cell hP Ml Yx (k:=i) (i:=0) M0 rfl).1 ?_
  refine xlv 0 (Sts.rp (k:=i) (hP.i a0) Ml Yx M0 Do) ?_
  refine xa 0 [V0 0,V0 0,V0 0] 298 fun b3 W3 n3=>?_
  have g3:=n3.ge a0
  refine xsv 0 n3.blk [V0 (↑(ps.getD i Yx).1:Int),V0 ((ps.getD i Yx).2.1),V0 ((ps.getD i Yx).2.2)] fun W4 u4 k4=>?_
  refine xb 6 0 k4 ?_
  refine xbs 0 1 [V0 (↑(ps.getD i Yx).1:Int)] 3 fun b5 W5 n5=>?_
  have b6:=u4.i (bln a0 n3.i) g3
  have b7:=u4.j (Zb ho n3.i) n3.blk Do
  have a5:=Zb b7 n5.i
  have a4:=bln b6 n5.i
  refine xbi 0 fun _ _ _ _ zJ zQ zo zx zy zK=>Xd (m:=1) (news:=[V0 (↑(ps.getD i Yx).1:Int)]) (V0 0) 1 8 (i+1) (((Nn ps (i+1)).map nv)) zo Tryz.underlying27 K0 rfl Do zx a5 zy (n5.blk.sl 1 1 Do Do) rfl Y4 Y2 M0 a4.size Y6 (by rw[Hr,A6];rfl) fun e6 e3 W6 o6 d9 d8=>?_
  refine zK _ _ ?_
  have b0:=(k4.i n5.i).grown d9 a5 Do
  refine xb 6 0 b0 ?_
  refine xwm 0 ((↑(Nn ps i).sum:Int)+(↑(ps.getD i Yx).1:Int)) (↑((Nn ps i).sum+((ps.getD i Yx).1)):Int) ?_
  refine xwm 5 ((i:Int)+1) (↑(i+1):Int) ?_
  refine xv1 2 7 (show(V0 (↑((Nn ps i).sum+((ps.getD i Yx).1)):Int):V2)=V0 (↑(Nn ps (i+1)).sum:Int) from by rw[Hr];simp) ?_
  have c3:=a4.trans d8
  exact ze 0 (d2 _ _ _ ⟨i+1,_,_,rfl,rfl,c3,o6,M0,by rw[Hr,E8,G3,N9];have:=d6 M0;omega⟩ M0)
 refine xk 14 (show(((s.length:Int) != (↑(Nn ps i).sum:Int)):Bool)=false from by rw[show i=ps.length by omega,hsl];simp) ?_
 refine xcf 5 fun _ _ _ zJ zQ zo zx zK=>Eu s zo zx Tryz.underlying9 Tryz.underlying50 Tryz.underlying5 M0 ?_
 intro bz cz W7 a9 d1
 refine zK _ _ ?_
 have b2:=Zb ho a9
 refine xc 1 (Unpack_P (S3 bz) s.length cz i s q d (Nn ps i) _ rfl (Fs ps i) (fun j hj=>by rw[Fs] at hj;rw[wids_get ps hj];have:=(hps.2 j M0).1;omega) (by rw[show i=ps.length by omega];omega) M0 M0 d1 (Zf b2)) ?_
 rintro e W8 c9
 rcases c9 with ⟨hq,rfl,b4⟩|⟨hq,p5,c5,rfl,b4,h5⟩
 ·have a3:i=ps.length:=M0
  have b8:Pv ps s=false:=by rw[←Bool.not_eq_true];intro q;exact hq (by rw[a3];exact Zv5 hps q)
  refine xmk 25 fun _ _ _ _ zJ zQ zo zx zy zK=>Ht ps.length (V0 0) 1 8 ((replicate ps.length 0).map nv) zo zx zy Tryz.underlying27 K0 rfl M0 M0 (Zfm _) fun b9 W9 n9=>?_
  have a6:=bln (bln a0 a9) b4
  have g9:=n9.ge a6
  refine zK _ _ ?_
  have c2:=bln a6 n9.i
  have o9:=Xw (size:=1) (n:=ps.length) n9.blk g9 Y5 Y2
  refine xe 6 (.tuple #[.slice (S3 b9) ps.length ps.length,V0 2]) ?_
  have he:Xn ps s=2:=by unfold Xn;rw[V8 hsl,V7 (by rw[b8];decide)]
  exact⟨_,rfl,c2,_,_,by rw[he],by rw[Xq,V7 (by rw[he];decide)];exact o9⟩
 have e0:=(bln a0 a9).size
 have a3:i=ps.length:=M0
 have a8:=Zg h5 e0
 have d5:Sl (W8) (.slice p5 i c5) i (((Mk s 0 (Nn ps i)).map fun n:Nat=>(n:Int)).map V0):=by have q:=Zf a8;rw[map_nv] at q;exact q
 have a2:=bln (bln a0 a9) b4
 refine xc 15 (Ok ps ((Mk s 0 (Nn ps i)).map fun n:Nat=>(n:Int)) gl p5 cl c5 i _ hps a3 (Zxo ps s i) (hP.i a2) d5) ?_
 rintro e e7 c7
 rcases c7 with ⟨c0,rfl,a1⟩|⟨c0,rfl,a1⟩
 ·have b8:Pv ps s=false:=by unfold Pv Np;rw[←a3];exact c0
  refine xmk 9 fun _ _ _ _ zJ zQ zo zx zy zK=>Ht ps.length (V0 0) 1 8 ((replicate ps.length 0).map nv) zo zx zy Tryz.underlying27 K0 rfl M0 M0 (Zfm _) fun d7 e2 b1=>?_
  have a7:=bln a2 a1
  have d4:=b1.ge a7
  refine zK _ _ ?_
  have c4:=bln a7 b1.i
  have d0:=Xw (size:=1) (n:=ps.length) b1.blk d4 Y5 Y2
  refine xe 6 (.tuple #[.slice (S3 d7) ps.length ps.length,V0 2]) ?_
  have he:Xn ps s=2:=by unfold Xn;rw[V8 hsl,V7 (by rw[b8];decide)]
  exact⟨_,rfl,c4,_,_,by rw[he],by rw[Xq,V7 (by rw[he];decide)];exact d0⟩
 have c1:Pv ps s=true:=by unfold Pv Np;rw[←a3];exact c0
 refine xk 4 (show(((⟨(Tr ps ((Mk s 0 (Nn ps i)).map fun n:Nat=>(n:Int)) ps.length).toArray⟩:ByteArray).toList==(⟨#[]⟩:ByteArray).toList):Bool)=false from putL_ne hps h0) ?_
 have c8:=bln a2 a1
 have c6:=Zb a8 a1
 refine xe 10 (.tuple #[.slice p5 i c5,V0 0]) ?_
 have he:Xn ps s=0:=by unfold Xn;rw[V8 hsl,V8 c1]
 subst a3
 exact⟨_,rfl,c8,_,_,by rw[he],by rw[Xq,V8 he];exact c6⟩
theorem Mr(ps:V6 Ly)(s:Bl)(gl:O0)(cl:Nat)(w:V1)(hps:Gm ps)(h0:0<ps.length)(hs:s.length≤100000)(hP:Sts Zlg w (.slice gl ps.length cl) ps) :
 C0 127 #[.slice gl ps.length cl,.string ⟨s.toArray⟩] w (Kd (fun w' r=>∃ p c,r=.tuple #[.slice p ps.length c,V0 (Xn ps s)]∧w'.ownsRow w.heap.size 3 1 (.slice p ps.length c) ps.length ((Xq ps s).map nv)) w):=by
 by_cases h:s.length=(Nn ps ps.length).sum
 ·exact Zcm ps s gl cl w hps h0 hs hP h
 ·exact Zbl ps s gl cl w hps h0 hs hP h
def Mo:V6 Ly:=[(8,0,1099511627775)]
theorem Zk0:Gm Mo:=by
 refine⟨Do,fun i hi=>?_⟩;have a0:i<1:=hi;obtain rfl:i=0:=M0;simp[Mo,getD]
def Nb:V6 Ly:=[(8,0,16384),(8,0,2147483647),(4,0,16777215),(4,0,16777215)]
theorem Zfu:Gm Nb:=by
 refine⟨Do,fun i hi=>?_⟩;have a0:i<4:=hi;obtain rfl|rfl|rfl|rfl:i=0∨i=1∨i=2∨i=3:=M0
 all_goals simp[Nb,getD]
abbrev Mp:=Int×Int×Int
def Cu(m:Mp):V6 V2:=[V0 m.1,V0 m.2.1,V0 m.2.2]
theorem Jv(m:Mp):(Cu m).length=3:=rfl
abbrev Dv:=(Int×Int×Int×Int)×V6 Mp
structure MapsOk(data:Int)(M:V6 Mp):Prop where
 rise:M.Pairwise (fun x y=>x.1<y.1)
 each:∀ m∈M,(0≤m.1∧m.1≤281474976710655)∧(0≤m.2.1∧m.2.1<data)∧0≤m.2.2∧m.2.2≤16777215
theorem MapsOk.nil(data:Int):MapsOk data []:=⟨.nil,fun _ h=>by cases h⟩
structure DevOk(data:Int)(d:Dv):Prop where
 id:0≤d.1.1∧d.1.1≤16777215
 tx:0≤d.1.2.1∧d.1.2.1≤2147483647
 f7:0≤d.1.2.2.1∧d.1.2.2.1≤16777215
 f4:0≤d.1.2.2.2∧d.1.2.2.2≤16777215
 b8:MapsOk data d.2
def Un(L:V6 Dv):Nat:=(L.map fun d=>d.2.length).sum
structure DevsOk(data:Int)(L:V6 Dv):Prop where
 a0:L.length≤4096
 sum:Un L≤16384
 rise:L.Pairwise (fun x y=>x.1.1<y.1.1)
 each:∀ d∈L,DevOk data d
theorem DevsOk.nil(data:Int):DevsOk data []:=⟨Do,Do,.nil,fun _ h=>by cases h⟩
def mapN(v:Bl):Nat:=(Xq Mo v).getD 0 0
def Oh(v:Bl):Nat:=mapN v/16777216
def Zey(v:Bl):Nat:=mapN v%16777216
theorem mapN_bd(v:Bl):mapN v≤1099511627775:=by
 unfold mapN Xq;by_cases h:Xn Mo v=0
 ·rw[V8 h];unfold Xn at h;split at h
  ·split at h
   ·rename_i h1 h2;unfold Pv Wg at h2;rw[I0] at h2;have h3:=U1 (h2 0 (A7.2 Do));rw[show((Np Mo v).map fun n:Nat=>(n:Int)).getD 0 0=(((Np Mo v).getD 0 0:Nat):Int) by simp[getD,show 0<(Np Mo v).length by rw[Rb];decide]] at h3;have h4:(((Np Mo v).getD 0 0:Nat):Int)≤1099511627775:=h3.2;omega
   ·simp at h
  ·simp at h
 ·rw[V7 h];decide
def Zgt(data:Int)(v:Bl):Int:=if Xn Mo v≠0 then Xn Mo v else if data≤(Oh v:Int) then 2 else 0
def Kn(v:Bl)(i:Nat):Nat:=(Xq Nb v).getD i 0
def mpD:Mp:=(0,0,0)
def inZ (n lo hi:Int):Bool:=decide (lo≤n∧n≤hi)
theorem inZ_t{n lo hi:Int}:inZ n lo hi=true↔lo≤n∧n≤hi:=decide_eq_true_iff
def dvE (d:Dv)(last:Int):Int:=if inZ d.1.1 0 16777215&&(inZ d.1.2.1 0 2147483647&&(inZ d.1.2.2.1 0 16777215&&inZ d.1.2.2.2 0 16777215)) then(if d.1.1≤last then 8 else 0) else 2
def mpE (data:Int)(m:Mp)(last:Int):Int:=if inZ m.1 0 281474976710655&&(inZ m.2.1 0 (data-1)&&inZ m.2.2 0 16777215) then(if m.1≤last then 8 else 0) else 2
def Zc8(data:Int):V6 Mp→Int→Int
 | [],_=>0
 | m::r,last=>if mpE data m last≠0 then mpE data m last else Zc8 data r m.1
def Zs7(data:Int):V6 Dv→Int→Int
 | [],_=>0
 | d::r,last=>if dvE d last≠0 then dvE d last else if Zc8 data d.2 (-1)≠0 then Zc8 data d.2 (-1) else Zs7 data r d.1.1
def wsum(L:V6 Dv):Int:=IntKind.i64.wrap (Un L:Int)
def Hz(tx time unit data:Int)(L:V6 Dv):Int :=
 if(inZ tx 0 2147483647&&inZ time 0 16777215)&&(inZ unit 1 65536&&inZ data 0 65536) then(if 4096<L.length∨16384<wsum L then 2 else Zs7 data L (-1)) else 2
theorem mpE_2{data:Int}{m:Mp}{last:Int}(h:(inZ m.1 0 281474976710655&&(inZ m.2.1 0 (data-1)&&inZ m.2.2 0 16777215))=false):mpE data m last=2:=V7 (by rw[h];decide)
theorem mpE_8{data:Int}{m:Mp}{last:Int}(h:(inZ m.1 0 281474976710655&&(inZ m.2.1 0 (data-1)&&inZ m.2.2 0 16777215))=true)(h2:m.1≤last):mpE data m last=8:=(V8 h).trans (V8 h2)
theorem mpE_0{data:Int}{m:Mp}{last:Int}(h:(inZ m.1 0 281474976710655&&(inZ m.2.1 0 (data-1)&&inZ m.2.2 0 16777215))=true)(h2:¬ m.1≤last):mpE data m last=0:=(V8 h).trans (V7 h2)
theorem dvE_2{d:Dv}{last:Int}(h:(inZ d.1.1 0 16777215&&(inZ d.1.2.1 0 2147483647&&(inZ d.1.2.2.1 0 16777215&&inZ d.1.2.2.2 0 16777215)))=false):dvE d last=2:=V7 (by rw[h];decide)
theorem dvE_8{d:Dv}{last:Int}(h:(inZ d.1.1 0 16777215&&(inZ d.1.2.1 0 2147483647&&(inZ d.1.2.2.1 0 16777215&&inZ d.1.2.2.2 0 16777215)))=true)(h2:d.1.1≤last):dvE d last=8:=(V8 h).trans (V8 h2)
theorem dvE_0{d:Dv}{last:Int}(h:(inZ d.1.1 0 16777215&&(inZ d.1.2.1 0 2147483647&&(inZ d.1.2.2.1 0 16777215&&inZ d.1.2.2.2 0 16777215)))=true)(h2:¬ d.1.1≤last):dvE d last=0:=(V8 h).trans (V7 h2)
theorem mpE_ok{data:Int}{m:Mp}{last:Int}:mpE data m last=0↔((0≤m.1∧m.1≤281474976710655)∧(0≤m.2.1∧m.2.1<data)∧0≤m.2.2∧m.2.2≤16777215)∧last<m.1:=by
 unfold mpE;simp only[E2,inZ_t];split
 ·split
  ·exact⟨fun h=>absurd h Do,fun h=>by omega⟩
  ·exact⟨fun _=>by omega,fun _=>rfl⟩
 ·exact⟨fun h=>absurd h Do,fun h=>by omega⟩
theorem dvE_ok{d:Dv}{last:Int}:dvE d last=0↔((0≤d.1.1∧d.1.1≤16777215)∧(0≤d.1.2.1∧d.1.2.1≤2147483647)∧(0≤d.1.2.2.1∧d.1.2.2.1≤16777215)∧0≤d.1.2.2.2∧d.1.2.2.2≤16777215)∧last<d.1.1:=by
 unfold dvE;simp only[E2,inZ_t];split
 ·split
  ·exact⟨fun h=>absurd h Do,fun h=>by omega⟩
  ·exact⟨fun _=>by omega,fun _=>rfl⟩
 ·exact⟨fun h=>absurd h Do,fun h=>by omega⟩
theorem Zl6{data:Int}:∀ {M:V6 Mp} {last:Int},Zc8 data M last=0↔MapsOk data M∧∀ m∈M,last<m.1
 | [],last=>⟨fun _=>⟨.nil _,fun _ h=>by cases h⟩,fun _=>rfl⟩
 | m::r,last=>by
  have ih:=@Zl6 data r m.1;show(if mpE data m last≠0 then mpE data m last else Zc8 data r m.1)=0↔_;by_cases h:mpE data m last=0
  ·rw[V7 (fun q=>q h),ih];have h2:=mpE_ok.1 h;constructor
   ·rintro⟨a,b⟩;refine⟨⟨.cons b a.rise,fun x hx=>?_⟩,fun x hx=>?_⟩
    ·rcases B6.1 hx with rfl|hx
     ·exact h2.1
     ·exact a.each x hx
    ·rcases B6.1 hx with rfl|hx
     ·exact h2.2
     ·have:=b x hx;omega
   ·rintro⟨a,_⟩;obtain⟨c1,c2⟩:=List.pairwise_cons.1 a.rise;exact⟨⟨c2,fun x hx=>a.each x (E1 _ hx)⟩,c1⟩
  ·rw[V8 h];exact⟨fun q=>absurd q h,fun q=>absurd (mpE_ok.2 ⟨q.1.each m (D6 ..),q.2 m (D6 ..)⟩) h⟩
theorem Ztf{data:Int}:∀ {L:V6 Dv} {last:Int},Zs7 data L last=0↔(L.Pairwise (fun x y=>x.1.1<y.1.1)∧∀ d∈L,DevOk data d)∧∀ d∈L,last<d.1.1
  | [],last=>⟨fun _=>⟨⟨.nil,fun _ h=>by cases h⟩,fun _ h=>by cases h⟩,fun _=>rfl⟩
  | d :: r, last => by
    have ih:=@Ztf data r d.1.1;show(if dvE d last≠0 then dvE d last else if Zc8 data d.2 (-1)≠0 then Zc8 data d.2 (-1) else Zs7 data r d.1.1)=0↔_;by_cases h:dvE d last=0
    · rw[V7 (fun q=>q h)];have h2:=dvE_ok.1 h;by_cases g:Zc8 data d.2 (-1)=0
      · rw[V7 (fun q=>q g),ih];have g2:=Zl6.1 g;constructor
        · rintro⟨⟨a1,a2⟩,b⟩;refine⟨⟨.cons b a1,fun x hx=>?_⟩,fun x hx=>?_⟩
          · rcases B6.1 hx with rfl|hx
            · exact⟨h2.1.1,h2.1.2.1,h2.1.2.2.1,h2.1.2.2.2,g2.1⟩
            · exact a2 x hx
          · rcases B6.1 hx with rfl|hx
            · exact h2.2
            · have:=b x hx;omega
        · rintro⟨⟨a1,a2⟩,_⟩;obtain⟨c1,c2⟩:=List.pairwise_cons.1 a1;exact⟨⟨c2,fun x hx=>a2 x (E1 _ hx)⟩,c1⟩
      · rw[V8 g];refine⟨fun q=>absurd q g,fun q=>absurd (Zl6.2 ⟨(q.1.2 d (D6 ..)).b8,fun m hm=>?_⟩) g⟩;have:=(q.1.2 d (D6 ..)).b8.each m hm;omega
    · rw[V8 h];refine⟨fun q=>absurd q h,fun q=>absurd (dvE_ok.2 ⟨?_,q.2 d (D6 ..)⟩) h⟩;have:=q.1.2 d (D6 ..);exact⟨this.id,this.tx,this.f7,this.f4⟩
structure PoolOk(tx time unit data:Int)(L:V6 Dv):Prop where
 k0:0≤tx∧tx≤2147483647
 i6:0≤time∧time≤16777215
 i7:1≤unit∧unit≤65536
 a3:0≤data∧data≤65536
 J:DevsOk data L
theorem Zu1{M:V6 Mp}(h:M.Pairwise (fun x y=>x.1<y.1))(h0:∀ m∈M,0≤m.1):∀ i (hi:i<M.length),(i:Int)≤M[i].1
 | 0,hi=>h0 _ (F3 hi)
 | i+1,hi=>by
  have ih:=Zu1 h h0 i M0;have:=List.pairwise_iff_getElem.1 h i (i+1) M0 hi M0;omega
theorem maps_few{data:Int}{M:V6 Mp}(h:MapsOk data M):M.length≤281474976710656:=by
 by_cases h0:M.length=0
 ·omega
 ·have h1:=Zu1 h.rise (fun m hm=>(h.each m hm).1.1) (M.length-1) M0;have h2:=(h.each _ (F3 (show M.length-1<M.length by omega))).1.2;omega
theorem sum_few{L:V6 Dv}{k:Nat}(h:∀ d∈L,d.2.length≤k):Un L≤L.length*k:=by
 induction L with
 | nil=>exact A5 _
 | cons d r ih =>
  have h1:=h d (D6 ..);have h2:=ih fun x hx=>h x (E1 _ hx);have e:Un (d::r)=d.2.length+Un r:=rfl;rw[e,C5,G8];omega
theorem Zzk{data:Int}{L:V6 Dv}(hf:L.length≤4096)(h:∀ d∈L,DevOk data d):wsum L=(Un L:Int):=by
 have h1:=sum_few fun d hd=>maps_few (h d hd).b8;exact IntWalk.i64_in _ M0
theorem Zm1(a b:Int):IntKind.i64.wrap (IntKind.i64.wrap a+b)=IntKind.i64.wrap (a+b):=by
 simp only[IntKind.wrap,IntKind.signed,IntKind.bits];simp;try omega
theorem Mx{tx time unit data:Int}{L:V6 Dv}:Hz tx time unit data L=0↔PoolOk tx time unit data L:=by
 unfold Hz;simp only[E2,inZ_t];split
 ·rename_i h;split
  ·rename_i g;refine⟨fun q=>absurd q Do,fun q=>?_⟩;have a:=q.J.a0;have b:=q.J.sum;rw[Zzk a q.J.each] at g;omega
  ·rename_i g;rw[Ztf];constructor
   ·rintro⟨⟨a,b⟩,_⟩;have hw:=Zzk (L:=L) M0 b;exact⟨h.1.1,h.1.2,h.2.1,h.2.2,M0,M0,a,b⟩
   ·intro q;exact⟨⟨q.J.rise,q.J.each⟩,fun d hd=>by have:=(q.J.each d hd).id;omega⟩
 ·rename_i h;exact⟨fun q=>absurd q Do,fun q=>absurd ⟨⟨q.k0,q.i6⟩,q.i7,q.a3⟩ h⟩
theorem Zuv{L:V6 Dv}{n:Nat}(h:n<L.length){x:Dv}:Un (L.take (n+1))=Un (L.take n)+(L.getD n x).2.length:=by
 unfold Un;rw[B5 h,A6,E8];simp[getD,h]
theorem Ca{data:Int}{M:V6 Mp}{i:Nat}{x:Mp}{last:Int}(h:i<M.length):Zc8 data (M.drop i) last=if mpE data (M.getD i x) last≠0 then mpE data (M.getD i x) last else Zc8 data (M.drop (i+1)) (M.getD i x).1:=by
 rw[F8 h,show M.getD i x=M[i] from by simp[getD,h]];rfl
theorem mpsE_end{data:Int}{M:V6 Mp}{i:Nat}{last:Int}(h:M.length≤i):Zc8 data (M.drop i) last=0:=by
 rw[E3 h];rfl
theorem Zws{data:Int}{L:V6 Dv}{i:Nat}{x:Dv}{last:Int}(h:i<L.length):Zs7 data (L.drop i) last=if dvE (L.getD i x) last≠0 then dvE (L.getD i x) last else if Zc8 data (L.getD i x).2 (-1)≠0 then Zc8 data (L.getD i x).2 (-1) else Zs7 data (L.drop (i+1)) (L.getD i x).1.1:=by
 rw[F8 h,show L.getD i x=L[i] from by simp[getD,h]];rfl
theorem dvsE_end{data:Int}{L:V6 Dv}{i:Nat}{last:Int}(h:L.length≤i):Zs7 data (L.drop i) last=0:=by
 rw[E3 h];rfl
abbrev Zv:=Dv×O0×Nat
def zvD:Zv:=(((0,0,0,0),[]),none,0)
def Zg5(z:Zv):V6 V2:=[V0 z.1.1.1,V0 z.1.1.2.1,V0 z.1.1.2.2.1,V0 z.1.1.2.2.2,.slice z.2.1 z.1.2.length z.2.2]
theorem Jd(z:Zv):(Zg5 z).length=5:=rfl
structure DevsR(w:V1)(p:Option Addr)(c:Nat)(Z:V6 Zv):Prop where
 row:Sts Zg5 w (.slice p Z.length c) Z
 each:∀ i,i<Z.length→Sts Cu w (.slice (Z.getD i zvD).2.1 (Z.getD i zvD).1.2.length (Z.getD i zvD).2.2) (Z.getD i zvD).1.2
theorem DevsR.i{w W:V1}{p:O0}{c:Nat}{Z:V6 Zv}(h:DevsR w p c Z)(hb:B3 w W):DevsR W p c Z:=⟨h.row.i hb,fun i hi=>(h.each i hi).i hb⟩
theorem DevsR.b6{w:V1}{p:O0}{c n:Nat}{Z:V6 Zv}(h:DevsR w p c Z)(hn:Z.length=n):Sl w (.slice p n c) n (Z.flatMap Zg5):=by subst hn;exact h.row
theorem DevsR.a4{w:V1}{p:O0}{c n i:Nat}{Z:V6 Zv}(h:DevsR w p c Z)(hn:Z.length=n)(hi:i<n):p.isSome=true:=by subst hn;exact(Sts.cell h.row Jd zvD (k:=i) (i:=0) hi rfl).1
theorem Lc(n lo hi:Int)(w:V1) :
 C0 36 #[V0 n,V0 lo,V0 hi] w (Ret (.bool (inZ n lo hi)) w):=by
 refine zin 15 Tryz.func36 ?_
 refine xg 11 [9,10] (decide (lo≤n)) (fun a0=>?_) (fun a0=>?_)
 ·have a0:=U1 a0
  exact xe 8 (.bool (decide (n≤hi))) ⟨by rw[show inZ n lo hi=decide (n≤hi) from by unfold inZ;exact decide_eq_decide.2 M0],(B4 w)⟩
 have a0:=U2 a0
 exact xe 8 (.bool false) ⟨by rw[show inZ n lo hi=false from V9 M0],(B4 w)⟩
theorem Ej(t:Int)(w:V1) :
 C0 84 #[V0 t] w (Ret (.bool !(inZ t 0 16777215)) w):=by
 refine zin 6 Tryz.func84 ?_
 refine xr 8 (Lc t 0 16777215 _) fun W1 a0=>?_
 exact xe 5 (.bool (!(inZ t 0 16777215))) ⟨rfl,a0⟩
theorem indexT1(t:Int)(b:Nat)(w:V1)(k:Blk w b [V0 t] 3) :
 C0 144 #[.slice (S3 b) 1 1,.func (.func 84) #[] #[]] w ((fun e w'=>((inZ t 0 16777215)=true∧e=.returned (V0 (-1))∧B3 w w')∨((inZ t 0 16777215)=false∧∃ i:Nat,e=.returned (V0 (i:Int))∧B3 w w'))):=by
 refine zin 19 Tryz.func144 ?_
 refine xu 14 2 ?_
 refine xb 23 0 k ?_
 refine xr 0 (Ej t _) fun W1 a0=>?_
 refine xi 2 (!(inZ t 0 16777215)) (fun a1=>?_) (fun a1=>?_)
 ·exact xe 12 (V0 0) (.inr ⟨by simp_all,0,rfl,a0⟩)
 exact xe 26 (V0 (-1)) (.inl ⟨by simp_all,rfl,a0⟩)
theorem Zq7(t:Int)(b:Nat)(w:V1)(k:Blk w b [V0 t] 3) :
 C0 83 #[.slice (S3 b) 1 1,.func (.func 84) #[] #[]] w (Ret (.bool !(inZ t 0 16777215)) w):=by
 refine zin 9 Tryz.func83 ?_
 refine xc 9 (indexT1 t b _ k) ?_
 rintro e W1 a1
 rcases a1 with ⟨hz,rfl,a0⟩|⟨hz,i0,rfl,a0⟩
 ·exact xe 5 (.bool false) ⟨by first|(rw[hz];rfl)|(rw[hz,U0 M0];rfl),a0⟩
 exact xe 5 (.bool (decide ((i0:Int)≥(0:Int)))) ⟨by first|(rw[hz];rfl)|(rw[hz,U0 M0];rfl),a0⟩
theorem Zi9(tx:Int)(t:Int)(b:Nat)(w:V1)(k:Blk w b [V0 t] 3) :
 C0 35 #[V0 tx,.slice (S3 b) 1 1] w (Ret (.bool ((inZ tx 0 2147483647)&&(inZ t 0 16777215))) w):=by
 refine zin 12 Tryz.func35 ?_
 refine xr 8 (Lc tx 0 2147483647 _) fun W1 a0=>?_
 refine xg 1 [6,7] (inZ tx 0 2147483647) (fun a1=>?_) (fun a1=>?_)
 ·have a2:=k.i a0
  refine xr 1 (Zq7 t b _ a2) fun W3 a3=>?_
  have hB:=bln a0 a3
  exact xe 6 (.bool (!(!(inZ t 0 16777215)))) ⟨by simp_all,hB⟩
 exact xe 8 (.bool false) ⟨by simp_all,a0⟩
theorem indexT2(t u:Int)(b:Nat)(w:V1)(k:Blk w b [V0 t,V0 u] 3) :
 C0 144 #[.slice (S3 b) 2 2,.func (.func 84) #[] #[]] w ((fun e w'=>(((inZ t 0 16777215)&&(inZ u 0 16777215))=true∧e=.returned (V0 (-1))∧B3 w w')∨(((inZ t 0 16777215)&&(inZ u 0 16777215))=false∧∃ i:Nat,e=.returned (V0 (i:Int))∧B3 w w'))):=by
 refine zin 19 Tryz.func144 ?_
 refine xu 14 3 ?_
 refine xb 23 0 k ?_
 refine xr 0 (Ej t _) fun W1 a0=>?_
 refine xi 2 (!(inZ t 0 16777215)) (fun a4=>?_) (fun a4=>?_)
 ·exact xe 12 (V0 0) (.inr ⟨by simp_all,0,rfl,a0⟩)
 have a2:=k.i a0
 refine xb 31 1 a2 ?_
 refine xr 0 (Ej u _) fun W3 a1=>?_
 refine xi 2 (!(inZ u 0 16777215)) (fun a3=>?_) (fun a3=>?_)
 ·have hB:=bln a0 a1
  exact xe 12 (V0 1) (.inr ⟨by simp_all,1,rfl,hB⟩)
 have hB:=bln a0 a1
 exact xe 26 (V0 (-1)) (.inl ⟨by simp_all,rfl,hB⟩)
theorem Zp2(t u:Int)(b:Nat)(w:V1)(k:Blk w b [V0 t,V0 u] 3) :
 C0 83 #[.slice (S3 b) 2 2,.func (.func 84) #[] #[]] w (Ret (.bool !((inZ t 0 16777215)&&(inZ u 0 16777215))) w):=by
 refine zin 9 Tryz.func83 ?_
 refine xc 9 (indexT2 t u b _ k) ?_
 rintro e W1 a1
 rcases a1 with ⟨hz,rfl,a0⟩|⟨hz,i0,rfl,a0⟩
 ·exact xe 5 (.bool false) ⟨by first|(rw[hz];rfl)|(rw[hz,U0 M0];rfl),a0⟩
 exact xe 5 (.bool (decide ((i0:Int)≥(0:Int)))) ⟨by first|(rw[hz];rfl)|(rw[hz,U0 M0];rfl),a0⟩
theorem Zhw(tx:Int)(t u:Int)(b:Nat)(w:V1)(k:Blk w b [V0 t,V0 u] 3) :
 C0 35 #[V0 tx,.slice (S3 b) 2 2] w (Ret (.bool ((inZ tx 0 2147483647)&&((inZ t 0 16777215)&&(inZ u 0 16777215)))) w):=by
 refine zin 12 Tryz.func35 ?_
 refine xr 8 (Lc tx 0 2147483647 _) fun W1 a0=>?_
 refine xg 1 [6,7] (inZ tx 0 2147483647) (fun a1=>?_) (fun a1=>?_)
 ·have a2:=k.i a0
  refine xr 1 (Zp2 t u b _ a2) fun W3 a3=>?_
  have hB:=bln a0 a3
  exact xe 6 (.bool (!(!((inZ t 0 16777215)&&(inZ u 0 16777215))))) ⟨by simp_all,hB⟩
 exact xe 8 (.bool false) ⟨by simp_all,a0⟩
theorem Zll(d:Dv)(last:Int)(a:O0)(n c:Nat)(w:V1) :
 C0 38 #[.agg #[V0 d.1.1,V0 d.1.2.1,V0 d.1.2.2.1,V0 d.1.2.2.2,.slice a n c],V0 last] w (Ret (V0 (dvE d last)) w):=by
 refine zin 26 Tryz.func38 ?_
 refine xa 2 [V0 d.1.1,V0 d.1.2.1,V0 d.1.2.2.1,V0 d.1.2.2.2,.slice a n c] 32 fun b1 W1 n1=>?_
 refine xb 8 0 n1.blk ?_
 refine xr 0 (Lc d.1.1 0 16777215 _) fun W2 a3=>?_
 refine xg 2 [9,10] (!(inZ d.1.1 0 16777215)) (fun a1=>?_) (fun a1=>?_)
 ·have a1:=Zci a1
  have hB:=bln n1.i a3
  exact xe 22 (V0 2) ⟨by rw[dvE_2 (by rw[a1];rfl)],hB⟩
 have a1:=Zcj a1
 have a0:=n1.blk.i a3
 refine xb 1 1 a0 ?_
 refine xb 1 2 a0 ?_
 refine xb 1 3 a0 ?_
 refine xbs 0 2 [V0 d.1.2.2.1,V0 d.1.2.2.2] 3 fun b4 W4 n4=>?_
 refine xr 0 (Zhw d.1.2.1 d.1.2.2.1 d.1.2.2.2 b4 _ n4.blk) fun W5 a4=>?_
 refine xi 5 (!((inZ d.1.2.1 0 2147483647)&&((inZ d.1.2.2.1 0 16777215)&&(inZ d.1.2.2.2 0 16777215)))) (fun a2=>?_) (fun a2=>?_)
 ·have a2:=Zci a2
  have hB:=bln (bln (bln n1.i a3) n4.i) a4
  exact xe 8 (V0 2) ⟨by rw[dvE_2 (by rw[a1,a2];rfl)],hB⟩
 have a2:=Zcj a2
 have a5:=(a0.i n4.i).i a4
 refine xb 3 0 a5 ?_
 refine xid 5 (d.1.1≤last) (fun a6=>?_) (fun a6=>?_)
 ·have hB:=bln (bln (bln n1.i a3) n4.i) a4
  exact xe 8 (V0 8) ⟨by rw[dvE_8 (by rw[a1,a2];rfl) M0],hB⟩
 have hB:=bln (bln (bln n1.i a3) n4.i) a4
 exact xe 9 (V0 0) ⟨by rw[dvE_0 (by rw[a1,a2];rfl) M0],hB⟩
theorem Zkq(a:O0)(c:Nat)(L:V6 Mp)(data:Int)(w:V1)(hd:0≤data∧data≤65536)(ha:Sts Cu w (.slice a L.length c) L) :
 C0 39 #[.slice a L.length c,V0 data] w (Ret (V0 (Zc8 data L (-1))) w):=by
 have c1:=Sl.len ha
 refine zin 41 Tryz.func39 ?_
 have hB:=U3 w.heap.size w
 refine zl 19 41 (fun zm b9 V=>∃ (i:Nat) (a3:Int),b9=[(1,V0 data),(5,V0 a3),(8,.slice a L.length c),(9,V0 (L.length:Int)),(10,V0 (i:Int))]∧zm=L.length-((i:Int)).toNat∧B3 w V∧i≤L.length∧Zc8 data L (-1)=Zc8 data (L.drop i) a3) ⟨0,(-1),rfl,rfl,hB,A5 _,rfl⟩ ?_
 rintro _ _ W1 ⟨i,a3,rfl,rfl,a1,hi,he⟩ J1 b8 r1
 refine xid 6 ((i:Int)<(L.length:Int)) (fun c0=>?_) (fun c0=>?_)
 ·refine xx 6 _ L.length i 3 (Sts.cell ha Jv mpD (k:=i) (i:=0) M0 rfl).1 ?_
  refine xlv 0 (Sts.rp (k:=i) (ha.i a1) Jv mpD M0 Do) ?_
  refine xa 0 [V0 0,V0 0,V0 0] 63 fun b3 W3 n3=>?_
  have g3:=n3.ge a1
  refine xsv 0 n3.blk [V0 ((L.getD i mpD).1),V0 ((L.getD i mpD).2.1),V0 ((L.getD i mpD).2.2)] fun W4 u4 k4=>?_
  refine xb 7 0 k4 ?_
  refine xr 0 (Lc ((L.getD i mpD).1) 0 281474976710655 _) fun W5 a5=>?_
  refine xg 2 [18,19] (!(inZ ((L.getD i mpD).1) 0 281474976710655)) (fun a2=>?_) (fun a2=>?_)
  ·have a2:=Zci a2
   have b4:=bln (u4.i (bln a1 n3.i) g3) a5
   exact xe 30 (V0 2) ⟨by rw[he,Ca (x:=mpD) M0,mpE_2 (by rw[a2];rfl)];rfl,b4⟩
  have a2:=Zcj a2
  have a7:=k4.i a5
  refine xb 1 1 a7 ?_
  refine xw 1 (data-1) ?_
  refine xr 0 (Lc ((L.getD i mpD).2.1) 0 (data-1) _) fun W7 a6=>?_
  refine xg 3 [25,26,27] (!(inZ ((L.getD i mpD).2.1) 0 (data-1))) (fun a4=>?_) (fun a4=>?_)
  ·have a4:=Zci a4
   have b1:=bln (bln (u4.i (bln a1 n3.i) g3) a5) a6
   exact xe 22 (V0 2) ⟨by rw[he,Ca (x:=mpD) M0,mpE_2 (by rw[a2,a4];rfl)];rfl,b1⟩
  have a4:=Zcj a4
  have a9:=a7.i a6
  refine xb 1 2 a9 ?_
  refine xr 0 (Lc ((L.getD i mpD).2.2) 0 16777215 _) fun W9 b0=>?_
  refine xi 5 (!(inZ ((L.getD i mpD).2.2) 0 16777215)) (fun a0=>?_) (fun a0=>?_)
  ·have a0:=Zci a0
   have b7:=bln (bln (bln (u4.i (bln a1 n3.i) g3) a5) a6) b0
   exact xe 13 (V0 2) ⟨by rw[he,Ca (x:=mpD) M0,mpE_2 (by rw[a2,a4,a0];rfl)];rfl,b7⟩
  have a0:=Zcj a0
  have a8:=a9.i b0
  refine xb 3 0 a8 ?_
  refine xid 5 ((L.getD i mpD).1≤a3) (fun b2=>?_) (fun b2=>?_)
  ·have b5:=bln (bln (bln (u4.i (bln a1 n3.i) g3) a5) a6) b0
   exact xe 13 (V0 8) ⟨by rw[he,Ca (x:=mpD) M0,mpE_8 (by rw[a2,a4,a0];rfl) M0];rfl,b5⟩
  refine xb 5 0 a8 ?_
  refine xwm 5 ((i:Int)+1) (↑(i+1):Int) ?_
  have b6:=bln (bln (bln (u4.i (bln a1 n3.i) g3) a5) a6) b0
  exact ze 2 (b8 _ _ _ ⟨i+1,(L.getD i mpD).1,rfl,rfl,b6,M0,by rw[he,Ca (x:=mpD) M0,mpE_0 (by rw[a2,a4,a0];rfl) M0];rfl⟩ M0)
 exact xe 11 (V0 0) ⟨by rw[he,mpsE_end M0],a1⟩
theorem zfst{Z:V6 Zv}{i:Nat}(h:i<Z.length)(x:Dv):(Z.map fst).getD i x=(Z.getD i zvD).1:=by simp[getD,h]
theorem Sr{data:Int}{Z:V6 Zv}{i:Nat}{last:Int}(h:i<Z.length):Zs7 data ((Z.map fst).drop i) last=if dvE (Z.getD i zvD).1 last≠0 then dvE (Z.getD i zvD).1 last else if Zc8 data (Z.getD i zvD).1.2 (-1)≠0 then Zc8 data (Z.getD i zvD).1.2 (-1) else Zs7 data ((Z.map fst).drop (i+1)) (Z.getD i zvD).1.1.1:=by
 rw[Zws (x:=zvD.1) (by rw[A3];exact h),zfst h]
theorem Si{Z:V6 Zv}{i:Nat}(h:i<Z.length):Un ((Z.map fst).take (i+1))=Un ((Z.map fst).take i)+(Z.getD i zvD).1.2.length:=by
 rw[Zuv (x:=zvD.1) (by rw[A3];exact h),zfst h]
theorem Zqy(p:O0)(c n:Nat)(t u v x:Int)(Z:V6 Zv)(w:V1)(hZ:Z.length=n)(hP:DevsR w p c Z) :
 C0 37 #[.agg #[V0 t,V0 u,V0 v,V0 x,.slice p n c]] w (Ret (V0 (wsum (Z.map fst))) w):=by
 have a7:=Sl.len (hP.b6 hZ)
 refine zin 20 Tryz.func37 ?_
 refine xa 2 [V0 t,V0 u,V0 v,V0 x,.slice p n c] 24 fun b1 W1 n1=>?_
 refine xb 12 4 n1.blk ?_
 refine zl 5 20 (fun zm a4 V=>∃ (i:Nat),a4=[(2,V0 0),(3,V0 (IntKind.i64.wrap (↑(Un ((Z.map fst).take i)):Int))),(7,.slice p n c),(8,V0 (n:Int)),(9,V0 (i:Int))]∧zm=n-((i:Int)).toNat∧B3 w V∧Blk V b1 ([V0 t,V0 u,V0 v,V0 x,.slice p n c]) 24∧i≤n) ⟨0,rfl,rfl,n1.i,n1.blk,A5 _⟩ ?_
 rintro _ _ W2 ⟨i,rfl,rfl,a1,a2,hi⟩ J2 a5 r2
 refine xid 6 ((i:Int)<(n:Int)) (fun a6=>?_) (fun a6=>?_)
 ·refine xx 6 _ n i 5 (hP.a4 hZ (i:=i) M0) ?_
  refine xlv 0 (Sts.rp (k:=i) (hP.i a1).row Jd zvD M0 Do) ?_
  refine xa 0 [V0 0,V0 0,V0 0,V0 0,S1] 32 fun b4 W4 n4=>?_
  have g4:=n4.ge a1
  refine xsv 0 n4.blk [V0 ((Z.getD i zvD).1.1.1),V0 ((Z.getD i zvD).1.1.2.1),V0 ((Z.getD i zvD).1.1.2.2.1),V0 ((Z.getD i zvD).1.1.2.2.2),.slice ((Z.getD i zvD).2.1) ((Z.getD i zvD).1.2.length) ((Z.getD i zvD).2.2)] fun W5 u5 k5=>?_
  refine xb 5 4 k5 ?_
  refine xwm 7 ((i:Int)+1) (↑(i+1):Int) ?_
  refine xv1 2 3 (show(V0 (IntKind.i64.wrap ((IntKind.i64.wrap (↑(Un ((Z.map fst).take i)):Int))+(↑((Z.getD i zvD).1.2.length):Int))):V2)=V0 (IntKind.i64.wrap (↑(Un ((Z.map fst).take (i+1))):Int)) from congrArg V0 ((Zm1 _ _).trans (congrArg IntKind.i64.wrap (by have:=Si (Z:=Z) (i:=i) M0;omega)))) ?_
  have a3:=u5.i (bln a1 n4.i) g4
  have a0:=u5.A (a2.i n4.i) n4.blk Do
  exact ze 0 (a5 _ _ _ ⟨i+1,rfl,rfl,a3,a0,M0⟩ M0)
 exact xe 12 (V0 (IntKind.i64.wrap (↑(Un ((Z.map fst).take i)):Int))) ⟨by unfold wsum;rw[B9 (by rw[A3];omega)],a1⟩
theorem Zby{tx time unit data:Int}{L:V6 Dv}(h:((inZ tx 0 2147483647&&inZ time 0 16777215)&&(inZ unit 1 65536&&inZ data 0 65536))=false):Hz tx time unit data L=2:=V7 (by rw[h];decide)
theorem Zh4{tx time unit data:Int}{L:V6 Dv}(h:((inZ tx 0 2147483647&&inZ time 0 16777215)&&(inZ unit 1 65536&&inZ data 0 65536))=true)(h2:4096<L.length∨16384<wsum L):Hz tx time unit data L=2:=(V8 h).trans (V8 h2)
theorem Rt{tx time unit data:Int}{L:V6 Dv}(h:((inZ tx 0 2147483647&&inZ time 0 16777215)&&(inZ unit 1 65536&&inZ data 0 65536))=true)(h2:¬ (4096<L.length∨16384<wsum L)):Hz tx time unit data L=Zs7 data L (-1):=(V8 h).trans (V7 h2)
theorem Hf(p:O0)(c n:Nat)(t u v x:Int)(Z:V6 Zv)(w:V1)(hZ:Z.length=n)(hP:DevsR w p c Z) :
 C0 12 #[.agg #[V0 t,V0 u,V0 v,V0 x,.slice p n c]] w (Ret (V0 (Hz t u v x (Z.map fst))) w):=by
 have e4:=Sl.len (hP.b6 hZ)
 refine zin 60 Tryz.func12 ?_
 refine xa 2 [V0 t,V0 u,V0 v,V0 x,.slice p n c] 24 fun b1 W1 n1=>?_
 refine xb 7 0 n1.blk ?_
 refine xb 1 1 n1.blk ?_
 refine xbs 0 1 [V0 u] 3 fun b2 W2 n2=>?_
 refine xr 0 (Zi9 t u b2 _ n2.blk) fun W3 c1=>?_
 refine xg 2 [14,15] (!((inZ t 0 2147483647)&&(inZ u 0 16777215))) (fun a3=>?_) (fun a3=>?_)
 ·have a3:=Zci a3
  have hB:=bln (bln n1.i n2.i) c1
  exact xe 21 (V0 2) ⟨by rw[Zby (by rw[a3];rfl)],hB⟩
 have a3:=Zcj a3
 have c6:=(n1.blk.i n2.i).i c1
 refine xb 1 2 c6 ?_
 refine xr 0 (Lc v 1 65536 _) fun W5 c2=>?_
 refine xg 3 [19,20,21] (!(inZ v 1 65536)) (fun a4=>?_) (fun a4=>?_)
 ·have a4:=Zci a4
  have hB:=bln (bln (bln n1.i n2.i) c1) c2
  exact xe 15 (V0 2) ⟨by rw[Zby (by rw[a3,a4];rfl)],hB⟩
 have a4:=Zcj a4
 have c8:=c6.i c2
 refine xb 1 3 c8 ?_
 refine xr 0 (Lc x 0 65536 _) fun W7 c3=>?_
 refine xi 4 (!(inZ x 0 65536)) (fun a5=>?_) (fun a5=>?_)
 ·have a5:=Zci a5
  have hB:=bln (bln (bln (bln n1.i n2.i) c1) c2) c3
  exact xe 7 (V0 2) ⟨by rw[Zby (by rw[a3,a4,a5];rfl)],hB⟩
 have a5:=Zcj a5
 have b6:=c8.i c3
 refine xb 6 4 b6 ?_
 refine xg 3 [30,31] (decide ((n:Int)>(4096:Int))) (fun c7=>?_) (fun c7=>?_)
 ·have c7:=U1 c7
  have hB:=bln (bln (bln (bln n1.i n2.i) c1) c2) c3
  exact xe 14 (V0 2) ⟨by rw[Zh4 (by rw[a3,a4,a5];rfl) (by rw[A3];omega)],hB⟩
 have c7:=U2 c7
 refine xlv 0 b6.rp ?_
 have hB:=bln (bln (bln (bln n1.i n2.i) c1) c2) c3
 refine xr 0 (Zqy p c n t u v x Z _ hZ (hP.i hB)) fun f0 b0=>?_
 refine xid 4 ((wsum (Z.map fst))>(16384:Int)) (fun d4=>?_) (fun d4=>?_)
 ·have d5:=bln hB b0
  exact xe 7 (V0 2) ⟨by rw[Zh4 (by rw[a3,a4,a5];rfl) (by rw[A3];omega)],d5⟩
 have d2:¬ (4096<(Z.map fst).length∨16384<wsum (Z.map fst)):=by rw[A3];omega
 have c5:=b6.i b0
 refine xb 11 4 c5 ?_
 have d0:=bln hB b0
 have d6:=(((n2.blk.i c1).i c2).i c3).i b0
 refine zl 5 60 (fun zm e2 V=>∃ (i:Nat) (a2:Int),e2=[(1,P0 b1),(3,V0 a2),(37,.slice p n c),(38,V0 (n:Int)),(39,V0 (i:Int))]∧zm=n-((i:Int)).toNat∧B3 w V∧Blk V b1 ([V0 t,V0 u,V0 v,V0 x,.slice p n c]) 24∧Blk V b2 ([V0 u]) 3∧i≤n∧Zs7 x (Z.map fst) (-1)=Zs7 x ((Z.map fst).drop i) a2) ⟨0,(-1),rfl,rfl,d0,c5,d6,A5 _,rfl⟩ ?_
 rintro _ _ e8 ⟨i,a2,rfl,rfl,a0,c0,b8,hi,he⟩ e7 d3 e9
 have hx:=inZ_t.1 a5
 refine xid 6 ((i:Int)<(n:Int)) (fun d1=>?_) (fun d1=>?_)
 ·refine xx 6 _ n i 5 (hP.a4 hZ (i:=i) M0) ?_
  refine xlv 0 (Sts.rp (k:=i) (hP.i a0).row Jd zvD M0 Do) ?_
  refine xa 0 [V0 0,V0 0,V0 0,V0 0,S1] 32 fun e6 f1 b4=>?_
  have e0:=b4.ge a0
  refine xsv 0 b4.blk [V0 ((Z.getD i zvD).1.1.1),V0 ((Z.getD i zvD).1.1.2.1),V0 ((Z.getD i zvD).1.1.2.2.1),V0 ((Z.getD i zvD).1.1.2.2.2),.slice ((Z.getD i zvD).2.1) ((Z.getD i zvD).1.2.length) ((Z.getD i zvD).2.2)] fun e5 c9 e1=>?_
  refine xlv 5 e1.rp ?_
  refine xr 1 (args:=#[.agg #[V0 ((Z.getD i zvD).1.1.1),V0 ((Z.getD i zvD).1.1.2.1),V0 ((Z.getD i zvD).1.1.2.2.1),V0 ((Z.getD i zvD).1.1.2.2.2),.slice ((Z.getD i zvD).2.1) ((Z.getD i zvD).1.2.length) ((Z.getD i zvD).2.2)],V0 a2]) (Zll (Z.getD i zvD).1 a2 _ _ _ _) fun f2 a8=>?_
  refine xin 9 (dvE (Z.getD i zvD).1 a2) (0:Int) (fun b3=>?_) (fun b3=>?_)
  ·have d9:=bln (c9.i (bln a0 b4.i) e0) a8
   exact xe 13 (V0 (dvE (Z.getD i zvD).1 a2)) ⟨by rw[Rt (by rw[a3,a4,a5];rfl) d2,he,Sr M0,V8 b3],d9⟩
  have b5:=e1.i a8
  refine xb 6 4 b5 ?_
  have a1:=(c9.A (c0.i b4.i) b4.blk Do).i a8
  refine xb 1 3 a1 ?_
  have b9:=bln (c9.i (bln a0 b4.i) e0) a8
  refine xr 0 (args:=#[.slice ((Z.getD i zvD).2.1) ((Z.getD i zvD).1.2.length) ((Z.getD i zvD).2.2),V0 x]) (Zkq _ _ (Z.getD i zvD).1.2 x _ hx ((hP.i b9).each i M0)) fun e3 a6=>?_
  refine xin 9 (Zc8 x (Z.getD i zvD).1.2 (-1)) (0:Int) (fun b7=>?_) (fun b7=>?_)
  ·have d8:=bln b9 a6
   exact xe 13 (V0 (Zc8 x (Z.getD i zvD).1.2 (-1))) ⟨by rw[Rt (by rw[a3,a4,a5];rfl) d2,he,Sr M0,V7 (fun q=>q b3),V8 b7],d8⟩
  have c4:=b5.i a6
  refine xb 4 0 c4 ?_
  refine xwm 5 ((i:Int)+1) (↑(i+1):Int) ?_
  have d7:=bln b9 a6
  have a7:=a1.i a6
  have a9:=((c9.A (b8.i b4.i) b4.blk Do).i a8).i a6
  exact ze 2 (d3 _ _ _ ⟨i+1,(Z.getD i zvD).1.1.1,rfl,rfl,d7,a7,a9,M0,by rw[he,Sr M0,V7 (fun q=>q b3),V7 (fun q=>q b7)]⟩ M0)
 exact xe 11 (V0 0) ⟨by rw[Rt (by rw[a3,a4,a5];rfl) d2,he,dvsE_end (by rw[A3];omega)],a0⟩
def Gb(t:Int)(dx:Bool)(n m v:Nat):Bl:=leB (Ll dx) 1++leB t 1++leB (n:Int) 2++leB (v:Int) 2++leB (m:Int) 2++leB 0 4
theorem Hn(t:Int)(dx:Bool)(n m v:Nat):(Gb t dx n m v).length=12:=by simp[Gb,Zl]
def Pk(m v:Nat)(H:Bl)(K:V6 Int)(Vs:V6 Bl):Nat→Bl
 | 0=>Qj (replicate 244 0) 0 H
 | i+1=>Qj (Qj (Pk m v H K Vs i) (12+i*8) (leB (K.getD i 0) 8)) (12+m*8+i*v) (Vs.getD i [])
theorem Zas{m v:Nat}{H:Bl}{K:V6 Int}{Vs:V6 Bl}(hH:H.length=12)(hf:12+m*8+m*v≤244):∀ {i:Nat},i≤m→(∀ j,j<i→(Vs.getD j []).length=v)→(Pk m v H K Vs i).length=244
 | 0,_,_=>by rw[Pk,Yk (by rw[B7];omega),B7]
 | i+1,hi,hV=>by
  have ih:=Zas (K:=K) hH hf (i:=i) M0 (fun j hj=>hV j M0);have h1:=hV i M0;have h2:(i+1)*v≤m*v:=F1 v hi;rw[G8,I1] at h2;have h3:(Qj (Pk m v H K Vs i) (12+i*8) (leB (K.getD i 0) 8)).length=244:=by rw[Yk (by rw[Zl,ih];omega),ih]
  rw[Pk,Yk (by rw[h1,h3];omega),h3]
theorem node_Put(t:Int)(dx:Bool)(n m v:Nat)(K:V6 Int)(Vs:V6 Bl)(ak av:O0)(ck cv:Nat)(w:V1)(N:NodeOk t dx n m v K Vs)(hKs:Sl w (.slice ak n ck) n (K.map V0))(hVs:Sl w (.slice av n cv) n (Vs.map sv)) :
 C0 260 #[.agg #[V0 t,.bool dx,.slice ak n ck,.slice av n cv]] w (Kd (fun w' r=>∃ p c,r=.tuple #[.slice p 244 c,V0 0]∧w'.ownsRow w.heap.size 5 1 (.slice p 244 c) 244 ((Pk m v (Gb t dx n m v) K Vs n).map bv)) w):=by
 have e0:=N.ht1
 have e7:=N.ht2
 have f9:=N.hn
 have f5:=Ow t dx
 rw[N.hv] at f5
 have f1:=Qc t dx
 rw[N.hm] at f1
 have d0:=fitN t dx
 rw[N.hm,N.hv] at d0
 have e9:=Sl.cap hKs
 refine zin 90 Tryz.func260 ?_
 refine xa 2 [V0 t,.bool dx,.slice ak n ck,.slice av n cv] 191 fun b1 W1 n1=>?_
 refine xlv 7 n1.blk.rp ?_
 refine xr 0 (Zpt t dx n m v K Vs ak av ck cv _ N (hKs.i n1.i) (hVs.i n1.i)) fun W2 e8=>?_
 refine xd 7 .z ?_
 have a4:=(n1.blk.i e8).i (Za W2)
 refine xb (.e [0] 1) 0 a4 ?_
 refine xb (.e [2] 3) 1 a4 ?_
 refine xb (.e [5] 6) 0 a4 ?_
 refine xb (.e [7] 8) 1 a4 ?_
 refine xr (.o [] 4) (Ec t dx v N.hv e0 e7 _) fun W3 e6=>?_
 refine xr (.o [] 9) (Zbf t dx m N.hm e0 e7 _) fun W4 e5=>?_
 refine xd (.r [10,11] 3) .z ?_
 have a8:=((a4.i e6).i e5).i (Za W4)
 refine xb (.e [0] 1) 1 a8 ?_
 refine xb (.e [4] 5) 0 a8 ?_
 refine xb (.e [6,7] 8) 2 a8 ?_
 refine xr (.o [9,10,11,12,13,14,15] 2) (Zvf dx _) fun W5 e4=>?_
 refine xbs (.o [3] 16) 6 [V0 1,V0 (Ll dx),V0 1,V0 t,V0 2,V0 (n:Int),V0 2,V0 (v:Int),V0 2,V0 (m:Int),V0 4,V0 0] 178 fun b6 W6 n6=>?_
 have b9:=bln (bln (bln (bln (bln (bln n1.i e8) (Za W2)) e6) e5) (Za W4)) e4
 refine yc (.o [] 17) (args:=#[.slice (S3 b6) 6 6]) .z (Zty b6 (Ll dx) t (n:Int) (v:Int) (m:Int) (Zfo dx).1 (Zfo dx).2 M0 M0 M0 M0 M0 M0 M0 M0 _ n6.blk) ?_
 rintro _ W7 ⟨_,rfl,c6,p2,c2,rfl,h2⟩
 have f3:=(bln b9 n6.i).size
 refine⟨c6,?_⟩
 refine xmk (.r [18,19,20,21,22] 4) fun _ _ _ _ zJ zQ zo zx zy zK=>Ht 244 (.int .u8 0) 1 1 ((replicate 244 (0:UInt8)).map bv) zo zx zy Tryz.underlying50 K0 rfl M0 M0 (Zjf 244) fun b8 W8 n8=>?_
 have b7:=bln (bln b9 n6.i) c6
 have g8:=n8.ge b7
 have d1:=Zg h2 f3
 refine zK _ _ ?_
 have o8:=Xw (size:=1) (n:=244) n8.blk g8 (by rw[A3,B7]) Y2
 have d3:=Zb d1 n8.i
 have c1:=bln b7 n8.i
 refine xbi 7 (t2:=50) fun _ _ _ _ zJ zQ zo zx zy zK=>Ct (dLen:=244) (dCap:=244) (off:=0) 12 ((Gb t dx n m v).map bv) ((Pk m v (Gb t dx n m v) K Vs 0).map bv) zo Tryz.underlying50 K0 zx zy (Zf d3) o8 (by simp[Hn]) M0 M0 (Vq _) c1.size (by simp[Pk,Qj,Hn]) fun W9 o9 e2 e3=>?_
 refine zK _ _ ?_
 have b5:=((((a8.i e4).i n6.i).i c6).i n8.i).grown e2 o8 Do
 refine xb 6 2 b5 ?_
 have d6:=c1.trans e3
 have c9:=((n6.blk.i c6).i n8.i).grown e2 o8 Do
 refine zl 5 90 (fun zm f0 V=>∃ (i:Nat),f0=[(1,P0 b1),(2,S1),(3,V0 0),(4,V0 (v:Int)),(5,V0 (m:Int)),(8,.slice (S3 b8) 244 244),(52,.slice ak n ck),(53,V0 (n:Int)),(54,V0 (i:Int))]∧zm=n-((i:Int)).toNat∧B3 w V∧Blk V b1 ([V0 t,.bool dx,.slice ak n ck,.slice av n cv]) 191∧Blk V b6 ([V0 1,V0 (Ll dx),V0 1,V0 t,V0 2,V0 (n:Int),V0 2,V0 (v:Int),V0 2,V0 (m:Int),V0 4,V0 0]) 178∧V.ownsRow w.heap.size 5 1 (.slice (S3 b8) 244 244) 244 ((Pk m v (Gb t dx n m v) K Vs i).map bv)∧i≤n) ⟨0,rfl,rfl,d6,b5,c9,o9,A5 _⟩ ?_
 rintro _ _ g2 ⟨i,rfl,rfl,a2,b4,a5,ho,hi⟩ g0 c8 f7
 have e3:i<n→i*v+v≤m*v:=fun h=>by have h9:(i+1)*v≤m*v:=F1 v M0;rw[G8,I1] at h9;exact h9
 refine xid 6 ((i:Int)<(n:Int)) (fun d2=>?_) (fun d2=>?_)
 ·refine xx 7 _ n i 1 (IntsN.elem hKs N.hK (k:=i) M0).1 ?_
  refine xl 0 ((IntsN.elem (hKs.i a2) N.hK (k:=i) M0).2) ?_
  refine xbs 8 1 [V0 8,V0 (K.getD i 0)] 178 fun e1 g1 b0=>?_
  have d8:=b0.ne a5
  refine xc 0 (Zu7 e1 (K.getD i 0) (N.hk0 i M0).1 _ b0.blk) ?_
  rintro _ f6 ⟨_,rfl,a7,p3,c3,rfl,h3⟩
  have d7:=(bln a2 b0.i).size
  refine xwm 11 ((i:Int)*8) (↑(i*8):Int) ?_
  refine xwm 0 (12+(↑(i*8):Int)) (↑(12+(i*8)):Int) ?_
  refine xsL 0 (fun _ _ _ _ zo zx zy V=>Di (k:=(12+(i*8))) (b:=b8) (off:=0) (n:=244) (c:=244) (i:=(↑(12+(i*8)):Int)) (ki:=.i64) 1 zo zx zy rfl M0 M0 Tryz.underlying50 K0 V) ?_
  have b2:=Zb (Zb ho b0.i) a7
  have d4:=Zg h3 d7
  have c0:=bln (bln a2 b0.i) a7
  refine xbi 1 (t2:=50) fun _ _ _ _ zJ zQ zo zx zy zK=>Ct (dLen:=(244-(12+(i*8)))) (dCap:=(244-(12+(i*8)))) (off:=(0+(12+(i*8))*1)) 8 ((leB (K.getD i 0) 8).map bv) ((Qj (Pk m v (Gb t dx n m v) K Vs i) (12+i*8) (leB (K.getD i 0) 8)).map bv) zo Tryz.underlying50 K0 zx zy (Zf d4) b2 (by simp[Zl]) M0 M0 (Vq _) c0.size (by simp[Qj,Zl,I8,L9]) fun c7 f4 c4 d5=>?_
  refine zK _ _ ?_
  refine xd 2 (.t w.heap.size [5]) ?_
  refine xwm (.e [0,1] 2) ((m:Int)*8) (↑(m*8):Int) ?_
  refine xwm (.e [] 3) (12+(↑(m*8):Int)) (↑(12+(m*8)):Int) ?_
  refine xwm (.e [4,5] 6) ((i:Int)*(v:Int)) (↑(i*v):Int) ?_
  refine xwm (.e [] 7) ((↑(12+(m*8)):Int)+(↑(i*v):Int)) (↑((12+(m*8))+(i*v)):Int) ?_
  refine xsL (.e [] 8) (fun _ _ _ _ zo zx zy V=>Di (k:=((12+(m*8))+(i*v))) (b:=b8) (off:=0) (n:=244) (c:=244) (i:=(↑((12+(m*8))+(i*v)):Int)) (ki:=.i64) 1 zo zx zy rfl M0 M0 Tryz.underlying50 K0 V) ?_
  have a0:=(((b4.i b0.i).i a7).grown c4 b2 Do).i (Za c7)
  refine xbt (.e [9] 10) 3 w.heap.size [5] a0 ?_
  refine xx (.e [11] 12) _ n i 1 (Strs.elem hVs N.hV (k:=i) M0).1 ?_
  have b3:=bln (c0.trans d5) (Za c7)
  refine xlt (.e [] 13) (.t w.heap.size [5]) (fun V hV=>(Strs.elem (hVs.i (Zf7 b3 hV (At _))) N.hV (k:=i) M0).2) ?_
  have a1:=Zb f4 (Za c7)
  refine ybi (.o [] 14) (t2:=9) (.t w.heap.size [5]) fun _ _ _ _ zJ zQ zo zx zy zK=>Zn7 (dLen:=(244-((12+(m*8))+(i*v)))) (dCap:=(244-((12+(m*8))+(i*v)))) (off:=(0+((12+(m*8))+(i*v))*1)) (Vs.getD i []) ((Pk m v (Gb t dx n m v) K Vs (i+1)).map bv) zo Tryz.underlying50 K0 zx zy a1 (by rw[N.hw i M0];omega) (by rw[N.hw i M0];omega) b3.size (by simp[Pk,Qj,I8,L9]) fun f8 f2 a9 c5=>?_
  refine zK _ _ (Xj c5 a9 a1 Do) ?_
  refine xwm 4 ((i:Int)+1) (↑(i+1):Int) ?_
  have d9:=b3.trans c5
  have a3:=a0.grown a9 a1 Do
  have a6:=((((a5.i b0.i).i a7).grown c4 b2 Do).i (Za c7)).grown a9 a1 Do
  exact ze 2 (c8 _ _ _ ⟨i+1,rfl,rfl,d9,a3,a6,f2,M0⟩ M0)
 refine xe 13 (.tuple #[.slice (S3 b8) 244 244,V0 0]) ?_
 have e:i=n:=M0
 subst e
 exact⟨_,rfl,a2,_,_,rfl,ho⟩
theorem Eo(ba b:Nat)(v x:V2)(w:V1)(hk:Blk w ba [v,x,P0 b] 169) :
 C0 151 #[P0 ba] w (Ret (P0 b) w):=by
 refine zin 9 Tryz.func151 ?_
 refine xr 9 (args:=#[P0 ba]) (Ul ba b _ _ _ hk) fun W1 a1=>?_
 have a0:=hk.i a1
 refine xb 10 2 a0 ?_
 exact xe 4 (P0 b) ⟨rfl,a1⟩
abbrev Ent:=Int×Bl×Int
def Zn:Ent:=(0,[],0)
def Ki(x:Ent):V6 V2:=[V0 x.1,.string ⟨x.2.1.toArray⟩,V0 x.2.2]
theorem Qg(x:Ent):(Ki x).length=3:=rfl
def Zzt(l:V6 Ent):Nat→Int
 | 0=>-1
 | i+1=>(l.getD i Zn).1
structure EntsOk(v:Nat)(l:V6 Ent):Prop where
 hk:∀ i,i<l.length→0≤(l.getD i Zn).1∧(l.getD i Zn).1≤281474976710655
 hs:∀ j,j+1<l.length→(l.getD j Zn).1<(l.getD (j+1) Zn).1
 hw:∀ i,i<l.length→(l.getD i Zn).2.1.length=v
theorem EntsOk.last{v:Nat}{l:V6 Ent}(E:EntsOk v l){i:Nat}(h:i<l.length):Zzt l i<(l.getD i Zn).1:=by
 cases i with
 | zero=>have:=(E.hk 0 h).1;simp only[Zzt];omega
 | succ j=>exact E.hs j h
theorem Vu(x:Nat):x≤(Vz x).sum:=by
 by_cases h:x≤1
 ·rw[Ja h];simp
 ·rw[Qv h];simp
theorem Qf(t:Int)(n:Nat):1≤Zy t n:=by
 have h1:=Vu (ovN n (Jj t true));have h2:=Yu n (Jj t true);unfold Zy Ue;omega
theorem Zk8(t:Int)(v:Nat)(a:O0)(c:Nat)(l:V6 Ent)(w:V1)(ht1:1≤t)(ht2:t≤5)(hv:Jl t true=v)(E:EntsOk v l)(h:Sts Ki w (.slice a l.length c) l)(hn:l.length≤32768) :
 C0 213 #[V0 t,.slice a l.length c] w (Ret (.bool true) w):=by
 have a6:=Ow t true
 rw[hv] at a6
 have a8:=Qf t l.length
 refine zin 45 Tryz.func213 ?_
 refine xr 8 (Ec t true v hv ht1 ht2 _) fun W1 a4=>?_
 refine xgk 9 [12,13] (show(((v:Int)==(0:Int)):Bool)=false from by simp;omega) ?_
 refine xr 3 (Qu t l.length _ ht1 ht2 hn) fun W3 a3=>?_
 refine xk 4 (show(((↑(Zy t l.length):Int)==(0:Int)):Bool)=false from by simp;omega) ?_
 have hB:=bln a4 a3
 refine zl 16 45 (fun zm a2 V=>∃ (i:Nat),a2=[(5,V0 (v:Int)),(6,V0 (Zzt l i)),(20,.slice a l.length c),(21,V0 (l.length:Int)),(22,V0 (i:Int))]∧zm=l.length-((i:Int)).toNat∧B3 w V∧i≤l.length) ⟨0,rfl,rfl,hB,A5 _⟩ ?_
 rintro _ _ W4 ⟨i,rfl,rfl,a0,hi⟩ J4 a7 r4
 refine xid 6 ((i:Int)<(l.length:Int)) (fun a5=>?_) (fun a5=>?_)
 ·refine xx 6 _ l.length i 3 (Sts.cell h Qg Zn (k:=i) (i:=0) M0 rfl).1 ?_
  refine xlv 0 (Sts.rp (k:=i) (h.i a0) Qg Zn M0 Do) ?_
  refine xa 0 [V0 0,.string ⟨#[]⟩,V0 0] 124 fun b6 W6 n6=>?_
  have g6:=n6.ge a0
  refine xsv 0 n6.blk [V0 ((l.getD i Zn).1),.string ⟨((l.getD i Zn).2.1).toArray⟩,V0 ((l.getD i Zn).2.2)] fun W7 u7 k7=>?_
  refine xb 6 0 k7 ?_
  refine xgk 3 [29,30] (show(decide ((l.getD i Zn).1≤(Zzt l i)):Bool)=false from V9 (by have:=E.last (i:=i) M0;omega)) ?_
  refine xb 1 0 k7 ?_
  refine xgk 3 [33,34,35] (show(decide ((l.getD i Zn).1>(281474976710655:Int)):Bool)=false from V9 (by have:=(E.hk i M0).2;omega)) ?_
  refine xb 1 1 k7 ?_
  refine xk 6 (show(((↑((l.getD i Zn).2.1).length:Int) != (v:Int)):Bool)=false from by rw[E.hw i M0];simp) ?_
  refine xb 4 0 k7 ?_
  refine xw 5 ((i:Int)+1) ?_
  have a1:=u7.i (bln a0 n6.i) g6
  exact ze 2 (a7 _ _ _ ⟨i+1,rfl,rfl,a1,M0⟩ M0)
 exact xe 11 (.bool true) ⟨rfl,a0⟩
end
end
end Go.Proofs.YtekomodnkfhihaaGreatDoor
