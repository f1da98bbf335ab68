/- What Meta wrote is read back: the bits, the slots, the blocks. -/
import Derived.Laws.StructEq
import Derived.Test.YtekomodnkfhihaaGreatDoorMg4
namespace Go.Proofs.YtekomodnkfhihaaGreatDoor
set_option maxHeartbeats 8000000
open Prod (fst)
open List (range replicate getD)
set_option maxRecDepth 100000
set_option linter.unusedVariables false
section
open Go.RowKit Go.Extern.Stop Go.Stop Go.Extern
section
attribute [local irreducible] wpList wpAnyH Code.wp Oper.wp Go
theorem leB_get{n w i:Nat}(h:i<w):(leB (n:Int) w).getD i 0=UInt8.ofNat (n/256 ^ i):=by simp[leB,Xh,getD,C1 h]
theorem Dc{a b:Bl}{m w:Nat}(hm:m<256 ^ w):Zo (a++(leB (m:Int) w++b)) a.length w=m:=by
 rw[Nu w a.length m (fun i hi=>?_),E5 hm];rw[getD,L8 M0,G5 (by rw[Zl];omega),show a.length+i-a.length=i by omega];exact leB_get hi
theorem Zmi{x:Nat×Nat×Nat}(h1:x.1≤14399)(h2:x.2.1≤960)(h3:x.2.2≤960):Np Xx (slB x)=[x.1,x.2.1,x.2.2]:=by
 have e0:Zo (slB x) 0 8=x.1:=by
  have h:=Dc (a:=[]) (b:=leB (x.2.1:Int) 4++leB (x.2.2:Int) 4) (m:=x.1) (w:=8) M0;simpa [slB,A4] using h
 have e1:Zo (slB x) 8 4=x.2.1:=by
  have h:=Dc (a:=leB (x.1:Int) 8) (b:=leB (x.2.2:Int) 4) (m:=x.2.1) (w:=4) M0;rw[Zl] at h;simpa [slB,A4] using h
 have e2:Zo (slB x) 12 4=x.2.2:=by
  have h:=Dc (a:=leB (x.1:Int) 8++leB (x.2.1:Int) 4) (b:=[]) (m:=x.2.2) (w:=4) M0;rw[A1,Zl,Zl] at h;simpa [slB,A4] using h
 show Mk (slB x) 0 [8,4,4]=_;simp only[Mk];rw[e0,e1,e2]
theorem Zm6{x:Nat×Nat×Nat}(h0:1≤x.1)(h1:x.1≤14399)(h2:x.2.1≤960)(h3:x.2.2≤960):Xn Xx (slB x)=0:=by
 have hr:Pv Xx (slB x)=true:=by
  unfold Pv;rw[Zmi h1 h2 h3,show Xx.length=3 from rfl];unfold Wg;rw[show range 3=[0,1,2] from rfl];simp[inP,Xx];omega
 unfold Xn;rw[V8 (by rw[Zj3];rfl),V8 hr]
theorem Zkr{x:Nat×Nat×Nat}(h0:1≤x.1)(h1:x.1≤14399)(h2:x.2.1≤960)(h3:x.2.2≤960):Xq Xx (slB x)=[x.1,x.2.1,x.2.2]:=by
 unfold Xq;rw[V8 (Zm6 h0 h1 h2 h3),Zmi h1 h2 h3]
theorem Zgk(S:V6 (Nat×Nat×Nat))(i:Nat):∀ k,∃ t,Zqi S (i+k)=Zqi S i++t
 | 0=>⟨[],Y5⟩
 | k+1=>by
  obtain⟨t,h⟩:=Zgk S i k;exact⟨t++slB (S.getD (i+k) rsD),by rw[←F2,Ri,h,A4]⟩
theorem Zha{S:V6 (Nat×Nat×Nat)}{i:Nat}(hi:i<S.length):Pm (Fw S) i=slB (S.getD i rsD):=by
 obtain⟨t,h⟩:=Zgk S (i+1) (S.length-(i+1));rw[show i+1+(S.length-(i+1))=S.length by omega,Ri] at h;unfold Pm Fw;rw[h,A4,A4,M8 (Ih S i),M7 (Zj3 _)]
theorem Ze6{S:V6 (Nat×Nat×Nat)}(h:S.length≤15):Zo (Fw S) 0 4=S.length:=by
 obtain⟨t,ht⟩:=Zgk S 0 S.length;rw[F5] at ht;have h2:=Dc (a:=[]) (b:=t++replicate (244-(4+S.length*16)) 0) (m:=S.length) (w:=4) M0;unfold Fw;rw[ht,show Zqi S 0=leB (S.length:Int) 4 from by simp[Zqi],A4];simpa using h2
theorem Fy{S:V6 (Nat×Nat×Nat)}(h:Rv S):Zgu (Fw S)=0∧Sd (Fw S) S.length=S:=by
 have a0:=h.1;have hv:∀ i,i<S.length→Xn Xx (Pm (Fw S) i)=0∧sltX (Fw S) i=S.getD i rsD:=fun i hi=>by
  obtain⟨h0,h1,h2,h3⟩:=h.2 i hi;constructor
  ·rw[Zha hi];exact Zm6 h0 h1 h2 h3
  ·unfold sltX Pj;rw[Zha hi,Zkr h0 h1 h2 h3];rfl
 have hz:Hv ((Fw S).drop (4+S.length*16))=true:=by
  unfold Fw;rw[M8 (Ih _ _)];exact Zdo fun j _=>Ft _ j
 have hs:∀ n,n≤S.length→Dm (Fw S) n=0:=by
  intro n;induction n with
  | zero=>intro _;rfl
  | succ n ih=>intro hn;exact Zcy (ih M0) (hv n M0).1
 constructor
 ·unfold Zgu Ze5;rw[Ze6 M0,hz,U0 M0];exact hs _ (At _)
 ·apply F6 (by rw[Zi8]);intro i h1 h2;have:=(hv i h2).2;rw[show S.getD i rsD=S[i] from by simp[getD,h2]] at this;simp[Sd,this]
theorem Zap{l:V6 Int}(h:l.length≤960):Zo (Jr l) 0 4=l.length:=by
 have h2:=Dc (a:=[]) (b:=(range 240).map (g4B l l.length)) (m:=l.length) (w:=4) M0;simpa [Jr,Ei] using h2
theorem Zgj(l:V6 Int)(j:Nat):atI l l.length j=l.getD j 0:=by
 unfold atI;split
 ·rfl
 ·simp[getD,Nat.le_of_not_lt Y3]
theorem Zob{l:V6 Int}(h:Uo l){i:Nat}(hi:i<960):(Zs5 (Jr l) i:Int)=l.getD i 0:=by
 unfold Zs5;rw[show(Jr l).getD (4+i/4) 0=g4B l l.length (i/4) from Zof l l.length M0];have b0:=Gn h (4*(i/4));have b1:=Gn h (4*(i/4)+1);have b2:=Gn h (4*(i/4)+2);have b3:=Gn h (4*(i/4)+3);unfold g4B g4;rw[Zgj,Zgj,Zgj,Zgj,UInt8.toNat_ofNat'];obtain e|e|e|e:i%4=0∨i%4=1∨i%4=2∨i%4=3:=M0
 ·rw[show l.getD i 0=l.getD (4*(i/4)) 0 by rw[show 4*(i/4)=i by omega],e,show 2 ^ (0*2)=1 from rfl];omega
 ·rw[show l.getD i 0=l.getD (4*(i/4)+1) 0 by rw[show 4*(i/4)+1=i by omega],e,show 2 ^ (1*2)=4 from rfl];omega
 ·rw[show l.getD i 0=l.getD (4*(i/4)+2) 0 by rw[show 4*(i/4)+2=i by omega],e,show 2 ^ (2*2)=16 from rfl];omega
 ·rw[show l.getD i 0=l.getD (4*(i/4)+3) 0 by rw[show 4*(i/4)+3=i by omega],e,show 2 ^ (3*2)=64 from rfl];omega
theorem bitsB_ok{l:V6 Int}(h:Uo l)(hl:l.length≤960):Za6 (Jr l)=true:=by
 rw[Ms];refine⟨Vj _ _,by rw[Zap hl];exact hl,fun i hi hc=>?_⟩;rw[Zap hl] at hc;have:=Zob h hi;rw[show l.getD i 0=0 from by simp[getD,hc]] at this;omega
theorem Zzo(l x:Bl)(k:Nat):l.length≤(Qj l k x).length:=by simp[Qj];omega
theorem Zn4(L:V6 (V6 Int))(q:Nat)(bs:Bl):∀ i,bs.length≤(Xt L q bs i).length
 | 0=>At _
 | i+1=>N0 (Zn4 L q bs i) (Zzo _ _ _)
theorem Cg{L:V6 (V6 Int)}{q m:Nat}{bs:Bl}:∀ {n i:Nat},(Xt L q bs n).length/256=m→bs.length/256=m→q+n≤m→i<n→Kc (Xt L q bs n) (q+i)=Yf 3 ((q+i:Nat):Int) (Jr (L.getD i []))
 | 0,i,_,_,_,hi=>absurd hi M0
 | n+1,i,h,hb,hm,hi=>by
  have h1:=Zn4 L q bs n;have h2:=Zzo (Xt L q bs n) (Yf 3 ((q+n:Nat):Int) (Jr (L.getD n []))) ((q+n)*256);have h0:(Xt L q bs n).length/256=m:=by
   have h3:(Qj (Xt L q bs n) ((q+n)*256) (Yf 3 ((q+n:Nat):Int) (Jr (L.getD n [])))).length/256=m:=h;have h4:=Nat.div_le_div_right (c:=256) h1;have h5:=Nat.div_le_div_right (c:=256) h2;omega
  have hx:(Yf 3 ((q+n:Nat):Int) (Jr (L.getD n []))).length=256:=Yr (by unfold Jr;rw[Vj];decide);show Kc (Qj (Xt L q bs n) ((q+n)*256) (Yf 3 ((q+n:Nat):Int) (Jr (L.getD n [])))) (q+i)=_;by_cases e:i=n
  ·subst e;exact Fx hx M0
  ·rw[Va hx M0 M0 M0];exact Cg h0 hb M0 M0
theorem Zfd{l:Bl}{kind:Int}{k:Nat}{li:Bl}(h1:1≤kind)(h2:kind≤4)(hk:k<l.length/256)(h4:k<14400)(hli:li.length=244)(hb:Kc l k=Yf kind (k:Int) li):inE l kind (k:Int)=0∧inB l (k:Int)=li:=by
 constructor
 ·rw[Zdm rfl rfl hk,hb];exact Ziu h1 h2 M0 M0 M0
 ·rw[Zdh rfl,hb,Zwu M0];unfold Zgx;rw[hli,Nat.sub_self];simp
def Zfh(u n:Nat):V6 Int:=(range n).map fun i=>if i<u then 1 else 0
theorem Zwn(u n:Nat):(Zfh u n).length=n:=by simp[Zfh]
theorem Zy4:Zy 5 0=1:=by
 unfold Zy Ue;rw[show ovN 0 (Jj 5 true)=1 from by decide,Ja Do];rfl
theorem Zxn(n:Nat):Gw (Value.int .i64 0).cells.toList n=(Zfh 0 n).map V0:=by
 rw[show Gw (Value.int .i64 0).cells.toList n=replicate n (V0 0) from by
  rw[show(Value.int .i64 0).cells.toList=[Value.int .i64 0] from rfl,Gw];induction n with
  | zero=>rfl
  | succ n ih=>rw[K7,P3,ih];rfl]
 apply F6 (by simp[Zfh]);intro i h1 h2;simp[Zfh]
end
structure WS where
 es:V6 Ent
 bs:V6 Int
 deep:Int
 looked:Nat
 fs:V6 (V6 Int×Int)
 dry:Bool
def Jk(me bs:V6 Int)(c:Int)(s:WS):WS:={ s with fs:=s.fs++[(me++bs,c)] }
def Uu(V:V6 Int→Int→Int→Int→WS→WS)(me:V6 Int)(no:Int)(val:Bl)(p:Int×Int)(s:WS):WS :=
 if Qi val=0 then V (me++[no]) (Ga val:Int) p.1 p.2 s else Jk me [no] (Qi val) s
def Hj(l:Bl)(no:Int):V6 Int:=Hy (inB l no) (Xa (inB l no))
def Um(l:Bl)(no:Int):V6 Bl:=Nt (inB l no) (Xa (inB l no))
def Fe(V:V6 Int→Int→Int→Int→WS→WS)(l:Bl)(me:V6 Int)(no hi:Int)(s:WS)(i:Nat):WS :=
 if s.dry=true then s else Uu V me no ((Um l no).getD i []) (Yb hi (Hj l no) i) s
def Qh(V:V6 Int→Int→Int→Int→WS→WS)(l:Bl)(me:V6 Int)(no hi:Int)(k:Nat)(s:WS):WS:=(range k).foldl (Fe V l me no hi) s
def Xc(l:Bl)(tree am:Int):Nat→V6 Int→Int→Int→Int→WS→WS
 | 0,_,_,_,_,s=>s
 | d+1,me,no,lo,hi,s =>
  if am≤s.looked then { Jk me [no] 12 s with dry:=true }
  else if Yy l me no tree lo hi s.deep≠0 then Jk me [no] (Yy l me no tree lo hi s.deep) { s with looked:=s.looked+1 }
  else if Yg (inB l no)=true then { s with looked:=s.looked+1,bs:=s.bs++[no],deep:=((me.length+1:Nat):Int),es:=s.es++Wq (Hj l no) (Um l no) no (Xa (inB l no)) }
  else Qh (Xc l tree am d) l me no hi (Xa (inB l no)) { s with looked:=s.looked+1,bs:=s.bs++[no] }
theorem Nz(V:V6 Int→Int→Int→Int→WS→WS)(l:Bl)(me:V6 Int)(no hi:Int)(k:Nat)(s:WS):Qh V l me no hi (k+1) s=Fe V l me no hi (Qh V l me no hi k s) k:=by
 simp[Qh,B8]
theorem Zrb(V:V6 Int→Int→Int→Int→WS→WS)(l:Bl)(me:V6 Int)(no hi:Int)(s:WS)(i:Nat)(h:s.dry=true):Fe V l me no hi s i=s:=by simp[Fe,h]
theorem Zv3(V:V6 Int→Int→Int→Int→WS→WS)(l:Bl)(me:V6 Int)(no hi:Int)(s:WS){k n:Nat}(hk:k≤n)(h:(Qh V l me no hi k s).dry=true):Qh V l me no hi n s=Qh V l me no hi k s:=by
 induction n with
 | zero =>
  obtain rfl:k=0:=M0;rfl
 | succ n ih =>
   rcases F0 n k with q|q
   ·obtain rfl:k=n+1:=M0;rfl
   ·rw[Nz,ih q,Zrb _ _ _ _ _ _ _ h]
def Wh(w:V1):V6 (V6 Int×Int)→V6 V2→Prop
 | [],[]=>True
 | f::r,v::q=>Kx w (f.1.map some) (some f.2) v∧Wh w r q
 | _,_=>False
theorem Wh.kept{w W:V1}(hb:∀ blk cs,Blk w blk cs 204→Blk W blk cs 204):∀ {fs:V6 (V6 Int×Int)} {vs:V6 V2},Wh w fs vs→Wh W fs vs
 | [],[],h=>h
 | _::_,_::_,h=>⟨h.1.kept hb,Wh.kept hb h.2⟩
 | [],_::_,h=>h.elim
 | _::_,[],h=>h.elim
theorem Wh.q{T:V6 V3}{w W:V1}{fs:V6 (V6 Int×Int)}{vs:V6 V2}(h:Wh w fs vs)(k:Zd T w W)(hT:T.contains 204=false):Wh W fs vs:=h.kept fun _ _ q=>q.q k hT
theorem Wh.i{w W:V1}{fs:V6 (V6 Int×Int)}{vs:V6 V2}(h:Wh w fs vs)(hb:B3 w W):Wh W fs vs:=h.kept fun _ _ q=>q.i hb
theorem Wh.a8{w:V1}{f:V6 Int×Int}{v:V2}(hv:Kx w (f.1.map some) (some f.2) v):∀ {fs:V6 (V6 Int×Int)} {vs:V6 V2},Wh w fs vs→Wh w (fs++[f]) (vs++[v])
 | [],[],_=>⟨hv,trivial⟩
 | _::_,_::_,h=>⟨h.1,Wh.a8 hv h.2⟩
 | [],_::_,h=>h.elim
 | _::_,[],h=>h.elim
structure WalkR(B bw Bi b:Nat)(pi:Option Addr)(ni ci:Nat)(l:V6 UInt8)(tree am:Int)(me:V6 Int)(s:WS)(pe pb pf pw:Option Addr)(ce cb cf cw:Nat)(fv:V6 V2)(w:V1):Prop where
 blk:Blk w bw [.slice pe s.es.length ce,.slice pb s.bs.length cb,.int .i64 s.deep,.int .i64 (s.looked:Int),.slice pf s.fs.length cf,.pointer (some ⟨b,0,none⟩),.int .i64 tree,.int .i64 am,.slice pw me.length cw,.bool s.dry] 292
 c1:w.ownsRow B 124 3 (.slice pe s.es.length ce) s.es.length (s.es.flatMap Ki)
 blks:w.ownsRow B 3 1 (.slice pb s.bs.length cb) s.bs.length (s.bs.map (Value.int .i64))
 c0:w.ownsRow B 39 1 (.slice pf s.fs.length cf) s.fs.length fv
 b9:Wh w s.fs fv
 i9:w.ownsRow B 3 1 (.slice pw me.length cw) me.length (me.map (Value.int .i64))
 g4:Vi (.slice pb s.bs.length cb) (.slice pw me.length cw)
 k2:ImgR Bi b pi ni ci l w
def Zt4(B bw Bi b:Nat)(pi:O0)(ni ci:Nat)(l:Bl)(tree am:Int)(me:V6 Int)(t:WS)(w:V1)(e:V5)(w':V1):Prop :=
 ∃ u pe pb pf pw ce cb cf cw fv,e=.returned u∧Below B w w'∧Zd [292,124,3,39] w w'∧WalkR B bw Bi b pi ni ci l tree am me t pe pb pf pw ce cb cf cw fv w'
section
attribute [local irreducible] wpList wpAnyH Code.wp Oper.wp Go
theorem Fl{w:V1}{base e n c:Nat}{p:O0}{xs:V6 V2}(k:w.ownsRow base e 1 (.slice p n c) n xs)(hn:0<n):p.isSome=true∧n≤c:=by
 rcases k.2 with ⟨h,_⟩|⟨g,a0,a1,hv,_,_,hc,_⟩
 ·simp only[C2] at h;omega
 ·simp only[C2] at hv;obtain⟨rfl,_,rfl⟩:=hv;exact⟨rfl,hc⟩
theorem Zb7{w:V1}{base e c:Nat}{p:O0}{me:V6 Int}{no:Int}(k:w.ownsRow base e 1 (.slice p (me++[no]).length c) (me++[no]).length ((me++[no]).map V0)):w.ownsRow base e 1 (.slice p me.length c) me.length (me.map V0):=by
 have h:=own_cut (m:=me.length) k Y5 (Fl k Y5).1;rwa [A6,M7 Y5] at h
theorem Zl1{w w':V1}(h:Zd [292,39] w w'):Zd [292,124,3,39] w w':=h.mono fun t ht=>by
 simp only[List.contains_cons,List.contains_nil,K5] at ht ⊢;exact⟨ht.1,ht.2.2.2⟩
def Zvv(B bw Bi b:Nat)(pi:O0)(ni ci:Nat)(l:Bl)(tree am:Int)(d:Nat):Prop :=
 ∀ (me:V6 Int) (no lo hi:Int) (s:WS) (pe pb pf pw:O0) (ce cb cf cw:Nat) (fv:V6 V2) (w:V1),me.length+d=17→B≤w.heap.size→s.dry=false→WalkR B bw Bi b pi ni ci l tree am me s pe pb pf pw ce cb cf cw fv w →
  (Xc l tree am d me no lo hi s).es.length≤100000000→(Xc l tree am d me no lo hi s).bs.length≤100000000→(Xc l tree am d me no lo hi s).fs.length≤100000000 →
  C0 196 #[P0 bw,V0 no,.agg #[V0 lo,V0 hi]] w (Zt4 B bw Bi b pi ni ci l tree am me (Xc l tree am d me no lo hi s) w)
theorem Zis(B bw Bi b:Nat)(pi:O0)(ni ci:Nat)(l:Bl)(tree am:Int)(d:Nat)(hV:Zvv B bw Bi b pi ni ci l tree am d)(me:V6 Int)(no lo hi:Int)(val:Bl)(s:WS)(pe pb pf pw:O0)(ce cb cf cw:Nat)(fv:V6 V2)(w:V1)(hBb:B≤bw)(hBw:B≤w.heap.size)(hwd:me.length+1+d=17)(hdry:s.dry=false)(hvl:val.length≤1000)(hR:WalkR B bw Bi b pi ni ci l tree am (me++[no]) s pe pb pf pw ce cb cf cw fv w)(he:(Uu (Xc l tree am d) me no val (lo,hi) s).es.length≤100000000)(hb_:(Uu (Xc l tree am d) me no val (lo,hi) s).bs.length≤100000000)(hf:(Uu (Xc l tree am d) me no val (lo,hi) s).fs.length≤100000000) :
 C0 246 #[P0 bw,V0 no,.string ⟨val.toArray⟩,.agg #[V0 lo,V0 hi]] w (Zt4 B bw Bi b pi ni ci l tree am (me++[no]) (Uu (Xc l tree am d) me no val (lo,hi) s) w):=by
 obtain⟨kW,d1,d4,d3,d2,c8,d0,hI⟩:=hR
 have e9:=(Fl c8 Y5).2
 have e6:(me++[no]).length=me.length+1:=Y5
 refine zin 44 Tryz.func246 ?_
 refine xa 2 [V0 lo,V0 hi] 295 fun b1 W1 n1=>?_
 refine xr 5 (Ua val _ hvl) fun W2 a1=>?_
 refine xie 14 (Qi val) (0:Int) (fun d9=>?_) (fun d9=>?_)
 ·have k1:=n1.blk.i a1
  refine xlv 4 k1.rp ?_
  have a4:Uu (Xc l tree am d) me no val (lo,hi) s=Xc l tree am d (me++[no]) (Ga val:Int) lo hi s:=by unfold Uu;rw[V8 Y3]
  have hB:=blB (blB (U3 B w) hBw n1.i) hBw a1
  have c5:=(kW.i n1.i).i a1
  have a9:=Zb (Zb d1 n1.i) a1
  have b7:=Zb (Zb d4 n1.i) a1
  have a7:=Zb (Zb d3 n1.i) a1
  have a8:=(d2.i n1.i).i a1
  have b0:=Zb (Zb c8 n1.i) a1
  have c7:=(hI.i n1.i).i a1
  refine xc 0 (hV (me++[no]) (Ga val:Int) lo hi s pe pb pf pw ce cb cf cw fv _ (by simp;omega) (N0 hBw hB.size) hdry ⟨c5,a9,b7,a7,a8,b0,d0,c7⟩ (by have q:=he;rw[a4] at q;exact q) (by have q:=hb_;rw[a4] at q;exact q) (by have q:=hf;rw[a4] at q;exact q)) ?_
  rintro _ W4 ⟨u4,e8,e1,c9,e2,e5,e7,c3,e4,e3,rfl,e0,d7,d8⟩
  have c4:=hB.trans e0
  have hO:=((show Zd [292,124,3,39] w _ from(Q0 n1.i)).trans (Q0 a1)).trans d7
  refine xe 4 (.tuple #[]) ?_
  rw[a4]
  exact⟨_,_,_,_,_,_,_,_,_,_,rfl,c4,hO,d8⟩
 have a0:=(kW.i n1.i).i a1
 refine xb 7 8 a0 ?_
 refine xwm 9 ((↑((me++[no]).length):Int)-1) (↑(((me++[no]).length)-1):Int) ?_
 refine xsH 0 (fun _ _ _ _ zo zx zy V=>Ka (k:=(((me++[no]).length)-1)) (b:=pw) (n:=(me++[no]).length) (c:=cw) (i:=(↑(((me++[no]).length)-1):Int)) (ki:=.i64) zo zx zy rfl M0 Tryz.underlying27 K0 V) ?_
 refine xs 2 a0 [.slice pe s.es.length ce,.slice pb s.bs.length cb,V0 s.deep,V0 (s.looked:Int),.slice pf s.fs.length cf,P0 b,V0 tree,V0 am,.slice pw (((me++[no]).length)-1) cw,.bool s.dry] fun W5 u5 k5=>?_
 refine xc 8 (args:=#[V0 no,.iface 33 (V0 (Qi val))]) (Vw no (some (Qi val)) [] _ _ rfl) ?_
 rintro _ W6 ⟨r6,rfl,a2,c2⟩
 rw[Jc] at c2
 obtain⟨t6,x6,rfl⟩:=c2.iface
 have b5:=k5.i a2
 have a4:Uu (Xc l tree am d) me no val (lo,hi) s=Jk me [no] (Qi val) s:=by unfold Uu;rw[V7 Y3]
 rw[show(me++[no]).length-1=me.length by omega] at b5
 have hB:=blB (u5.i (blB (blB (U3 B w) hBw n1.i) hBw a1) hBb) hBw a2
 have b4:=Zb (u5.j (Zb (Zb d3 n1.i) a1) a0 Do) a2
 have a3:=Zb (u5.j (Zb (Zb c8 n1.i) a1) a0 Do) a2
 refine xc 0 (args:=#[P0 bw,.iface t6 (x6)]) (Eg B bw _ _ _ _ _ _ _ _ pf _ cf fv pw cw me [no] (Qi val) _ _ _ hBb (N0 hBw hB.size) b5 b4 (Zb7 a3) c2 M0 (by have:=hf;rw[a4] at this;simp[Jk] at this;omega)) ?_
 rintro _ W7 ⟨u7,c9,c3,t2,x2,rfl,d5,a6,kN,c1,d6⟩
 refine xs 7 kN [.slice pe s.es.length ce,.slice pb s.bs.length cb,V0 s.deep,V0 (s.looked:Int),.slice c9 (s.fs.length+1) c3,P0 b,V0 tree,V0 am,.slice pw ((me++[no]).length) cw,.bool s.dry] fun W8 u8 k8=>?_
 have c0:=u8.i (hB.trans d5) hBb
 have hO:=(((((show Zd [292,124,3,39] w _ from(Q0 n1.i)).trans (Q0 a1)).trans (Q1 u5 a0 Do)).trans (Q0 a2)).trans (Zl1 a6)).trans (Q1 u8 kN Do)
 have b9:=u8.j (Zi (Zb (u5.j (Zb (Zb d1 n1.i) a1) a0 Do) a2) a6 Do) kN Do
 have b2:=u8.j (Zi (Zb (u5.j (Zb (Zb d4 n1.i) a1) a0 Do) a2) a6 Do) kN Do
 have a5:=u8.j c1 kN Do
 have b3:=d6.I u8 kN Do
 have b6:=(((((d2.i n1.i).i a1).q (Q1 (T:=[292]) u5 a0 Do) Do).i a2).q a6 Do).q (Q1 (T:=[292]) u8 kN Do) Do
 have b8:=u8.j (Zi a3 a6 Do) kN Do
 have c6:=(((((hI.i n1.i).i a1).q (Q1 (T:=[292]) u5 a0 Do) Do).i a2).q a6 Do).q (Q1 (T:=[292]) u8 kN Do) Do
 refine xe 1 (.tuple #[]) ?_
 rw[a4]
 exact⟨_,pe,pb,c9,pw,ce,cb,c3,cw,_,rfl,c0,hO,by simpa [Jk] using k8,b9,b2,by simpa [Jk] using a5,Wh.a8 b3 b6,b8,d0,c6⟩
end
section
def Zfg(s t:WS):Prop:=s.es.length≤t.es.length∧s.bs.length≤t.bs.length∧s.fs.length≤t.fs.length
theorem Zfg.refl(s:WS):Zfg s s:=⟨At _,At _,At _⟩
theorem Zfg.trans{s t u:WS}(h:Zfg s t)(k:Zfg t u):Zfg s u:=⟨N0 h.1 k.1,N0 h.2.1 k.2.1,N0 h.2.2 k.2.2⟩
theorem Zqg(me bs:V6 Int)(c:Int)(s:WS):Zfg s (Jk me bs c s):=⟨At _,At _,by simp[Jk]⟩
theorem Zke{V:V6 Int→Int→Int→Int→WS→WS}(hV:∀ me no lo hi s,Zfg s (V me no lo hi s))(me:V6 Int)(no:Int)(val:Bl)(p:Int×Int)(s:WS):Zfg s (Uu V me no val p s):=by
 unfold Uu;split
 ·exact hV _ _ _ _ _
 ·exact Zqg _ _ _ _
theorem Zlq{V:V6 Int→Int→Int→Int→WS→WS}(hV:∀ me no lo hi s,Zfg s (V me no lo hi s))(l:Bl)(me:V6 Int)(no hi:Int)(s:WS)(i:Nat):Zfg s (Fe V l me no hi s i):=by
 unfold Fe;split
 ·exact Zfg.refl _
 ·exact Zke hV _ _ _ _ _
theorem Zea{V:V6 Int→Int→Int→Int→WS→WS}(hV:∀ me no lo hi s,Zfg s (V me no lo hi s))(l:Bl)(me:V6 Int)(no hi:Int)(s:WS){k n:Nat}(hk:k≤n):Zfg (Qh V l me no hi k s) (Qh V l me no hi n s):=by
 induction n with
 | zero =>
  obtain rfl:k=0:=M0;exact Zfg.refl _
 | succ n ih =>
   rcases F0 n k with q|q
   ·obtain rfl:k=n+1:=M0;exact Zfg.refl _
   ·rw[Nz];exact(ih q).trans (Zlq hV _ _ _ _ _ _)
theorem Zr5(V:V6 Int→Int→Int→Int→WS→WS)(l:Bl)(me:V6 Int)(no hi:Int)(s:WS):Qh V l me no hi 0 s=s:=rfl
theorem Ew(l:Bl)(tree am:Int):∀ (d:Nat) (me:V6 Int) (no lo hi:Int) (s:WS),Zfg s (Xc l tree am d me no lo hi s)
 | 0,_,_,_,_,s=>Zfg.refl s
 | d+1,me,no,lo,hi,s=>by
  unfold Xc;split
  ·exact⟨At _,At _,by simp[Jk]⟩
  ·split
   ·exact⟨At _,At _,by simp[Jk]⟩
   ·split
    ·exact⟨Y5,Y5,At _⟩
    ·refine Zfg.trans ⟨?_,?_,?_⟩ (Zea (Ew l tree am d) l me no hi _ (A5 _))
     ·exact At _
     ·simp[Zr5]
     ·exact At _
section
variable {B bw Bi b:Nat} {pi:Option Addr} {ni ci:Nat} {l:V6 UInt8} {tree am:Int} {me:V6 Int} {s:WS} {pe pb pf pw:Option Addr} {ce cb cf cw:Nat} {fv:V6 V2} {w W:V1}
theorem WalkR.i(h:WalkR B bw Bi b pi ni ci l tree am me s pe pb pf pw ce cb cf cw fv w)(hb:B3 w W):WalkR B bw Bi b pi ni ci l tree am me s pe pb pf pw ce cb cf cw fv W :=
 ⟨h.blk.i hb,Zb h.c1 hb,Zb h.blks hb,Zb h.c0 hb,h.b9.i hb,Zb h.i9 hb,h.g4,h.k2.i hb⟩
theorem WalkR.q{T:V6 V3}(h:WalkR B bw Bi b pi ni ci l tree am me s pe pb pf pw ce cb cf cw fv w)(hO:Zd T w W)
 (hT:T.contains 292=false∧T.contains 124=false∧T.contains 3=false∧T.contains 39=false∧T.contains 204=false∧T.contains 108=false∧T.contains 5=false):WalkR B bw Bi b pi ni ci l tree am me s pe pb pf pw ce cb cf cw fv W :=
 ⟨h.blk.q hO hT.1,Zi h.c1 hO hT.2.1,Zi h.blks hO hT.2.2.1,Zi h.c0 hO hT.2.2.2.1,h.b9.q hO hT.2.2.2.2.1,Zi h.i9 hO hT.2.2.1,h.g4,h.k2.q hO ⟨hT.2.2.2.2.2.1,hT.2.2.2.2.2.2⟩⟩
end
end
section
attribute [local irreducible] wpList wpAnyH Code.wp Oper.wp Go
theorem LookP.or{B bw:Nat}{cs:V6 V2}{l:Bl}{me:V6 Int}{no tree lo hi deep:Int}{w:V1}{e:V5}{w':V1}(h:LookP B bw cs l me no tree lo hi deep w e w') :
 (Yy l me no tree lo hi deep≠0∧∃ a4 b4 k4 n4 c4 v4 m4 d4 ty x,e=.returned (.tuple #[.agg #[V0 a4,.bool b4,.slice k4 n4 c4,.slice v4 m4 d4],.iface ty x])∧Below B w w'∧Zd [292] w w'∧Blk w' bw cs 292∧Kx w' [some no] (some (Yy l me no tree lo hi deep)) (.iface ty x)) ∨
 (Yy l me no tree lo hi deep=0∧∃ kp kc vp vc,e=.returned (.tuple #[.agg #[V0 (Qt (inB l no)),.bool (Yg (inB l no)),.slice kp (Xa (inB l no)) kc,.slice vp (Xa (inB l no)) vc],.nilIface])∧Below B w w'∧Zd [292] w w'∧Blk w' bw cs 292 ∧
 w'.ownsRow w.heap.size 3 1 (.slice kp (Xa (inB l no)) kc) (Xa (inB l no)) ((Hj l no).map V0)∧w'.ownsRow w.heap.size 9 1 (.slice vp (Xa (inB l no)) vc) (Xa (inB l no)) ((Um l no).map sv)):=by
 obtain⟨h1,h2,h3,⟨h4,a4,b4,k4,n4,c4,v4,m4,d4,ty,x,h5,h6⟩|⟨h4,_,kp,kc,vp,vc,h5,h6,h7⟩⟩:=h
 ·exact .inl ⟨h4,a4,b4,k4,n4,c4,v4,m4,d4,ty,x,h5,h1,h2,h3,h6⟩
 ·exact .inr ⟨h4,kp,kc,vp,vc,h5,h1,h2,h3,h6,h7⟩
theorem widG_24(t:Int)(b:Bool):widG t b≤24:=by
 unfold widG Jl;repeat' split
 all_goals omega
theorem En(l:Bl)(n i:Nat):((Nt l n).getD i []).length≤1000:=by
 by_cases h:i<n
 ·rw[Zhi l h];unfold Zo3;rw[D8];have:=widG_24 (Qt l) (Yg l);unfold Jt;omega
 ·simp[getD,C4 (show(Nt l n).length≤i by rw[Cj];omega)]
theorem Sy(p:O0)(n c n2 c2:Nat):(Value.slice p n c).ownBlock=(Value.slice p n2 c2).ownBlock:=by
 cases p<;>rfl
theorem Vi.len{p q:O0}{n c m d:Nat}(h:Vi (.slice p n c) (.slice q m d))(n2 c2 m2 d2:Nat):Vi (.slice p n2 c2) (.slice q m2 d2):=fun j h1 h2 =>
 h j ((Sy _ _ _ _ _).trans h1) ((Sy _ _ _ _ _).trans h2)
def prC (p:Int×Int):V6 V2:=[V0 p.1,V0 p.2]
theorem Zus(p:Int×Int):(prC p).length=2:=rfl
theorem Zvm(l:V6 (Int×Int)):Cs l=l.flatMap prC:=by
 induction l with
 | nil=>rfl
 | cons x l ih=>simp only[Cs,E7,prC];rfl
theorem Zwx{l:Bl}{me:V6 Int}{no tree lo hi deep:Int}(h:Yy l me no tree lo hi deep=0):Hi lo hi (Hj l no)=0∧me.length<16:=by
 unfold Yy at h;by_cases h1:Kl me no=true
 ·rw[V8 h1] at h;cases h
 rw[V7 h1] at h;by_cases h2:16≤me.length
 ·rw[V8 h2] at h;cases h
 rw[V7 h2] at h;by_cases h3:Xy l no tree≠0
 ·rw[V8 h3] at h;exact absurd h h3
 rw[V7 h3] at h;by_cases h4:Hi lo hi (Hy (inB l no) (Xa (inB l no)))≠0
 ·rw[V8 h4] at h;cases h
 exact⟨Decidable.not_not.1 h4,M0⟩
theorem Zpw(hi:Int)(l:V6 Int){i:Nat}(h:i<l.length):(Kh hi l).getD i (0,0)=Yb hi l i:=by simp[Kh,h]
theorem sts_sp{w:V1}{p:O0}{n c:Nat}{L:V6 (Int×Int)}(h:Sl w (.slice p n c) n (Cs L))(hL:L.length=n):Sts prC w (.slice p L.length c) L:=by
 subst hL;rw[Zvm] at h;exact h
theorem Zd5(hi:Int)(l:V6 Int):(Kh hi l).length=l.length:=by simp[Kh]
theorem only_le{w w':V1}(h:Zd [292,124] w w'):Zd [292,124,3,39] w w':=h.mono fun t ht=>by
 simp only[List.contains_cons,List.contains_nil,K5] at ht ⊢;exact⟨ht.1,ht.2.1,trivial⟩
theorem Zwh{w w':V1}(h:Zd [292] w w'):Zd [292,124,3,39] w w':=h.mono fun t ht=>by
 simp only[List.contains_cons,List.contains_nil,K5] at ht ⊢;exact⟨ht.1,trivial⟩
theorem Tu(B bw Bi b:Nat)(pi:O0)(ni ci:Nat)(l:Bl)(tree am:Int)(d:Nat)(hV:d≠0→Zvv B bw Bi b pi ni ci l tree am d)(me:V6 Int)(no lo hi:Int)(s:WS)(pe pb pf pw:O0)(ce cb cf cw:Nat)(fv:V6 V2)(w:V1)(hBb:B≤bw)(hBw:B≤w.heap.size)(hwd:me.length+(d+1)=17)(hdry:s.dry=false)(hfu:am≤1000000)(hR:WalkR B bw Bi b pi ni ci l tree am me s pe pb pf pw ce cb cf cw fv w)(he:(Xc l tree am (d+1) me no lo hi s).es.length≤100000000)(hb_:(Xc l tree am (d+1) me no lo hi s).bs.length≤100000000)(hf:(Xc l tree am (d+1) me no lo hi s).fs.length≤100000000) :
 C0 196 #[P0 bw,V0 no,.agg #[V0 lo,V0 hi]] w (Zt4 B bw Bi b pi ni ci l tree am me (Xc l tree am (d+1) me no lo hi s) w):=by
 obtain⟨kW,e6,e8,e4,e7,d9,c7,hI⟩:=hR
 have v1:=e8
 have v5:=d9
 have ae:=Ew l tree am (d+1) me no lo hi s
 have bd:=N0 ae.2.1 hb_
 refine zin 106 Tryz.func196 ?_
 refine xa 2 [V0 lo,V0 hi] 295 fun b1 W1 n1=>?_
 refine xd 4 .z ?_
 have g1:=(kW.i n1.i).i (Za W1)
 refine xb (.e [0,1,2,3] 4) 3 g1 ?_
 refine xb (.e [5,6,7] 8) 7 g1 ?_
 refine xid (.r [9] 2) ((s.looked:Int)≥am) (fun af=>?_) (fun af=>?_)
 ·refine xc 5 (args:=#[V0 no,.iface 33 (V0 12)]) (Vw no (some 12) [] _ _ rfl) ?_
  rintro _ W3 ⟨r3,rfl,f0,t9⟩
  rw[Jc] at t9
  obtain⟨t3,x3,rfl⟩:=t9.iface
  have d0:(Xc l tree am (d+1) me no lo hi s)={ Jk me [no] 12 s with dry:=true }:=by unfold Xc;rw[V8 M0]
  have hB:=blB (blB (blB (U3 B w) hBw n1.i) hBw (Za W1)) hBw f0
  have y8:=g1.i f0
  have o9:=Zb (Zb (Zb e4 n1.i) (Za W1)) f0
  have h3:=Zb (Zb (Zb d9 n1.i) (Za W1)) f0
  refine xc 0 (args:=#[P0 bw,.iface t3 (x3)]) (Eg B bw _ _ _ _ _ _ _ _ pf _ cf fv pw cw me [no] 12 _ _ _ hBb (N0 hBw hB.size) y8 o9 h3 t9 M0 (by have:=hf;rw[d0] at this;simp[Jk] at this;omega)) ?_
  rintro _ W4 ⟨u4,t1,t7,t2,x2,rfl,z9,k0,kN,j2,y0⟩
  refine xs 7 kN [.slice pe s.es.length ce,.slice pb s.bs.length cb,V0 s.deep,V0 (s.looked:Int),.slice t1 (s.fs.length+1) t7,P0 b,V0 tree,V0 am,.slice pw me.length cw,.bool true] fun W5 u5 k5=>?_
  have y3:=u5.i (hB.trans z9) hBb
  have hO:=((((show Zd [292,124,3,39] w _ from(Q0 n1.i)).trans (Q0 (Za W1))).trans (Q0 f0)).trans (Zl1 k0)).trans (Q1 u5 kN Do)
  have l0:=u5.j (Zi (Zb (Zb (Zb e6 n1.i) (Za W1)) f0) k0 Do) kN Do
  have m7:=u5.j (Zi (Zb (Zb (Zb e8 n1.i) (Za W1)) f0) k0 Do) kN Do
  have i1:=u5.j j2 kN Do
  have r0:=y0.I u5 kN Do
  have q6:=((((e7.i n1.i).i (Za W1)).i f0).q k0 Do).q (Q1 (T:=[292]) u5 kN Do) Do
  have n0:=u5.j (Zi h3 k0 Do) kN Do
  have w3:=((((hI.i n1.i).i (Za W1)).i f0).q k0 Do).q (Q1 (T:=[292]) u5 kN Do) Do
  refine xe 4 (.tuple #[]) ?_
  rw[d0]
  exact⟨_,pe,pb,t1,pw,ce,cb,t7,cw,_,rfl,y3,hO,by simpa [Jk] using k5,l0,m7,by simpa [Jk] using i1,Wh.a8 r0 q6,n0,c7,w3⟩
 have k1:=n1.blk.i (Za W1)
 refine xlv 6 k1.rp ?_
 have hB:=blB (blB (U3 B w) hBw n1.i) hBw (Za W1)
 have d8:=Zb (Zb d9 n1.i) (Za W1)
 have f6:=(hI.i n1.i).i (Za W1)
 refine xc 0 (args:=#[P0 bw,V0 no,.agg #[V0 lo,V0 hi]]) ((Zlv B Bi b bw pi ni ci l _ _ _ _ _ pw cw me no tree lo hi s.deep (s.looked:Int) _ hBb (N0 hBw hB.size) g1 d8 f6 M0 M0 M0).mono (fun _ _ h=>LookP.or h)) ?_
 rintro e W6 aa
 rcases aa with ⟨hz,a4,b4,k4,n4,c4,v4,m4,d4,ty,x,rfl,y6,b6,y1,z8⟩|⟨hz,kp,kc,vp,vc,rfl,y6,b6,y1,hk,t4⟩
 ·refine xa 3 [V0 0,.bool false,S1,S1] 191 fun b7 W7 n7=>?_
  have o8:=hB.trans y6
  have g7:=n7.Q o8
  refine xsv 0 n7.blk [V0 a4,.bool b4,.slice k4 n4 c4,.slice v4 m4 d4] fun W8 u8 k8=>?_
  have d0:(Xc l tree am (d+1) me no lo hi s)=Jk me [no] (Yy l me no tree lo hi s.deep) { s with looked:=s.looked+1 }:=by unfold Xc;rw[V7 M0,V8 hz]
  have s1:=u8.i (blB o8 hBw n7.i) (N0 hBw g7)
  have l6:=u8.A (y1.i n7.i) n7.blk Do
  have p4:=u8.j (Zb (Zi (Zb (Zb e4 n1.i) (Za W1)) b6 Do) n7.i) n7.blk Do
  have g6:=u8.j (Zb (Zi d8 b6 Do) n7.i) n7.blk Do
  have l7:=(z8.i n7.i).I u8 n7.blk Do
  refine xc 15 (args:=#[P0 bw,.iface ty (x)]) (Eg B bw _ _ _ _ _ _ _ _ pf _ cf fv pw cw me [no] (Yy l me no tree lo hi s.deep) _ _ _ hBb (N0 hBw s1.size) l6 p4 g6 l7 M0 (by have:=hf;rw[d0] at this;simp[Jk] at this;omega)) ?_
  rintro _ W9 ⟨u9,t1,t7,t2,x2,rfl,ac,j6,kN,j2,y0⟩
  have x1:=s1.trans ac
  have hO:=(Q3 ((((show Zd [292,124,3,39] w _ from(Q0 n1.i)).trans (Q0 (Za W1))).trans (Zwh b6)).trans (Q0 n7.i)) u8 g7).trans (Zl1 j6)
  have n5:=Zi (u8.j (Zb (Zi (Zb (Zb e6 n1.i) (Za W1)) b6 Do) n7.i) n7.blk Do) j6 Do
  have l2:=Zi (u8.j (Zb (Zi (Zb (Zb e8 n1.i) (Za W1)) b6 Do) n7.i) n7.blk Do) j6 Do
  have m3:=(((((e7.i n1.i).i (Za W1)).q b6 Do).i n7.i).q (Q1 (T:=[191]) u8 n7.blk Do) Do).q j6 Do
  have p3:=Zi g6 j6 Do
  have u6:=(((f6.q b6 Do).i n7.i).q (Q1 (T:=[191]) u8 n7.blk Do) Do).q j6 Do
  refine xe 4 (.tuple #[]) ?_
  rw[d0]
  exact⟨_,pe,pb,t1,pw,ce,cb,t7,cw,_,rfl,x1,hO,by simpa [Jk] using kN,n5,l2,by simpa [Jk] using j2,Wh.a8 y0 m3,p3,c7,u6⟩
 have v8:=(blB (blB (U3 B w) hBw n1.i) hBw (Za W1)).size
 have i8:=Zg hk v8
 have i7:=X3 v1 i8 (At _)
 have j1:=X3 v5 i8 (At _)
 refine xa 3 [V0 0,.bool false,S1,S1] 191 fun z0 bu a5=>?_
 have s0:=hB.trans y6
 have w1:=a5.Q s0
 refine xsv 0 a5.blk [V0 (Qt (inB l no)),.bool (Yg (inB l no)),.slice kp (Xa (inB l no)) kc,.slice vp (Xa (inB l no)) vc] fun bf c2 ai=>?_
 have g8:=c2.A (y1.i a5.i) a5.blk Do
 refine xb 20 1 g8 ?_
 refine xbs 1 1 [V0 no] 3 fun ab br b8=>?_
 have y5:=c2.i (blB s0 hBw a5.i) (N0 hBw w1)
 have n8:=c2.j (Zb (Zi (Zb (Zb e8 n1.i) (Za W1)) b6 Do) a5.i) a5.blk Do
 have q3:=c2.j (Zb (Zi d8 b6 Do) a5.i) a5.blk Do
 have w2:=c2.j (Zb i8 a5.i) a5.blk Do
 have a1:=Zb n8 b8.i
 have j5:=blB y5 hBw b8.i
 refine xbi 0 fun _ _ _ _ zJ zQ zo zx zy zK=>Qo (b:=ab) (c:=1) (m:=1) (news:=[V0 no]) (V0 0) 1 8 ((s.bs++[no]).length) (((s.bs++[no]).map V0)) zo Tryz.underlying27 K0 rfl Do zx a1 zy b8.blk rfl Y4 Y2 M0 (N0 hBw j5.size) Y5 Y5 fun n6 m0 bm z3 b0 p0 r6=>?_
 have h5:=Zb q3 b8.i
 have f7:=c7.row h5 b0
 replace c7:=(c7.grow h5 r6)
 have p2:=Zb w2 b8.i
 have i3:=i7.row p2 b0
 replace i7:=(i7.grow p2 r6)
 have e0:=f7
 have g9:=i3
 refine zK _ _ ?_
 have a0:=(g8.i b8.i).grown b0 a1 Do
 refine xs 3 a0 [.slice pe s.es.length ce,.slice n6 ((s.bs++[no]).length) m0,V0 s.deep,V0 ((s.looked:Int)+1),.slice pf s.fs.length cf,P0 b,V0 tree,V0 am,.slice pw me.length cw,.bool s.dry] fun bj b5 w6=>?_
 have d6:=b5.A ((ai.i b8.i).grown b0 a1 Do) a0 Do
 refine xb 6 1 d6 ?_
 refine xi 2 (Yg (inB l no)) (fun x9=>?_) (fun x9=>?_)
 ·refine xlv 4 d6.rp ?_
  have d0:(Xc l tree am (d+1) me no lo hi s)={ s with looked:=s.looked+1,bs:=s.bs++[no],deep:=((me.length+1:Nat):Int),es:=s.es++Wq (Hj l no) (Um l no) no (Xa (inB l no)) }:=by unfold Xc;rw[V7 M0,V7 M0,V8 Y3]
  have s2:=b5.i (j5.trans p0) hBb
  have m6:=b5.j (Zt (Zb (c2.j (Zb (Zi (Zb (Zb e6 n1.i) (Za W1)) b6 Do) a5.i) a5.blk Do) b8.i) b0 a1 Do) a0 Do
  have x4:=b5.j g9 a0 Do
  have p7:=b5.j (Zt (Zb (c2.j (Zb (Zg t4 v8) a5.i) a5.blk Do) b8.i) b0 a1 Do) a0 Do
  refine xc 0 (args:=#[P0 bw,V0 no,.agg #[V0 (Qt (inB l no)),.bool (Yg (inB l no)),.slice kp (Xa (inB l no)) kc,.slice vp (Xa (inB l no)) vc]]) (Zka B bw _ _ _ _ _ _ _ _ pe ce s.es pw cw me no _ _ kp vp _ kc vc (Hj l no) (Um l no) _ hBb (N0 hBw s2.size) w6 m6 (fun W _ q=>Zf (Zi x4 q Do)) (fun W _ q=>Zf (Zi p7 q Do)) (by simp[Hj,Hy]) (by simp[Um,Nt]) M0 (by have:=he;rw[d0] at this;simp[Rd] at this;omega)) ?_
  rintro _ bk ⟨bx,ao,au,rfl,u7,d3,kE,ax⟩
  have v2:=s2.trans u7
  have hO:=((((Q3 ((((show Zd [292,124,3,39] w _ from(Q0 n1.i)).trans (Q0 (Za W1))).trans (Zwh b6)).trans (Q0 a5.i)) c2 w1).trans (Q0 b8.i)).trans (Q4 b0 a1 Do)).trans (Q1 b5 a0 Do)).trans (only_le d3)
  have l1:=Zi (b5.j z3 a0 Do) d3 Do
  have o3:=Zi (b5.j (Zt (Zb (c2.j (Zb (Zi (Zb (Zb e4 n1.i) (Za W1)) b6 Do) a5.i) a5.blk Do) b8.i) b0 a1 Do) a0 Do) d3 Do
  have r8:=((((((((e7.i n1.i).i (Za W1)).q b6 Do).i a5.i).q (Q1 (T:=[191]) c2 a5.blk Do) Do).i b8.i).q (Q4 (T:=[3]) b0 a1 Do) Do).q (Q1 (T:=[292]) b5 a0 Do) Do).q d3 Do
  have m5:=Zi (b5.j e0 a0 Do) d3 Do
  have x8:=((((((f6.q b6 Do).i a5.i).q (Q1 (T:=[191]) c2 a5.blk Do) Do).i b8.i).q (Q4 (T:=[3]) b0 a1 Do) Do).q (Q1 (T:=[292]) b5 a0 Do) Do).q d3 Do
  refine xe 4 (.tuple #[]) ?_
  rw[d0]
  exact⟨_,ao,_,pf,pw,au,_,cf,cw,fv,rfl,v2,hO,by simpa [Rd] using kE,by simpa [Rd] using ax,by simpa using l1,o3,r8,m5,by simpa using c7,x8⟩
 refine xb 8 8 w6 ?_
 refine xbs 1 1 [V0 no] 3 fun aq bh c8=>?_
 have l8:=b5.i (j5.trans p0) hBb
 have n2:=b5.j e0 a0 Do
 have w8:=b5.j g9 a0 Do
 have o4:=b5.j z3 a0 Do
 have a2:=Zb n2 c8.i
 have h2:=blB l8 hBw c8.i
 refine xbi 0 fun _ _ _ _ zJ zQ zo zx zy zK=>Qo (b:=aq) (c:=1) (m:=1) (news:=[V0 no]) (V0 0) 1 8 ((me++[no]).length) (((me++[no]).map V0)) zo Tryz.underlying27 K0 rfl Do zx a2 zy c8.blk rfl Y4 Y2 M0 (N0 hBw h2.size) Y5 Y5 fun w0 w7 bg ag b3 u3 m1=>?_
 have h4:=Zb o4 c8.i
 have f1:=c7.symm.row h4 b3
 replace c7:=(c7.symm.grow h4 m1).symm
 have p6:=Zb w8 c8.i
 have i2:=j1.row p6 b3
 replace j1:=(j1.grow p6 m1)
 have i9:=f1
 have s4:=i2
 refine zK _ _ ?_
 have a3:=(w6.i c8.i).grown b3 a2 Do
 refine xs 2 a3 [.slice pe s.es.length ce,.slice n6 ((s.bs++[no]).length) m0,V0 s.deep,V0 ((s.looked:Int)+1),.slice pf s.fs.length cf,P0 b,V0 tree,V0 am,.slice w0 ((me++[no]).length) w7,.bool s.dry] fun bz d5 aj=>?_
 have p9:=d5.A (((b5.A (((c2.A ((k1.q b6 Do).i a5.i) a5.blk Do).i b8.i).grown b0 a1 Do) a0 Do).i c8.i).grown b3 a2 Do) a3 Do
 refine xlv 5 p9.rp ?_
 have h1:=d5.A ((d6.i c8.i).grown b3 a2 Do) a3 Do
 refine xb 1 2 h1 ?_
 have h0:=d5.i (h2.trans u3) hBb
 have u2:=h0.size
 obtain⟨t8,ap⟩:=Zwx hz
 have k3:(Hj l no).length=Xa (inB l no):=by simp[Hj,Hy]
 have ba:Xa (inB l no)<65536:=Zgd _ 2 2
 have y2:=d5.j s4 a3 Do
 refine xc 0 (args:=#[.agg #[V0 lo,V0 hi],.slice kp (Xa (inB l no)) kc]) (Zj1 lo hi _ (Hj l no) _ (by rw[k3];omega) (Zep (Zf y2) k3)) ?_
 rintro _ ak ⟨bo,rfl,b2,_,w4⟩
 obtain⟨gs,rfl,ar,kS⟩:=w4 t8
 rw[k3]
 have j7:=Xw (size:=2) (n:=Xa (inB l no)) kS (N0 u2 ar) (by rw[Tf,Zd5,k3]) Y2
 have d0:(Xc l tree am (d+1) me no lo hi s)=(Qh (Xc l tree am d) l me no hi (Xa (inB l no)) { s with looked:=s.looked+1,bs:=s.bs++[no] }):=by unfold Xc;rw[V7 M0,V7 M0,V7 (by simp;assumption)]
 have k7:(Kh hi (Hj l no)).length=(Xa (inB l no)):=by rw[Zd5,k3]
 have z1:(Um l no).length=(Xa (inB l no)):=by simp[Um,Nt]
 have p1:=aj.i b2
 have l4:=Zb (d5.j (Zt (Zb (b5.j (Zt (Zb (c2.j (Zb (Zi (Zb (Zb e6 n1.i) (Za W1)) b6 Do) a5.i) a5.blk Do) b8.i) b0 a1 Do) a0 Do) c8.i) b3 a2 Do) a3 Do) b2
 have r1:=Zb (d5.j i9 a3 Do) b2
 have l3:=Zb (d5.j (Zt (Zb (b5.j (Zt (Zb (c2.j (Zb (Zi (Zb (Zb e4 n1.i) (Za W1)) b6 Do) a5.i) a5.blk Do) b8.i) b0 a1 Do) a0 Do) c8.i) b3 a2 Do) a3 Do) b2
 have r4:=(((((((((((e7.i n1.i).i (Za W1)).q b6 Do).i a5.i).q (Q1 (T:=[191]) c2 a5.blk Do) Do).i b8.i).q (Q4 (T:=[3]) b0 a1 Do) Do).q (Q1 (T:=[292]) b5 a0 Do) Do).i c8.i).q (Q4 (T:=[3]) b3 a2 Do) Do).q (Q1 (T:=[292]) d5 a3 Do) Do).i b2
 have q1:=Zb (d5.j ag a3 Do) b2
 have u1:=(((((((((f6.q b6 Do).i a5.i).q (Q1 (T:=[191]) c2 a5.blk Do) Do).i b8.i).q (Q4 (T:=[3]) b0 a1 Do) Do).q (Q1 (T:=[292]) b5 a0 Do) Do).i c8.i).q (Q4 (T:=[3]) b3 a2 Do) Do).q (Q1 (T:=[292]) d5 a3 Do) Do).i b2
 have hR:WalkR B bw Bi b pi ni ci l tree am (me++[no]) (Qh (Xc l tree am d) l me no hi 0 { s with looked:=s.looked+1,bs:=s.bs++[no] }) pe _ pf _ ce _ cf _ fv ak:=⟨p1,l4,r1,l3,r4,q1,c7,u1⟩
 have k6:=Zb (d5.j (Zt (Zb (b5.j (Zt (Zb (c2.j (Zb (Zg t4 v8) a5.i) a5.blk Do) b8.i) b0 a1 Do) a0 Do) c8.i) b3 a2 Do) a3 Do) b2
 have r7:=blB h0 hBw b2
 have hO:=(((((((Q3 ((((show Zd [292,124,3,39] w _ from(Q0 n1.i)).trans (Q0 (Za W1))).trans (Zwh b6)).trans (Q0 a5.i)) c2 w1).trans (Q0 b8.i)).trans (Q4 b0 a1 Do)).trans (Q1 b5 a0 Do)).trans (Q0 c8.i)).trans (Q4 b3 a2 Do)).trans (Q1 d5 a3 Do)).trans (Q0 b2)
 have y7:=p9.i b2
 have p8:=h1.i b2
 refine zl 5 106 (fun zm ah V=>∃ (i:Nat) (h9 j4 h7 f8:O0) (h8 j3 i5 g3:Nat) (r5:V6 V2),ah=[(0,P0 bw),(1,V0 no),(6,P0 z0),(71,.slice (S3 gs) (Xa (inB l no)) (Xa (inB l no))),(72,V0 (↑(Xa (inB l no)):Int)),(73,V0 (i:Int))]∧zm=(Xa (inB l no))-((i:Int)).toNat∧Below B w V∧Zd [292,124,3,39] w V∧Blk V b1 ([V0 lo,V0 hi]) 295∧Blk V z0 ([V0 (Qt (inB l no)),.bool (Yg (inB l no)),.slice kp (Xa (inB l no)) kc,.slice vp (Xa (inB l no)) vc]) 191∧WalkR B bw Bi b pi ni ci l tree am (me++[no]) (Qh (Xc l tree am d) l me no hi i { s with looked:=s.looked+1,bs:=s.bs++[no] }) h9 j4 h7 f8 h8 j3 i5 g3 r5 V∧V.ownsRow w.heap.size 9 1 (.slice vp (Xa (inB l no)) vc) (Xa (inB l no)) ((Um l no).map sv)∧V.ownsRow w.heap.size 295 2 (.slice (S3 gs) (Xa (inB l no)) (Xa (inB l no))) (Xa (inB l no)) (Cs (Kh hi (Hj l no)))∧i≤(Xa (inB l no))∧(Qh (Xc l tree am d) l me no hi i { s with looked:=s.looked+1,bs:=s.bs++[no] }).dry=false) ⟨0,_,_,_,_,_,_,_,_,_,rfl,rfl,r7,hO,y7,p8,hR,k6,j7,A5 _,hdry⟩ ?_
 rintro _ _ c1 ⟨i,h9,j4,h7,f8,h8,j3,i5,g3,r5,rfl,rfl,d1,c3,d7,f4,hR,t4,j7,bb,z2⟩ bq x7 bt
 have k2:=hR.blk
 refine xid 6 ((i:Int)<(↑(Xa (inB l no)):Int)) (fun u0=>?_) (fun u0=>?_)
 ·refine xx 7 _ (Xa (inB l no)) i 2 (Sts.cell (sts_sp (Zf j7) k7) Zus (0,0) (k:=i) (i:=0) (show i<(Kh hi (Hj l no)).length by omega) rfl).1 ?_
  refine xlv 0 (Sts.rp (k:=i) (sts_sp (Zf j7) k7) Zus (0,0) M0 Do) ?_
  refine xa 0 [V0 0,V0 0] 295 fun az bp c6=>?_
  have h6:=c6.ne d7
  have s8:=c6.Q d1
  have g0:=Hg j7 c6
  refine xsv 1 c6.blk [V0 (((Kh hi (Hj l no)).getD i (0,0)).1),V0 (((Kh hi (Hj l no)).getD i (0,0)).2)] fun e5 g5 ad=>?_
  refine xd 3 (.t B [292,124,3,39]) ?_
  have b9:=(g5.A (f4.i c6.i) c6.blk Do).i (Za e5)
  refine xbt (.e [0,1,2] 3) 3 B [292,124,3,39] b9 ?_
  have e1:=Zb (g5.j (Zb t4 c6.i) c6.blk Do) (Za e5)
  refine xx (.e [4] 5) _ (Xa (inB l no)) i 1 (Strs.elem (Zf e1) z1 (k:=i) M0).1 ?_
  refine xlt (.e [] 6) (.t B [292,124,3,39]) (fun V hV=>(Strs.elem (Zf (Zi e1 hV.2 Do)) z1 (k:=i) M0).2) ?_
  have n3:=ad.i (Za e5)
  refine xlvt (.e [] 7) (.t B [292,124,3,39]) (fun V hV=>(n3.q hV.2 Do).rp) ?_
  have al:=Zpw hi (Hj l no) (i:=i) M0
  have f2:Uu (Xc l tree am d) me no ((Um l no).getD i []) (((Kh hi (Hj l no)).getD i (0,0)).1,((Kh hi (Hj l no)).getD i (0,0)).2) (Qh (Xc l tree am d) l me no hi i { s with looked:=s.looked+1,bs:=s.bs++[no] })=(Qh (Xc l tree am d) l me no hi (i+1) { s with looked:=s.looked+1,bs:=s.bs++[no] }):=by rw[Nz];unfold Fe;rw[V7 (by rw[z2];decide),al]
  have x0:=Zea (Ew l tree am d) l me no hi { s with looked:=s.looked+1,bs:=s.bs++[no] } (show i+1≤(Xa (inB l no)) by omega)
  rw[d0] at he hb_ hf
  have c9:=blB (g5.i (blB d1 hBw c6.i) (N0 hBw s8)) hBw (Za e5)
  have v9:=((hR.i c6.i).q (Q1 (T:=[295]) g5 c6.blk Do) Do).i (Za e5)
  refine yc (.o [] 8) (.t B [292,124,3,39]) (Zis B bw Bi b pi ni ci l tree am d (hV M0) me no _ _ ((Um l no).getD i []) _ h9 j4 h7 f8 h8 j3 i5 g3 r5 _ hBb (N0 hBw c9.size) M0 z2 (En _ _ _) v9 (by rw[f2];exact N0 x0.1 he) (by rw[f2];exact N0 x0.2.1 hb_) (by rw[f2];exact N0 x0.2.2 hf)) ?_
  rintro _ c0 ⟨bc,s6,s5,t5,j9,t6,t0,s7,j8,y9,rfl,e9,c5,s9⟩
  refine⟨(Lb e9 c5),?_⟩
  rw[f2] at s9
  have k2:=s9.blk
  refine xb 7 9 k2 ?_
  refine xi 2 ((Qh (Xc l tree am d) l me no hi (i+1) { s with looked:=s.looked+1,bs:=s.bs++[no] }).dry) (fun m2=>?_) (fun m2=>?_)
  ·obtain⟨_,e6,e8,e4,e7,d9,c7,hI⟩:=s9
   have aw:=(Fl d9 Y5).2
   have av:(me++[no]).length=me.length+1:=Y5
   have e2:(Qh (Xc l tree am d) l me no hi (Xa (inB l no)) { s with looked:=s.looked+1,bs:=s.bs++[no] })=(Qh (Xc l tree am d) l me no hi (i+1) { s with looked:=s.looked+1,bs:=s.bs++[no] }):=Zv3 _ _ _ _ _ _ M0 m2
   refine xd 6 (.t B [292]) ?_
   refine xm2 (.b [0,1,2,3,5,6,7]) 4 8 ?_ ?_
   ·have a9:=k2.i (Za c0)
    refine xb 0 8 a9 ?_
    refine xb (.o [] 8) 8 a9 ?_
    refine xwm (.e [9] 10) ((↑((me++[no]).length):Int)-1) (↑(((me++[no]).length)-1):Int) ?_
    refine xsH (.e [] 11) (fun _ _ _ _ zo zx zy V=>Ka (k:=(((me++[no]).length)-1)) (b:=j9) (n:=(me++[no]).length) (c:=j8) (i:=(↑(((me++[no]).length)-1):Int)) (ki:=.i64) zo zx zy rfl M0 Tryz.underlying27 K0 V) ?_
    refine ys (.o [12,13] 14) a9 [.slice s6 ((Qh (Xc l tree am d) l me no hi (i+1) { s with looked:=s.looked+1,bs:=s.bs++[no] }).es.length) t6,.slice s5 ((Qh (Xc l tree am d) l me no hi (i+1) { s with looked:=s.looked+1,bs:=s.bs++[no] }).bs.length) t0,V0 (Qh (Xc l tree am d) l me no hi (i+1) { s with looked:=s.looked+1,bs:=s.bs++[no] }).deep,V0 ((Qh (Xc l tree am d) l me no hi (i+1) { s with looked:=s.looked+1,bs:=s.bs++[no] }).looked:Int),.slice t5 ((Qh (Xc l tree am d) l me no hi (i+1) { s with looked:=s.looked+1,bs:=s.bs++[no] }).fs.length) s7,P0 b,V0 tree,V0 am,.slice j9 (((me++[no]).length)-1) j8,.bool ((Qh (Xc l tree am d) l me no hi (i+1) { s with looked:=s.looked+1,bs:=s.bs++[no] }).dry)] (.t B [292]) fun bl f9 z7=>⟨(Zr f9 a9 hBb Do),?_⟩
    have o0:=f9.i (blB (c9.trans e9) hBw (Za c0)) hBb
    have x6:=((((Q3 (c3.trans (Q0 c6.i)) g5 s8).trans (Q0 (Za e5))).trans c5).trans (Q0 (Za c0))).trans (Q1 f9 a9 Do)
    have o2:=f9.j (Zb e6 (Za c0)) a9 Do
    have q9:=f9.j (Zb e8 (Za c0)) a9 Do
    have n9:=f9.j (Zb e4 (Za c0)) a9 Do
    have l5:=(e7.i (Za c0)).q (Q1 (T:=[292]) f9 a9 Do) Do
    have i6:=f9.j (Zb d9 (Za c0)) a9 Do
    have w5:=(hI.i (Za c0)).q (Q1 (T:=[292]) f9 a9 Do) Do
    refine xe 1 (.tuple #[]) ?_
    rw[d0,e2]
    rw[show(me++[no]).length-1=me.length by simp] at z7
    exact⟨_,s6,s5,t5,j9,t6,t0,s7,j8,y9,rfl,o0,x6,z7,o2,q9,n9,l5,Zb7 i6,c7.len _ _ _ _,w5⟩
   have a7:=k2.i (Za c0)
   refine xb 0 8 a7 ?_
   refine xwm (.e [9] 10) ((↑((me++[no]).length):Int)-1) (↑(((me++[no]).length)-1):Int) ?_
   refine xb (.o [] 4) 8 a7 ?_
   refine xsH (.e [] 11) (fun _ _ _ _ zo zx zy V=>Ka (k:=(((me++[no]).length)-1)) (b:=j9) (n:=(me++[no]).length) (c:=j8) (i:=(↑(((me++[no]).length)-1):Int)) (ki:=.i64) zo zx zy rfl M0 Tryz.underlying27 K0 V) ?_
   refine ys (.o [12,13] 14) a7 [.slice s6 ((Qh (Xc l tree am d) l me no hi (i+1) { s with looked:=s.looked+1,bs:=s.bs++[no] }).es.length) t6,.slice s5 ((Qh (Xc l tree am d) l me no hi (i+1) { s with looked:=s.looked+1,bs:=s.bs++[no] }).bs.length) t0,V0 (Qh (Xc l tree am d) l me no hi (i+1) { s with looked:=s.looked+1,bs:=s.bs++[no] }).deep,V0 ((Qh (Xc l tree am d) l me no hi (i+1) { s with looked:=s.looked+1,bs:=s.bs++[no] }).looked:Int),.slice t5 ((Qh (Xc l tree am d) l me no hi (i+1) { s with looked:=s.looked+1,bs:=s.bs++[no] }).fs.length) s7,P0 b,V0 tree,V0 am,.slice j9 (((me++[no]).length)-1) j8,.bool ((Qh (Xc l tree am d) l me no hi (i+1) { s with looked:=s.looked+1,bs:=s.bs++[no] }).dry)] (.t B [292]) fun ay f5 z5=>⟨(Zr f5 a7 hBb Do),?_⟩
   have q8:=f5.i (blB (c9.trans e9) hBw (Za c0)) hBb
   have v3:=((((Q3 (c3.trans (Q0 c6.i)) g5 s8).trans (Q0 (Za e5))).trans c5).trans (Q0 (Za c0))).trans (Q1 f5 a7 Do)
   have q0:=f5.j (Zb e6 (Za c0)) a7 Do
   have q2:=f5.j (Zb e8 (Za c0)) a7 Do
   have q5:=f5.j (Zb e4 (Za c0)) a7 Do
   have q4:=(e7.i (Za c0)).q (Q1 (T:=[292]) f5 a7 Do) Do
   have j0:=f5.j (Zb d9 (Za c0)) a7 Do
   have v0:=(hI.i (Za c0)).q (Q1 (T:=[292]) f5 a7 Do) Do
   refine xe 1 (.tuple #[]) ?_
   rw[d0,e2]
   rw[show(me++[no]).length-1=me.length by simp] at z5
   exact⟨_,s6,s5,t5,j9,t6,t0,s7,j8,y9,rfl,q8,v3,z5,q0,q2,q5,q4,Zb7 j0,c7.len _ _ _ _,v0⟩
  refine xwm 4 ((i:Int)+1) (↑(i+1):Int) ?_
  have o7:=c9.trans e9
  have w9:=((Q3 (c3.trans (Q0 c6.i)) g5 s8).trans (Q0 (Za e5))).trans c5
  have e3:=((g5.blk (d7.i c6.i) h6).i (Za e5)).q c5 Do
  have d2:=b9.q c5 Do
  have o6:=Zi e1 c5 Do
  have r2:=Zi (Zb (g5.O (Zb j7 c6.i) g0) (Za e5)) c5 Do
  exact ze 2 (x7 _ _ _ ⟨i+1,_,_,_,_,_,_,_,_,_,rfl,rfl,o7,w9,e3,d2,s9,o6,r2,M0,Y3⟩ M0)
 obtain⟨_,e6,e8,e4,e7,d9,c7,hI⟩:=hR
 have aw:=(Fl d9 Y5).2
 have av:(me++[no]).length=me.length+1:=Y5
 have e2:(Qh (Xc l tree am d) l me no hi (Xa (inB l no)) { s with looked:=s.looked+1,bs:=s.bs++[no] })=(Qh (Xc l tree am d) l me no hi i { s with looked:=s.looked+1,bs:=s.bs++[no] }):=by rw[show i=(Xa (inB l no)) by omega]
 refine xd 5 (.t B [292]) ?_
 refine xm2 (.b [0,1,2,3,5,6,7]) 4 8 ?_ ?_
 ·have a6:=k2.i (Za c1)
  refine xb 0 8 a6 ?_
  refine xb (.o [] 8) 8 a6 ?_
  refine xwm (.e [9] 10) ((↑((me++[no]).length):Int)-1) (↑(((me++[no]).length)-1):Int) ?_
  refine xsH (.e [] 11) (fun _ _ _ _ zo zx zy V=>Ka (k:=(((me++[no]).length)-1)) (b:=f8) (n:=(me++[no]).length) (c:=g3) (i:=(↑(((me++[no]).length)-1):Int)) (ki:=.i64) zo zx zy rfl M0 Tryz.underlying27 K0 V) ?_
  refine ys (.o [12,13] 14) a6 [.slice h9 ((Qh (Xc l tree am d) l me no hi i { s with looked:=s.looked+1,bs:=s.bs++[no] }).es.length) h8,.slice j4 ((Qh (Xc l tree am d) l me no hi i { s with looked:=s.looked+1,bs:=s.bs++[no] }).bs.length) j3,V0 (Qh (Xc l tree am d) l me no hi i { s with looked:=s.looked+1,bs:=s.bs++[no] }).deep,V0 ((Qh (Xc l tree am d) l me no hi i { s with looked:=s.looked+1,bs:=s.bs++[no] }).looked:Int),.slice h7 ((Qh (Xc l tree am d) l me no hi i { s with looked:=s.looked+1,bs:=s.bs++[no] }).fs.length) i5,P0 b,V0 tree,V0 am,.slice f8 (((me++[no]).length)-1) g3,.bool ((Qh (Xc l tree am d) l me no hi i { s with looked:=s.looked+1,bs:=s.bs++[no] }).dry)] (.t B [292]) fun bn g2 z6=>⟨(Zr g2 a6 hBb Do),?_⟩
  have k9:=g2.i (blB d1 hBw (Za c1)) hBb
  have y4:=(c3.trans (Q0 (Za c1))).trans (Q1 g2 a6 Do)
  have m8:=g2.j (Zb e6 (Za c1)) a6 Do
  have s3:=g2.j (Zb e8 (Za c1)) a6 Do
  have m9:=g2.j (Zb e4 (Za c1)) a6 Do
  have q7:=(e7.i (Za c1)).q (Q1 (T:=[292]) g2 a6 Do) Do
  have i4:=g2.j (Zb d9 (Za c1)) a6 Do
  have x5:=(hI.i (Za c1)).q (Q1 (T:=[292]) g2 a6 Do) Do
  refine xe 1 (.tuple #[]) ?_
  rw[d0,e2]
  rw[show(me++[no]).length-1=me.length by simp] at z6
  exact⟨_,h9,j4,h7,f8,h8,j3,i5,g3,r5,rfl,k9,y4,z6,m8,s3,m9,q7,Zb7 i4,c7.len _ _ _ _,x5⟩
 have a8:=k2.i (Za c1)
 refine xb 0 8 a8 ?_
 refine xwm (.e [9] 10) ((↑((me++[no]).length):Int)-1) (↑(((me++[no]).length)-1):Int) ?_
 refine xb (.o [] 4) 8 a8 ?_
 refine xsH (.e [] 11) (fun _ _ _ _ zo zx zy V=>Ka (k:=(((me++[no]).length)-1)) (b:=f8) (n:=(me++[no]).length) (c:=g3) (i:=(↑(((me++[no]).length)-1):Int)) (ki:=.i64) zo zx zy rfl M0 Tryz.underlying27 K0 V) ?_
 refine ys (.o [12,13] 14) a8 [.slice h9 ((Qh (Xc l tree am d) l me no hi i { s with looked:=s.looked+1,bs:=s.bs++[no] }).es.length) h8,.slice j4 ((Qh (Xc l tree am d) l me no hi i { s with looked:=s.looked+1,bs:=s.bs++[no] }).bs.length) j3,V0 (Qh (Xc l tree am d) l me no hi i { s with looked:=s.looked+1,bs:=s.bs++[no] }).deep,V0 ((Qh (Xc l tree am d) l me no hi i { s with looked:=s.looked+1,bs:=s.bs++[no] }).looked:Int),.slice h7 ((Qh (Xc l tree am d) l me no hi i { s with looked:=s.looked+1,bs:=s.bs++[no] }).fs.length) i5,P0 b,V0 tree,V0 am,.slice f8 (((me++[no]).length)-1) g3,.bool ((Qh (Xc l tree am d) l me no hi i { s with looked:=s.looked+1,bs:=s.bs++[no] }).dry)] (.t B [292]) fun bi f3 z4=>⟨(Zr f3 a8 hBb Do),?_⟩
 have o5:=f3.i (blB d1 hBw (Za c1)) hBb
 have v7:=(c3.trans (Q0 (Za c1))).trans (Q1 f3 a8 Do)
 have o1:=f3.j (Zb e6 (Za c1)) a8 Do
 have r9:=f3.j (Zb e8 (Za c1)) a8 Do
 have l9:=f3.j (Zb e4 (Za c1)) a8 Do
 have p5:=(e7.i (Za c1)).q (Q1 (T:=[292]) f3 a8 Do) Do
 have i0:=f3.j (Zb d9 (Za c1)) a8 Do
 have v6:=(hI.i (Za c1)).q (Q1 (T:=[292]) f3 a8 Do) Do
 refine xe 1 (.tuple #[]) ?_
 rw[d0,e2]
 rw[show(me++[no]).length-1=me.length by simp] at z4
 exact⟨_,h9,j4,h7,f8,h8,j3,i5,g3,r5,rfl,o5,v7,z4,o1,r9,l9,p5,Zb7 i0,c7.len _ _ _ _,v6⟩
end
theorem Zao{V:V6 Int→Int→Int→Int→WS→WS}{l:Bl}{me:V6 Int}{no hi:Int}{s:WS}(P:Nat→WS→Prop)(h0:P 0 s) :
  ∀ n,(∀ i t,i<n→t.dry=false→P i t→P (i+1) (Uu V me no ((Um l no).getD i []) (Yb hi (Hj l no) i) t))→(∀ i t,i<n→t.dry=true→P i t→P (i+1) t)→P n (Qh V l me no hi n s)
 | 0,_,_=>h0
 | n+1,hs,hd=>by
  have ih:=Zao P h0 n (fun i t hi=>hs i t M0) (fun i t hi=>hd i t M0);rw[Nz];unfold Fe;split
  ·rename_i h;exact hd n _ M0 h ih
  ·rename_i h;exact hs n _ M0 (by simpa using h) ih
theorem rootE_no(v:Bl):Qi v=0∨Qi v=2∨Qi v=7:=by
 unfold Qi;split
 ·split<;>simp
 ·simp
theorem Zdq(l:Bl):∀ n,Vh l n=0∨Vh l n=2∨Vh l n=8
 | 0=>.inl rfl
 | n+1=>by
  rw[Vh];split
  ·exact Zdq l n
  ·unfold Zf9;split
   ·simp
   ·split<;>simp
theorem Zqq(l:Bl)(no tree:Int):Xy l no tree≠12:=by
 unfold Xy;split
 ·unfold Ku;split
  ·split<;>decide
  ·unfold We;split
   ·split
    ·rcases Zdq (inB l no) (Xa (inB l no)) with h|h|h<;>rw[h]<;>decide
    ·decide
   ·decide
 ·unfold inE;split
  ·unfold Qz;repeat' split
   all_goals decide
  ·decide
theorem lookE_no(l:Bl)(me:V6 Int)(no tree lo hi deep:Int):Yy l me no tree lo hi deep≠12:=by
 unfold Yy;split
 ·decide
 ·split
  ·decide
  ·split
   ·exact Zqq _ _ _
   ·split
    ·decide
    ·split<;>decide
theorem Zyh(t:Int)(b:Bool):Zvz t b≤18:=by
 unfold Zvz Jj;repeat' split
 all_goals omega
theorem Zav{l:Bl}(h:We l=0):Zax l=true:=by
 unfold We at h;split at h
 ·assumption
 ·cases h
theorem El{l:Bl}{tree:Int}(h:Ku l tree=0):We l=0:=by
 unfold Ku at h;split at h
 ·assumption
 ·assumption
theorem Sc{l:Bl}{no tree:Int}(h:Xy l no tree=0):inE l 2 no=0∧Ku (inB l no) tree=0:=by
 unfold Xy at h;split at h
 ·exact⟨Y3,h⟩
 ·rename_i q;exact absurd h q
theorem Zg4{l:Bl}{me:V6 Int}{no tree lo hi deep:Int}(h:Yy l me no tree lo hi deep=0):Xy l no tree=0∧Hi lo hi (Hj l no)=0∧Xa (inB l no)≤18:=by
 unfold Yy at h;split at h
 ·cases h
 ·split at h
  ·cases h
  ·split at h
   ·rename_i q;exact absurd h q
   ·rename_i q;split at h
    ·cases h
    ·rename_i q2;have q1:Xy l no tree=0:=Decidable.not_not.1 q;exact⟨q1,Decidable.not_not.1 q2,N0 (Ee (Zav (El (Sc q1).2))) (Zyh _ _)⟩
theorem Fa{lo hi:Int}{L:V6 Int}(h:Hi lo hi L=0):Pb lo hi=true∧Uq L∧∀ k∈L,lo≤k∧k<hi:=by
 unfold Hi at h;split at h
 ·split at h
  ·split at h
   ·exact⟨Y3,Y3,Y3⟩
   ·cases h
  ·cases h
 ·cases h
def InBlk(l:Bl)(tree:Int)(x:Ent):Prop :=
 Xy l x.2.2 tree=0∧Yg (inB l x.2.2)=true∧∃ k,k<Xa (inB l x.2.2)∧(Hj l x.2.2).getD k 0=x.1∧(Um l x.2.2).getD k []=x.2.1∧∀ j,j<k→(Hj l x.2.2).getD j 0≠x.1
def Zwr(lo hi:Int)(es:V6 Ent):Prop:=es.Pairwise (fun x y=>x.1<y.1)∧∀ x∈es,lo≤x.1∧x.1<hi
theorem Zwr.nil(lo hi:Int):Zwr lo hi []:=⟨.nil,fun _ h=>by cases h⟩
theorem Zwr.j7{lo mi hi:Int}{a b:V6 Ent}(h:Zwr lo mi a)(k:Zwr mi hi b)(h1:lo≤mi)(h2:mi≤hi):Zwr lo hi (a++b):=by
 refine⟨List.pairwise_append.2 ⟨h.1,k.1,fun x hx y hy=>?_⟩,fun x hx=>?_⟩
 ·have:=(h.2 x hx).2;have:=(k.2 y hy).1;omega
 ·rcases List.mem_append.1 hx with q|q
  ·have:=h.2 x q;omega
  ·have:=k.2 x q;omega
structure Went(l:V6 UInt8)(tree am:Int)(hd:Option Int)(lo hi:Int)(s t:WS)(es:V6 Ent)(fs:V6 (V6 Int×Int)):Prop where
 esE:t.es=s.es++es
 fsE:t.fs=s.fs++fs
 rise:Zwr lo hi es
 inb:∀ x∈es,InBlk l tree x
 flt:∀ f∈fs,f.1.head? = hd∧f.1≠[]∧f.2≠0
 dry:t.dry=true↔s.dry=true∨∃ f∈fs,f.2=12
 fuelE:t.dry=true→s.dry=true∨am≤t.looked
 look:s.looked≤am.toNat→t.looked≤am.toNat
 more:s.looked≤t.looked
 blks:t.bs.length+s.looked≤s.bs.length+t.looked
theorem Went.refl(l:Bl)(tree am:Int)(hd:Option Int)(lo hi:Int)(s:WS):Went l tree am hd lo hi s s [] [] :=
 ⟨Y5,Y5,Zwr.nil _ _,Y5,Y5,Y5,fun h=>.inl h,fun h=>h,At _,At _⟩
theorem Went.trans{l:Bl}{tree am:Int}{hd:Option Int}{lo mi hi:Int}{s t u:WS}{es es2:V6 Ent}{fs fs2:V6 (V6 Int×Int)}(h:Went l tree am hd lo mi s t es fs)(k:Went l tree am hd mi hi t u es2 fs2)(h1:lo≤mi)(h2:mi≤hi) :
  Went l tree am hd lo hi s u (es++es2) (fs++fs2) where
 esE:=by rw[k.esE,h.esE,A4]
 fsE:=by rw[k.fsE,h.fsE,A4]
 rise:=h.rise.j7 k.rise h1 h2
 inb x hx:=by
  rcases List.mem_append.1 hx with q|q
  ·exact h.inb x q
  ·exact k.inb x q
 flt f hf:=by
  rcases List.mem_append.1 hf with q|q
  ·exact h.flt f q
  ·exact k.flt f q
 dry:=by
  rw[k.dry,h.dry];constructor
  ·rintro((q|⟨f,q1,q2⟩)|⟨f,q1,q2⟩)
   ·exact .inl q
   ·exact .inr ⟨f,If _ q1,q2⟩
   ·exact .inr ⟨f,List.mem_append_right _ q1,q2⟩
  ·rintro(q|⟨f,q1,q2⟩)
   ·exact .inl (.inl q)
   ·rcases List.mem_append.1 q1 with q|q
    ·exact .inl (.inr ⟨f,q,q2⟩)
    ·exact .inr ⟨f,q,q2⟩
 fuelE h0:=by
  rcases k.fuelE h0 with q|q
  ·rcases h.fuelE q with q|q
   ·exact .inl q
   ·exact .inr (by have:=k.more;omega)
  ·exact .inr q
 look h0:=k.look (h.look h0)
 more:=N0 h.more k.more
 blks:=by have:=h.blks;have:=k.blks;omega
theorem Went.wide{l:Bl}{tree am:Int}{hd:Option Int}{lo hi lo2 hi2:Int}{s t:WS}{es:V6 Ent}{fs:V6 (V6 Int×Int)}(h:Went l tree am hd lo hi s t es fs)(h1:lo2≤lo)(h2:hi≤hi2):Went l tree am hd lo2 hi2 s t es fs :=
 { h with rise:=⟨h.rise.1,fun x hx=>by have:=h.rise.2 x hx;omega⟩ }
theorem Went.h7(l:Bl)(tree am:Int){hd:Option Int}(lo hi:Int)(me:V6 Int)(no c:Int)(s:WS)(hc:c≠0)(hc2:c≠12)(hh:(me++[no]).head? = hd):Went l tree am hd lo hi s (Jk me [no] c s) [] [(me++[no],c)] :=
 ⟨by simp[Jk],by simp[Jk],Zwr.nil _ _,Y5,(fun f hf=>by rw[D0.1 hf];exact⟨hh,Y5,hc⟩),by simp[Jk,hc2],fun h=>.inl (by simpa [Jk] using h),fun h=>by simpa [Jk] using h,At _,At _⟩
theorem Be{lo hi:Int}{L:V6 Int}(hf:Hi lo hi L=0){i:Nat}(h:i<L.length):lo≤(Yb hi L i).1∧(Yb hi L i).1≤(Yb hi L i).2∧(Yb hi L i).2≤hi∧(i+1<L.length→(Yb hi L i).2=(Yb hi L (i+1)).1):=by
 obtain⟨h1,h2,h3⟩:=Fa hf;have h4:=h3 L[i] (F3 _);unfold Yb;simp only[A9 h,K2];by_cases hn:i+1<L.length
 ·have h5:=h3 L[i+1] (F3 _);have h6:=Uq.lt h2 (i+1) i M0 hn;simp only[A9 h,A9 hn,K2] at h6 ⊢;exact⟨h4.1,M0,M0,fun _=>trivial⟩
 ·rw[C4 M0];simp only[Option.getD_none];exact⟨h4.1,M0,N5 _,fun h=>absurd h hn⟩
theorem Zy1{lo hi:Int}{l:Bl}{no:Int}(hf:Hi lo hi (Hj l no)=0)(Vs:V6 Bl):Zwr lo hi (Wq (Hj l no) Vs no (Xa (inB l no))):=by
 obtain⟨h1,h2,h3⟩:=Fa hf;have hl:(Hj l no).length=Xa (inB l no):=by simp[Hj,Hy]
 refine⟨?_,?_⟩
 ·unfold Wq;rw[List.pairwise_map];refine List.Pairwise.imp_of_mem (R:=fun a b=>a<b) ?_ List.pairwise_lt_range;intro a b ha hb a0;have:=Uq.lt h2 b a a0 (by rw[hl];simpa using hb);simpa [getD] using this
 ·intro x hx;unfold Wq at hx;obtain⟨j,hj,rfl⟩:=List.mem_map.1 hx;have hj:j<(Hj l no).length:=by rw[hl];simpa using hj
  have:=h3 (Hj l no)[j] (F3 _);simpa [getD,hj] using this
theorem leaf_inb{lo hi:Int}{l:Bl}{no tree:Int}(hn:Xy l no tree=0)(hl:Yg (inB l no)=true)(hf:Hi lo hi (Hj l no)=0):∀ x∈Wq (Hj l no) (Um l no) no (Xa (inB l no)),InBlk l tree x:=by
 intro x hx;obtain⟨h1,h2,h3⟩:=Fa hf;have hk:(Hj l no).length=Xa (inB l no):=by simp[Hj,Hy]
 unfold Wq at hx;obtain⟨j,hj,rfl⟩:=List.mem_map.1 hx;have hj:j<Xa (inB l no):=by simpa using hj
 refine⟨hn,hl,j,hj,rfl,rfl,fun i hi=>?_⟩;have:=Uq.lt h2 j i hi (by rw[hk];exact hj);simp only[getD];omega
theorem Zba(l:Bl)(tree am:Int):∀ (d:Nat) (me:V6 Int) (no lo hi:Int) (s:WS),s.dry=false→∃ es fs,Went l tree am (me++[no]).head? lo hi s (Xc l tree am d me no lo hi s) es fs
  | 0,me,no,lo,hi,s,_=>⟨[],[],Went.refl _ _ _ _ _ _ _⟩
  | d + 1, me, no, lo, hi, s, hs => by
    unfold Xc;split
    · rename_i hf;exact⟨[],[(me++[no],12)],by simp[Jk],by simp[Jk],Zwr.nil _ _,Y5,Y5,Y5,fun _=>.inr hf,fun h=>h,At _,At _⟩
    · rename_i hf;have a5:s.looked+1≤am.toNat:=M0;split
      · rename_i he;have:=Went.h7 l tree am lo hi me no _ { s with looked:=s.looked+1 } he (lookE_no _ _ _ _ _ _ _) rfl;exact⟨_,_,this.esE,this.fsE,this.rise,this.inb,this.flt,this.dry,fun h=>by simp[Jk,hs] at h,fun _=>a5,by simp[Jk],by simp[Jk]⟩
      · rename_i he;have he:Yy l me no tree lo hi s.deep=0:=Decidable.not_not.1 he;obtain⟨hn,a0,hc⟩:=Zg4 he;split
        · rename_i hl;exact⟨_,[],rfl,Y5,Zy1 a0 _,leaf_inb hn hl a0,Y5,by simp[hs],fun h=>by simp[hs] at h,fun _=>a5,Y5,by simp;omega⟩
        · have hk:(Hj l no).length=Xa (inB l no):=(by simp[Hj,Hy]);have a8:=Fa a0;have b1:lo≤hi:=(by have:=a8.1;unfold Pb at this;simp at this;omega);have a1:=Zao (V:=Xc l tree am d) (l:=l) (me:=me) (no:=no) (hi:=hi) (s:={ s with looked:=s.looked+1,bs:=s.bs++[no] })
            (fun i t=>∃ es fs,Went l tree am (me++[no]).head? lo (if i=0 then lo else(Yb hi (Hj l no) (i-1)).2) { s with looked:=s.looked+1,bs:=s.bs++[no] } t es fs)
            ⟨[],[],Went.refl _ _ _ _ _ _ _⟩ (Xa (inB l no)) ?_ ?_
          · obtain⟨es,fs,q⟩:=a1;refine⟨es,fs,q.esE,q.fsE,?_,q.inb,q.flt,q.dry,fun h=>?_,fun _=>q.look a5,by have:=q.more;simp only at this;omega,by have:=q.blks;simp at this;omega⟩
            · refine⟨q.rise.1,fun x hx=>?_⟩;have:=q.rise.2 x hx;split at this
              · omega
              · rename_i h0;have:=(Be a0 (i:=Xa (inB l no)-1) (by rw[hk];omega)).2.2.1;omega
            · rcases q.fuelE h with q2|q2
              · exact .inl q2
              · exact .inr q2
          · rintro i t a4 a6 ⟨es,fs,q⟩;have hp:=Be a0 (i:=i) (by rw[hk];exact a4);have a3:lo≤(if i=0 then lo else(Yb hi (Hj l no) (i-1)).2)∧(if i=0 then lo else(Yb hi (Hj l no) (i-1)).2)≤(Yb hi (Hj l no) i).1:=by
              split
              · exact⟨N5 _,hp.1⟩
              · rename_i h0;have a2:=Be a0 (i:=i-1) (by rw[hk];omega);have:=a2.2.2.2 (by rw[hk];omega);rw[show i-1+1=i by omega] at this;omega
            have q':=q.wide (N5 lo) a3.2;rw[V7 M0,N1];unfold Uu;split
            · obtain⟨b0,a9,r⟩:=Zba l tree am d (me++[no]) (Ga ((Um l no).getD i []):Int) (Yb hi (Hj l no) i).1 (Yb hi (Hj l no) i).2 t a6;have hh:((me++[no])++[(Ga ((Um l no).getD i []):Int)]).head? = (me++[no]).head? := by cases me<;>rfl
              rw[hh] at r;exact⟨_,_,q'.trans r M0 hp.2.1⟩
            · rename_i a7;have r:=Went.h7 l tree am (Yb hi (Hj l no) i).1 (Yb hi (Hj l no) i).2 me no (Qi ((Um l no).getD i [])) t a7 (by rcases rootE_no ((Um l no).getD i []) with h|h|h<;>rw[h]<;>decide) rfl;exact⟨_,_,q'.trans r M0 hp.2.1⟩
          · rintro i t a4 a6 ⟨es,fs,q⟩;have hp:=Be a0 (i:=i) (by rw[hk];exact a4);rw[V7 M0,N1];refine⟨es,fs,q.wide (N5 _) ?_⟩;split
            · omega
            · rename_i h0;have a2:=Be a0 (i:=i-1) (by rw[hk];omega);have:=a2.2.2.2 (by rw[hk];omega);rw[show i-1+1=i by omega] at this;omega
theorem Tq(l:Bl)(tree am:Int):∀ (d:Nat) (me:V6 Int) (no lo hi:Int) (s:WS),s.dry=false →
  (Xc l tree am d me no lo hi s).fs.length+(Xc l tree am d me no lo hi s).es.length+18*s.looked≤s.fs.length+s.es.length+18*(Xc l tree am d me no lo hi s).looked+(if(Xc l tree am d me no lo hi s).dry=true then 1 else 0)
 | 0,me,no,lo,hi,s,hs=>by simp[Xc,hs]
 | d+1,me,no,lo,hi,s,hs=>by
  unfold Xc;split
  ·simp[Jk];omega
  ·split
   ·simp[Jk,hs];omega
   ·rename_i he;have he:Yy l me no tree lo hi s.deep=0:=Decidable.not_not.1 he;obtain⟨hn,a3,hc⟩:=Zg4 he;split
    ·simp[Rd,hs];omega
    ·have a1:=Zao (V:=Xc l tree am d) (l:=l) (me:=me) (no:=no) (hi:=hi) (s:={ s with looked:=s.looked+1,bs:=s.bs++[no] })
      (fun i t=>t.fs.length+t.es.length+18*(s.looked+1)≤s.fs.length+s.es.length+i+18*t.looked+(if t.dry=true then 1 else 0)) (by simp[hs]) (Xa (inB l no)) ?_ ?_
     ·omega
     ·intro i t a2 a0 q;rw[a0] at q;unfold Uu;split
      ·have:=Tq l tree am d (me++[no]) (Ga ((Um l no).getD i []):Int) (Yb hi (Hj l no) i).1 (Yb hi (Hj l no) i).2 t a0;simp at q;omega
      ·simp[Jk,a0] at q ⊢;omega
     ·intro i t a2 a0 q;omega
section
attribute [local irreducible] wpList wpAnyH Code.wp Oper.wp Go
theorem Zio{B bw Bi b:Nat}{pi:O0}{ni ci:Nat}{l:Bl}{tree am:Int}(hBb:B≤bw)(hfu:am≤1000000):∀ d,Zvv B bw Bi b pi ni ci l tree am (d+1)
 | 0=>fun a0 no lo hi s pe pb pf pw ce cb cf cw fv w h1 h2 h3 h4 h5 h6 h7=>Tu B bw Bi b pi ni ci l tree am 0 (fun h=>absurd rfl h) a0 no lo hi s pe pb pf pw ce cb cf cw fv w hBb h2 h1 h3 hfu h4 h5 h6 h7
 | d+1=>fun a0 no lo hi s pe pb pf pw ce cb cf cw fv w h1 h2 h3 h4 h5 h6 h7=>Tu B bw Bi b pi ni ci l tree am (d+1) (fun _=>Zio hBb hfu d) a0 no lo hi s pe pb pf pw ce cb cf cw fv w hBb h2 h1 h3 hfu h4 h5 h6 h7
def ws0:WS:=⟨[],[],0,0,[],false⟩
def Ze(l:Bl)(root tree am:Int):WS:=Xc l tree am 17 [] root 0 281474976710656 ws0
theorem Nq(l:Bl)(root tree am:Int):∃ es fs,Went l tree am (some root) 0 281474976710656 ws0 (Ze l root tree am) es fs:=Zba l tree am 17 [] root 0 281474976710656 ws0 rfl
theorem St(l:Bl)(root tree am:Int):(Ze l root tree am).looked≤am.toNat:=by
 obtain⟨_,_,h⟩:=Nq l root tree am;exact h.look (A5 _)
theorem Mh(l:Bl)(root tree am:Int)(hf:am≤1000000):(Ze l root tree am).es.length≤100000000∧(Ze l root tree am).bs.length≤100000000∧(Ze l root tree am).fs.length≤100000000:=by
 have h1:=Tq l tree am 17 [] root 0 281474976710656 ws0 rfl;have h2:=St l root tree am;obtain⟨_,_,h3⟩:=Nq l root tree am;have h4:=h3.blks;simp only[ws0,E4] at h4;change (Ze l root tree am).fs.length+(Ze l root tree am).es.length+18*0≤0+0+18*(Ze l root tree am).looked+(if(Ze l root tree am).dry=true then 1 else 0) at h1;have h5:(if(Ze l root tree am).dry=true then 1 else 0)≤1:=by split<;>omega
 have h6:am.toNat≤1000000:=M0;generalize (if(Ze l root tree am).dry=true then 1 else 0)=q at h1 h5;omega
def walkC(t:WS)(pe pb pf:O0)(ce cb cf:Nat):V6 V2:=[.slice pe t.es.length ce,.slice pb t.bs.length cb,V0 t.deep,V0 (t.looked:Int),.slice pf t.fs.length cf]
structure WalkV(B:Nat)(t:WS)(pe pb pf:Option Addr)(ce cb cf:Nat)(fv:V6 V2)(w:V1):Prop where
 c1:w.ownsRow B 124 3 (.slice pe t.es.length ce) t.es.length (t.es.flatMap Ki)
 blks:w.ownsRow B 3 1 (.slice pb t.bs.length cb) t.bs.length (t.bs.map (Value.int .i64))
 c0:w.ownsRow B 39 1 (.slice pf t.fs.length cf) t.fs.length fv
 b9:Wh w t.fs fv
def ScanP(l:Bl)(root tree am:Int)(w:V1)(e:V5)(w':V1):Prop :=
 ∃ pe pb pf ce cb cf fv,e=.returned (.agg (walkC (Ze l root tree am) pe pb pf ce cb cf).toArray)∧B3 w w'∧WalkV w.heap.size (Ze l root tree am) pe pb pf ce cb cf fv w'
theorem Zx4(Bi b:Nat)(pi:O0)(ni ci:Nat)(l:Bl)(root tree am:Int)(w:V1)(hfu:am≤1000000)(hI:ImgR Bi b pi ni ci l w) :
 C0 125 #[P0 b,V0 root,V0 tree,V0 am] w (ScanP l root tree am w):=by
 refine zin 23 Tryz.func125 ?_
 refine xa 2 [S1,S1,V0 0,V0 0,S1] 118 fun b1 W1 n1=>?_
 refine xa 8 [S1,S1,V0 0,V0 0,S1,P0 b,V0 tree,V0 am,S1,.bool false] 292 fun b2 W2 n2=>?_
 refine xr 7 (Znm _) fun W3 a5=>?_
 have a0:=Mh l root tree am hfu
 have g2:=n2.ge n1.i
 have hB:=bln (bln n1.i n2.i) a5
 have k2:=n2.blk.i a5
 have a7:=((hI.i n1.i).i n2.i).i a5
 refine xc 0 (args:=#[P0 b2,V0 root,.agg #[V0 0,V0 281474976710656]]) (Zio (B:=w.heap.size) (bw:=b2) (Bi:=Bi) (b:=b) (pi:=pi) (ni:=ni) (ci:=ci) (l:=l) (tree:=tree) (am:=am) g2 M0 16 [] root 0 281474976710656 ws0 none none none none 0 0 0 0 [] _ rfl hB.size rfl ⟨k2,A8 _ _ _ _,A8 _ _ _ _,A8 _ _ _ _,trivial,A8 _ _ _ _,Vi.nil _,a7⟩ a0.1 a0.2.1 a0.2.2) ?_
 rintro _ W4 ⟨u4,pe,pb,pf,pw,ce,cb,cf,cw,fv,rfl,b5,b4,hR⟩
 change WalkR _ _ _ _ _ _ _ _ _ _ _ (Ze l root tree am) _ _ _ _ _ _ _ _ _ _ at hR
 obtain⟨kW,a8,a9,b3,b0,b7,b6,hI⟩:=hR
 refine xlv 7 (kW.a2 0 5) ?_
 have k1:=((n1.blk.i n2.i).i a5).q b4 Do
 refine xsv 0 k1 [.slice pe ((Ze l root tree am).es.length) ce,.slice pb ((Ze l root tree am).bs.length) cb,V0 (Ze l root tree am).deep,V0 ((Ze l root tree am).looked:Int),.slice pf ((Ze l root tree am).fs.length) cf] fun W5 u5 k5=>?_
 have g1:=n1.ge (B4 w)
 have a6:=u5.i (hB.trans b5) g1
 have a3:=u5.j a8 k1 Do
 have a4:=u5.j a9 k1 Do
 have a1:=u5.j b3 k1 Do
 have a2:=b0.q (Q1 (T:=[118]) u5 k1 Do) Do
 exact xec 3 k5 (.agg #[.slice pe ((Ze l root tree am).es.length) ce,.slice pb ((Ze l root tree am).bs.length) cb,V0 (Ze l root tree am).deep,V0 ((Ze l root tree am).looked:Int),.slice pf ((Ze l root tree am).fs.length) cf]) ⟨_,_,_,_,_,_,_,rfl,a6,⟨a3,a4,a1,a2⟩⟩
def kvE (x:Ent):Int×Bl:=(x.1,x.2.1)
def LaidF(F:Bl)(t:Int)(dx:Bool)(m v:Nat)(u:V6 Ent)(q:Nat):Prop :=
 ∀ i,i<ovN u.length m→Kc F (q+i)=Yf 2 ((q+i:Nat):Int) (Zs9 t dx m v (Xb u m i))
theorem Cr{t:Int}{dx:Bool}{m v:Nat}{l:V6 Ent}{q:Nat}{bs:Bl}(j:Nat):Pp t dx m v l q bs (j+1)=Qj (Pp t dx m v l q bs j) ((q+j)*256) (Yf 2 ((q+j:Nat):Int) (Zs9 t dx m v (Xb l m j))):=rfl
theorem Qw{t:Int}{dx:Bool}{m v:Nat}{l:V6 Ent}{q:Nat}{bs:Bl}(E:EntsOk v l)(h1:1≤t)(h2:t≤5)(hm:Jj t dx=m)(hv:Jl t dx=v)(hl:dx=false→1≤l.length)(j:Nat) :
 j≤ovN l.length m→(q+j)*256≤bs.length→(Pp t dx m v l q bs j).length=bs.length∧(∀ i,i<j→Kc (Pp t dx m v l q bs j) (q+i)=Yf 2 ((q+i:Nat):Int) (Zs9 t dx m v (Xb l m i)))∧(∀ x,x<q→Kc (Pp t dx m v l q bs j) x=Kc bs x):=by
 induction j with
 | zero=>exact fun _ _=>⟨rfl,fun i hi=>absurd hi (Nat.not_lt_zero i),fun x _=>rfl⟩
 | succ j ih =>
  intro hj hq
  obtain⟨a1,a2,a3⟩:=ih M0 M0
  have a4:=Am (Mu E h1 h2 hm hv hl (show j<ovN l.length m by omega))
  have a0:(Yf 2 ((q+j:Nat):Int) (Zs9 t dx m v (Xb l m j))).length=256:=Yr (by rw[a4];decide)
  rw[Cr]
  generalize Pp t dx m v l q bs j=y at a1 a2 a3 ⊢
  generalize hx:Yf 2 ((q+j:Nat):Int) (Zs9 t dx m v (Xb l m j))=x at a0 ⊢
  have hk:q+j<y.length/256:=by rw[a1];omega
  refine⟨?_,fun i hi=>?_,fun z hz=>?_⟩
  ·rw[Yk (by rw[a0,a1];omega),a1]
  ·by_cases e:i=j
   ·subst e;rw[hx];exact Fx a0 hk
   ·rw[Va a0 hk M0 M0];exact a2 i M0
  ·rw[Va a0 hk M0 M0];exact a3 z hz
theorem Ha{t:Int}(h1:1≤t)(h2:t≤5)(n:Nat):∀ (u:V6 Ent) (q:Nat) (bs:Bl),u.length=n→1≤n→EntsOk 4 u→(q+((Vz n).sum-n))*256≤bs.length→(Qs t u q bs).2.length=bs.length∧∀ x,x<q→Kc (Qs t u q bs).2 x=Kc bs x:=by
 induction n using Nat.strongRecOn with
 | _ n ih =>
  intro u q bs hn a5 E hq;subst hn;by_cases h:u.length≤1
  ·rw[Kb h];exact⟨rfl,fun _ _=>rfl⟩
  ·have a4:=Znf (x:=u.length) M0;have hp:=Yu u.length 18;have a0:(Vz u.length).sum=u.length+(Vz (ovN u.length 18)).sum:=(by rw[Qv h];rfl);have hg:=Vu (ovN u.length 18);rw[Qn h];obtain⟨a1,a2,a3⟩:=Qw (t:=t) (dx:=false) (m:=18) (v:=4) (l:=u) (q:=q) (bs:=bs) E h1 h2 rfl rfl (fun _=>by omega) (ovN u.length 18) (At _) M0;obtain⟨b1,b2⟩:=ih (ovN u.length 18) M0 (upE u 18 q (ovN u.length 18)) (q+ovN u.length 18) (Pp t false 18 4 u q bs (ovN u.length 18)) (Xk _ _ _ _) hp (Mm E Do) (by rw[a1];omega);exact⟨by rw[b1,a1],fun x hx=>by rw[b2 x M0,a3 x hx]⟩
theorem Io{t:Int}{dx:Bool}{n m v:Nat}{K:V6 Int}{Vs:V6 Bl}(N:NodeOk t dx n m v K Vs):Uq K:=by
 intro k hk a0;rw[N.hK] at hk;have:=N.hk1 (k-1) M0;rw[show k-1+1=k by omega] at this;simpa [getD] using this
theorem Ztl{F:Bl}{me:V6 Int}{no t lo hi deep:Int}(hw:me.length<16)(hway:∀ y∈me,no≠y)(he:Xy F no t=0)(hr:Pb lo hi=true)(hs:Uq (Hj F no))(hk:∀ x∈Hj F no,lo≤x∧x<hi)
 (hd:Yg (inB F no)=true→deep=0∨deep=((me.length+1:Nat):Int)):Yy F me no t lo hi deep=0:=by
 have hf:Hi lo hi (Hj F no)=0:=by unfold Hi;rw[V8 hr,V8 hs,V8 hk]
 have hh:Kl me no=false:=by
  unfold Kl;rw[List.any_eq_false];intro y hy;simpa using hway y hy
 unfold Yy
 rw[V7 (by rw[hh];simp),V7 M0,V7 (by rw[he];simp)]
 unfold Hj at hf
 rw[V7 (by rw[hf];simp),V7 (by rintro⟨a,b,c⟩;rcases hd a with h|h;exact b h;exact c h)]
structure Lev(F:V6 UInt8)(t am:Int)(h n base:Nat)(X:Nat→V6 (Int×V6 UInt8))(C:Nat→Nat):Prop where
 one:∀ i,i<n→1≤C i
 go:∀ i,i<n→∀ (d:Nat) (me:V6 Int) (lo hi:Int) (s:WS),h+1≤d→me.length+h+1≤16→(∀ y∈me,((base+n:Nat):Int)≤y)→Pb lo hi=true→(∀ x∈X i,lo≤x.1∧x.1<hi)→s.dry=false→((s.looked+C i:Nat):Int)≤am→(s.deep=0∨s.deep=((me.length+h+1:Nat):Int)) →
  ∃ (es:V6 Ent) (bl:V6 Int),es.map kvE=X i∧bl.length=C i∧Xc F t am d me ((base+i:Nat):Int) lo hi s={ s with es:=s.es++es,bs:=s.bs++bl,deep:=((me.length+h+1:Nat):Int),looked:=s.looked+C i }
theorem leaf_kv{c:V6 Ent}{no:Int}:(Wq (Vy c) (Hh c) no c.length).map kvE=c.map kvE:=by
 unfold Wq;apply H3;intro j;by_cases h:j<c.length
 ·simp[Vy,Hh,kvE,getD,h]
 ·rw[C4 (by simp;omega),C4 (by simp;omega)]
theorem lev_leaf{F:Bl}{t am:Int}{l:V6 Ent}{base len m v:Nat}(hm:Jj t true=m)(hv:Jl t true=v)(E:EntsOk v l)(h1:1≤t)(h2:t≤5)(hF:LaidF F t true m v l base)(hl:F.length=len)(hb:(base+ovN l.length m)*256≤len)(h4:base+ovN l.length m≤14400) :
  Lev F t am 0 (ovN l.length m) base (fun i=>(Xb l m i).map kvE) (fun _=>1) where
 one _ _:=At _
 go i hi d me lo hi' s hd hw hway hr hX hdry hfu hdeep:=by
  obtain⟨d',rfl⟩:∃ d',d=d'+1:=⟨d-1,M0⟩;have N:=Mu E h1 h2 hm hv (fun h=>by cases h) hi;have B:=Ar N;obtain⟨he,a1⟩:=Ze2 N hl M0 M0 (hF i hi) t (.inr rfl);have hC:Xa (inB F ((base+i:Nat):Int))=(Xb l m i).length:=by rw[a1];exact B.c
  have hK:Hj F ((base+i:Nat):Int)=Vy (Xb l m i):=by unfold Hj;rw[hC,a1];exact B.k
  have hV:Um F ((base+i:Nat):Int)=Hh (Xb l m i):=by unfold Um;rw[hC,a1];exact B.v
  have hL:Yg (inB F ((base+i:Nat):Int))=true:=by rw[a1];exact B.l
  have hk:∀ x∈Vy (Xb l m i),lo≤x∧x<hi':=by
   intro x hx;obtain⟨y,hy,rfl⟩:=List.mem_map.1 hx;exact hX (kvE y) (List.mem_map.2 ⟨y,hy,rfl⟩)
  have a0:Yy F me ((base+i:Nat):Int) t lo hi' s.deep=0:=Ztl M0 (fun y hy=>by have:=hway y hy;omega) he hr (by rw[hK];exact Io N) (by rw[hK];exact hk) fun _=>hdeep;refine⟨Wq (Vy (Xb l m i)) (Hh (Xb l m i)) ((base+i:Nat):Int) (Xb l m i).length,[((base+i:Nat):Int)],leaf_kv,rfl,?_⟩;unfold Xc;rw[V7 M0,V7 (by rw[a0];simp),V8 hL,hC,hK,hV]
theorem Zsw{f:Nat→Nat}{a b:Nat}(h:a≤b):((range a).map f).sum≤((range b).map f).sum:=by
 obtain⟨d,rfl⟩:∃ d,b=a+d:=⟨b-a,M0⟩;rw[P1,A6,E8];omega
theorem part_snd{hi:Int}{K:V6 Int}{k:Nat}(hk:k<K.length):(k+1<K.length∧(Yb hi K k).2=K.getD (k+1) 0)∨(k+1=K.length∧(Yb hi K k).2=hi):=by
 by_cases q:k+1<K.length
 ·left;exact⟨q,by simp[Yb,getD,q]⟩
 ·right;exact⟨M0,by simp only[Yb];rw[C4 M0];rfl⟩
theorem lev_loop{F:Bl}{t am:Int}{h n base:Nat}{X:Nat→V6 (Int×Bl)}{C:Nat→Nat}(L:Lev F t am h n base X C){me:V6 Int}{no hi':Int}{s0:WS}{z a d':Nat}(K:V6 Int)(hK:Hj F no=K)(hKl:K.length=z)(hidx:a+z≤n)
  (hval:∀ k,k<z→(Um F no).getD k []=leB ((base+(a+k):Nat):Int) 4) (hkk:∀ k,k<z→∃ v r,X (a+k)=(K.getD k 0,v)::r) (hs:∀ a b,a<b→b<n→∀ x∈X a,∀ y∈X b,x.1<y.1) (hs1:∀ a,a<n→(X a).Pairwise fun x y=>x.1<y.1)
  (hk0:∀ k,k<z→0≤K.getD k 0∧K.getD k 0<hi') (hk1:∀ k,k+1<z→K.getD k 0<K.getD (k+1) 0) (hX2:∀ k,k<z→∀ x∈X (a+k),x.1<hi') (hhi:hi'≤281474976710656) (hb1:1≤base) (h4:base+n≤14400) (hd:h+1≤d') (hw:me.length+1+h+1≤16) (hway:∀ y∈me,((base+n:Nat):Int)≤y) (hno:((base+n:Nat):Int)≤no)
  (hdry:s0.dry=false) (hdeep:s0.deep=0∨s0.deep=((me.length+(h+1)+1:Nat):Int)) (hfu:((s0.looked+((range z).map fun j=>C (a+j)).sum:Nat):Int)≤am) (k:Nat) :
  k≤z→∃ (es:V6 Ent) (bl:V6 Int),es.map kvE=((range k).flatMap fun j=>X (a+j))∧bl.length=((range k).map fun j=>C (a+j)).sum ∧
    Qh (Xc F t am d') F me no hi' k s0={ s0 with es:=s0.es++es,bs:=s0.bs++bl,deep:=if k=0 then s0.deep else((me.length+(h+1)+1:Nat):Int),looked:=s0.looked+((range k).map fun j=>C (a+j)).sum }:=by
 induction k with
 | zero=>exact fun _=>⟨[],[],rfl,rfl,by simp[Qh]⟩
 | succ k ih =>
  intro a3
  obtain⟨es,bl,e1,e2,e3⟩:=ih M0
  have a1:k<z:=M0
  obtain⟨r1,r2⟩:=Ic (q:=base+(a+k)) M0 M0
  have a7:(Yb hi' (Hj F no) k).1=K.getD k 0:=by rw[hK];rfl
  have a2:=part_snd (hi:=hi') (K:=K) (k:=k) M0
  rw[←hK] at a2
  have a8:∀ x∈X (a+k),K.getD k 0≤x.1:=by
   intro x hx;obtain⟨v,r,hv⟩:=hkk k a1;have a6:=hs1 (a+k) M0;rw[hv] at hx a6;rcases B6.1 hx with rfl|hx
   ·exact N5 _
   ·exact Int.le_of_lt ((List.pairwise_cons.1 a6).1 x hx)
  have b2:∀ x∈X (a+k),x.1<(Yb hi' (Hj F no) k).2:=by
   intro x hx;rcases a2 with ⟨q1,q2⟩|⟨q1,q2⟩
   ·rw[hK] at q1;obtain⟨v,r,hv⟩:=hkk (k+1) M0;rw[q2,hK];exact hs (a+k) (a+(k+1)) M0 M0 x hx (K.getD (k+1) 0,v) (by rw[hv];exact D6)
   ·rw[q2];exact hX2 k a1 x hx
  have b1:Pb (Yb hi' (Hj F no) k).1 (Yb hi' (Hj F no) k).2=true:=by
   have g0:=hk0 k a1;refine U0 ?_;rw[a7];rcases a2 with ⟨q1,q2⟩|⟨q1,q2⟩
   ·rw[hK] at q1;rw[q2,hK];have g1:=hk1 k M0;have g2:=hk0 (k+1) M0;omega
   ·rw[q2];omega
  have a4:=Zsw (f:=fun j=>C (a+j)) (show k+1≤z from a3)
  have a0:((range (k+1)).map fun j=>C (a+j)).sum=((range k).map fun j=>C (a+j)).sum+C (a+k):=by rw[B8,A6,E8];simp
  rw[a0] at a4
  have b3:((s0.looked+((range k).map fun j=>C (a+j)).sum+C (a+k):Nat):Int)≤am:=M0
  have a5:(me++[no]).length=me.length+1:=Y5
  obtain⟨a9,b0,g1,g2,g3⟩:=L.go (a+k) M0 d' (me++[no]) (Yb hi' (Hj F no) k).1 (Yb hi' (Hj F no) k).2 { s0 with es:=s0.es++es,bs:=s0.bs++bl,deep:=if k=0 then s0.deep else((me.length+(h+1)+1:Nat):Int),looked:=s0.looked+((range k).map fun j=>C (a+j)).sum } hd (by rw[a5];omega) (by
    intro y hy;rcases List.mem_append.1 hy with q|q
    ·exact hway y q
    ·rw[D0.1 q];exact hno) b1 (fun x hx=>⟨by rw[a7];exact a8 x hx,b2 x hx⟩) hdry b3 (by
    rw[a5,show me.length+1+h+1=me.length+(h+1)+1 by omega];by_cases q:k=0
    ·rcases hdeep with d|d
     ·exact .inl (by show(if k=0 then s0.deep else _)=0;rw[V8 q];exact d)
     ·exact .inr (by show(if k=0 then s0.deep else _)=_;rw[V8 q];exact d)
    ·exact .inr (by show(if k=0 then s0.deep else _)=_;rw[V7 q]))
  refine⟨es++a9,bl++b0,?_,?_,?_⟩
  ·rw[A6,e1,g1,B8,C7];simp
  ·rw[A1,e2,g2,a0]
  ·rw[Nz,e3]
   unfold Fe
   rw[V7 (by rw[hdry];simp)]
   unfold Uu
   rw[hval k a1,V8 r1,r2,g3,a0,V7 (Nat.succ_ne_zero k),a5,show me.length+1+h+1=me.length+(h+1)+1 by omega,A4,A4]
   simp only[WS.mk.injEq,true_and,and_true]
   omega
theorem Zyl{F:Bl}{t am:Int}{h n base len:Nat}{X:Nat→V6 (Int×Bl)}{C:Nat→Nat}{u:V6 Ent}(L:Lev F t am h n base X C)(hn:u.length=n)(hu:∀ k,k<n→(u.getD k Zn).2.1=leB ((base+k:Nat):Int) 4)(hh:∀ k,k<n→∃ v r,X k=((u.getD k Zn).1,v)::r)
  (hs:∀ a b,a<b→b<n→∀ x∈X a,∀ y∈X b,x.1<y.1) (hs1:∀ a,a<n→(X a).Pairwise fun x y=>x.1<y.1) (E:EntsOk 4 u) (h1:1≤t) (h2:t≤5) (hn1:1≤n) (hb1:1≤base) (hF:LaidF F t false 18 4 u (base+n)) (hl:F.length=len) (hb:(base+n+ovN n 18)*256≤len) (h4:base+n+ovN n 18≤14400) :
  Lev F t am (h+1) (ovN n 18) (base+n) (fun i=>(range (Yq n 18 i)).flatMap fun j=>X (i*18+j)) (fun i=>1+((range (Yq n 18 i)).map fun j=>C (i*18+j)).sum) where
 one _ _:=M5 _ _
 go i hi d me lo hi' s hd hw hway hr hX hdry hfu hdeep:=by
  subst hn;obtain⟨d',rfl⟩:∃ d',d=d'+1:=⟨d-1,M0⟩;have N:=Mu E h1 h2 (dx:=false) (m:=18) (v:=4) rfl rfl (fun _=>hn1) hi;have B:=Ar N;obtain⟨he,a6⟩:=Ze2 N hl M0 M0 (hF i hi) t (.inr rfl);have b5:=Zma (m:=18) Do hn1 hi;have a2:=Hu u 18 i;have a3:∀ j,j<Yq u.length 18 i→(Xb u 18 i).getD j Zn=u.getD (i*18+j) Zn:=fun j hj=>Hq hj;have b8:1≤Yq u.length 18 i:=by unfold Yq;omega
  have b1:i*18+Yq u.length 18 i≤u.length:=by unfold Yq;omega
  replace hX:∀ x∈(range (Yq u.length 18 i)).flatMap (fun j=>X (i*18+j)),lo≤x.1∧x.1<hi':=hX;replace hfu:((s.looked+(1+((range (Yq u.length 18 i)).map fun j=>C (i*18+j)).sum):Nat):Int)≤am:=hfu;show ∃ (es:V6 Ent) (bl:V6 Int),es.map kvE=(range (Yq u.length 18 i)).flatMap (fun j=>X (i*18+j))∧bl.length=1+((range (Yq u.length 18 i)).map fun j=>C (i*18+j)).sum∧Xc F t am (d'+1) me ((base+u.length+i:Nat):Int) lo hi' s={ s with es:=s.es++es,bs:=s.bs++bl,deep:=((me.length+(h+1)+1:Nat):Int),looked:=s.looked+(1+((range (Yq u.length 18 i)).map fun j=>C (i*18+j)).sum) };generalize Yq u.length 18 i=z at a2 a3 b8 b1 hX hfu ⊢;obtain⟨no,b6⟩:∃ no:Int,no=((base+u.length+i:Nat):Int):=⟨_,rfl⟩;rw[←b6] at he a6 ⊢;have hC:Xa (inB F no)=(Xb u 18 i).length:=by rw[a6];exact B.c
  have hK:Hj F no=Vy (Xb u 18 i):=by unfold Hj;rw[hC,a6];exact B.k
  have hV:Um F no=Hh (Xb u 18 i):=by unfold Um;rw[hC,a6];exact B.v
  have hL:Yg (inB F no)=false:=by rw[a6];exact B.l
  have a9:(Vy (Xb u 18 i)).length=z:=by rw[Cv,a2]
  have b9:(Hh (Xb u 18 i)).length=z:=by rw[Ci,a2]
  have b2:∀ j,j<z→(Vy (Xb u 18 i)).getD j 0=(u.getD (i*18+j) Zn).1:=fun j hj=>by rw[Oz (by rw[a2];exact hj),a3 j hj]
  have a8:∀ j,j<z→(Hh (Xb u 18 i)).getD j []=(u.getD (i*18+j) Zn).2.1:=fun j hj=>by rw[Za7 (by rw[a2];exact hj),a3 j hj]
  have a7:∀ j,j<z→0≤(Vy (Xb u 18 i)).getD j 0∧(Vy (Xb u 18 i)).getD j 0≤281474976710655:=fun j hj=>N.hk0 j (by rw[a2];exact hj);have a5:∀ j,j+1<z→(Vy (Xb u 18 i)).getD j 0<(Vy (Xb u 18 i)).getD (j+1) 0:=fun j hj=>N.hk1 j (by rw[a2];exact hj);have a1:=Io N;have b7:(Xb u 18 i).length=z:=a2;generalize Vy (Xb u 18 i)=K at hK a9 b2 a7 a5 a1;generalize Hh (Xb u 18 i)=Vs at hV b9 a8;rw[b7] at hC;have b0:∀ j,j<z→∀ x∈X (i*18+j),lo≤x.1∧x.1<hi':=fun j hj x hx=>hX x (List.mem_flatMap.2 ⟨j,A7.2 hj,hx⟩);have a0:∀ j,j<z→∃ v r,X (i*18+j)=(K.getD j 0,v)::r:=fun j hj=>by rw[b2 j hj];exact hh _ M0
  have b3:∀ j,j<z→lo≤K.getD j 0∧K.getD j 0<hi':=by
   intro j hj;obtain⟨v,r,hv⟩:=a0 j hj;exact b0 j hj (K.getD j 0,v) (by rw[hv];exact D6)
  have hk:∀ x∈K,lo≤x∧x<hi':=by
   intro x hx;obtain⟨j,hj,rfl⟩:=List.mem_iff_getElem.1 hx;have:=b3 j M0;simpa [getD,hj] using this
  have b4:=U1 hr;have a4:Yy F me no t lo hi' s.deep=0:=Ztl M0 (fun y hy=>by have:=hway y hy;omega) he hr (by rw[hK];exact a1) (by rw[hK];exact hk) fun q=>by rw[hL] at q;cases q
  obtain⟨es,bl,e1,e2,e3⟩:=lev_loop L (me:=me) (no:=no) (hi':=hi') (s0:={ s with looked:=s.looked+1,bs:=s.bs++[no] }) (z:=z) (a:=i*18) (d':=d') K hK a9 b1
   (fun k hk=>by rw[hV,a8 k hk];exact hu _ M0) a0 hs hs1 (fun k hk=>⟨(a7 k hk).1,(b3 k hk).2⟩) a5 (fun k hk x hx=>(b0 k hk x hx).2) b4.2.2 hb1 M0 M0 M0 (fun y hy=>by have:=hway y hy;omega) M0 hdry (by rw[show me.length+(h+1)+1=me.length+(h+1)+1 from rfl];exact hdeep) (by simp only;omega) z (At _)
  refine⟨es,no::bl,e1,by rw[C5,e2];omega,?_⟩;unfold Xc;rw[V7 M0,V7 (by rw[a4];simp),V7 (by rw[hL];simp),hC,e3,V7 M0];simp only[WS.mk.injEq,A4,List.singleton_append,true_and,and_true];omega
theorem Zdf{n m:Nat}(hm:1≤m)(C:Nat→Nat):∀ j,j≤ovN n m→((range j).map fun i=>1+((range (Yq n m i)).map fun k=>C (i*m+k)).sum).sum=j+((range (min (j*m) n)).map C).sum
 | 0,_=>by simp
 | j+1,hj=>by
  have a0:=Zg3 hm (show j<ovN n m by omega);have e:min ((j+1)*m) n=j*m+Yq n m j:=by unfold Yq;rw[G8,I1];omega
  rw[B8,A6,E8,Zdf hm C j M0,e,P1,A6,E8,I4 a0];simp only[D7,H0,G3,N9,L5];have:((range (Yq n m j)).map fun k=>C (j*m+k))=(range (Yq n m j)).map (C ∘ fun x=>j*m+x):=rfl;rw[this];omega
theorem Gl{α:Type}{n m:Nat}(hm:1≤m)(X:Nat→V6 α):∀ j,j≤ovN n m→((range j).flatMap fun i=>(range (Yq n m i)).flatMap fun k=>X (i*m+k))=(range (min (j*m) n)).flatMap X
 | 0,_=>by simp
 | j+1,hj=>by
  have a0:=Zg3 hm (show j<ovN n m by omega);have e:min ((j+1)*m) n=j*m+Yq n m j:=by unfold Yq;rw[G8,I1];omega
  rw[B8,C7,Gl hm X j M0,e,P1,C7,I4 a0];simp[List.flatMap_map]
theorem It{n m:Nat}(hm:1≤m):min (ovN n m*m) n=n:=by
 have h:=Nat.div_add_mod (n+m-1) m;have h2:=Nat.mod_lt (n+m-1) (show 0<m by omega);have h3:(n+m-1)/m*m≤ovN n m*m:=F1 m (by unfold ovN;omega);rw[M4] at h;omega
def Zmb(X:V6 (Int×Bl))(total deep:Nat)(w:WS):Prop:=∃ (es:V6 Ent) (bl:V6 Int),es.map kvE=X∧bl.length=total∧w=⟨es,bl,(deep:Int),total,[],false⟩
theorem Zl0{t am:Int}(h1:1≤t)(h2:t≤5)(n:Nat):∀ (u:V6 Ent) (h base:Nat) (bs F:Bl) (X:Nat→V6 (Int×Bl)) (C:Nat→Nat),u.length=n→1≤n→EntsOk 4 u→(∀ k,k<n→(u.getD k Zn).2.1=leB ((base+k:Nat):Int) 4∧(u.getD k Zn).2.2=((base+k:Nat):Int)) →
 (2≤n→∀ k,k<n→∃ v r,X k=((u.getD k Zn).1,v)::r)→(∀ a b,a<b→b<n→∀ x∈X a,∀ y∈X b,x.1<y.1)→(∀ a,a<n→(X a).Pairwise fun x y=>x.1<y.1)→F=(Qs t u (base+n) bs).2→1≤base→(base+n+((Vz n).sum-n))*256≤bs.length→base+n+((Vz n).sum-n)≤14400→Lev F t am h n base X C→h+(Vz n).length≤16 →
 (∀ k,k<n→∀ x∈X k,0≤x.1∧x.1<281474976710656)→((((range n).map C).sum+((Vz n).sum-n):Nat):Int)≤am →
 Zmb ((range n).flatMap X) (((range n).map C).sum+((Vz n).sum-n)) (h+(Vz n).length) (Ze F (Qs t u (base+n) bs).1 t am):=by
 induction n using Nat.strongRecOn with
 | _ n ih =>
  intro u h base bs F X C hn b3 E hu hh hs c0 hF c2 c1 h4 L a0 hX a8
  subst hn
  by_cases h9:u.length≤1
  ·have b9:u.length=1:=M0
   have c3:Vz u.length=[1]:=by rw[Ja h9,b9]
   rw[c3] at a0 a8 ⊢
   rw[b9] at a8 ⊢
   simp only[C5,E4,G3,N9,List.range_one,D7,H0,E7,K9,F4,Nat.sub_self,G4] at a0 a8 ⊢
   rw[Kb h9,(hu 0 M0).2]
   obtain⟨es,bl,e1,e2,e3⟩:=L.go 0 M0 17 [] 0 281474976710656 ws0 M0 (by simp;omega) (fun y hy=>by cases hy) Do (fun x hx=>hX 0 M0 x hx) rfl (by simp only[ws0];omega) (.inl rfl)
   refine⟨es,bl,e1,e2,?_⟩
   unfold Ze
   rw[e3]
   simp[ws0]
  ·have c5:=Znf (x:=u.length) M0
   have hp:=Yu u.length 18
   have b7:Vz u.length=u.length::Vz (ovN u.length 18):=Qv h9
   have hg:=Vu (ovN u.length 18)
   rw[b7] at c1 h4 a0 a8
   simp only[G3,C5] at c1 h4 a0 a8
   obtain⟨a1,a2,a3⟩:=Qw (t:=t) (dx:=false) (m:=18) (v:=4) (l:=u) (q:=base+u.length) (bs:=bs) E h1 h2 rfl rfl (fun _=>by omega) (ovN u.length 18) (At _) M0
   obtain⟨b1,b2⟩:=Ha (t:=t) h1 h2 (ovN u.length 18) (upE u 18 (base+u.length) (ovN u.length 18)) (base+u.length+ovN u.length 18) (Pp t false 18 4 u (base+u.length) bs (ovN u.length 18)) (Xk _ _ _ _) hp (Mm E Do) (by rw[a1];omega)
   have b6:F=(Qs t (upE u 18 (base+u.length) (ovN u.length 18)) (base+u.length+ovN u.length 18) (Pp t false 18 4 u (base+u.length) bs (ovN u.length 18))).2:=by rw[hF,Qn h9]
   have b4:F.length=bs.length:=by rw[b6,b1,a1]
   have a7:LaidF F t false 18 4 u (base+u.length):=by
    intro i hi;rw[b6,b2 _ M0];exact a2 i hi
   have L2:=Zyl L rfl (fun k hk=>(hu k hk).1) (hh M0) hs c0 E h1 h2 b3 c2 a7 b4 M0 M0
   have a9:∀ i,Yq u.length 18 i=min 18 (u.length-i*18):=fun i=>rfl
   have b8:∀ i,i<ovN u.length 18→i*18<u.length:=fun i hi=>Zma Do b3 hi
   have b0:=It (n:=u.length) (m:=18) Do
   have a6:=Zdf (n:=u.length) (m:=18) Do C (ovN u.length 18) (At _)
   have a4:=Gl (n:=u.length) (m:=18) Do X (ovN u.length 18) (At _)
   rw[b0] at a6 a4
   have b5:=ih (ovN u.length 18) M0 (upE u 18 (base+u.length) (ovN u.length 18)) (h+1) (base+u.length) (Pp t false 18 4 u (base+u.length) bs (ovN u.length 18)) F (fun i=>(range (Yq u.length 18 i)).flatMap fun j=>X (i*18+j)) (fun i=>1+((range (Yq u.length 18 i)).map fun j=>C (i*18+j)).sum) (Xk _ _ _ _) hp (Mm E Do) (fun k hk=>by rw[Kt hk];exact⟨rfl,rfl⟩)
    (fun _ k hk=>by
     obtain⟨v,r,hv⟩:=hh M0 (k*18) (b8 k hk);obtain⟨z,hz⟩:∃ z,Yq u.length 18 k=z+1:=⟨Yq u.length 18 k-1,by have:=b8 k hk;rw[a9];omega⟩;refine⟨v,r++(range z).flatMap fun j=>X (k*18+(j+1)),?_⟩;show(range (Yq u.length 18 k)).flatMap _=_;rw[hz,List.range_succ_eq_map,E7,G4,hv,Kt hk,(Zje (v:=4) Do b3 hk).1,List.flatMap_map];rfl)
    (fun a b c4 hb x hx y hy=>by
     obtain⟨j,hj,hx⟩:=List.mem_flatMap.1 hx;obtain⟨j2,a5,hy⟩:=List.mem_flatMap.1 hy;have hj:=A7.1 hj;have a5:=A7.1 a5;rw[a9] at hj a5;have:(a+1)*18≤b*18:=F1 18 c4;exact hs (a*18+j) (b*18+j2) M0 M0 x hx y hy)
    (fun a ha=>by
     refine List.pairwise_flatMap.2 ⟨fun j hj=>?_,?_⟩
     ·have hj:=A7.1 hj;rw[a9] at hj;exact c0 _ M0
     ·refine List.Pairwise.imp_of_mem ?_ (List.pairwise_lt_range);intro j j2 hj a5 c6 x hx y hy;have a5:=A7.1 a5;rw[a9] at a5;exact hs (a*18+j) (a*18+j2) M0 M0 x hx y hy)
    b6 M0 (by rw[a1];omega) M0 L2 M0
    (fun k hk x hx=>by
     obtain⟨j,hj,hx⟩:=List.mem_flatMap.1 hx;have hj:=A7.1 hj;rw[a9] at hj;exact hX _ M0 x hx)
    (by rw[a6];omega)
   rw[a6,a4] at b5
   rw[Qn h9,b7,G3,C5]
   have e1:ovN u.length 18+((range u.length).map C).sum+((Vz (ovN u.length 18)).sum-ovN u.length 18)=((range u.length).map C).sum+(u.length+(Vz (ovN u.length 18)).sum-u.length):=M0
   have e2:h+1+(Vz (ovN u.length 18)).length=h+((Vz (ovN u.length 18)).length+1):=M0
   rw[e1,e2] at b5
   exact b5
theorem Zcx:∀ (k x:Nat),x≤18 ^ k→(Vz x).length≤k+1
 | 0,x,h=>by rw[Ja (by simpa using h)];simp
 | k+1,x,h=>by
  by_cases h1:x≤1
  ·rw[Ja h1];simp
  ·rw[Qv h1,C5];have:ovN x 18≤18 ^ k:=by
    rw[M3] at h;have hp:0<18 ^ k:=Nat.pow_pos Do;unfold ovN;have:(x+18-1)/18≤18 ^ k:=by
     rw[Lt Do];omega
    omega
   have:=Zcx k _ this;omega
theorem Zdz{l:V6 Ent}{m:Nat}:∀ j,((range j).flatMap fun i=>(Xb l m i).map kvE)=(l.take (j*m)).map kvE
 | 0=>by simp
 | j+1=>by
  rw[B8,C7,Zdz j,G8,I1,List.take_add,A6];simp[Xb]
theorem Zt1(n:Nat):((range n).map fun _=>1).sum=n:=by
 induction n with
 | zero=>rfl
 | succ n ih=>rw[B8,A6,E8,ih];simp
theorem Dd{t am:Int}{l:V6 Ent}{q:Nat}{bs:Bl}(h1:1≤t)(h2:t≤5)(E:EntsOk (Jl t true) l)(hn:l.length≤32768)(hq:1≤q)(hbs:(q+Zy t l.length)*256≤bs.length)(h4:q+Zy t l.length≤14400)(hfu:(Zy t l.length:Int)≤am) :
 Zmb (l.map kvE) (Zy t l.length) (Ue t l.length).length (Ze (Xf t l q bs).2 (Xf t l q bs).1 t am):=by
 obtain⟨m,hm⟩:∃ m,Jj t true=m:=⟨_,rfl⟩
 obtain⟨v,hv⟩:∃ v,Jl t true=v:=⟨_,rfl⟩
 have a7:=Qc t true
 have h6:6≤Jj t true:=by
  unfold Jj;repeat' split
  all_goals first|decide|simp_all
 have b0:=Yu l.length m
 have hg:=Vu (ovN l.length m)
 have hN:Zy t l.length=(Vz (ovN l.length m)).sum:=by unfold Zy Ue;rw[hm]
 have hT:Xf t l q bs=Qs t (upE l m q (ovN l.length m)) (q+ovN l.length m) (Pp t true m v l q bs (ovN l.length m)):=by unfold Xf;rw[hm,hv]
 have hD:(Ue t l.length).length=0+(Vz (ovN l.length m)).length:=by unfold Ue;rw[hm,F5]
 rw[hv] at E
 rw[hm] at a7 h6
 rw[hN] at hbs h4 hfu ⊢
 rw[hD,hT]
 obtain⟨a1,a2,a3⟩:=Qw (t:=t) (dx:=true) (m:=m) (v:=v) (l:=l) (q:=q) (bs:=bs) E h1 h2 hm hv (fun h=>by cases h) (ovN l.length m) (At _) M0
 obtain⟨b1,b2⟩:=Ha (t:=t) h1 h2 (ovN l.length m) (upE l m q (ovN l.length m)) (q+ovN l.length m) (Pp t true m v l q bs (ovN l.length m)) (Xk _ _ _ _) b0 (Mm E a7.1) (by rw[a1];omega)
 have a9:(Qs t (upE l m q (ovN l.length m)) (q+ovN l.length m) (Pp t true m v l q bs (ovN l.length m))).2.length=bs.length:=by rw[b1,a1]
 have a6:LaidF (Qs t (upE l m q (ovN l.length m)) (q+ovN l.length m) (Pp t true m v l q bs (ovN l.length m))).2 t true m v l q:=by
   intro i hi;rw[b2 _ M0];exact a2 i hi
 have L:=lev_leaf (am:=am) hm hv E h1 h2 a6 a9 M0 M0
 have b3:ovN l.length m≤5833:=by
   unfold ovN;have:(l.length+m-1)/m≤5833:=by
    rw[Lt M0];have:=F1 5833 h6;omega
   omega
 have b7:=Zcx 4 (ovN l.length m) (N0 b3 Do)
 have a4:∀ {i j:Nat},j<Yq l.length m i→i*m+j<l.length:=fun {i j} hj=>by unfold Yq at hj;omega
 have a0:∀ {i:Nat} {x:Int×Bl},x∈(Xb l m i).map kvE→∃ j,j<Yq l.length m i∧x=kvE (l.getD (i*m+j) Zn):=by
   intro i x hx;obtain⟨y,hy,rfl⟩:=List.mem_map.1 hx;obtain⟨j,hj,rfl⟩:=List.mem_iff_getElem.1 hy;have a5:j<Yq l.length m i:=(by rw[←Hu];exact hj);refine⟨j,a5,?_⟩;rw[←Hq a5];simp[getD,hj]
 have a8:=Zl0 (am:=am) h1 h2 (ovN l.length m) (upE l m q (ovN l.length m)) 0 q (Pp t true m v l q bs (ovN l.length m)) _ (fun i=>(Xb l m i).map kvE) (fun _=>1) (Xk _ _ _ _) b0 (Mm E a7.1) (fun k hk=>by rw[Kt hk];exact⟨rfl,rfl⟩)
   (fun b4 k hk=>by
    have b5:1≤l.length:=by
     rcases H8 l.length with q0|q0
     ·rw[q0] at b4;have:ovN 0 m=1:=(by unfold ovN;rw[Nat.div_eq_of_lt M0];rfl);omega
     ·exact q0
    obtain⟨k1,k2⟩:=Zje (v:=v) (q:=q) a7.1 b5 hk;have hz:0<Yq l.length m k:=(by unfold Yq;omega);rw[Kt hk,k1];have hc:=Hu l m k;cases hcc:Xb l m k with
    | nil=>rw[hcc] at hc;simp at hc;omega
    | cons y r =>
     refine⟨y.2.1,r.map kvE,?_⟩;have h0:=Hq (l:=l) (m:=m) (i:=k) (j:=0) hz;rw[hcc,G4] at h0;simp only[D7];have e0:y=l.getD (k*m) Zn:=(by simpa [getD] using h0);rw[e0];rfl)
   (fun a b b8 hb x hx y hy=>by
    obtain⟨j,hj,rfl⟩:=a0 hx;obtain⟨j2,a5,rfl⟩:=a0 hy;have:(a+1)*m≤b*m:=F1 m b8;rw[G8,I1] at this;have c0:j<m:=(by unfold Yq at hj;omega);exact E.mono (a:=a*m+j) (b:=b*m+j2) M0 (a4 a5))
   (fun a ha=>by
    rw[List.pairwise_map];refine List.pairwise_iff_getElem.2 fun i j hi hj b9=>?_;have a5:j<Yq l.length m a:=(by rw[←Hu];exact hj);have e1:=Hq (l:=l) (m:=m) (i:=a) (j:=i) M0;have e2:=Hq (l:=l) (m:=m) (i:=a) (j:=j) a5;simp only[getD,A9 hi,A9 hj,K2] at e1 e2;show(Xb l m a)[i].1<(Xb l m a)[j].1;rw[e1,e2];exact E.mono (a:=a*m+i) (b:=a*m+j) M0 (a4 a5))
   rfl hq (by rw[a1];omega) M0 L M0
   (fun k hk x hx=>by
    obtain⟨j,hj,rfl⟩:=a0 hx;have:=E.hk _ (a4 hj);exact⟨this.1,by have:=this.2;simp only[kvE];omega⟩)
   (by rw[Zt1];omega)
 rw[Zt1,Zdz] at a8
 rw[show ovN l.length m+((Vz (ovN l.length m)).sum-ovN l.length m)=(Vz (ovN l.length m)).sum by omega] at a8
 have b6:=It (n:=l.length) (m:=m) a7.1
 rw[B9 M0] at a8
 exact a8
theorem Zbm{l x y:Bl}{a b:Nat}(ha:a+x.length≤l.length)(hb:b+y.length≤l.length)(hd:a+x.length≤b∨b+y.length≤a):Qj (Qj l a x) b y=Qj (Qj l b y) a x:=by
 have e1:=Yk ha;have e2:=Yk hb;apply Az
 ·rw[Yk (by rw[e1];exact hb),e1,Yk (by rw[e2];exact ha),e2]
 ·intro j hj;rw[Jz (by rw[e1];exact hb),Jz ha,Jz (by rw[e2];exact ha),Jz hb];by_cases p:a≤j∧j<a+x.length
  ·rw[V7 M0,V8 p,V8 p]
  ·rw[V7 p,V7 p]
theorem Zmx{t:Int}{dx:Bool}{m v:Nat}{l:V6 Ent}{q k:Nat}{bs x:Bl}(E:EntsOk v l)(h1:1≤t)(h2:t≤5)(hm:Jj t dx=m)(hv:Jl t dx=v)(hl:dx=false→1≤l.length)(hx:x.length=256)(hk:(k+1)*256≤bs.length)(j:Nat) :
 j≤ovN l.length m→(q+j)*256≤bs.length→(k<q∨q+j≤k)→Qj (Pp t dx m v l q bs j) (k*256) x=Pp t dx m v l q (Qj bs (k*256) x) j:=by
 induction j with
 | zero=>exact fun _ _ _=>by simp only[Pp]
 | succ j ih =>
  intro hj hq hd
  have ih:=ih M0 M0 M0
  have a1:=(Qw (t:=t) (dx:=dx) (m:=m) (v:=v) (l:=l) (q:=q) (bs:=bs) E h1 h2 hm hv hl j M0 M0).1
  have a0:=Am (Mu E h1 h2 hm hv hl (show j<ovN l.length m by omega))
  have a2:(Yf 2 ((q+j:Nat):Int) (Zs9 t dx m v (Xb l m j))).length=256:=Yr (by rw[a0];decide)
  rw[Cr,Cr,←ih]
  exact Zbm (by rw[a2,a1];omega) (by rw[hx,a1];omega) (by rw[a2,hx];omega)
theorem Zo1{t:Int}(h1:1≤t)(h2:t≤5){k:Nat}{x:Bl}(hx:x.length=256)(n:Nat):∀ (u:V6 Ent) (q:Nat) (bs:Bl),u.length=n→1≤n→EntsOk 4 u→(q+((Vz n).sum-n))*256≤bs.length→(k+1)*256≤bs.length→(k<q∨q+((Vz n).sum-n)≤k) →
 Qs t u q (Qj bs (k*256) x)=((Qs t u q bs).1,Qj (Qs t u q bs).2 (k*256) x):=by
 induction n using Nat.strongRecOn with
 | _ n ih =>
  intro u q bs hn a5 E hq hk hd
  subst hn
  by_cases h:u.length≤1
  ·rw[Kb h,Kb h]
  ·have a4:=Znf (x:=u.length) M0
   have hp:=Yu u.length 18
   have a0:(Vz u.length).sum=u.length+(Vz (ovN u.length 18)).sum:=by rw[Qv h];rfl
   have hg:=Vu (ovN u.length 18)
   rw[Qn h,Qn h]
   obtain⟨a1,a2,a3⟩:=Qw (t:=t) (dx:=false) (m:=18) (v:=4) (l:=u) (q:=q) (bs:=bs) E h1 h2 rfl rfl (fun _=>by omega) (ovN u.length 18) (At _) M0
   rw[←Zmx (dx:=false) (m:=18) (v:=4) E h1 h2 rfl rfl (fun _=>by omega) hx hk (ovN u.length 18) (At _) M0 M0]
   exact ih (ovN u.length 18) M0 (upE u 18 q (ovN u.length 18)) (q+ovN u.length 18) _ (Xk _ _ _ _) hp (Mm E Do) (by rw[a1];omega) (by rw[a1];exact hk) M0
theorem Ho{t:Int}{l:V6 Ent}{q k:Nat}{bs x:Bl}(h1:1≤t)(h2:t≤5)(E:EntsOk (Jl t true) l)(hx:x.length=256)(hq:(q+Zy t l.length)*256≤bs.length)(hk:(k+1)*256≤bs.length)(hd:k<q∨q+Zy t l.length≤k) :
 Xf t l q (Qj bs (k*256) x)=((Xf t l q bs).1,Qj (Xf t l q bs).2 (k*256) x):=by
 obtain⟨m,hm⟩:∃ m,Jj t true=m:=⟨_,rfl⟩
 have a0:=Qc t true
 have a4:=Yu l.length m
 have hg:=Vu (ovN l.length m)
 have hN:Zy t l.length=(Vz (ovN l.length m)).sum:=by unfold Zy Ue;rw[hm]
 rw[hm] at a0
 rw[hN] at hq hd
 unfold Xf
 rw[hm]
 obtain⟨a1,a2,a3⟩:=Qw (t:=t) (dx:=true) (m:=m) (v:=Jl t true) (l:=l) (q:=q) (bs:=bs) E h1 h2 hm rfl (fun h=>by cases h) (ovN l.length m) (At _) M0
 rw[←Zmx E h1 h2 hm rfl (fun h=>by cases h) hx hk (ovN l.length m) (At _) M0 M0]
 exact Zo1 h1 h2 hx (ovN l.length m) (upE l m q (ovN l.length m)) (q+ovN l.length m) _ (Xk _ _ _ _) a4 (Mm E a0.1) (by rw[a1];omega) (by rw[a1];exact hk) M0
theorem Qa{t:Int}{l:V6 Ent}{q:Nat}{bs:Bl}(h1:1≤t)(h2:t≤5)(E:EntsOk (Jl t true) l)(hq:(q+Zy t l.length)*256≤bs.length):(Xf t l q bs).2.length=bs.length∧∀ x,x<q→Kc (Xf t l q bs).2 x=Kc bs x:=by
 obtain⟨m,hm⟩:∃ m,Jj t true=m:=⟨_,rfl⟩;have a0:=Qc t true;have a4:=Yu l.length m;have hg:=Vu (ovN l.length m);have hN:Zy t l.length=(Vz (ovN l.length m)).sum:=by unfold Zy Ue;rw[hm]
 rw[hm] at a0;rw[hN] at hq;unfold Xf;rw[hm];obtain⟨a1,a2,a3⟩:=Qw (t:=t) (dx:=true) (m:=m) (v:=Jl t true) (l:=l) (q:=q) (bs:=bs) E h1 h2 hm rfl (fun h=>by cases h) (ovN l.length m) (At _) M0;obtain⟨b1,b2⟩:=Ha (t:=t) h1 h2 (ovN l.length m) (upE l m q (ovN l.length m)) (q+ovN l.length m) (Pp t true m (Jl t true) l q bs (ovN l.length m)) (Xk _ _ _ _) a4 (Mm E a0.1) (by rw[a1];omega);exact⟨by rw[b1,a1],fun x hx=>by rw[b2 x M0,a3 x hx]⟩
theorem Zih{t s:Int}{dx:Bool}{m v:Nat}{l e:V6 Ent}{q p:Nat}{bs:Bl}(E:EntsOk v l)(h1:1≤t)(h2:t≤5)(hm:Jj t dx=m)(hv:Jl t dx=v)(hl:dx=false→1≤l.length)(s1:1≤s)(s2:s≤5)(Es:EntsOk (Jl s true) e)(hp:(p+Zy s e.length)*256≤bs.length)(j:Nat) :
 j≤ovN l.length m→(q+j)*256≤bs.length→p+Zy s e.length≤q→Xf s e p (Pp t dx m v l q bs j)=((Xf s e p bs).1,Pp t dx m v l q (Xf s e p bs).2 j):=by
 induction j with
 | zero=>exact fun _ _ _=>by simp only[Pp]
 | succ j ih =>
  intro hj hq hd
  have ih:=ih M0 M0 hd
  have a1:=(Qw (t:=t) (dx:=dx) (m:=m) (v:=v) (l:=l) (q:=q) (bs:=bs) E h1 h2 hm hv hl j M0 M0).1
  have a0:=Am (Mu E h1 h2 hm hv hl (show j<ovN l.length m by omega))
  have a2:(Yf 2 ((q+j:Nat):Int) (Zs9 t dx m v (Xb l m j))).length=256:=Yr (by rw[a0];decide)
  rw[Cr,Cr,Ho s1 s2 Es a2 (by rw[a1];exact hp) (by rw[a1];omega) M0,ih]
theorem Zj5{t s:Int}{e:V6 Ent}{p:Nat}(h1:1≤t)(h2:t≤5)(s1:1≤s)(s2:s≤5)(Es:EntsOk (Jl s true) e)(n:Nat):∀ (u:V6 Ent) (q:Nat) (bs:Bl),u.length=n→1≤n→EntsOk 4 u→(q+((Vz n).sum-n))*256≤bs.length→(p+Zy s e.length)*256≤bs.length→p+Zy s e.length≤q →
 Xf s e p (Qs t u q bs).2=((Xf s e p bs).1,(Qs t u q (Xf s e p bs).2).2):=by
 induction n using Nat.strongRecOn with
 | _ n ih =>
  intro u q bs hn a6 E hq hp hd
  subst hn
  by_cases h:u.length≤1
  ·rw[Kb h,Kb h]
  ·have a5:=Znf (x:=u.length) M0
   have a0:=Yu u.length 18
   have a4:(Vz u.length).sum=u.length+(Vz (ovN u.length 18)).sum:=by rw[Qv h];rfl
   have hg:=Vu (ovN u.length 18)
   obtain⟨a1,a2,a3⟩:=Qw (t:=t) (dx:=false) (m:=18) (v:=4) (l:=u) (q:=q) (bs:=bs) E h1 h2 rfl rfl (fun _=>by omega) (ovN u.length 18) (At _) M0
   have hl:=Zih (dx:=false) (m:=18) (v:=4) (p:=p) E h1 h2 rfl rfl (fun _=>by omega) s1 s2 Es hp (ovN u.length 18) (At _) M0 hd
   rw[Qn h,Qn h,ih (ovN u.length 18) M0 (upE u 18 q (ovN u.length 18)) (q+ovN u.length 18) _ (Xk _ _ _ _) a0 (Mm E Do) (by rw[a1];omega) (by rw[a1];exact hp) M0,hl]
theorem Wi{t s:Int}{l e:V6 Ent}{q p:Nat}{bs:Bl}(h1:1≤t)(h2:t≤5)(E:EntsOk (Jl t true) l)(s1:1≤s)(s2:s≤5)(Es:EntsOk (Jl s true) e)(hq:(q+Zy t l.length)*256≤bs.length)(hd:p+Zy s e.length≤q) :
 Xf s e p (Xf t l q bs).2=((Xf s e p bs).1,(Xf t l q (Xf s e p bs).2).2):=by
 obtain⟨m,hm⟩:∃ m,Jj t true=m:=⟨_,rfl⟩
 have a4:=Qc t true
 have a5:=Yu l.length m
 have hg:=Vu (ovN l.length m)
 have hN:Zy t l.length=(Vz (ovN l.length m)).sum:=by unfold Zy Ue;rw[hm]
 rw[hm] at a4
 rw[hN] at hq
 have a0:(p+Zy s e.length)*256≤bs.length:=M0
 obtain⟨a1,a2,a3⟩:=Qw (t:=t) (dx:=true) (m:=m) (v:=Jl t true) (l:=l) (q:=q) (bs:=bs) E h1 h2 hm rfl (fun h=>by cases h) (ovN l.length m) (At _) M0
 have hl:=Zih (p:=p) E h1 h2 hm rfl (fun h=>by cases h) s1 s2 Es a0 (ovN l.length m) (At _) M0 hd
 have hu:=Zj5 (p:=p) h1 h2 s1 s2 Es (ovN l.length m) (upE l m q (ovN l.length m)) (q+ovN l.length m) (Pp t true m (Jl t true) l q bs (ovN l.length m)) (Xk _ _ _ _) a5 (Mm E a4.1) (by rw[a1];omega) (by rw[a1];exact a0) M0
 rw[show(Xf t l q bs)=Qs t (upE l m q (ovN l.length m)) (q+ovN l.length m) (Pp t true m (Jl t true) l q bs (ovN l.length m)) from by unfold Xf;rw[hm],hu,hl]
 rw[show(Xf t l q (Xf s e p bs).2)=Qs t (upE l m q (ovN l.length m)) (q+ovN l.length m) (Pp t true m (Jl t true) l q (Xf s e p bs).2 (ovN l.length m)) from by unfold Xf;rw[hm]]
def Ak:V6 Ly:=[(4,3,2147483647)]
theorem cntP_ok:Gm Ak:=by
 refine⟨Do,fun i hi=>?_⟩;have a0:i<1:=hi;obtain rfl:i=0:=M0;simp[Ak,getD]
def Gf(F:V6 Int):V6 Int:=((range F.length).filter fun k=>F.getD k 0==3).map fun k:Nat=>(k:Int)
theorem Ol(F:V6 Int)(n:Int):Gf (F++[n])=Gf F++(if n=3 then [(F.length:Int)] else []):=by
 unfold Gf;rw[A1,List.length_singleton,B8,List.filter_append,A6];congr 1
 ·congr 1;apply List.filter_congr;intro k hk;have a0:=A7.1 hk;simp[getD,G5 a0]
 ·by_cases h:n=3
  ·simp[getD,h]
  ·simp[getD,h]
theorem Zeb{F:V6 Int}{k:Int}:k∈Gf F↔0≤k∧F.getD k.toNat 0=3:=by
 unfold Gf;simp only[List.mem_map,List.mem_filter,A7,beq_iff_eq];constructor
 ·rintro⟨j,⟨_,h⟩,rfl⟩;exact⟨M0,by simpa using h⟩
 ·rintro⟨h0,h⟩;refine⟨k.toNat,⟨?_,h⟩,M0⟩;apply Nat.lt_of_not_le;intro q;rw[show F.getD k.toNat 0=0 from by simp[getD,q]] at h;omega
theorem Zh8(F:V6 Int):(Gf F).Nodup:=by
 unfold Gf;refine List.Pairwise.map _ (R:=fun a b=>a≠b) (fun a b h=>by omega) ?_;exact List.Pairwise.filter _ (List.nodup_range)
def Gc(E:V6 Ent)(i:Nat):Int:=(E.getD i Zn).1
def Nj(E:V6 Ent)(i:Nat):Int:=if i=0 then -1 else Gc E (i-1)
def jVal(E:V6 Ent)(i:Nat):Int:=((Xq Ak (E.getD i Zn).2.1).getD 0 0:Nat)
def Zjm(F:V6 Int)(E:V6 Ent)(i:Nat):Int :=
 if Gc E i≤Nj E i then 8 else if F.getD (Gc E i).toNat 0≠3 then 13 else Xn Ak (E.getD i Zn).2.1
def jOk (F:V6 Int)(E:V6 Ent)(i:Nat):Prop:=∀ j,j<i→Zjm F E j=0
theorem jOk_next{F:V6 Int}{E:V6 Ent}{i:Nat}(h:jOk F E i)(h2:Zjm F E i=0):jOk F E (i+1):=fun j hj=>by
 by_cases e:j=i
 ·subst e;exact h2
 ·exact h j M0
theorem Zkm{F:V6 Int}{E:V6 Ent}{i:Nat}(h:Zjm F E i=0):Nj E i<Gc E i∧F.getD (Gc E i).toNat 0=3∧Xn Ak (E.getD i Zn).2.1=0:=by
 unfold Zjm at h;by_cases h1:Gc E i≤Nj E i
 ·rw[V8 h1] at h;omega
 ·rw[V7 h1] at h;by_cases h2:F.getD (Gc E i).toNat 0=3
  ·rw[V7 (fun q=>q h2)] at h;exact⟨M0,h2,h⟩
  ·rw[V8 h2] at h;omega
theorem Rk{F:V6 Int}{E:V6 Ent}{i:Nat}(h:jOk F E i) : -1≤Nj E i∧∀ j,j<i→0≤Gc E j∧Gc E j≤Nj E i∧F.getD (Gc E j).toNat 0=3:=by
 induction i with
 | zero=>exact⟨by unfold Nj;rw[V8 rfl];exact N5 _,fun j hj=>absurd hj M0⟩
 | succ i ih =>
  obtain⟨h1,h2⟩:=ih fun j hj=>h j M0;have hb:=Zkm (h i M0);have e:Nj E (i+1)=Gc E i:=by unfold Nj;rw[V7 M0,N1]
  rw[e];refine⟨M0,fun j hj=>?_⟩;by_cases q:j=i
  ·subst q;exact⟨M0,N5 _,hb.2.1⟩
  ·have:=h2 j M0;exact⟨this.1,M0,this.2.2⟩
theorem Zvw{F:V6 Int}{E:V6 Ent}{i:Nat}(h:jOk F E i):∀ a b,a<b→b<i→Gc E a<Gc E b:=fun a b a0 hb=>by
 have h1:=(Rk (i:=b) fun j hj=>h j M0).2 a a0;have h2:=Zkm (h b hb);omega
def Mj(F:V6 Int)(E:V6 Ent)(i:Nat):V6 Int:=(Gf F).filter fun k=>(range i).all fun j=>Gc E j != k
theorem Zq6(F:V6 Int)(E:V6 Ent):Mj F E 0=Gf F:=by simp[Mj]
theorem Zjw(F:V6 Int)(E:V6 Ent)(i:Nat):(Mj F E i).Nodup:=List.Pairwise.filter _ (Zh8 F)
theorem Ziz{F:V6 Int}{E:V6 Ent}{i:Nat}{k:Int}:k∈Mj F E i↔(0≤k∧F.getD k.toNat 0=3)∧∀ j,j<i→Gc E j≠k:=by
 unfold Mj;rw[List.mem_filter,Zeb];simp
theorem Zmz{F:V6 Int}{E:V6 Ent}{i:Nat}(h:jOk F E i)(hk:Nj E i<Gc E i):Gc E i∈Mj F E i↔F.getD (Gc E i).toNat 0=3:=by
 have hl:=Rk h;rw[Ziz];constructor
 ·exact fun q=>q.1.2
 ·exact fun q=>⟨⟨M0,q⟩,fun j hj e=>by have:=hl.2 j hj;omega⟩
theorem Zzf(F:V6 Int)(E:V6 Ent)(i:Nat):(Mj F E i).erase (Gc E i)=Mj F E (i+1):=by
 rw[(Zjw F E i).erase_eq_filter];unfold Mj;rw[List.filter_filter];apply List.filter_congr;intro k _;have e:([i].all fun j=>Gc E j != k)=(k != Gc E i):=by
  show(Gc E i != k&&true)=_;rw[Bool.and_true,bne_comm]
 rw[B8,List.all_append,e];exact Bool.and_comm _ _
def Zlo(E:V6 Ent)(i k:Nat):Option Nat:=(range i).find? fun j=>Gc E j==(k:Int)
theorem Zpy{E:V6 Ent}{i k:Nat}(h:∀ j,j<i→Gc E j≠(k:Int)):Zlo E i k=none:=by
 unfold Zlo;rw[N3];intro j hj;have:=h j (A7.1 hj);simpa using this
theorem Zds{E:V6 Ent}{i k j:Nat}(hj:j<i)(hk:Gc E j=(k:Int))(hn:∀ m,m<j→Gc E m≠(k:Int)):Zlo E i k=some j:=by
 unfold Zlo;rw[L0];exact⟨by simpa using hk,A7.2 hj,fun m hm=>by simpa using hn m hm⟩
def Zwz(F:V6 Int)(E:V6 Ent)(i k:Nat):Int:=match Zlo E i k with|some j=>jVal E j|none=>F.getD k 0
def Zgs(F:V6 Int)(E:V6 Ent)(i:Nat):V6 Int:=(range F.length).map (Zwz F E i)
theorem Hp(F:V6 Int)(E:V6 Ent)(i:Nat):(Zgs F E i).length=F.length:=by simp[Zgs]
theorem Zoh{F:V6 Int}{E:V6 Ent}{i k:Nat}(h:k<F.length):(Zgs F E i).getD k 0=Zwz F E i k:=by simp[Zgs,getD,C1 h]
theorem Zvg(F:V6 Int)(E:V6 Ent):Zgs F E 0=F:=by
 apply F6 (by rw[Hp]);intro k h1 h2;simp[Zgs,Zwz,Zlo,getD,h2]
theorem Zxy{F:V6 Int}{E:V6 Ent}{i:Nat}(h:F.getD (Gc E i).toNat 0=3):(Gc E i).toNat<F.length:=by
 apply Nat.lt_of_not_le;intro q;rw[show F.getD (Gc E i).toNat 0=0 from by simp[getD,q]] at h;omega
theorem Zyo{F:V6 Int}{E:V6 Ent}{i k:Nat}(h:jOk F E (i+1)):Zwz F E (i+1) k=if Gc E i=(k:Int) then jVal E i else Zwz F E i k:=by
 have a0:=Zvw h;by_cases e:Gc E i=(k:Int)
 ·rw[V8 e];unfold Zwz;rw[Zds M0 e fun m hm=>by have:=a0 m i hm M0;omega]
 ·rw[V7 e];unfold Zwz Zlo;rw[B8,List.find?_append];have:List.find? (fun j=>Gc E j==(k:Int)) [i]=none:=by simp[e]
  rw[this];simp
theorem outL_set{F:V6 Int}{E:V6 Ent}{i:Nat}(h:jOk F E (i+1)):((Zgs F E i).map V0).set (Gc E i).toNat (V0 (jVal E i))=(Zgs F E (i+1)).map V0:=by
 have hb:=Zkm (h i M0);have hl:=(Rk (i:=i) fun j hj=>h j M0).1;have hk:=Zxy hb.2.1;have r:∀ (m k:Nat),k<F.length→((Zgs F E m).map V0)[k]? = some (V0 (Zwz F E m k)):=fun m k a0=>by
  have g2:=Zoh (E:=E) (i:=m) a0;rw[show(Zgs F E m).getD k 0=(Zgs F E m)[k]'(by rw[Hp];exact a0) from by simp[getD,Hp,a0]] at g2;rw[C3,A9 (by rw[Hp];exact a0),D3,g2]
 apply H3;intro k;by_cases a0:k<F.length
 ·rw[r _ _ a0,Zyo h];by_cases e:(Gc E i).toNat=k
  ·subst e;rw[K8 (by simp[Hp];exact hk),V8 M0]
  ·rw[H7 e,r _ _ a0,V7 M0]
 ·rw[C4 (by simp[Hp];omega),C4 (by simp[Hp];omega)]
def Pn(F:V6 Int)(E:V6 Ent):Int×V6 Int :=
 match (range E.length).find? (fun i=>Zjm F E i != 0) with
 | some i=>(Zjm F E i,[])
 | none=>if Mj F E E.length=[] then(0,Zgs F E E.length) else(13,[])
theorem Iu{F:V6 Int}{E:V6 Ent}{i:Nat}(hi:i<E.length)(h:jOk F E i)(hb:Zjm F E i≠0):Pn F E=(Zjm F E i,[]):=by
 unfold Pn;rw[show(range E.length).find? (fun i=>Zjm F E i != 0)=some i from by
  rw[L0];exact⟨by simpa using hb,A7.2 hi,fun m hm=>by simpa using h m hm⟩]
theorem Oa{F:V6 Int}{E:V6 Ent}(h:jOk F E E.length):Pn F E=if Mj F E E.length=[] then(0,Zgs F E E.length) else(13,[]):=by
 unfold Pn;rw[show(range E.length).find? (fun i=>Zjm F E i != 0)=none from by
  rw[N3];intro i hi;have:=h i (A7.1 hi);simp[this]]
structure FormOk(L:V6 (V6 Int)):Prop where
 len:∀ i,i<L.length→1≤(L.getD i []).length∧(L.getD i []).length≤960∧(i+1<L.length→(L.getD i []).length=960)
 h9:∀ i,i<L.length→Uo (L.getD i [])
def Uf(L:V6 (V6 Int))(i:Nat):V6 Int:=(L.take i).flatten
theorem Zdl{L:V6 (V6 Int)}{i:Nat}(h:i<L.length):Uf L (i+1)=Uf L i++L.getD i []:=by
 unfold Uf;rw[B5 h,List.flatten_append];simp[getD,h]
theorem Zgy{L:V6 (V6 Int)}(h:FormOk L):∀ i,i≤L.length→(Uf L i).length≤i*960
 | 0,_=>by simp[Uf]
 | i+1,hi=>by
  rw[Zdl M0,A1];have:=Zgy h i M0;have:=(h.len i M0).2.1;omega
theorem jOut_not{F:V6 Int}{E:V6 Ent}{n k:Nat}(h:jOk F E n)(hk:F.getD k 0≠3):Zwz F E n k=F.getD k 0:=by
 unfold Zwz;rw[Zpy];intro j hj e;have:=(Rk h).2 j hj;rw[e] at this;exact hk (by simpa using this.2.2)
theorem open_nil{F:V6 Int}{E:V6 Ent}{n:Nat}(h:∀ k,k<F.length→F.getD k 0=3→∃ j,j<n∧Gc E j=(k:Int)):Mj F E n=[]:=by
 rw[List.eq_nil_iff_forall_not_mem];intro k hk;obtain⟨⟨h0,h3⟩,hn⟩:=Ziz.1 hk;have hl:k.toNat<F.length:=by
  apply Nat.lt_of_not_le;intro q;rw[show F.getD k.toNat 0=0 from by simp[getD,q]] at h3;omega
 obtain⟨j,hj,e⟩:=h k.toNat hl h3;exact hn j hj M0
end
section
section
variable {P:V4} {fn:Func} {R:V5→V1→Prop} {w:V1} {s:Zs}
def Zxx(w:V1):V6 (Nat×V6 V2)→Prop
 | []=>True
 | p::r=>(∃ t,Blk w p.1 p.2 t)∧Zxx w r
noncomputable def zrlm (P:V4) (n:Nat) (kv:V6 (Nat×V2)) (l:V6 ResultVar):V6 (V6 V2)→Option (V6 Nat×V6 V2):=List.rec (motive:=fun _=>V6 (V6 V2)→Option (V6 Nat×V6 V2)) (fun _=>some ([],[])) (fun r _ ih css=>match r with
 | .tmp t=>match ih css with
  | some r=>some (r.1,zget n kv t::r.2)
  | none=>none
 | .cell k t=>match css with
  | []=>none
  | p::css'=>match zget n kv k with
   | .pointer (some ⟨b,off,sp⟩)=>match sp with
    | none=>match Nat.beq off 0&&(zrow P t&&zsz P t p.length) with
     | true=>match ih css' with
      | some r=>some (b::r.1,.agg p.toArray::r.2)
      | none=>none
     | false=>none
    | some _=>none
   | _=>none) l
theorem Zei(n:Nat)(kv:V6 (Nat×V2))(w:V1):∀ (l:V6 ResultVar) (css:V6 (Nat×V6 V2)) (vs:V6 V2),Zxx w css→zrlm P n kv l (css.map Prod.snd)=some (css.map fst,vs)→(l.mapM (zrf (zact n kv).tmps)).run P w=.ok vs w
  | [],css,vs,_,h=>by
    have h':some (([]:V6 Nat),([]:V6 V2))=some (css.map fst,vs):=h;simp only[A0,D9] at h';rw[←h'.2];rfl
  | r :: l, css, vs, hb, h => by
    rw[List.mapM_cons];cases r with
    | tmp t =>
      have h':(match zrlm P n kv l (css.map Prod.snd) with|some r=>some (r.1,zget n kv t::r.2)|none=>none)=some (css.map fst,vs):=h;split at h'
      · rename_i r' hv;simp only[A0,D9] at h';obtain⟨h1,rfl⟩:=h';have a0:zrlm P n kv l (css.map Prod.snd)=some (css.map fst,r'.2):=(by rw[hv,←h1]);simp only[zrf,C9,H5,E0,Zei n kv w l css r'.2 hb a0,Nm]
      · cases h'
    | cell k t' =>
      cases css with
      | nil=>cases h
      | cons p css =>
      have h':(match zget n kv k with
      | .pointer (some ⟨b,a1,sp⟩)=>match sp with
        | none=>match Nat.beq a1 0&&(zrow P t'&&zsz P t' p.2.length) with
          | true=>match zrlm P n kv l (css.map Prod.snd) with
            | some r=>some (b::r.1,.agg p.2.toArray::r.2)
            | none=>none
          | false=>none
        | some _=>none
      | _=>none)=some (p.1::css.map fst,vs):=h
      split at h'
      · rename_i b' a1 sp a2;cases sp with
        | some _=>cases h'
        | none =>
          dsimp only at h';split at h'
          · rename_i hc;simp only[E2] at hc;split at h'
            · rename_i r' hv;simp only[A0,D9,I5] at h';obtain⟨⟨rfl,h1⟩,rfl⟩:=h';obtain⟨⟨t,kb⟩,a3⟩:=hb;have a0:zrlm P n kv l (css.map Prod.snd)=some (css.map fst,r'.2):=(by rw[hv,←h1]);obtain rfl:a1=0:=K1 hc.1;have hu:=hc.2.1;unfold zrow at hu;split at hu
              · rename_i d hd;have hl:=run_loadVar_mid (P:=P) w p.1 0 t' p.2 d kb.b0 hd hu (Zhc hc.2.2);have e:(zact n kv).tmps.getD k undef=.pointer (some ⟨p.1,0,none⟩):=(by rw[Nm];exact a2);simp only[zrf,e,asAddr,C9,H5,E0,hl,Zei n kv w l css r'.2 a3 a0]
              · cases hu
            · cases h'
          · cases h'
      · cases h'
noncomputable def zresm (P:V4) (s:Zs) (fn:Func) (css:V6 (V6 V2)):Option (V6 Nat×V2):=match zfin s with
 | true=>match zrlm P s.n s.kv fn.results.toList css with
  | some r=>some (r.1,zvs r.2)
  | none=>none
 | false=>none
theorem xecm(q:Zq)(css:V6 (Nat×V6 V2))(hb:Zxx w css)(v:V2)(hR:R (.returned v) w)(h:zresm P (zq P q s) fn (css.map Prod.snd)=some (css.map fst,v):=by kernel_rfl):Go P fn R s w:=by
 refine Zw q s ?_;unfold zresm at h;split at h
 ·rename_i hf;split at h
  ·rename_i r hv;simp only[A0,D9] at h;obtain⟨h1,rfl⟩:=h;have hv:zrlm P (zq P q s).n (zq P q s).kv fn.results.toList (css.map Prod.snd)=some (css.map fst,r.2):=(by rw[hv,←h1]);exact Zlb hf (Eb (Zei _ _ _ _ _ _ hb hv)) hR
  ·cases h
 ·cases h
end
end
section
attribute [local irreducible] wpList wpAnyH Code.wp Oper.wp Go
theorem Wh.at{w:V1}:∀ {fs:V6 (V6 Int×Int)} {vs:V6 V2},Wh w fs vs→∀ {j:Nat},j<fs.length→∃ ty x,vs[j]? = some (.iface ty x)∧Kx w ((fs.getD j ([],0)).1.map some) (some (fs.getD j ([],0)).2) (.iface ty x)
 | f::r,v::q,h,0,_=>by
  obtain⟨ty,x,rfl⟩:=h.1.iface;exact⟨ty,x,rfl,h.1⟩
 | f::r,v::q,h,j+1,hj=>by
  obtain⟨ty,x,h1,h2⟩:=h.2.at (j:=j) (by simpa using hj);exact⟨ty,x,by simpa using h1,by simpa using h2⟩
 | [],_,_,j,hj=>absurd hj Y5
 | _::_,[],h,_,_=>h.elim
theorem Sl.g3{w:V1}{b:O0}{n c:Nat}{xs:V6 V2}(h:Sl w (.slice b n c) n xs){j:Nat}{x:V2}(hj:xs[j]? = some x):b.isSome=true∧w.cell? (Zx b (j*1))=some x:=by rw[G7];exact Sl.elem h hj
theorem scan_law(l:Bl)(root tree am:Int):(Ze l root tree am).looked≤am.toNat∧(Ze l root tree am).bs.length≤(Ze l root tree am).looked∧(∀ x∈(Ze l root tree am).es,InBlk l tree x) ∧
 (Ze l root tree am).es.Pairwise (fun x y=>x.1<y.1)∧∀ f∈(Ze l root tree am).fs,f.1≠[]∧f.1.getD 0 0=root:=by
 obtain⟨es,fs,h⟩:=Nq l root tree am
 have h1:(Ze l root tree am).es=es:=by rw[h.esE];rfl
 have h2:(Ze l root tree am).fs=fs:=by rw[h.fsE];rfl
 have h3:=h.blks
 refine⟨St _ _ _ _,by simpa [ws0] using h3,fun x hx=>h.inb x (h1▸hx),by rw[h1];exact h.rise.1,fun f hf=>?_⟩
 obtain⟨q1,q2,_⟩:=h.flt f (h2▸hf)
 refine⟨q2,?_⟩
 cases e:f.1 with
 | nil=>exact absurd e q2
 | cons a r=>rw[e] at q1;simpa using q1
structure WalkS(t:WS)(pe pb pf:Option Addr)(ce cb cf:Nat)(fv:V6 V2)(w:V1):Prop where
 c1:Sts Ki w (.slice pe t.es.length ce) t.es
 blks:Ints w (.slice pb t.bs.length cb) t.bs
 c0:Sl w (.slice pf t.fs.length cf) t.fs.length fv
 b9:Wh w t.fs fv
theorem WalkS.i{t:WS}{pe pb pf:O0}{ce cb cf:Nat}{fv:V6 V2}{w W:V1}(h:WalkS t pe pb pf ce cb cf fv w)(hb:B3 w W):WalkS t pe pb pf ce cb cf fv W :=
 ⟨Sl.i h.c1 hb,Sl.i h.blks hb,Sl.i h.c0 hb,h.b9.i hb⟩
def eL (S:WS):V6 (Option Int):=if S.fs=[] then [] else(S.fs.getD 0 ([],0)).1.map some
def eT (S:WS):Option Int:=if S.fs=[] then none else some (S.fs.getD 0 ([],0)).2
def Zhh(S:WS):WS:=if S.fs=[] then S else ws0
def Kg(S:WS):V6 Int×Int:=if S.fs=[] then([],0) else S.fs.getD 0 ([],0)
def FirstP(fs:V6 (V6 Int×Int))(w:V1)(e:V5)(w':V1):Prop :=
 (fs=[]∧e=.returned .nilIface∧B3 w w')∨(fs≠[]∧∃ ty x,e=.returned (.iface ty x)∧B3 w w'∧Kx w' ((fs.getD 0 ([],0)).1.map some) (some (fs.getD 0 ([],0)).2) (.iface ty x))
theorem Af(p:O0)(n c:Nat)(fv:V6 V2)(ty:V3)(x:V2)(w:V1)(hn:0<n)(hS:Sl w (.slice p n c) n fv)(hx:fv[0]? = some (.iface ty x)) :
 C0 126 #[.slice p n c] w (Ret (.iface ty x) w):=by
 refine zin 15 Tryz.func126 ?_
 refine xu 14 1 ?_
 refine xk 6 (show(decide ((0:Int)<(n:Int)):Bool)=true from U0 M0) ?_
 refine xx 6 _ n 0 1 (Sl.g3 hS hx).1 ?_
 refine xl 0 ((Sl.g3 hS hx).2) ?_
 exact xe 22 (.iface ty (x)) ⟨rfl,(B4 w)⟩
theorem Ag(p:O0)(c:Nat)(w:V1) :
 C0 126 #[.slice p 0 c] w (Ret .nilIface w):=by
 refine zin 15 Tryz.func126 ?_
 refine xu 14 1 ?_
 exact xe 18 .nilIface ⟨rfl,(B4 w)⟩
theorem Zh1(p:O0)(n c:Nat)(fs:V6 (V6 Int×Int))(fv:V6 V2)(w:V1)(hn:fs.length=n)(hS:Sl w (.slice p n c) n fv)(hF:Wh w fs fv):C0 126 #[.slice p n c] w (FirstP fs w):=by
 subst hn;match fs,hS,hF with
 | [],hS,hF =>
  refine(Ag p c w).mono ?_;rintro e W ⟨rfl,hb⟩;exact .inl ⟨rfl,rfl,hb⟩
 | f::r,hS,hF =>
  obtain⟨ty,x,h1,h2⟩:=hF.at (j:=0) Y5;refine(Af p _ c fv ty x w Y5 hS h1).mono ?_;rintro e W ⟨rfl,hb⟩;exact .inr ⟨Y5,ty,x,rfl,hb,h2.i hb⟩
theorem WalkV.mono{B B':Nat}{t:WS}{pe pb pf:O0}{ce cb cf:Nat}{fv:V6 V2}{w:V1}(h:WalkV B t pe pb pf ce cb cf fv w)(hB:B'≤B):WalkV B' t pe pb pf ce cb cf fv w:=⟨Zg h.c1 hB,Zg h.blks hB,Zg h.c0 hB,h.b9⟩
theorem WalkV.i{B:Nat}{t:WS}{pe pb pf:O0}{ce cb cf:Nat}{fv:V6 V2}{w W:V1}(h:WalkV B t pe pb pf ce cb cf fv w)(hb:B3 w W):WalkV B t pe pb pf ce cb cf fv W:=⟨Zb h.c1 hb,Zb h.blks hb,Zb h.c0 hb,h.b9.i hb⟩
theorem WalkV.q{B:Nat}{T:V6 V3}{t:WS}{pe pb pf:O0}{ce cb cf:Nat}{fv:V6 V2}{w W:V1}(h:WalkV B t pe pb pf ce cb cf fv w)(hO:Zd T w W)(hT:T.contains 124=false∧T.contains 3=false∧T.contains 39=false∧T.contains 204=false):WalkV B t pe pb pf ce cb cf fv W:=⟨Zi h.c1 hO hT.1,Zi h.blks hO hT.2.1,Zi h.c0 hO hT.2.2.1,h.b9.q hO hT.2.2.2⟩
theorem WalkV.s{B:Nat}{t:WS}{pe pb pf:O0}{ce cb cf:Nat}{fv:V6 V2}{w:V1}(h:WalkV B t pe pb pf ce cb cf fv w):WalkS t pe pb pf ce cb cf fv w:=⟨Zf h.c1,Zf h.blks,Zf h.c0,h.b9⟩
theorem WalkV.zero(B:Nat)(w:V1):WalkV B ws0 none none none 0 0 0 [] w:=⟨A8 _ _ _ _,A8 _ _ _ _,A8 _ _ _ _,trivial⟩
theorem Zos{S:WS}(h:S.fs=[]):Zhh S=S∧Kg S=([],0)∧eL S=[]∧eT S=none:=by unfold Zhh Kg eL eT;simp[h]
theorem Rl{S:WS}(h:S.fs≠[]):Zhh S=ws0∧Kg S=S.fs.getD 0 ([],0)∧eL S=(S.fs.getD 0 ([],0)).1.map some∧eT S=some (S.fs.getD 0 ([],0)).2:=by unfold Zhh Kg eL eT;simp[h]
def WholeP(S:WS)(w:V1)(e:V5)(w':V1):Prop:=∃ t pe pb pf ce cb cf fv v,t=Zhh S∧e=.returned (.tuple #[.agg (walkC t pe pb pf ce cb cf).toArray,v])∧B3 w w'∧WalkV w.heap.size t pe pb pf ce cb cf fv w'∧Kx w' (eL S) (eT S) v
theorem Zlr(Bi b:Nat)(pi:O0)(ni ci:Nat)(l:Bl)(root tree am:Int)(w:V1)(hfu:am≤1000000)(hI:ImgR Bi b pi ni ci l w) :
 C0 63 #[P0 b,V0 root,V0 tree,V0 am] w (WholeP (Ze l root tree am) w):=by
 refine zin 25 Tryz.func63 ?_
 refine xa 2 [S1,S1,V0 0,V0 0,S1] 118 fun b1 W1 n1=>?_
 have b6:=n1.i.size
 refine xc 9 (Zx4 Bi b pi ni ci l root tree am _ hfu (hI.i n1.i)) ?_
 rintro _ W2 ⟨pe,pb,pf,ce,cb,cf,fv,rfl,b4,b5⟩
 have hW:=b5.mono b6
 refine xa 0 [S1,S1,V0 0,V0 0,S1] 118 fun b3 W3 n3=>?_
 have k1:=n1.blk.i b4
 have a1:=n3.ne k1
 have a2:=bln n1.i b4
 have g3:=n3.ge a2
 refine xsv 0 n3.blk [.slice pe ((Ze l root tree am).es.length) ce,.slice pb ((Ze l root tree am).bs.length) cb,V0 ((Ze l root tree am).deep),V0 (↑(Ze l root tree am).looked:Int),.slice pf ((Ze l root tree am).fs.length) cf] fun W4 u4 k4=>?_
 refine xb 6 4 k4 ?_
 have a4:=(hW.i n3.i).q (Q1 (T:=[118]) u4 n3.blk Do) Do
 refine xc 0 (args:=#[.slice pf ((Ze l root tree am).fs.length) cf]) (Zh1 pf _ cf (Ze l root tree am).fs fv _ rfl (Zf a4.c0) a4.b9) ?_
 rintro e W5 b7
 rcases b7 with ⟨hz,rfl,a3⟩|⟨hz,ty,x,rfl,a3,hv⟩
 ·have a0:=Zos hz
  have a8:=k4.i a3
  refine xlv 14 a8.rp ?_
  have a5:=(u4.blk (k1.i n3.i) a1).i a3
  refine xsv 0 a5 [.slice pe ((Ze l root tree am).es.length) ce,.slice pb ((Ze l root tree am).bs.length) cb,V0 ((Ze l root tree am).deep),V0 (↑(Ze l root tree am).looked:Int),.slice pf ((Ze l root tree am).fs.length) cf] fun W6 u6 k6=>?_
  have g1:=n1.ge (B4 w)
  have b0:=u6.i (bln (u4.i (bln a2 n3.i) g3) a3) g1
  have a9:=(a4.i a3).q (Q1 (T:=[118]) u6 a5 Do) Do
  exact xec 4 k6 (.tuple #[.agg #[.slice pe ((Ze l root tree am).es.length) ce,.slice pb ((Ze l root tree am).bs.length) cb,V0 ((Ze l root tree am).deep),V0 (↑(Ze l root tree am).looked:Int),.slice pf ((Ze l root tree am).fs.length) cf],.nilIface]) ⟨_,pe,pb,pf,ce,cb,cf,fv,_,rfl,by rw[a0.1];rfl,b0,by rw[a0.1];exact a9,by rw[a0.2.2.1,a0.2.2.2];rfl⟩
 have a0:=Rl hz
 have a6:=(u4.blk (k1.i n3.i) a1).i a3
 refine xsv 14 a6 [S1,S1,V0 0,V0 0,S1] fun W7 u7 k7=>?_
 have g1:=n1.ge (B4 w)
 have a7:=u7.i (bln (u4.i (bln a2 n3.i) g3) a3) g1
 have b2:=hv.I u7 a6 Do
 exact xec 5 k7 (.tuple #[.agg #[S1,S1,V0 0,V0 0,S1],.iface ty (x)]) ⟨_,none,none,none,0,0,0,[],_,rfl,by rw[a0.1];rfl,a7,by rw[a0.1];exact WalkV.zero _ _,by rw[a0.2.2.1,a0.2.2.2];exact b2⟩
def bitI(l:Bl)(n:Nat):V6 Int:=(Za5 l n).map fun x:Nat=>(x:Int)
theorem Zmn(l:Bl)(n:Nat):(bitI l n).length=n:=by simp[bitI,Za5]
theorem bitN_lt(l:Bl)(i:Nat):Zs5 l i<4:=Nat.mod_lt _ Do
theorem Zp0(l:Bl)(n:Nat):Uo (bitI l n):=by
 intro x hx;obtain⟨y,hy,rfl⟩:=List.mem_map.1 hx;obtain⟨i,_,rfl⟩:=List.mem_map.1 hy;have:=bitN_lt l i;omega
structure Sup where
 tx:Int
 time:Int
 unit:Int
 data:Int
 blocks:Int
 top:Int
 details:Int
 D:Int
 G:Int
 E:Int
 H:Int
def supC(s:Sup):V6 V2:=[V0 s.tx,V0 s.time,V0 s.unit,V0 s.data,V0 s.blocks,V0 s.top,V0 s.details,V0 s.D,V0 s.G,V0 s.E,V0 s.H]
def Zdp(s:Sup):V6 Int:=[s.tx,s.time,s.unit,s.data,s.blocks,s.top,s.details,s.D,s.G,s.E,s.H]
def Yz(s:Sup):Bool:=(((((((((((true&&decide ((0:Int)≤s.tx∧s.tx≤2147483647))&&decide ((0:Int)≤s.time∧s.time≤16777215))&&decide ((1:Int)≤s.unit∧s.unit≤65536))&&decide ((0:Int)≤s.data∧s.data≤65536))&&decide ((2:Int)≤s.blocks∧s.blocks≤14400))&&decide ((1:Int)≤s.top∧s.top≤(s.blocks-1)))&&decide ((1:Int)≤s.details∧s.details≤(s.blocks-1)))&&decide ((1:Int)≤s.D∧s.D≤(s.blocks-1)))&&decide ((1:Int)≤s.G∧s.G≤(s.blocks-1)))&&decide ((1:Int)≤s.E∧s.E≤(s.blocks-1)))&&decide ((1:Int)≤s.H∧s.H≤(s.blocks-1)))
def Zh(l:Bl):Sup:=⟨(Zo l 12 4:Int),(Zo l 16 4:Int),(Zo l 20 4:Int),(Zo l 24 4:Int),(Zo l 28 4:Int),(Zo l 32 4:Int),(Zo l 36 4:Int),(Zo l 40 4:Int),(Zo l 44 4:Int),(Zo l 48 4:Int),(Zo l 52 4:Int)⟩
def Ls:Bl:=[83,67,65,78,84,76,73,78]
def Pg(N:V6 Int):Bl:=N.flatMap fun n=>leB n 4
theorem Ou(N:V6 Int):(Pg N).length=N.length*4:=by
 unfold Pg;induction N with
 | nil=>rfl
 | cons n N ih=>rw[E7,A1,Zl,ih,C5];omega
def Mw(s:Sup):Bl:=Ls++Pg (1::Zdp s)++replicate 188 0
theorem Ld(s:Sup):(Mw s).length=244:=by
 unfold Mw;rw[A1,A1,Ou,B7];rfl
def Zuk(l:Bl):Bool:=(l.take 8==Ls)&&decide (Zo l 8 4=1)&&Hv (l.drop 56)&&Yz (Zh l)
def Zee(n:Int):V6 V2:=[V0 4,V0 n]
theorem Zm7(n:Int):(Zee n).length=2:=rfl
theorem Ab{l:Bl}{k:Nat}(h:k+4≤l.length):l.drop k=leB (Zo l k 4:Int) 4++l.drop (k+4):=by
 rw[leB_raw h,←N8,G9]
theorem drop8{l:Bl}(hl:l.length=244):l.drop 8=Pg ((Zo l 8 4:Int)::Zdp (Zh l))++l.drop 56:=by
 rw[Ab (k:=8) M0,Ab (k:=12) M0,Ab (k:=16) M0,Ab (k:=20) M0,Ab (k:=24) M0,Ab (k:=28) M0,Ab (k:=32) M0,Ab (k:=36) M0,Ab (k:=40) M0,Ab (k:=44) M0,Ab (k:=48) M0,Ab (k:=52) M0];simp[Pg,Zdp,Zh]
theorem Zxg(l:Bl):Hv l=true↔l=replicate l.length 0:=by
 unfold Hv;rw[I0];constructor
 ·intro h;exact List.eq_replicate_iff.2 ⟨rfl,fun x hx=>by simpa using h x hx⟩
 ·intro h x hx;rw[h] at hx;rw[(List.mem_replicate.1 hx).2];rfl
theorem supB_eq{l:Bl}(hl:l.length=244):(Mw (Zh l)==l)=((l.take 8==Ls)&&decide (Zo l 8 4=1)&&Hv (l.drop 56)):=by
 have e1:l=l.take 8++(Pg ((Zo l 8 4:Int)::Zdp (Zh l))++l.drop 56):=by rw[←drop8 hl,G9]
 have h8:(l.take 8).length=Ls.length:=by simp[Ls];omega
 have hn:∀ x:Int,(Pg (x::Zdp (Zh l))).length=48:=fun x=>by rw[Ou];rfl
 have hr:=Jb l 8 4 Do;have a0:(l.drop 56).length=188:=by simp;omega
 rw[Bool.eq_iff_iff,beq_iff_eq,E2,E2,beq_iff_eq,decide_eq_true_iff,Zxg,a0];constructor
 ·intro h;have e2:=h.trans e1;rw[Mw,A4] at e2;obtain⟨a1,a2⟩:=List.append_inj e2 h8.symm;obtain⟨a3,a4⟩:=List.append_inj a2 (by rw[hn,hn]);have a5:leB (1:Int) 4=leB (Zo l 8 4:Int) 4:=by
   unfold Pg at a3;rw[E7,E7] at a3;exact(List.append_inj a3 (by rw[Zl,Zl])).1
  have a6:=leB_inj (m:=1) (n:=Zo l 8 4) (w:=4) Do M0 a5;exact⟨⟨a1.symm,a6.symm⟩,a4.symm⟩
 ·rintro⟨⟨a1,a2⟩,a3⟩;conv=>rhs;rw[e1]
  rw[a1,a2,a3,Mw,A4];rfl
theorem Kq(B bs bl bat off k:Nat)(cs:V6 V2)(a:O0)(c:Nat)(l:Bl)(lo hi:V2)(w:V1)(hBw:B≤w.heap.size)(hBs:B≤bs)(hBa:B≤bat)(ks:Blk w bs cs 54)(ho:off<cs.length)(kl:Blk w bl [.slice a 244 c] 50)(ka:Blk w bat [V0 (k:Int)] 3)(hl:l.length=244)(h:Bys w (.slice a 244 c) l)(hk:k+4≤244) :
 C0 189 #[.pointer (some ⟨bs,off,none⟩),lo,hi,P0 bl,P0 bat] w ((fun e w'=>∃ u,e=.returned u∧Below B w w'∧Zd [54,3] w w'∧Blk w' bs (cs.set off (V0 (Zo l k 4:Int))) 54∧Blk w' bat [V0 (↑(k+4):Int)] 3)):=by
 refine zin 18 Tryz.func189 ?_
 refine xb 3 0 kl ?_
 refine xb 0 0 ka ?_
 refine xr 0 (Zjq a 244 c k 4 (k:Int) 4 l _ hl rfl rfl Do hk Do h) fun W1 a2=>?_
 have a1:=ks.i a2
 refine xsg 4 a1 off (V0 (↑(Zo l k 4):Int)) (ho) fun W2 u2 k2=>?_
 replace k2:Blk W2 bs (cs.set off (V0 (Zo l k 4:Int))) 54:=by rw[←(Eq.refl (cs.set off (V0 (Zo l k 4:Int))))];exact k2
 have a0:=u2.A (ka.i a2) a1 Do
 refine xb 3 0 a0 ?_
 refine xwm 0 ((k:Int)+4) (↑(k+4):Int) ?_
 refine xs 0 a0 [V0 (↑(k+4):Int)] fun W3 u3 k3=>?_
 have hB:=u3.i (u2.i (blB (U3 B w) hBw a2) hBs) hBa
 have hO:=((show Zd [54,3] w _ from(Q0 a2)).trans (Q1 u2 a1 Do)).trans (Q1 u3 a0 Do)
 have a3:=u3.A k2 a0 Do
 exact xe 1 (.tuple #[]) ⟨_,rfl,hB,hO,a3,k3⟩
theorem Xs(B bs bo off:Nat)(cs:V6 V2)(n lo hi:Int)(b:Bool)(w:V1)(hBw:B≤w.heap.size)(hBo:B≤bo)(ks:Blk w bs cs 54)(hn:cs[off]? = some (V0 n))(ko:Blk w bo [.bool b] 4) :
 C0 133 #[.pointer (some ⟨bs,off,none⟩),V0 lo,V0 hi,P0 bo] w ((fun e w'=>∃ u,e=.returned u∧Below B w w'∧Zd [4] w w'∧Blk w' bo [.bool (b&&decide ((lo:Int)≤n∧n≤hi))] 4)):=by
 refine zin 22 Tryz.func133 ?_
 refine xb 1 0 ko ?_
 refine xg 1 [7,8] b (fun a1=>?_) (fun a1=>?_)
 ·refine xl 2 (ks.cell (i:=off) hn) ?_
  refine xg 4 [13,14,15] (decide (n≥lo)) (fun a0=>?_) (fun a0=>?_)
  ·have a0:=U1 a0
   refine xl 2 (ks.cell (i:=off) hn) ?_
   refine xs 3 ko [.bool (decide (n≤hi))] fun W3 u3 k3=>?_
   have hB:=u3.i (U3 B w) hBo
   have hO:=(show Zd [4] w _ from(Q1 u3 ko Do))
   exact xe 1 (.tuple #[]) ⟨_,rfl,hB,hO,by rw[show(b&&decide ((lo:Int)≤n∧n≤hi))=decide (n≤hi) from by first|(rw[show decide ((lo:Int)≤n∧n≤hi)=false from V9 M0,P2];done)|(simp_all;done)|(simp_all;omega)];exact k3⟩
  have a0:=U2 a0
  refine xs 6 ko [.bool false] fun W4 u4 k4=>?_
  have hB:=u4.i (U3 B w) hBo
  have hO:=(show Zd [4] w _ from(Q1 u4 ko Do))
  exact xe 1 (.tuple #[]) ⟨_,rfl,hB,hO,by rw[show(b&&decide ((lo:Int)≤n∧n≤hi))=false from by first|(rw[show decide ((lo:Int)≤n∧n≤hi)=false from V9 M0,P2];done)|(simp_all;done)|(simp_all;omega)];exact k4⟩
 refine xs 13 ko [.bool false] fun W5 u5 k5=>?_
 have hB:=u5.i (U3 B w) hBo
 have hO:=(show Zd [4] w _ from(Q1 u5 ko Do))
 exact xe 1 (.tuple #[]) ⟨_,rfl,hB,hO,by rw[show(b&&decide ((lo:Int)≤n∧n≤hi))=false from by first|(rw[show decide ((lo:Int)≤n∧n≤hi)=false from V9 M0,P2];done)|(simp_all;done)|(simp_all;omega)];exact k5⟩
theorem Zeo(B bs bl bat:Nat)(a:O0)(c:Nat)(l:Bl)(w:V1)(hBw:B≤w.heap.size)(hBs:B≤bs)(hBa:B≤bat)(ks:Blk w bs [V0 0,V0 0,V0 0,V0 0,V0 0,V0 0,V0 0,V0 0,V0 0,V0 0,V0 0] 54)(kl:Blk w bl [.slice a 244 c] 50)(ka:Blk w bat [V0 (↑(12:Nat):Int)] 3)(hl:l.length=244)(hin:∀ W,Below B w W→Bys W (.slice a 244 c) l) :
 C0 95 #[P0 bs,.func (.func 189) #[] #[P0 bl,P0 bat]] w ((fun e w'=>∃ u,e=.returned u∧Below B w w'∧Zd [54,3] w w'∧Blk w' bs (supC (Zh l)) 54)):=by
 have f3:=Jb l 28 4 Do
 refine zin 64 Tryz.func95 ?_
 refine xc 6 (args:=#[P0 bs,V0 0,V0 2147483647,P0 bl,P0 bat]) (Kq B bs bl bat 0 12 _ a c l _ _ _ (N0 hBw (U3 B _).size) hBs hBa ks Y5 kl ka hl (hin _ (U3 B _)) Do) ?_
 rintro _ W1 ⟨u1,rfl,d9,f4,e8,g5⟩
 change Blk _ _ [V0 (↑(Zo l 12 4):Int),V0 0,V0 0,V0 0,V0 0,V0 0,V0 0,V0 0,V0 0,V0 0,V0 0] _ at e8
 change Blk _ _ [V0 (↑(16:Nat):Int)] _ at g5
 have d1:=kl.q f4 Do
 refine xc 8 (args:=#[.pointer (some ⟨bs,1,none⟩),V0 0,V0 16777215,P0 bl,P0 bat]) (Kq B bs bl bat 1 16 _ a c l _ _ _ (N0 hBw d9.size) hBs hBa e8 Y5 d1 g5 hl (hin _ d9) Do) ?_
 rintro _ W2 ⟨u2,rfl,h3,f8,g0,f5⟩
 change Blk _ _ [V0 (↑(Zo l 12 4):Int),V0 (↑(Zo l 16 4):Int),V0 0,V0 0,V0 0,V0 0,V0 0,V0 0,V0 0,V0 0,V0 0] _ at g0
 change Blk _ _ [V0 (↑(20:Nat):Int)] _ at f5
 have a8:=d9.trans h3
 have b9:=d1.q f8 Do
 refine xc 8 (args:=#[.pointer (some ⟨bs,2,none⟩),V0 1,V0 65536,P0 bl,P0 bat]) (Kq B bs bl bat 2 20 _ a c l _ _ _ (N0 hBw a8.size) hBs hBa g0 Y5 b9 f5 hl (hin _ a8) Do) ?_
 rintro _ W3 ⟨u3,rfl,g9,f1,f6,g6⟩
 change Blk _ _ [V0 (↑(Zo l 12 4):Int),V0 (↑(Zo l 16 4):Int),V0 (↑(Zo l 20 4):Int),V0 0,V0 0,V0 0,V0 0,V0 0,V0 0,V0 0,V0 0] _ at f6
 change Blk _ _ [V0 (↑(24:Nat):Int)] _ at g6
 have a4:=a8.trans g9
 have c2:=b9.q f1 Do
 refine xc 8 (args:=#[.pointer (some ⟨bs,3,none⟩),V0 0,V0 65536,P0 bl,P0 bat]) (Kq B bs bl bat 3 24 _ a c l _ _ _ (N0 hBw a4.size) hBs hBa f6 Y5 c2 g6 hl (hin _ a4) Do) ?_
 rintro _ W4 ⟨u4,rfl,f3,g2,g3,f0⟩
 change Blk _ _ [V0 (↑(Zo l 12 4):Int),V0 (↑(Zo l 16 4):Int),V0 (↑(Zo l 20 4):Int),V0 (↑(Zo l 24 4):Int),V0 0,V0 0,V0 0,V0 0,V0 0,V0 0,V0 0] _ at g3
 change Blk _ _ [V0 (↑(28:Nat):Int)] _ at f0
 have b1:=a4.trans f3
 have c1:=c2.q g2 Do
 refine xc 8 (args:=#[.pointer (some ⟨bs,4,none⟩),V0 2,V0 14400,P0 bl,P0 bat]) (Kq B bs bl bat 4 28 _ a c l _ _ _ (N0 hBw b1.size) hBs hBa g3 Y5 c1 f0 hl (hin _ b1) Do) ?_
 rintro _ W5 ⟨u5,rfl,h2,g7,e9,g1⟩
 change Blk _ _ [V0 (↑(Zo l 12 4):Int),V0 (↑(Zo l 16 4):Int),V0 (↑(Zo l 20 4):Int),V0 (↑(Zo l 24 4):Int),V0 (↑(Zo l 28 4):Int),V0 0,V0 0,V0 0,V0 0,V0 0,V0 0] _ at e9
 change Blk _ _ [V0 (↑(32:Nat):Int)] _ at g1
 refine xd 3 .z ?_
 refine xbs (.o [0,1,2,3,4,5,6,7,8,9,10,11,12,13,14,15,16,17,20] 18) 6 [.pointer (some ⟨bs,5,none⟩),.pointer (some ⟨bs,6,none⟩),.pointer (some ⟨bs,7,none⟩),.pointer (some ⟨bs,8,none⟩),.pointer (some ⟨bs,9,none⟩),.pointer (some ⟨bs,10,none⟩)] 181 fun b6 W6 n6=>?_
 have e1:=blB (b1.trans h2) hBw (Za W5)
 refine xu (.r [19] 3) 7 ?_
 refine xb 14 0 n6.blk ?_
 have a1:=(e9.i (Za W5)).i n6.i
 refine xb 9 4 a1 ?_
 refine xw 0 ((↑(Zo l 28 4):Int)-1) ?_
 have b0:=blB e1 hBw n6.i
 have b4:=((c1.q g7 Do).i (Za W5)).i n6.i
 have b8:=(g1.i (Za W5)).i n6.i
 refine xc 0 (args:=#[.pointer (some ⟨bs,5,none⟩),V0 1,V0 ((↑(Zo l 28 4):Int)-1),P0 bl,P0 bat]) (Kq B bs bl bat 5 32 _ a c l _ _ _ (N0 hBw b0.size) hBs hBa a1 Y5 b4 b8 hl (hin _ b0) Do) ?_
 rintro _ W7 ⟨u7,rfl,g8,e0,d7,f7⟩
 change Blk _ _ [V0 (↑(Zo l 12 4):Int),V0 (↑(Zo l 16 4):Int),V0 (↑(Zo l 20 4):Int),V0 (↑(Zo l 24 4):Int),V0 (↑(Zo l 28 4):Int),V0 (↑(Zo l 32 4):Int),V0 0,V0 0,V0 0,V0 0,V0 0] _ at d7
 change Blk _ _ [V0 (↑(36:Nat):Int)] _ at f7
 have b5:=n6.blk.q e0 Do
 refine xb 22 1 b5 ?_
 refine xb 9 4 d7 ?_
 refine xw 0 ((↑(Zo l 28 4):Int)-1) ?_
 have a9:=b0.trans g8
 have c8:=b4.q e0 Do
 refine xc 0 (args:=#[.pointer (some ⟨bs,6,none⟩),V0 1,V0 ((↑(Zo l 28 4):Int)-1),P0 bl,P0 bat]) (Kq B bs bl bat 6 36 _ a c l _ _ _ (N0 hBw a9.size) hBs hBa d7 Y5 c8 f7 hl (hin _ a9) Do) ?_
 rintro _ W8 ⟨u8,rfl,h1,e2,d8,f9⟩
 change Blk _ _ [V0 (↑(Zo l 12 4):Int),V0 (↑(Zo l 16 4):Int),V0 (↑(Zo l 20 4):Int),V0 (↑(Zo l 24 4):Int),V0 (↑(Zo l 28 4):Int),V0 (↑(Zo l 32 4):Int),V0 (↑(Zo l 36 4):Int),V0 0,V0 0,V0 0,V0 0] _ at d8
 change Blk _ _ [V0 (↑(40:Nat):Int)] _ at f9
 have c4:=b5.q e2 Do
 refine xb 22 2 c4 ?_
 refine xb 9 4 d8 ?_
 refine xw 0 ((↑(Zo l 28 4):Int)-1) ?_
 have b3:=a9.trans h1
 have c6:=c8.q e2 Do
 refine xc 0 (args:=#[.pointer (some ⟨bs,7,none⟩),V0 1,V0 ((↑(Zo l 28 4):Int)-1),P0 bl,P0 bat]) (Kq B bs bl bat 7 40 _ a c l _ _ _ (N0 hBw b3.size) hBs hBa d8 Y5 c6 f9 hl (hin _ b3) Do) ?_
 rintro _ W9 ⟨u9,rfl,h0,d5,d6,f2⟩
 change Blk _ _ [V0 (↑(Zo l 12 4):Int),V0 (↑(Zo l 16 4):Int),V0 (↑(Zo l 20 4):Int),V0 (↑(Zo l 24 4):Int),V0 (↑(Zo l 28 4):Int),V0 (↑(Zo l 32 4):Int),V0 (↑(Zo l 36 4):Int),V0 (↑(Zo l 40 4):Int),V0 0,V0 0,V0 0] _ at d6
 change Blk _ _ [V0 (↑(44:Nat):Int)] _ at f2
 have b7:=c4.q d5 Do
 refine xb 22 3 b7 ?_
 refine xb 9 4 d6 ?_
 refine xw 0 ((↑(Zo l 28 4):Int)-1) ?_
 have b2:=b3.trans h0
 have c0:=c6.q d5 Do
 refine xc 0 (args:=#[.pointer (some ⟨bs,8,none⟩),V0 1,V0 ((↑(Zo l 28 4):Int)-1),P0 bl,P0 bat]) (Kq B bs bl bat 8 44 _ a c l _ _ _ (N0 hBw b2.size) hBs hBa d6 Y5 c0 f2 hl (hin _ b2) Do) ?_
 rintro _ h9 ⟨h4,rfl,d4,a6,a7,d3⟩
 change Blk _ _ [V0 (↑(Zo l 12 4):Int),V0 (↑(Zo l 16 4):Int),V0 (↑(Zo l 20 4):Int),V0 (↑(Zo l 24 4):Int),V0 (↑(Zo l 28 4):Int),V0 (↑(Zo l 32 4):Int),V0 (↑(Zo l 36 4):Int),V0 (↑(Zo l 40 4):Int),V0 (↑(Zo l 44 4):Int),V0 0,V0 0] _ at a7
 change Blk _ _ [V0 (↑(48:Nat):Int)] _ at d3
 have d0:=b7.q a6 Do
 refine xb 22 4 d0 ?_
 refine xb 9 4 a7 ?_
 refine xw 0 ((↑(Zo l 28 4):Int)-1) ?_
 have a2:=b2.trans d4
 have c7:=c0.q a6 Do
 refine xc 0 (args:=#[.pointer (some ⟨bs,9,none⟩),V0 1,V0 ((↑(Zo l 28 4):Int)-1),P0 bl,P0 bat]) (Kq B bs bl bat 9 48 _ a c l _ _ _ (N0 hBw a2.size) hBs hBa a7 Y5 c7 d3 hl (hin _ a2) Do) ?_
 rintro _ h5 ⟨h7,rfl,e6,a3,a5,c9⟩
 change Blk _ _ [V0 (↑(Zo l 12 4):Int),V0 (↑(Zo l 16 4):Int),V0 (↑(Zo l 20 4):Int),V0 (↑(Zo l 24 4):Int),V0 (↑(Zo l 28 4):Int),V0 (↑(Zo l 32 4):Int),V0 (↑(Zo l 36 4):Int),V0 (↑(Zo l 40 4):Int),V0 (↑(Zo l 44 4):Int),V0 (↑(Zo l 48 4):Int),V0 0] _ at a5
 change Blk _ _ [V0 (↑(52:Nat):Int)] _ at c9
 have e3:=d0.q a3 Do
 refine xb 22 5 e3 ?_
 refine xb 9 4 a5 ?_
 refine xw 0 ((↑(Zo l 28 4):Int)-1) ?_
 have a0:=a2.trans e6
 have d2:=c7.q a3 Do
 refine xc 0 (args:=#[.pointer (some ⟨bs,10,none⟩),V0 1,V0 ((↑(Zo l 28 4):Int)-1),P0 bl,P0 bat]) (Kq B bs bl bat 10 52 _ a c l _ _ _ (N0 hBw a0.size) hBs hBa a5 Y5 d2 c9 hl (hin _ a0) Do) ?_
 rintro _ h8 ⟨h6,rfl,e4,e5,c3,e7⟩
 change Blk _ _ [V0 (↑(Zo l 12 4):Int),V0 (↑(Zo l 16 4):Int),V0 (↑(Zo l 20 4):Int),V0 (↑(Zo l 24 4):Int),V0 (↑(Zo l 28 4):Int),V0 (↑(Zo l 32 4):Int),V0 (↑(Zo l 36 4):Int),V0 (↑(Zo l 40 4):Int),V0 (↑(Zo l 44 4):Int),V0 (↑(Zo l 48 4):Int),V0 (↑(Zo l 52 4):Int)] _ at c3
 change Blk _ _ [V0 (↑(56:Nat):Int)] _ at e7
 have c5:=a0.trans e4
 have hO:=((((((((((((show Zd [54,3] w _ from f4).trans f8).trans f1).trans g2).trans g7).trans (Q0 (Za W5))).trans (Q0 n6.i)).trans e0).trans e2).trans d5).trans a6).trans a3).trans e5
 exact xe 19 (.tuple #[]) ⟨_,rfl,c5,hO,c3⟩
theorem Zcs(B bs bo:Nat)(s:Sup)(w:V1)(hBw:B≤w.heap.size)(hBo:B≤bo)(hb0:0≤s.blocks)(hb1:s.blocks<9223372036854775808)(ks:Blk w bs [V0 s.tx,V0 s.time,V0 s.unit,V0 s.data,V0 s.blocks,V0 s.top,V0 s.details,V0 s.D,V0 s.G,V0 s.E,V0 s.H] 54)(ko:Blk w bo [.bool true] 4) :
 C0 95 #[P0 bs,.func (.func 133) #[] #[P0 bo]] w ((fun e w'=>∃ u,e=.returned u∧Below B w w'∧Zd [4] w w'∧Blk w' bo [.bool (Yz s)] 4)):=by
 refine zin 64 Tryz.func95 ?_
 refine xc 6 (args:=#[P0 bs,V0 0,V0 2147483647,P0 bo]) (Xs B bs bo 0 _ s.tx 0 2147483647 true _ (N0 hBw (U3 B _).size) hBo ks rfl ko) ?_
 rintro _ W1 ⟨u1,rfl,hb1,e3,f3⟩
 have a9:=ks.q e3 Do
 refine xc 8 (args:=#[.pointer (some ⟨bs,1,none⟩),V0 0,V0 16777215,P0 bo]) (Xs B bs bo 1 _ s.time 0 16777215 (true&&decide ((0:Int)≤s.tx∧s.tx≤2147483647)) _ (N0 hBw hb1.size) hBo a9 rfl f3) ?_
 rintro _ W2 ⟨u2,rfl,f8,e2,f9⟩
 have b8:=hb1.trans f8
 have c6:=a9.q e2 Do
 refine xc 8 (args:=#[.pointer (some ⟨bs,2,none⟩),V0 1,V0 65536,P0 bo]) (Xs B bs bo 2 _ s.unit 1 65536 ((true&&decide ((0:Int)≤s.tx∧s.tx≤2147483647))&&decide ((0:Int)≤s.time∧s.time≤16777215)) _ (N0 hBw b8.size) hBo c6 rfl f9) ?_
 rintro _ W3 ⟨u3,rfl,f7,e1,f1⟩
 have b0:=b8.trans f7
 have b2:=c6.q e1 Do
 refine xc 8 (args:=#[.pointer (some ⟨bs,3,none⟩),V0 0,V0 65536,P0 bo]) (Xs B bs bo 3 _ s.data 0 65536 (((true&&decide ((0:Int)≤s.tx∧s.tx≤2147483647))&&decide ((0:Int)≤s.time∧s.time≤16777215))&&decide ((1:Int)≤s.unit∧s.unit≤65536)) _ (N0 hBw b0.size) hBo b2 rfl f1) ?_
 rintro _ W4 ⟨u4,rfl,f6,e0,f0⟩
 have c2:=b0.trans f6
 have b7:=b2.q e0 Do
 refine xc 8 (args:=#[.pointer (some ⟨bs,4,none⟩),V0 2,V0 14400,P0 bo]) (Xs B bs bo 4 _ s.blocks 2 14400 ((((true&&decide ((0:Int)≤s.tx∧s.tx≤2147483647))&&decide ((0:Int)≤s.time∧s.time≤16777215))&&decide ((1:Int)≤s.unit∧s.unit≤65536))&&decide ((0:Int)≤s.data∧s.data≤65536)) _ (N0 hBw c2.size) hBo b7 rfl f0) ?_
 rintro _ W5 ⟨u5,rfl,f5,e4,e6⟩
 refine xd 3 .z ?_
 refine xbs (.o [0,1,2,3,4,5,6,7,8,9,10,11,12,13,14,15,16,17,20] 18) 6 [.pointer (some ⟨bs,5,none⟩),.pointer (some ⟨bs,6,none⟩),.pointer (some ⟨bs,7,none⟩),.pointer (some ⟨bs,8,none⟩),.pointer (some ⟨bs,9,none⟩),.pointer (some ⟨bs,10,none⟩)] 181 fun b6 W6 n6=>?_
 have d6:=blB (c2.trans f5) hBw (Za W5)
 refine xu (.r [19] 3) 7 ?_
 refine xb 14 0 n6.blk ?_
 have a6:=((b7.q e4 Do).i (Za W5)).i n6.i
 refine xb 9 4 a6 ?_
 refine xw 0 (s.blocks-1) ?_
 have c1:=blB d6 hBw n6.i
 have b9:=(e6.i (Za W5)).i n6.i
 refine xc 0 (args:=#[.pointer (some ⟨bs,5,none⟩),V0 1,V0 (s.blocks-1),P0 bo]) (Xs B bs bo 5 _ s.top 1 (s.blocks-1) (((((true&&decide ((0:Int)≤s.tx∧s.tx≤2147483647))&&decide ((0:Int)≤s.time∧s.time≤16777215))&&decide ((1:Int)≤s.unit∧s.unit≤65536))&&decide ((0:Int)≤s.data∧s.data≤65536))&&decide ((2:Int)≤s.blocks∧s.blocks≤14400)) _ (N0 hBw c1.size) hBo a6 rfl b9) ?_
 rintro _ W7 ⟨u7,rfl,e5,d4,e7⟩
 have b3:=n6.blk.q d4 Do
 refine xb 22 1 b3 ?_
 have a5:=a6.q d4 Do
 refine xb 9 4 a5 ?_
 refine xw 0 (s.blocks-1) ?_
 have c0:=c1.trans e5
 refine xc 0 (args:=#[.pointer (some ⟨bs,6,none⟩),V0 1,V0 (s.blocks-1),P0 bo]) (Xs B bs bo 6 _ s.details 1 (s.blocks-1) ((((((true&&decide ((0:Int)≤s.tx∧s.tx≤2147483647))&&decide ((0:Int)≤s.time∧s.time≤16777215))&&decide ((1:Int)≤s.unit∧s.unit≤65536))&&decide ((0:Int)≤s.data∧s.data≤65536))&&decide ((2:Int)≤s.blocks∧s.blocks≤14400))&&decide ((1:Int)≤s.top∧s.top≤(s.blocks-1))) _ (N0 hBw c0.size) hBo a5 rfl e7) ?_
 rintro _ W8 ⟨u8,rfl,f2,d8,e8⟩
 have c4:=b3.q d8 Do
 refine xb 22 2 c4 ?_
 have a4:=a5.q d8 Do
 refine xb 9 4 a4 ?_
 refine xw 0 (s.blocks-1) ?_
 have c5:=c0.trans f2
 refine xc 0 (args:=#[.pointer (some ⟨bs,7,none⟩),V0 1,V0 (s.blocks-1),P0 bo]) (Xs B bs bo 7 _ s.D 1 (s.blocks-1) (((((((true&&decide ((0:Int)≤s.tx∧s.tx≤2147483647))&&decide ((0:Int)≤s.time∧s.time≤16777215))&&decide ((1:Int)≤s.unit∧s.unit≤65536))&&decide ((0:Int)≤s.data∧s.data≤65536))&&decide ((2:Int)≤s.blocks∧s.blocks≤14400))&&decide ((1:Int)≤s.top∧s.top≤(s.blocks-1)))&&decide ((1:Int)≤s.details∧s.details≤(s.blocks-1))) _ (N0 hBw c5.size) hBo a4 rfl e8) ?_
 rintro _ W9 ⟨u9,rfl,f4,d1,e9⟩
 have b4:=c4.q d1 Do
 refine xb 22 3 b4 ?_
 have a8:=a4.q d1 Do
 refine xb 9 4 a8 ?_
 refine xw 0 (s.blocks-1) ?_
 have c3:=c5.trans f4
 refine xc 0 (args:=#[.pointer (some ⟨bs,8,none⟩),V0 1,V0 (s.blocks-1),P0 bo]) (Xs B bs bo 8 _ s.G 1 (s.blocks-1) ((((((((true&&decide ((0:Int)≤s.tx∧s.tx≤2147483647))&&decide ((0:Int)≤s.time∧s.time≤16777215))&&decide ((1:Int)≤s.unit∧s.unit≤65536))&&decide ((0:Int)≤s.data∧s.data≤65536))&&decide ((2:Int)≤s.blocks∧s.blocks≤14400))&&decide ((1:Int)≤s.top∧s.top≤(s.blocks-1)))&&decide ((1:Int)≤s.details∧s.details≤(s.blocks-1)))&&decide ((1:Int)≤s.D∧s.D≤(s.blocks-1))) _ (N0 hBw c3.size) hBo a8 rfl e9) ?_
 rintro _ g6 ⟨g1,rfl,c8,a2,d5⟩
 have b1:=b4.q a2 Do
 refine xb 22 4 b1 ?_
 have a7:=a8.q a2 Do
 refine xb 9 4 a7 ?_
 refine xw 0 (s.blocks-1) ?_
 have c7:=c3.trans c8
 refine xc 0 (args:=#[.pointer (some ⟨bs,9,none⟩),V0 1,V0 (s.blocks-1),P0 bo]) (Xs B bs bo 9 _ s.E 1 (s.blocks-1) (((((((((true&&decide ((0:Int)≤s.tx∧s.tx≤2147483647))&&decide ((0:Int)≤s.time∧s.time≤16777215))&&decide ((1:Int)≤s.unit∧s.unit≤65536))&&decide ((0:Int)≤s.data∧s.data≤65536))&&decide ((2:Int)≤s.blocks∧s.blocks≤14400))&&decide ((1:Int)≤s.top∧s.top≤(s.blocks-1)))&&decide ((1:Int)≤s.details∧s.details≤(s.blocks-1)))&&decide ((1:Int)≤s.D∧s.D≤(s.blocks-1)))&&decide ((1:Int)≤s.G∧s.G≤(s.blocks-1))) _ (N0 hBw c7.size) hBo a7 rfl d5) ?_
 rintro _ g0 ⟨g2,rfl,d9,a3,c9⟩
 have d0:=b1.q a3 Do
 refine xb 22 5 d0 ?_
 have a1:=a7.q a3 Do
 refine xb 9 4 a1 ?_
 refine xw 0 (s.blocks-1) ?_
 have a0:=c7.trans d9
 refine xc 0 (args:=#[.pointer (some ⟨bs,10,none⟩),V0 1,V0 (s.blocks-1),P0 bo]) (Xs B bs bo 10 _ s.H 1 (s.blocks-1) ((((((((((true&&decide ((0:Int)≤s.tx∧s.tx≤2147483647))&&decide ((0:Int)≤s.time∧s.time≤16777215))&&decide ((1:Int)≤s.unit∧s.unit≤65536))&&decide ((0:Int)≤s.data∧s.data≤65536))&&decide ((2:Int)≤s.blocks∧s.blocks≤14400))&&decide ((1:Int)≤s.top∧s.top≤(s.blocks-1)))&&decide ((1:Int)≤s.details∧s.details≤(s.blocks-1)))&&decide ((1:Int)≤s.D∧s.D≤(s.blocks-1)))&&decide ((1:Int)≤s.G∧s.G≤(s.blocks-1)))&&decide ((1:Int)≤s.E∧s.E≤(s.blocks-1))) _ (N0 hBw a0.size) hBo a1 rfl c9) ?_
 rintro _ g5 ⟨g3,rfl,d2,d3,d7⟩
 have b5:=a0.trans d2
 have hO:=((((((((((((show Zd [4] w _ from e3).trans e2).trans e1).trans e0).trans e4).trans (Q0 (Za W5))).trans (Q0 n6.i)).trans d4).trans d8).trans d1).trans a2).trans a3).trans d3
 exact xe 19 (.tuple #[]) ⟨_,rfl,b5,hO,d7⟩
theorem Zh5(s:Sup)(w:V1)(hb0:0≤s.blocks)(hb1:s.blocks<9223372036854775808) :
 C0 69 #[.agg #[V0 s.tx,V0 s.time,V0 s.unit,V0 s.data,V0 s.blocks,V0 s.top,V0 s.details,V0 s.D,V0 s.G,V0 s.E,V0 s.H]] w (Ret (.bool (Yz s)) w):=by
 refine zin 7 Tryz.func69 ?_
 refine xa 2 [V0 s.tx,V0 s.time,V0 s.unit,V0 s.data,V0 s.blocks,V0 s.top,V0 s.details,V0 s.D,V0 s.G,V0 s.E,V0 s.H] 54 fun b1 W1 n1=>?_
 refine xa 5 [.bool false] 4 fun b2 W2 n2=>?_
 refine xs 0 n2.blk [.bool true] fun W3 u3 k3=>?_
 have g2:=n2.ge n1.i
 have hB:=u3.i (bln n1.i n2.i) g2
 have k1:=u3.A (n1.blk.i n2.i) n2.blk Do
 refine xc 5 (Zcs w.heap.size b1 b2 s _ hB.size g2 hb0 hb1 k1 k3) ?_
 rintro _ W4 ⟨u4,rfl,a1,a3,a2⟩
 refine xb 4 0 a2 ?_
 have a0:=hB.trans a1
 exact xe 4 (.bool (Yz s)) ⟨rfl,a0⟩
theorem Hm(B Bx bs bl off n:Nat)(cs:V6 V2)(x:Int)(lo hi:V2)(p:O0)(c:Nat)(N:V6 Int)(w:V1)(hBm:B≤Bx)(hBx:Bx≤w.heap.size)(hBw:B≤w.heap.size)(hBl:B≤bl)(ks:Blk w bs cs 54)(hn:cs[off]? = some (V0 x))(kl:Blk w bl [.slice p n c] 179)(hup:w.ownsRow Bx 178 2 (.slice p n c) n (N.flatMap Zee))(hnn:n≤1000) :
 C0 96 #[.pointer (some ⟨bs,off,none⟩),lo,hi,P0 bl] w ((fun e w'=>∃ u p' c',e=.returned u∧Below B w w'∧Zd [179,178] w w'∧Blk w' bl [.slice p' (n+1) c'] 179∧w'.ownsRow Bx 178 2 (.slice p' (n+1) c') (n+1) ((N++[x]).flatMap Zee))):=by
 refine zin 14 Tryz.func96 ?_
 refine xd 0 (.t B [179,178]) ?_
 have a8:=ks.i (Za w)
 refine xlt (.e [1,2] 3) (.t B [179,178]) (fun V hV=>(a8.q hV.2 Do).cell (i:=off) hn) ?_
 refine xm2 (.b [4]) 0 5 ?_ ?_
 ·have a4:=kl.i (Za w)
  refine xb 0 0 a4 ?_
  refine xbs (.o [] 5) 1 [V0 4,V0 x] 178 fun b1 W1 n1=>?_
  have a6:=Zb hup (Za w)
  have a0:=Zb a6 n1.i
  have hB:=blB (blB (U3 B w) hBw (Za w)) hBw n1.i
  refine ybi (.o [] 6) (.t B [179,178]) fun _ _ _ _ zJ zQ zo zx zy zK=>Xd (m:=1) (news:=[V0 4,V0 x]) (.agg #[V0 0,V0 0]) 2 16 (n+1) (((N++[x]).flatMap Zee)) zo Tryz.underlying179 K0 rfl Do zx a0 zy (n1.blk.sl 1 1 Do Do) rfl Y4 Y2 M0 (N0 hBx hB.size) Y6 (by rw[C7];rfl) fun b9 c1 W2 o2 b0 b8=>?_
  refine zK _ _ (Xj (b8.mono hBm) b0 a0 Do) ?_
  have a2:=(a4.i n1.i).grown b0 a0 Do
  refine ys (.o [] 7) a2 [.slice b9 (n+1) c1] (.t B [179,178]) fun W3 u3 k3=>⟨(Zr u3 a2 hBl Do),?_⟩
  have b5:=u3.i (hB.trans (b8.mono hBm)) hBl
  have hO:=(((show Zd [179,178] w _ from(Q0 (Za w))).trans (Q0 n1.i)).trans (Q4 b0 a0 Do)).trans (Q1 u3 a2 Do)
  have b2:=u3.j o2 a2 Do
  exact xe 1 (.tuple #[]) ⟨_,_,_,rfl,b5,hO,k3,b2⟩
 refine xbs 0 1 [V0 4,V0 x] 178 fun b4 W4 n4=>?_
 have a7:=Zb hup (Za w)
 have a5:=(kl.i (Za w)).i n4.i
 refine xb (.o [] 0) 0 a5 ?_
 have a1:=Zb a7 n4.i
 have hB:=blB (blB (U3 B w) hBw (Za w)) hBw n4.i
 refine ybi (.o [] 6) (.t B [179,178]) fun _ _ _ _ zJ zQ zo zx zy zK=>Xd (m:=1) (news:=[V0 4,V0 x]) (.agg #[V0 0,V0 0]) 2 16 (n+1) (((N++[x]).flatMap Zee)) zo Tryz.underlying179 K0 rfl Do zx a1 zy (n4.blk.sl 1 1 Do Do) rfl Y4 Y2 M0 (N0 hBx hB.size) Y6 (by rw[C7];rfl) fun c2 c0 W5 o5 b6 b7=>?_
 refine zK _ _ (Xj (b7.mono hBm) b6 a1 Do) ?_
 have a3:=a5.grown b6 a1 Do
 refine ys (.o [] 7) a3 [.slice c2 (n+1) c0] (.t B [179,178]) fun W6 u6 k6=>⟨(Zr u6 a3 hBl Do),?_⟩
 have a9:=u6.i (hB.trans (b7.mono hBm)) hBl
 have hO:=(((show Zd [179,178] w _ from(Q0 (Za w))).trans (Q0 n4.i)).trans (Q4 b6 a1 Do)).trans (Q1 u6 a3 Do)
 have b3:=u6.j o5 a3 Do
 exact xe 1 (.tuple #[]) ⟨_,_,_,rfl,a9,hO,k6,b3⟩
theorem Zi3(B Bx bs bl:Nat)(s:Sup)(p0:O0)(c0:Nat)(w:V1)(hBm:B≤Bx)(hBx:Bx≤w.heap.size)(hBw:B≤w.heap.size)(hBl:B≤bl)(hb0:0≤s.blocks)(hb1:s.blocks<9223372036854775808)(ks:Blk w bs [V0 s.tx,V0 s.time,V0 s.unit,V0 s.data,V0 s.blocks,V0 s.top,V0 s.details,V0 s.D,V0 s.G,V0 s.E,V0 s.H] 54)(kl:Blk w bl [.slice p0 1 c0] 179)(hr0:w.ownsRow Bx 178 2 (.slice p0 1 c0) 1 ([1].flatMap Zee)) :
 C0 95 #[P0 bs,.func (.func 96) #[] #[P0 bl]] w ((fun e w'=>∃ u p c,e=.returned u∧Below B w w'∧Zd [179,178] w w'∧Blk w' bl [.slice p 12 c] 179∧w'.ownsRow Bx 178 2 (.slice p 12 c) 12 ((1::Zdp s).flatMap Zee))):=by
 refine zin 64 Tryz.func95 ?_
 refine xc 6 (args:=#[P0 bs,V0 0,V0 2147483647,P0 bl]) (Hm B Bx bs bl 0 1 _ s.tx _ _ p0 c0 [1] _ hBm (N0 hBx (U3 B _).size) (N0 hBw (U3 B _).size) hBl ks rfl kl hr0 Do) ?_
 rintro _ W1 ⟨u1,p1,c1,rfl,hb1,h7,f3,j3⟩
 have e7:World.ownsRow _ _ _ _ (.slice p1 2 c1) 2 ([1,s.tx].flatMap Zee):=j3
 replace f3:Blk _ _ [.slice p1 2 c1] _:=f3
 have d2:=ks.q h7 Do
 refine xc 8 (args:=#[.pointer (some ⟨bs,1,none⟩),V0 0,V0 16777215,P0 bl]) (Hm B Bx bs bl 1 2 _ s.time _ _ p1 c1 [1,s.tx] _ hBm (N0 hBx hb1.size) (N0 hBw hb1.size) hBl d2 rfl f3 e7 Do) ?_
 rintro _ W2 ⟨u2,p2,c2,rfl,j6,h8,g7,j0⟩
 have f8:World.ownsRow _ _ _ _ (.slice p2 3 c2) 3 ([1,s.tx,s.time].flatMap Zee):=j0
 replace g7:Blk _ _ [.slice p2 3 c2] _:=g7
 have b4:=hb1.trans j6
 have e1:=d2.q h8 Do
 refine xc 8 (args:=#[.pointer (some ⟨bs,2,none⟩),V0 1,V0 65536,P0 bl]) (Hm B Bx bs bl 2 3 _ s.unit _ _ p2 c2 [1,s.tx,s.time] _ hBm (N0 hBx b4.size) (N0 hBw b4.size) hBl e1 rfl g7 f8 Do) ?_
 rintro _ W3 ⟨u3,p3,c3,rfl,i6,h6,e9,j7⟩
 have e5:World.ownsRow _ _ _ _ (.slice p3 4 c3) 4 ([1,s.tx,s.time,s.unit].flatMap Zee):=j7
 replace e9:Blk _ _ [.slice p3 4 c3] _:=e9
 have a9:=b4.trans i6
 have d3:=e1.q h6 Do
 refine xc 8 (args:=#[.pointer (some ⟨bs,3,none⟩),V0 0,V0 65536,P0 bl]) (Hm B Bx bs bl 3 4 _ s.data _ _ p3 c3 [1,s.tx,s.time,s.unit] _ hBm (N0 hBx a9.size) (N0 hBw a9.size) hBl d3 rfl e9 e5 Do) ?_
 rintro _ W4 ⟨u4,p4,c4,rfl,i5,i0,e4,i2⟩
 have f9:World.ownsRow _ _ _ _ (.slice p4 5 c4) 5 ([1,s.tx,s.time,s.unit,s.data].flatMap Zee):=i2
 replace e4:Blk _ _ [.slice p4 5 c4] _:=e4
 have b8:=a9.trans i5
 have e0:=d3.q i0 Do
 refine xc 8 (args:=#[.pointer (some ⟨bs,4,none⟩),V0 2,V0 14400,P0 bl]) (Hm B Bx bs bl 4 5 _ s.blocks _ _ p4 c4 [1,s.tx,s.time,s.unit,s.data] _ hBm (N0 hBx b8.size) (N0 hBw b8.size) hBl e0 rfl e4 f9 Do) ?_
 rintro _ W5 ⟨u5,p5,c5,rfl,j5,i1,f6,i4⟩
 have g8:World.ownsRow _ _ _ _ (.slice p5 6 c5) 6 ([1,s.tx,s.time,s.unit,s.data,s.blocks].flatMap Zee):=i4
 replace f6:Blk _ _ [.slice p5 6 c5] _:=f6
 refine xd 3 .z ?_
 refine xbs (.o [0,1,2,3,4,5,6,7,8,9,10,11,12,13,14,15,16,17,20] 18) 6 [.pointer (some ⟨bs,5,none⟩),.pointer (some ⟨bs,6,none⟩),.pointer (some ⟨bs,7,none⟩),.pointer (some ⟨bs,8,none⟩),.pointer (some ⟨bs,9,none⟩),.pointer (some ⟨bs,10,none⟩)] 181 fun b6 W6 n6=>?_
 have g2:=blB (b8.trans j5) hBw (Za W5)
 refine xu (.r [19] 3) 7 ?_
 refine xb 14 0 n6.blk ?_
 have b3:=((e0.q i1 Do).i (Za W5)).i n6.i
 refine xb 9 4 b3 ?_
 refine xw 0 (s.blocks-1) ?_
 have b7:=blB g2 hBw n6.i
 have e3:=(f6.i (Za W5)).i n6.i
 have b1:=Zb (Zb g8 (Za W5)) n6.i
 refine xc 0 (args:=#[.pointer (some ⟨bs,5,none⟩),V0 1,V0 (s.blocks-1),P0 bl]) (Hm B Bx bs bl 5 6 _ s.top _ _ p5 c5 [1,s.tx,s.time,s.unit,s.data,s.blocks] _ hBm (N0 hBx b7.size) (N0 hBw b7.size) hBl b3 rfl e3 b1 Do) ?_
 rintro _ W7 ⟨u7,p6,c6,rfl,i3,g1,e8,j2⟩
 have h1:World.ownsRow _ _ _ _ (.slice p6 7 c6) 7 ([1,s.tx,s.time,s.unit,s.data,s.blocks,s.top].flatMap Zee):=j2
 replace e8:Blk _ _ [.slice p6 7 c6] _:=e8
 have d4:=n6.blk.q g1 Do
 refine xb 22 1 d4 ?_
 have b2:=b3.q g1 Do
 refine xb 9 4 b2 ?_
 refine xw 0 (s.blocks-1) ?_
 have b5:=b7.trans i3
 refine xc 0 (args:=#[.pointer (some ⟨bs,6,none⟩),V0 1,V0 (s.blocks-1),P0 bl]) (Hm B Bx bs bl 6 7 _ s.details _ _ p6 c6 [1,s.tx,s.time,s.unit,s.data,s.blocks,s.top] _ hBm (N0 hBx b5.size) (N0 hBw b5.size) hBl b2 rfl e8 h1 Do) ?_
 rintro _ W8 ⟨u8,p7,c7,rfl,j4,g3,g0,i8⟩
 have f4:World.ownsRow _ _ _ _ (.slice p7 8 c7) 8 ([1,s.tx,s.time,s.unit,s.data,s.blocks,s.top,s.details].flatMap Zee):=i8
 replace g0:Blk _ _ [.slice p7 8 c7] _:=g0
 have d7:=d4.q g3 Do
 refine xb 22 2 d7 ?_
 have a2:=b2.q g3 Do
 refine xb 9 4 a2 ?_
 refine xw 0 (s.blocks-1) ?_
 have d0:=b5.trans j4
 refine xc 0 (args:=#[.pointer (some ⟨bs,7,none⟩),V0 1,V0 (s.blocks-1),P0 bl]) (Hm B Bx bs bl 7 8 _ s.D _ _ p7 c7 [1,s.tx,s.time,s.unit,s.data,s.blocks,s.top,s.details] _ hBm (N0 hBx d0.size) (N0 hBw d0.size) hBl a2 rfl g0 f4 Do) ?_
 rintro _ W9 ⟨u9,p8,c8,rfl,i9,f1,h3,j1⟩
 have f5:World.ownsRow _ _ _ _ (.slice p8 9 c8) 9 ([1,s.tx,s.time,s.unit,s.data,s.blocks,s.top,s.details,s.D].flatMap Zee):=j1
 replace h3:Blk _ _ [.slice p8 9 c8] _:=h3
 have d5:=d7.q f1 Do
 refine xb 22 3 d5 ?_
 have a8:=a2.q f1 Do
 refine xb 9 4 a8 ?_
 refine xw 0 (s.blocks-1) ?_
 have b9:=d0.trans i9
 refine xc 0 (args:=#[.pointer (some ⟨bs,8,none⟩),V0 1,V0 (s.blocks-1),P0 bl]) (Hm B Bx bs bl 8 9 _ s.G _ _ p8 c8 [1,s.tx,s.time,s.unit,s.data,s.blocks,s.top,s.details,s.D] _ hBm (N0 hBx b9.size) (N0 hBw b9.size) hBl a8 rfl h3 f5 Do) ?_
 rintro _ k3 ⟨j8,p9,c9,rfl,f0,b0,a4,i7⟩
 have f2:World.ownsRow _ _ _ _ (.slice p9 10 c9) 10 ([1,s.tx,s.time,s.unit,s.data,s.blocks,s.top,s.details,s.D,s.G].flatMap Zee):=i7
 replace a4:Blk _ _ [.slice p9 10 c9] _:=a4
 have e2:=d5.q b0 Do
 refine xb 22 4 e2 ?_
 have d1:=a8.q b0 Do
 refine xb 9 4 d1 ?_
 refine xw 0 (s.blocks-1) ?_
 have a5:=b9.trans f0
 refine xc 0 (args:=#[.pointer (some ⟨bs,9,none⟩),V0 1,V0 (s.blocks-1),P0 bl]) (Hm B Bx bs bl 9 10 _ s.E _ _ p9 c9 [1,s.tx,s.time,s.unit,s.data,s.blocks,s.top,s.details,s.D,s.G] _ hBm (N0 hBx a5.size) (N0 hBw a5.size) hBl d1 rfl a4 f2 Do) ?_
 rintro _ j9 ⟨k1,e6,f7,rfl,h4,a7,a6,h0⟩
 have d8:World.ownsRow _ _ _ _ (.slice e6 11 f7) 11 ([1,s.tx,s.time,s.unit,s.data,s.blocks,s.top,s.details,s.D,s.G,s.E].flatMap Zee):=h0
 replace a6:Blk _ _ [.slice e6 11 f7] _:=a6
 have g5:=e2.q a7 Do
 refine xb 22 5 g5 ?_
 have a1:=d1.q a7 Do
 refine xb 9 4 a1 ?_
 refine xw 0 (s.blocks-1) ?_
 have a0:=a5.trans h4
 refine xc 0 (args:=#[.pointer (some ⟨bs,10,none⟩),V0 1,V0 (s.blocks-1),P0 bl]) (Hm B Bx bs bl 10 11 _ s.H _ _ e6 f7 [1,s.tx,s.time,s.unit,s.data,s.blocks,s.top,s.details,s.D,s.G,s.E] _ hBm (N0 hBx a0.size) (N0 hBw a0.size) hBl a1 rfl a6 d8 Do) ?_
 rintro _ k2 ⟨k0,h5,h9,rfl,g6,g9,a3,h2⟩
 have d6:World.ownsRow _ _ _ _ (.slice h5 12 h9) 12 ([1,s.tx,s.time,s.unit,s.data,s.blocks,s.top,s.details,s.D,s.G,s.E,s.H].flatMap Zee):=h2
 replace a3:Blk _ _ [.slice h5 12 h9] _:=a3
 have d9:=a0.trans g6
 have hO:=((((((((((((show Zd [179,178] w _ from h7).trans h8).trans h6).trans i0).trans i1).trans (Q0 (Za W5))).trans (Q0 n6.i)).trans g1).trans g3).trans f1).trans b0).trans a7).trans g9
 exact xe 19 (.tuple #[]) ⟨_,_,_,rfl,d9,hO,a3,d6⟩
theorem Zri{N:V6 Int}{i:Nat}(h:i<N.length):Pg (N.take (i+1))=Pg (N.take i)++leB (N.getD i 0) 4:=by
 unfold Pg;rw[B5 h,C7];simp[getD,h]
theorem byte_inj{x y:UInt8}(h:(x.toNat:Int)=(y.toNat:Int)):x=y:=UInt8.toNat_inj.1 M0
theorem bytes_ne{a b:Bl}{i:Nat}(hi:i<a.length)(hl:a.length=b.length)(h:((a.getD i 0).toNat:Int)≠((b.getD i 0).toNat:Int)):(a==b)=false:=by
 apply beq_false_of_ne;rintro rfl;exact h rfl
theorem bytes_eq{a b:Bl}(hl:a.length=b.length)(h:∀ j,j<a.length→a.getD j 0=b.getD j 0):(a==b)=true:=by
 rw[beq_iff_eq];apply F6 hl;intro j h1 h2;have:=h j h1;simpa [getD,h1,h2] using this
theorem Zew(p q:O0)(c d:Nat)(a b:Bl)(w:V1)(hl:a.length≤100000000)(h:Bys w (.slice p a.length c) a)(h2:Bys w (.slice q b.length d) b) :
 C0 191 #[.slice p a.length c,.slice q b.length d] w (Ret (.bool (a==b)) w):=by
 refine zin 26 Tryz.func191 ?_
 refine xin 15 (a.length:Int) (b.length:Int) (fun a3=>?_) (fun a3=>?_)
 ·refine xe 7 (.bool false) ?_
  rw[show(a==b)=false from beq_false_of_ne (fun q=>by subst q;simp at *)];exact⟨rfl,(B4 w)⟩
 have hB:=U3 w.heap.size w
 refine zl 11 26 (fun zm a2 V=>∃ (i:Nat),a2=[(0,.slice p a.length c),(1,.slice q b.length d),(12,V0 (a.length:Int)),(13,V0 (i:Int))]∧zm=a.length-((i:Int)).toNat∧B3 w V∧i≤a.length∧(∀ j,j<i→a.getD j 0=b.getD j 0)) ⟨0,rfl,rfl,hB,A5 _,?_⟩ ?_
 ·exact fun j hj=>absurd hj M0
 rintro _ _ W2 ⟨i,rfl,rfl,a1,hi,hz⟩ J2 a4 r2
 refine xid 6 ((i:Int)<(a.length:Int)) (fun a5=>?_) (fun a5=>?_)
 ·refine xd 11 .z ?_
  refine xx (.e [0,1] 2) _ a.length i 1 (Bys.elem h (k:=i) M0).1 ?_
  have a0:=bln a1 (Za W2)
  refine xl (.e [] 3) ((Bys.elem (h.i a0) (k:=i) M0).2) ?_
  refine xx (.e [4,5] 6) _ b.length i 1 (Bys.elem h2 (k:=i) M0).1 ?_
  refine xl (.e [] 7) ((Bys.elem (h2.i a0) (k:=i) M0).2) ?_
  refine xin (.r [8] 2) (↑(a.getD i 0).toNat:Int) (↑(b.getD i 0).toNat:Int) (fun a6=>?_) (fun a6=>?_)
  ·refine xe 11 (.bool false) ?_
   rw[bytes_ne (i:=i) M0 M0 Y3];exact⟨rfl,a0⟩
  refine xwm 4 ((i:Int)+1) (↑(i+1):Int) ?_
  exact ze 2 (a4 _ _ _ ⟨i+1,rfl,rfl,a0,M0,fun j hj=>(F0 j i).elim (hz j) (fun q=>by obtain rfl:j=i:=M0;exact byte_inj Y3)⟩ M0)
 refine xe 11 (.bool true) ?_
 rw[bytes_eq M0 (fun j hj=>hz j M0)];exact⟨rfl,a1⟩
theorem Zco(p q:O0)(c d m n:Nat)(a b:Bl)(w:V1)(hm:a.length=m)(hn:b.length=n)(hl:m≤100000000)(h:Bys w (.slice p m c) a)(h2:Bys w (.slice q n d) b):C0 191 #[.slice p m c,.slice q n d] w (Ret (.bool (a==b)) w):=by
 subst hm hn;exact Zew p q c d a b w hl h h2
theorem Pack_4s(p:O0)(c:Nat)(N:V6 Int)(w:V1)(hn2:N.length≤1000)(hN:∀ i,i<N.length→0≤N.getD i 0∧N.getD i 0<4294967296)(hF:Sts Zee w (.slice p N.length c) N) :
 C0 97 #[.slice p N.length c] w (Kd (fun w' r=>∃ q d,r=.tuple #[.slice q (N.length*4) d,V0 0]∧w'.ownsRow w.heap.size 5 1 (.slice q (N.length*4) d) (N.length*4) ((Pg N).map bv)) w):=by
 refine zin 32 Tryz.func97 ?_
 have hB:=U3 w.heap.size w
 refine zl 20 32 (fun zm b0 V=>∃ (i m:Nat) (q:O0) (d:Nat),b0=[(4,.slice q m d),(7,.slice p N.length c),(8,V0 (N.length:Int)),(9,V0 (i:Int))]∧zm=N.length-((i:Int)).toNat∧B3 w V∧V.ownsRow w.heap.size 5 1 (.slice q m d) m ((Pg (N.take i)).map bv)∧i≤N.length∧m=i*4) ⟨0,0,_,_,rfl,rfl,hB,A8 _ _ _ _,A5 _,rfl⟩ ?_
 rintro _ _ W1 ⟨i,m,q,d,rfl,rfl,a0,ho,hi,hm⟩ J1 b5 r1
 refine xid 6 ((i:Int)<(N.length:Int)) (fun b4=>?_) (fun b4=>?_)
 ·refine xx 6 _ N.length i 2 (Sts.cell hF Zm7 0 (k:=i) (i:=0) M0 rfl).1 ?_
  refine xlv 0 (Sts.rp (k:=i) (hF.i a0) Zm7 0 M0 Do) ?_
  refine xa 0 [V0 0,V0 0] 178 fun b3 W3 n3=>?_
  have g3:=n3.ge a0
  refine xsv 0 n3.blk [V0 4,V0 (N.getD i 0)] fun W4 u4 k4=>?_
  refine xb 6 0 k4 ?_
  refine xr 0 (Zes _) fun W5 a6=>?_
  have a2:=k4.i a6
  refine xb 10 1 a2 ?_
  refine xb 1 0 a2 ?_
  refine xr 0 (Zod (N.getD i 0) (hN i M0).1 (hN i M0).2 _) fun W6 a5=>?_
  have a4:=a2.i a5
  refine xb 9 1 a4 ?_
  refine xb 1 0 a4 ?_
  refine xc 0 (Zfz (N.getD i 0) (hN i M0).1 _) ?_
  rintro _ W7 ⟨_,rfl,a9,h2⟩
  have b2:=(bln (bln (u4.i (bln a0 n3.i) g3) a6) a5).size
  have a1:=Zg h2 b2
  unfold Et at a1
  rw[Zl] at a1
  obtain⟨p2,c2,rfl⟩:=(Zf a1).slice
  have a8:=Zb (Zb (Zb (u4.j (Zb ho n3.i) n3.blk Do) a6) a5) a9
  have a3:=bln (bln (bln (u4.i (bln a0 n3.i) g3) a6) a5) a9
  refine xbi 0 fun _ _ _ _ zJ zQ zo zx zy zK=>Xd (m:=4) (news:=(leB (N.getD i 0) 4).map bv) (.int .u8 0) 1 1 (m+4) (((Pg (N.take (i+1))).map bv)) zo Tryz.underlying50 K0 rfl Do zx a8 zy (Zf a1) (by simp[Zl]) (Vq _) Y2 M0 a3.size Y6 (by rw[Zri M0,A6]) fun b7 b8 W8 o8 b6 b1=>?_
  refine zK _ _ ?_
  refine xwm 5 ((i:Int)+1) (↑(i+1):Int) ?_
  have a7:=a3.trans b1
  exact ze 2 (b5 _ _ _ ⟨i+1,_,_,_,rfl,rfl,a7,o8,M0,M0⟩ M0)
 refine xe 13 (.tuple #[.slice q m d,V0 0]) ?_
 obtain rfl:i=N.length:=M0
 rw[L4] at ho
 subst hm
 exact⟨_,rfl,a0,_,_,rfl,ho⟩
theorem sup_put3(s:Sup):((Ls++replicate 236 (0:UInt8)).map bv).take 8++(Pg (1::Zdp s)).map bv++((Ls++replicate 236 (0:UInt8)).map bv).drop (8+48)=(Mw s).map bv:=by
 unfold Mw;rw[A6 (l₁:=Ls++Pg (1::Zdp s)),A6 (l₁:=Ls) (l₂:=Pg (1::Zdp s))];congr 1
theorem supN_bd{s:Sup}(h:Yz s=true):∀ i,i<(1::Zdp s).length→0≤(1::Zdp s).getD i 0∧(1::Zdp s).getD i 0<4294967296:=by
 unfold Yz at h;simp only[E2,decide_eq_true_iff,Bool.true_and] at h;intro i hi;have a0:i<12:=hi;obtain rfl|rfl|rfl|rfl|rfl|rfl|rfl|rfl|rfl|rfl|rfl|rfl:i=0∨i=1∨i=2∨i=3∨i=4∨i=5∨i=6∨i=7∨i=8∨i=9∨i=10∨i=11:=M0
 all_goals simp[Zdp,getD]
 all_goals omega
theorem Zjx(s:Sup)(w:V1)(hb0:0≤s.blocks)(hb1:s.blocks<9223372036854775808)(hr:Yz s=false) :
 C0 46 #[.agg #[V0 s.tx,V0 s.time,V0 s.unit,V0 s.data,V0 s.blocks,V0 s.top,V0 s.details,V0 s.D,V0 s.G,V0 s.E,V0 s.H]] w (Ret (.tuple #[S1,V0 1]) w):=by
 refine zin 28 Tryz.func46 ?_
 refine xa 2 [V0 s.tx,V0 s.time,V0 s.unit,V0 s.data,V0 s.blocks,V0 s.top,V0 s.details,V0 s.D,V0 s.G,V0 s.E,V0 s.H] 54 fun b1 W1 n1=>?_
 refine xlv 7 n1.blk.rp ?_
 refine xr 0 (Zh5 s _ hb0 hb1) fun W2 a0=>?_
 refine xk 3 (show(!(Yz s):Bool)=true from by rw[hr];rfl) ?_
 have hB:=bln n1.i a0
 exact xe 8 (.tuple #[S1,V0 1]) ⟨rfl,hB⟩
theorem Zrp(s:Sup)(w:V1)(hb0:0≤s.blocks)(hb1:s.blocks<9223372036854775808)(hr:Yz s=true) :
 C0 46 #[.agg #[V0 s.tx,V0 s.time,V0 s.unit,V0 s.data,V0 s.blocks,V0 s.top,V0 s.details,V0 s.D,V0 s.G,V0 s.E,V0 s.H]] w (Kd (fun w' r=>∃ p c,r=.tuple #[.slice p 244 c,V0 0]∧w'.ownsRow w.heap.size 5 1 (.slice p 244 c) 244 ((Mw s).map bv)) w):=by
 have hN:=supN_bd hr
 refine zin 28 Tryz.func46 ?_
 refine xa 2 [V0 s.tx,V0 s.time,V0 s.unit,V0 s.data,V0 s.blocks,V0 s.top,V0 s.details,V0 s.D,V0 s.G,V0 s.E,V0 s.H] 54 fun b1 W1 n1=>?_
 refine xlv 7 n1.blk.rp ?_
 refine xr 0 (Zh5 s _ hb0 hb1) fun W2 a3=>?_
 refine xk 3 (show(!(Yz s):Bool)=false from by rw[hr];rfl) ?_
 refine xbs 5 1 [V0 4,V0 1] 178 fun b3 W3 n3=>?_
 refine xa 0 [S1] 179 fun b4 W4 n4=>?_
 refine xs 0 n4.blk [.slice (S3 b3) 1 1] fun W5 u5 k5=>?_
 have g4:=n4.ge (bln (bln n1.i a3) n3.i)
 have k3:=u5.A (n3.blk.i n4.i) n4.blk Do
 have g3:=n3.ge (bln n1.i a3)
 have a5:World.ownsRow W5 w.heap.size 178 2 (.slice (S3 b3) 1 1) 1 (([1]:V6 Int).flatMap Zee):=Xw (size:=2) (n:=1) k3 g3 rfl Do
 have hB:=u5.i (bln (bln (bln n1.i a3) n3.i) n4.i) g4
 have a8:=u5.A (((n1.blk.i a3).i n3.i).i n4.i) n4.blk Do
 refine xc 5 (args:=#[P0 b1,.func (.func 96) #[] #[P0 b4]]) (Zi3 w.heap.size w.heap.size b1 b4 s _ 1 _ (At _) hB.size hB.size g4 hb0 hb1 a8 k5 a5) ?_
 rintro _ W6 ⟨u6,b7,b8,rfl,c1,d0,c5,a6⟩
 refine xb 4 0 c5 ?_
 refine xc 0 (Pack_4s b7 b8 (1::Zdp s) _ (show 12≤1000 by decide) hN (Zf a6)) ?_
 rintro _ W7 ⟨_,rfl,c4,q2,d2,rfl,h2⟩
 have c7:=(hB.trans c1).size
 have a7:=Zg h2 c7
 replace h2:World.ownsRow _ _ _ _ (.slice q2 48 d2) 48 ((Pg (1::Zdp s)).map bv):=a7
 have a9:=bln (hB.trans c1) c4
 have c0:=a9
 refine xmk 9 fun _ _ _ _ zJ zQ zo zx zy zK=>Ht 244 (.int .u8 0) 1 1 ((replicate 244 (0:UInt8)).map bv) zo zx zy Tryz.underlying50 K0 rfl M0 M0 (Zjf 244) fun b9 W9 n9=>?_
 refine zK _ _ ?_
 have o9:=Xw (size:=1) (n:=244) n9.blk (n9.ge (B4 W7)) (by rw[A3,B7]) Y2
 refine xbi 7 (t2:=9) fun _ _ _ _ zJ zQ zo zx zy zK=>Zn7 (dLen:=244) (dCap:=244) (off:=0) ([83,67,65,78,84,76,73,78]) (((Ls++replicate 236 (0:UInt8)).map bv)) zo Tryz.underlying50 K0 zx zy o9 Do Do n9.i.size Y6 fun d1 c6 c9 a4=>?_
 refine zK _ _ ?_
 have a1:=Zf h2
 have a0:=n9.i.trans a4
 refine xbi 2 (t2:=50) fun _ _ _ _ zJ zQ zo zx zy zK=>Ct (dLen:=236) (dCap:=236) (off:=8) 48 ((Pg (1::Zdp s)).map bv) (((Mw s).map bv)) zo Tryz.underlying50 K0 zx zy (a1.i a0) c6 (by rw[A3,Ou];rfl) Do Do (Vq _) a0.size (sup_put3 s) fun c2 c3 c8 b6=>?_
 refine zK _ _ ?_
 have b0:=a0.trans b6
 have b2:B3 W7 c2:=b0
 have b5:w.heap.size≤W7.heap.size:=c0.size
 have hB:=bln c0 b2
 have a2:=Zg c3 b5
 exact xe 10 (.tuple #[.slice (S3 b9) 244 244,V0 0]) ⟨_,rfl,hB,_,_,rfl,a2⟩
theorem readS_bd(l:Bl):0≤(Zh l).blocks∧(Zh l).blocks<9223372036854775808:=by
 have:=Jb l 28 4 Do;show 0≤(Zo l 28 4:Int)∧(Zo l 28 4:Int)<9223372036854775808;omega
theorem Zn0(s:Sup)(w:V1)(hb:0≤s.blocks∧s.blocks<9223372036854775808):C0 46 #[.agg #[V0 s.tx,V0 s.time,V0 s.unit,V0 s.data,V0 s.blocks,V0 s.top,V0 s.details,V0 s.D,V0 s.G,V0 s.E,V0 s.H]] w (fun e w' =>
 (Yz s=false∧e=.returned (.tuple #[S1,V0 1])∧B3 w w') ∨
 (Yz s=true∧∃ p c,e=.returned (.tuple #[.slice p 244 c,V0 0])∧B3 w w'∧w'.ownsRow w.heap.size 5 1 (.slice p 244 c) 244 ((Mw s).map bv))):=by
 cases hr:Yz s with
 | false =>
  refine(Zjx s w hb.1 hb.2 hr).mono ?_
  rintro e W ⟨rfl,h⟩
  exact .inl ⟨rfl,rfl,h⟩
 | true =>
  refine(Zrp s w hb.1 hb.2 hr).mono ?_
  rintro e W ⟨_,rfl,h,p,c,rfl,ho⟩
  exact .inr ⟨rfl,p,c,rfl,h,ho⟩
def SupP(l:Bl)(w:V1)(e:V5)(w':V1):Prop :=
 (Zuk l=false∧e=.returned (.tuple #[.agg #[V0 0,V0 0,V0 0,V0 0,V0 0,V0 0,V0 0,V0 0,V0 0,V0 0,V0 0],V0 7])∧B3 w w')∨(Zuk l=true∧e=.returned (.tuple #[.agg #[V0 ((Zh l).tx),V0 ((Zh l).time),V0 ((Zh l).unit),V0 ((Zh l).data),V0 ((Zh l).blocks),V0 ((Zh l).top),V0 ((Zh l).details),V0 ((Zh l).D),V0 ((Zh l).G),V0 ((Zh l).E),V0 ((Zh l).H)],V0 0])∧B3 w w')
theorem Aq{l:Bl}(hl:l.length=244):Zuk l=((Mw (Zh l)==l)&&Yz (Zh l)):=by rw[supB_eq hl];rfl
theorem sup_Read(a:O0)(c:Nat)(l:Bl)(w:V1)(hl:l.length=244)(h:Bys w (.slice a 244 c) l) :
 C0 121 #[.slice a 244 c] w (SupP l w):=by
 refine zin 29 Tryz.func121 ?_
 refine xa 2 [.slice a 244 c] 50 fun b1 W1 n1=>?_
 refine xa 0 [V0 0,V0 0,V0 0,V0 0,V0 0,V0 0,V0 0,V0 0,V0 0,V0 0,V0 0] 54 fun b2 W2 n2=>?_
 refine xa 5 [V0 0,V0 0,V0 0,V0 0,V0 0,V0 0,V0 0,V0 0,V0 0,V0 0,V0 0] 54 fun b3 W3 n3=>?_
 have k1:=(n1.blk.i n2.i).i n3.i
 refine xb 5 0 k1 ?_
 refine xa 9 [V0 0] 3 fun b4 W4 n4=>?_
 refine xs 0 n4.blk [V0 12] fun W5 u5 k5=>?_
 have g4:=n4.ge (bln (bln n1.i n2.i) n3.i)
 have b8:=u5.A ((n2.blk.i n3.i).i n4.i) n4.blk Do
 have d2:=b8
 have hB:=u5.i (bln (bln (bln n1.i n2.i) n3.i) n4.i) g4
 have k3:=u5.A (n3.blk.i n4.i) n4.blk Do
 have a4:=u5.A (k1.i n4.i) n4.blk Do
 have g3:=n3.ge (bln n1.i n2.i)
 refine xc 5 (args:=#[P0 b3,.func (.func 189) #[] #[P0 b1,P0 b4]]) (Zeo b3 b3 b1 b4 a c l _ (by have:=n3.at_;have:=hB.size;have q:=(k3).lt;omega) (At _) (by have q1:=n3.at_;have q2:=n3.size;have q3:=n4.at_;omega) k3 a4 k5 hl (fun W q=>h.i (hB.trans (q.mono g3)))) ?_
 rintro _ W6 ⟨u6,rfl,a9,c8,b0⟩
 have b5:=d2.h2 a9 (by have q1:=n2.at_;have q2:=n2.size;have q3:=n3.at_;omega)
 replace b0:Blk _ _ [V0 ((Zh l).tx),V0 ((Zh l).time),V0 ((Zh l).unit),V0 ((Zh l).data),V0 ((Zh l).blocks),V0 ((Zh l).top),V0 ((Zh l).details),V0 ((Zh l).D),V0 ((Zh l).G),V0 ((Zh l).E),V0 ((Zh l).H)] _:=b0
 refine xlv 5 b0.rp ?_
 refine xc 0 (Zn0 (Zh l) _ (readS_bd l)) ?_
 rintro e W7 c5
 rcases c5 with ⟨b7,rfl,a0⟩|⟨b7,p4,c4,rfl,a0,h4⟩
 ·have a5:=b5.i a0
  refine xsv 23 a5 [V0 0,V0 0,V0 0,V0 0,V0 0,V0 0,V0 0,V0 0,V0 0,V0 0,V0 0] fun W8 u8 k8=>?_
  have g2:=n2.ge n1.i
  have b6:=u8.i (bln (hB.trans (a9.mono g3)) a0) g2
  exact xec 5 k8 (.tuple #[.agg #[V0 0,V0 0,V0 0,V0 0,V0 0,V0 0,V0 0,V0 0,V0 0,V0 0,V0 0],V0 7]) (.inl ⟨by rw[Aq hl,b7];exact P2 _,rfl,b6⟩)
 have d1:=(hB.trans (a9.mono g3)).size
 have c3:=(a4.q c8 Do).i a0
 refine xb 13 0 c3 ?_
 have b9:=Zg h4 d1
 have a1:=bln (hB.trans (a9.mono g3)) a0
 refine xr 0 (args:=#[.slice p4 244 c4,.slice a 244 c]) (Zco p4 a c4 c 244 244 (Mw (Zh l)) l _ (Ld _) hl Do (Vr (Zf b9) (Ld _)) (h.i a1)) fun W9 a6=>?_
 refine xi 4 (!(Mw (Zh l)==l)) (fun a2=>?_) (fun a2=>?_)
 ·have c2:(Mw (Zh l)==l)=false:=by simpa using a2
  have a7:=(b5.i a0).i a6
  refine xsv 3 a7 [V0 0,V0 0,V0 0,V0 0,V0 0,V0 0,V0 0,V0 0,V0 0,V0 0,V0 0] fun d3 c6 c7=>?_
  have g2:=n2.ge n1.i
  have c1:=c6.i (bln a1 a6) g2
  exact xec 5 c7 (.tuple #[.agg #[V0 0,V0 0,V0 0,V0 0,V0 0,V0 0,V0 0,V0 0,V0 0,V0 0,V0 0],V0 7]) (.inl ⟨by rw[Aq hl,c2];rfl,rfl,c1⟩)
 have c2:(Mw (Zh l)==l)=true:=by simpa using a2
 have a8:=(b0.i a0).i a6
 refine xlv 4 a8.rp ?_
 have a3:=(b5.i a0).i a6
 refine xsv 0 a3 [V0 ((Zh l).tx),V0 ((Zh l).time),V0 ((Zh l).unit),V0 ((Zh l).data),V0 ((Zh l).blocks),V0 ((Zh l).top),V0 ((Zh l).details),V0 ((Zh l).D),V0 ((Zh l).G),V0 ((Zh l).E),V0 ((Zh l).H)] fun d4 d0 c9=>?_
 have g2:=n2.ge n1.i
 have c0:=d0.i (bln a1 a6) g2
 exact xec 4 c9 (.tuple #[.agg #[V0 ((Zh l).tx),V0 ((Zh l).time),V0 ((Zh l).unit),V0 ((Zh l).data),V0 ((Zh l).blocks),V0 ((Zh l).top),V0 ((Zh l).details),V0 ((Zh l).D),V0 ((Zh l).G),V0 ((Zh l).E),V0 ((Zh l).H)],V0 0]) (.inr ⟨by rw[Aq hl,c2,b7];rfl,rfl,c0⟩)
def Bv(l:Bl)(n:Nat):Int:=if Zuk l then(if(n:Int)<(Zh l).blocks then 2 else 0) else 7
def Yt(l:Bl):Int:=if inE l 1 0=0 then Bv (inB l 0) (l.length/256) else inE l 1 0
def Sup1P(l:Bl)(n:Nat)(w:V1)(e:V5)(w':V1):Prop :=
 (Bv l n≠0∧∃ s:Sup,e=.returned (.tuple #[.agg #[V0 s.tx,V0 s.time,V0 s.unit,V0 s.data,V0 s.blocks,V0 s.top,V0 s.details,V0 s.D,V0 s.G,V0 s.E,V0 s.H],V0 (Bv l n)])∧B3 w w')∨(Bv l n=0∧e=.returned (.tuple #[.agg #[V0 ((Zh l).tx),V0 ((Zh l).time),V0 ((Zh l).unit),V0 ((Zh l).data),V0 ((Zh l).blocks),V0 ((Zh l).top),V0 ((Zh l).details),V0 ((Zh l).D),V0 ((Zh l).G),V0 ((Zh l).E),V0 ((Zh l).H)],V0 0])∧B3 w w')
def Zuc(l:Bl)(w:V1)(e:V5)(w':V1):Prop :=
 (Yt l≠0∧∃ b,e=.returned (.tuple #[.agg #[V0 0,V0 0,V0 0,V0 0,V0 0,V0 0,V0 0,V0 0,V0 0,V0 0,V0 0],.iface 201 (P0 b)])∧B3 w w'∧Kx w' [some 0] (some (Yt l)) (.iface 201 (P0 b))) ∨
 (Yt l=0∧e=.returned (.tuple #[.agg #[V0 ((Zh (inB l 0)).tx),V0 ((Zh (inB l 0)).time),V0 ((Zh (inB l 0)).unit),V0 ((Zh (inB l 0)).data),V0 ((Zh (inB l 0)).blocks),V0 ((Zh (inB l 0)).top),V0 ((Zh (inB l 0)).details),V0 ((Zh (inB l 0)).D),V0 ((Zh (inB l 0)).G),V0 ((Zh (inB l 0)).E),V0 ((Zh (inB l 0)).H)],.nilIface])∧B3 w w')
def supZ:Sup:=⟨0,0,0,0,0,0,0,0,0,0,0⟩
theorem super_1(B b bm:Nat)(pi:O0)(ni ci:Nat)(li:Bl)(a:O0)(c:Nat)(l:Bl)(w:V1)(hI:ImgR B b pi ni ci li w)(km:Blk w bm [P0 b] 37)(hl:l.length=244)(h:Bys w (.slice a 244 c) l) :
 C0 120 #[.slice a 244 c,P0 bm] w (Sup1P l (ni/256) w):=by
 have c9:=hI.hn
 refine zin 24 Tryz.func120 ?_
 refine xa 2 [V0 0,V0 0,V0 0,V0 0,V0 0,V0 0,V0 0,V0 0,V0 0,V0 0,V0 0] 54 fun b1 W1 n1=>?_
 refine xc 6 (sup_Read a c l _ hl (h.i n1.i)) ?_
 rintro e W2 c5
 rcases c5 with ⟨a5,rfl,a4⟩|⟨a5,rfl,a4⟩
 ·refine xa 3 [V0 0,V0 0,V0 0,V0 0,V0 0,V0 0,V0 0,V0 0,V0 0,V0 0,V0 0] 54 fun b3 W3 n3=>?_
  have k1:=n1.blk.i a4
  have a6:=n3.ne k1
  have a7:=bln n1.i a4
  have g3:=n3.ge a7
  refine xsv 0 n3.blk [V0 0,V0 0,V0 0,V0 0,V0 0,V0 0,V0 0,V0 0,V0 0,V0 0,V0 0] fun W4 u4 k4=>?_
  refine xd 5 .z ?_
  have b4:=k4.i (Za W4)
  refine xlv (.r [0,1,2,3,4,5,6,7,8] 7) b4.rp ?_
  have b7:=(u4.blk (k1.i n3.i) a6).i (Za W4)
  refine xsv 1 b7 [V0 0,V0 0,V0 0,V0 0,V0 0,V0 0,V0 0,V0 0,V0 0,V0 0,V0 0] fun W5 u5 k5=>?_
  have g1:=n1.ge (B4 w)
  have b2:=u5.i (bln (u4.i (bln a7 n3.i) g3) (Za W4)) g1
  exact xec 4 k5 (.tuple #[.agg #[V0 0,V0 0,V0 0,V0 0,V0 0,V0 0,V0 0,V0 0,V0 0,V0 0,V0 0],V0 7]) (.inl ⟨by unfold Bv;rw[a5,V7 Do];decide,supZ,by unfold Bv;rw[a5,V7 Do];rfl,b2⟩)
 refine xa 3 [V0 0,V0 0,V0 0,V0 0,V0 0,V0 0,V0 0,V0 0,V0 0,V0 0,V0 0] 54 fun b6 W6 n6=>?_
 have k1:=n1.blk.i a4
 have a0:=n6.ne k1
 have a8:=bln n1.i a4
 have g6:=n6.ge a8
 refine xsv 0 n6.blk [V0 ((Zh l).tx),V0 ((Zh l).time),V0 ((Zh l).unit),V0 ((Zh l).data),V0 ((Zh l).blocks),V0 ((Zh l).top),V0 ((Zh l).details),V0 ((Zh l).D),V0 ((Zh l).G),V0 ((Zh l).E),V0 ((Zh l).H)] fun W7 u7 k7=>?_
 refine xd 5 .z ?_
 have a2:=k7.i (Za W7)
 refine xb (.e [0,1,2,3] 4) 4 a2 ?_
 have c1:=(u7.A (((km.i n1.i).i a4).i n6.i) n6.blk Do).i (Za W7)
 refine xb (.e [] 5) 0 c1 ?_
 have a1:=bln (u7.i (bln a8 n6.i) g6) (Za W7)
 refine xr (.o [] 6) (args:=#[P0 b]) (Hc b _ ni ci _ (hI.i a1).blk M0) fun W8 a3=>?_
 refine xid (.r [7,8] 2) ((Zh l).blocks>(↑(ni/256):Int)) (fun c7=>?_) (fun c7=>?_)
 ·have b5:=a2.i a3
  refine xlv 2 b5.rp ?_
  have c0:=((u7.blk (k1.i n6.i) a0).i (Za W7)).i a3
  refine xsv 0 c0 [V0 ((Zh l).tx),V0 ((Zh l).time),V0 ((Zh l).unit),V0 ((Zh l).data),V0 ((Zh l).blocks),V0 ((Zh l).top),V0 ((Zh l).details),V0 ((Zh l).D),V0 ((Zh l).G),V0 ((Zh l).E),V0 ((Zh l).H)] fun d0 c2 c6=>?_
  have g1:=n1.ge (B4 w)
  have b9:=c2.i (bln a1 a3) g1
  exact xec 5 c6 (.tuple #[.agg #[V0 ((Zh l).tx),V0 ((Zh l).time),V0 ((Zh l).unit),V0 ((Zh l).data),V0 ((Zh l).blocks),V0 ((Zh l).top),V0 ((Zh l).details),V0 ((Zh l).D),V0 ((Zh l).G),V0 ((Zh l).E),V0 ((Zh l).H)],V0 2]) (.inl ⟨by unfold Bv;rw[V8 a5,V8 M0];decide,Zh l,by unfold Bv;rw[V8 a5,V8 M0],b9⟩)
 have b0:=a2.i a3
 refine xlv 4 b0.rp ?_
 have a9:=((u7.blk (k1.i n6.i) a0).i (Za W7)).i a3
 refine xsv 1 a9 [V0 ((Zh l).tx),V0 ((Zh l).time),V0 ((Zh l).unit),V0 ((Zh l).data),V0 ((Zh l).blocks),V0 ((Zh l).top),V0 ((Zh l).details),V0 ((Zh l).D),V0 ((Zh l).G),V0 ((Zh l).E),V0 ((Zh l).H)] fun c8 c3 c4=>?_
 have g1:=n1.ge (B4 w)
 have b8:=c3.i (bln a1 a3) g1
 exact xec 4 c4 (.tuple #[.agg #[V0 ((Zh l).tx),V0 ((Zh l).time),V0 ((Zh l).unit),V0 ((Zh l).data),V0 ((Zh l).blocks),V0 ((Zh l).top),V0 ((Zh l).details),V0 ((Zh l).D),V0 ((Zh l).G),V0 ((Zh l).E),V0 ((Zh l).H)],V0 0]) (.inr ⟨by unfold Bv;rw[V8 a5,V7 M0],rfl,b8⟩)
theorem Zza(B b:Nat)(p:O0)(n c:Nat)(l:Bl)(w:V1)(hI:ImgR B b p n c l w)(bt:Nat)(kt:Blk w bt [P0 b] 37) :
 C0 119 #[P0 b,V0 0,V0 1,.func (.func 120) #[] #[P0 bt]] w (Zuc l w):=by
 refine zin 56 Tryz.func119 ?_
 refine xa 2 [V0 0,V0 0,V0 0,V0 0,V0 0,V0 0,V0 0,V0 0,V0 0,V0 0,V0 0] 54 fun b1 W1 n1=>?_
 refine xa 5 [V0 0,V0 0,V0 0,V0 0,V0 0,V0 0,V0 0,V0 0,V0 0,V0 0,V0 0] 54 fun b2 W2 n2=>?_
 have hB:=bln n1.i n2.i
 refine xc 6 (De B b p n c l 0 _ (hI.i hB)) ?_
 rintro e W3 h9
 rcases h9 with ⟨ho,vr,rfl,a0⟩|⟨j,hk,hj,p2,c2,rfl,a0,ho⟩
 ·refine xd 16 (.t w.heap.size [54]) ?_
  refine xm2 (.b [1,2,3]) 0 4 ?_ ?_
  ·have k2:=(n2.blk.i a0).i (Za W3)
   refine xlv 0 k2.rp ?_
   refine yc (.o [] 4) (.t w.heap.size [54]) (Ya 0 3 _) ?_
   rintro _ W4 ⟨_,rfl,e3,e6⟩
   refine⟨(Q5 _ e3),?_⟩
   rw[V7 Do,V7 Do] at e6
   have i2:=e6
   obtain⟨j3,l4,rfl,_,_⟩:=i2
   have c5:=(((n1.blk.i n2.i).i a0).i (Za W3)).i e3
   have g1:=n1.ge (B4 w)
   refine ysv (.o [] 5) c5 [V0 0,V0 0,V0 0,V0 0,V0 0,V0 0,V0 0,V0 0,V0 0,V0 0,V0 0] (.t w.heap.size [54]) fun W5 u5 k5=>⟨(Zr u5 c5 g1 Do),?_⟩
   have g2:=u5.i (bln (bln (bln hB a0) (Za W3)) e3) g1
   have d5:=e6.I u5 c5 Do
   refine xec (.r [6] 4) k5 (.tuple #[.agg #[V0 0,V0 0,V0 0,V0 0,V0 0,V0 0,V0 0,V0 0,V0 0,V0 0,V0 0],.iface 201 (P0 j3)]) ?_
   have he:Yt l=3:=by unfold Yt;rw[Sg hI.len ho];rfl
   exact .inl ⟨by rw[he];decide,_,rfl,g2,by rw[he];exact d5⟩
  refine yc 0 (.t w.heap.size [54]) (Ya 0 3 _) ?_
  rintro _ W6 ⟨_,rfl,e0,e2⟩
  refine⟨(Q5 _ e0),?_⟩
  rw[V7 Do,V7 Do] at e2
  have h8:=e2
  obtain⟨i3,j8,rfl,_,_⟩:=h8
  have k2:=((n2.blk.i a0).i (Za W3)).i e0
  refine xlv (.o [] 0) k2.rp ?_
  have c8:=(((n1.blk.i n2.i).i a0).i (Za W3)).i e0
  have g1:=n1.ge (B4 w)
  refine ysv (.o [] 5) c8 [V0 0,V0 0,V0 0,V0 0,V0 0,V0 0,V0 0,V0 0,V0 0,V0 0,V0 0] (.t w.heap.size [54]) fun W7 u7 k7=>⟨(Zr u7 c8 g1 Do),?_⟩
  have f1:=u7.i (bln (bln (bln hB a0) (Za W3)) e0) g1
  have d1:=e2.I u7 c8 Do
  refine xec (.r [6] 4) k7 (.tuple #[.agg #[V0 0,V0 0,V0 0,V0 0,V0 0,V0 0,V0 0,V0 0,V0 0,V0 0,V0 0],.iface 201 (P0 i3)]) ?_
  have he:Yt l=3:=by unfold Yt;rw[Sg hI.len ho];rfl
  exact .inl ⟨by rw[he];decide,_,rfl,f1,by rw[he];exact d1⟩
 have j0:=(bln n1.i n2.i).size
 have h5:j<l.length/256:=by rw[hI.len];exact hj
 have h0:=Hx h5
 have d9:=Zdm (l:=l) (kind:=1) hI.len hk hj
 have g3:=Zg ho j0
 refine xc 22 (Sn 1 0 p2 256 c2 (Kc l j) _ h0 (Vr (Zf g3) h0)) ?_
 rintro e W8 i5
 rcases i5 with ⟨hs,rfl,a2⟩|⟨hs,p3,c3,rfl,a2,h3⟩
 ·refine xk 14 (show(((Qz 1 0 (Kc l j)) != (0:Int)):Bool)=true from bne_iff_ne.2 hs) ?_
  refine xd 1 (.t w.heap.size [54]) ?_
  refine xm2 (.b [1,2,3]) 0 4 ?_ ?_
  ·have k2:=((n2.blk.i a0).i a2).i (Za W8)
   refine xlv 0 k2.rp ?_
   refine yc (.o [] 4) (.t w.heap.size [54]) (Ya 0 (Qz 1 0 (Kc l j)) _) ?_
   rintro _ W9 ⟨_,rfl,e9,f2⟩
   refine⟨(Q5 _ e9),?_⟩
   rw[V7 hs,V7 hs] at f2
   have i1:=f2
   obtain⟨i4,l0,rfl,_,_⟩:=i1
   have b9:=((((n1.blk.i n2.i).i a0).i a2).i (Za W8)).i e9
   have g1:=n1.ge (B4 w)
   refine ysv (.o [] 5) b9 [V0 0,V0 0,V0 0,V0 0,V0 0,V0 0,V0 0,V0 0,V0 0,V0 0,V0 0] (.t w.heap.size [54]) fun l6 e5 j2=>⟨(Zr e5 b9 g1 Do),?_⟩
   have g6:=e5.i (bln (bln (bln (bln hB a0) a2) (Za W8)) e9) g1
   have d8:=f2.I e5 b9 Do
   refine xec (.r [6] 4) j2 (.tuple #[.agg #[V0 0,V0 0,V0 0,V0 0,V0 0,V0 0,V0 0,V0 0,V0 0,V0 0,V0 0],.iface 201 (P0 i4)]) ?_
   have he:Yt l=Qz 1 0 (Kc l j):=by unfold Yt;rw[d9,V7 hs]
   exact .inl ⟨by rw[he];exact hs,_,rfl,g6,by rw[he];exact d8⟩
  refine yc 0 (.t w.heap.size [54]) (Ya 0 (Qz 1 0 (Kc l j)) _) ?_
  rintro _ j9 ⟨_,rfl,a8,b8⟩
  refine⟨(Q5 _ a8),?_⟩
  rw[V7 hs,V7 hs] at b8
  have f0:=b8
  obtain⟨g0,j5,rfl,_,_⟩:=f0
  have k2:=(((n2.blk.i a0).i a2).i (Za W8)).i a8
  refine xlv (.o [] 0) k2.rp ?_
  have c4:=((((n1.blk.i n2.i).i a0).i a2).i (Za W8)).i a8
  have g1:=n1.ge (B4 w)
  refine ysv (.o [] 5) c4 [V0 0,V0 0,V0 0,V0 0,V0 0,V0 0,V0 0,V0 0,V0 0,V0 0,V0 0] (.t w.heap.size [54]) fun l5 f4 h6=>⟨(Zr f4 c4 g1 Do),?_⟩
  have f7:=f4.i (bln (bln (bln (bln hB a0) a2) (Za W8)) a8) g1
  have c0:=b8.I f4 c4 Do
  refine xec (.r [6] 4) h6 (.tuple #[.agg #[V0 0,V0 0,V0 0,V0 0,V0 0,V0 0,V0 0,V0 0,V0 0,V0 0,V0 0],.iface 201 (P0 g0)]) ?_
  have he:Yt l=Qz 1 0 (Kc l j):=by unfold Yt;rw[d9,V7 hs]
  exact .inl ⟨by rw[he];exact hs,_,rfl,f7,by rw[he];exact c0⟩
 have j6:=(bln hB a0).size
 have d6:=Zg h3 j6
 have j4:((Kc l j).drop 8).take 244=inB l 0:=(Zdh hk).symm
 have h1:=Zeu hI.len hk hj
 rw[j4] at d6
 have a7:=bln (bln hB a0) a2
 refine xc 21 (super_1 B b bt p n c l p3 c3 (inB l 0) _ (hI.i a7) (kt.i a7) h1 (Vr (Zf d6) h1)) ?_
 rintro e l3 f6
 rcases f6 with ⟨hz,s9,rfl,a1⟩|⟨hz,rfl,a1⟩
 ·refine xa 3 [V0 0,V0 0,V0 0,V0 0,V0 0,V0 0,V0 0,V0 0,V0 0,V0 0,V0 0] 54 fun j7 k9 a5=>?_
  have b6:=(((n1.blk.i n2.i).i a0).i a2).i a1
  have a3:=a5.ne b6
  have k2:=((n2.blk.i a0).i a2).i a1
  have a4:=a5.ne k2
  have c7:=bln a7 a1
  have g9:=a5.ge c7
  refine xsv 0 a5.blk [V0 s9.tx,V0 s9.time,V0 s9.unit,V0 s9.data,V0 s9.blocks,V0 s9.top,V0 s9.details,V0 s9.D,V0 s9.G,V0 s9.E,V0 s9.H] fun d0 c9 k6=>?_
  refine xk 10 (show(((Bv (inB l 0) (n/256)) != (0:Int)):Bool)=true from bne_iff_ne.2 hz) ?_
  refine xd 1 (.t w.heap.size [54]) ?_
  refine xm2 (.b [1,2,3]) 0 4 ?_ ?_
  ·have g5:=(c9.blk (k2.i a5.i) a4).i (Za d0)
   refine xlv 0 g5.rp ?_
   refine yc (.o [] 4) (.t w.heap.size [54]) (Ya 0 (Bv (inB l 0) (n/256)) _) ?_
   rintro _ l1 ⟨_,rfl,b0,c1⟩
   refine⟨(Q5 _ b0),?_⟩
   rw[V7 hz,V7 hz] at c1
   have e7:=c1
   obtain⟨e8,i6,rfl,_,_⟩:=e7
   have a9:=((c9.blk (b6.i a5.i) a3).i (Za d0)).i b0
   have g1:=n1.ge (B4 w)
   refine ysv (.o [] 5) a9 [V0 0,V0 0,V0 0,V0 0,V0 0,V0 0,V0 0,V0 0,V0 0,V0 0,V0 0] (.t w.heap.size [54]) fun k3 e1 i7=>⟨(Zr e1 a9 g1 Do),?_⟩
   have g8:=e1.i (bln (bln (c9.i (bln c7 a5.i) g9) (Za d0)) b0) g1
   have c6:=c1.I e1 a9 Do
   refine xec (.r [6] 4) i7 (.tuple #[.agg #[V0 0,V0 0,V0 0,V0 0,V0 0,V0 0,V0 0,V0 0,V0 0,V0 0,V0 0],.iface 201 (P0 e8)]) ?_
   have he:Yt l=Bv (inB l 0) (n/256):=by unfold Yt;rw[d9,V8 hs,hI.len]
   exact .inl ⟨by rw[he];exact hz,_,rfl,g8,by rw[he];exact c6⟩
  refine yc 0 (.t w.heap.size [54]) (Ya 0 (Bv (inB l 0) (n/256)) _) ?_
  rintro _ k0 ⟨_,rfl,a6,b7⟩
  refine⟨(Q5 _ a6),?_⟩
  rw[V7 hz,V7 hz] at b7
  have e4:=b7
  obtain⟨f9,j1,rfl,_,_⟩:=e4
  have f8:=((c9.blk (k2.i a5.i) a4).i (Za d0)).i a6
  refine xlv (.o [] 0) f8.rp ?_
  have b3:=((c9.blk (b6.i a5.i) a3).i (Za d0)).i a6
  have g1:=n1.ge (B4 w)
  refine ysv (.o [] 5) b3 [V0 0,V0 0,V0 0,V0 0,V0 0,V0 0,V0 0,V0 0,V0 0,V0 0,V0 0] (.t w.heap.size [54]) fun l7 f5 i9=>⟨(Zr f5 b3 g1 Do),?_⟩
  have g7:=f5.i (bln (bln (c9.i (bln c7 a5.i) g9) (Za d0)) a6) g1
  have b5:=b7.I f5 b3 Do
  refine xec (.r [6] 4) i9 (.tuple #[.agg #[V0 0,V0 0,V0 0,V0 0,V0 0,V0 0,V0 0,V0 0,V0 0,V0 0,V0 0],.iface 201 (P0 f9)]) ?_
  have he:Yt l=Bv (inB l 0) (n/256):=by unfold Yt;rw[d9,V8 hs,hI.len]
  exact .inl ⟨by rw[he];exact hz,_,rfl,g7,by rw[he];exact b5⟩
 refine xa 3 [V0 0,V0 0,V0 0,V0 0,V0 0,V0 0,V0 0,V0 0,V0 0,V0 0,V0 0] 54 fun k8 k4 d2=>?_
 have d7:=(((n1.blk.i n2.i).i a0).i a2).i a1
 have b4:=d2.ne d7
 have k2:=((n2.blk.i a0).i a2).i a1
 have d4:=bln a7 a1
 have h4:=d2.ge d4
 refine xsv 0 d2.blk [V0 ((Zh (inB l 0)).tx),V0 ((Zh (inB l 0)).time),V0 ((Zh (inB l 0)).unit),V0 ((Zh (inB l 0)).data),V0 ((Zh (inB l 0)).blocks),V0 ((Zh (inB l 0)).top),V0 ((Zh (inB l 0)).details),V0 ((Zh (inB l 0)).D),V0 ((Zh (inB l 0)).G),V0 ((Zh (inB l 0)).E),V0 ((Zh (inB l 0)).H)] fun k1 h2 i0=>?_
 refine xlv 15 i0.rp ?_
 have f3:=h2.blk (d7.i d2.i) b4
 refine xsv 0 f3 [V0 ((Zh (inB l 0)).tx),V0 ((Zh (inB l 0)).time),V0 ((Zh (inB l 0)).unit),V0 ((Zh (inB l 0)).data),V0 ((Zh (inB l 0)).blocks),V0 ((Zh (inB l 0)).top),V0 ((Zh (inB l 0)).details),V0 ((Zh (inB l 0)).D),V0 ((Zh (inB l 0)).G),V0 ((Zh (inB l 0)).E),V0 ((Zh (inB l 0)).H)] fun l2 h7 i8=>?_
 have g1:=n1.ge (B4 w)
 have d3:=h7.i (h2.i (bln d4 d2.i) h4) g1
 exact xec 4 i8 (.tuple #[.agg #[V0 ((Zh (inB l 0)).tx),V0 ((Zh (inB l 0)).time),V0 ((Zh (inB l 0)).unit),V0 ((Zh (inB l 0)).data),V0 ((Zh (inB l 0)).blocks),V0 ((Zh (inB l 0)).top),V0 ((Zh (inB l 0)).details),V0 ((Zh (inB l 0)).D),V0 ((Zh (inB l 0)).G),V0 ((Zh (inB l 0)).E),V0 ((Zh (inB l 0)).H)],.nilIface]) (.inr ⟨by unfold Yt;rw[d9,V8 hs,hI.len,hz],rfl,d3⟩)
theorem Zj7(B b:Nat)(p:O0)(n c:Nat)(l:Bl)(w:V1)(hI:ImgR B b p n c l w) :
 C0 61 #[P0 b] w (Zuc l w):=by
 refine zin 9 Tryz.func61 ?_
 refine xa 2 [P0 b] 37 fun b1 W1 n1=>?_
 refine xa 0 [V0 0,V0 0,V0 0,V0 0,V0 0,V0 0,V0 0,V0 0,V0 0,V0 0,V0 0] 54 fun b2 W2 n2=>?_
 have k1:=n1.blk.i n2.i
 refine xb 5 0 k1 ?_
 have hB:=bln n1.i n2.i
 refine xc 1 (Zza B b p n c l _ (hI.i hB) b1 k1) ?_
 rintro e W3 a4
 rcases a4 with ⟨he,bf,rfl,a0,hv⟩|⟨he,rfl,a0⟩
 ·have k2:=n2.blk.i a0
  refine xsv 2 k2 [V0 0,V0 0,V0 0,V0 0,V0 0,V0 0,V0 0,V0 0,V0 0,V0 0,V0 0] fun W4 u4 k4=>?_
  have g2:=n2.ge n1.i
  have a2:=u4.i (bln hB a0) g2
  have a3:=hv.I u4 k2 Do
  exact xec 4 k4 (.tuple #[.agg #[V0 0,V0 0,V0 0,V0 0,V0 0,V0 0,V0 0,V0 0,V0 0,V0 0,V0 0],.iface 201 (P0 bf)]) (.inl ⟨he,_,rfl,a2,a3⟩)
 have k2:=n2.blk.i a0
 refine xsv 2 k2 [V0 ((Zh (inB l 0)).tx),V0 ((Zh (inB l 0)).time),V0 ((Zh (inB l 0)).unit),V0 ((Zh (inB l 0)).data),V0 ((Zh (inB l 0)).blocks),V0 ((Zh (inB l 0)).top),V0 ((Zh (inB l 0)).details),V0 ((Zh (inB l 0)).D),V0 ((Zh (inB l 0)).G),V0 ((Zh (inB l 0)).E),V0 ((Zh (inB l 0)).H)] fun W5 u5 k5=>?_
 have g2:=n2.ge n1.i
 have a1:=u5.i (bln hB a0) g2
 exact xec 4 k5 (.tuple #[.agg #[V0 ((Zh (inB l 0)).tx),V0 ((Zh (inB l 0)).time),V0 ((Zh (inB l 0)).unit),V0 ((Zh (inB l 0)).data),V0 ((Zh (inB l 0)).blocks),V0 ((Zh (inB l 0)).top),V0 ((Zh (inB l 0)).details),V0 ((Zh (inB l 0)).D),V0 ((Zh (inB l 0)).G),V0 ((Zh (inB l 0)).E),V0 ((Zh (inB l 0)).H)],.nilIface]) (.inr ⟨he,rfl,a1⟩)
def Ut(l:Bl)(no:Int):V6 Int:=if Ye l no=0 then bitI (inB l no) (Zo (inB l no) 0 4) else []
def Wj(l:Bl)(no:Int):V6 (Nat×Nat×Nat):=if Qr l no=0 then Sd (inB l no) (Zo (inB l no) 0 4) else []
theorem Zf1{l:Bl}{no:Int}(h:Ye l no=0):Ut l no=bitI (inB l no) (Zo (inB l no) 0 4)∧(Ut l no).length=Zo (inB l no) 0 4:=by unfold Ut;rw[V8 h];exact⟨rfl,Zmn _ _⟩
theorem bitR_bad{l:Bl}{no:Int}(h:Ye l no≠0):Ut l no=[]:=V7 h
theorem Rr{l:Bl}{no:Int}(h:Qr l no=0):Wj l no=Sd (inB l no) (Zo (inB l no) 0 4)∧(Wj l no).length=Zo (inB l no) 0 4:=by unfold Wj;rw[V8 h];exact⟨rfl,Zi8 _ _⟩
theorem idxR_bad{l:Bl}{no:Int}(h:Qr l no≠0):Wj l no=[]:=V7 h
theorem bitI_map(l:Bl)(n:Nat):(bitI l n).map V0=(Za5 l n).map nv:=by simp[bitI,nv]
def bmI (n:Int):Nat:=bmN n.toNat
abbrev Plc:=(Nat×Nat×Nat)×Int×Int
def Mi:Plc:=((0,0,0),0,0)
def Zqa(x:Plc):V6 V2:=[V0 (x.1.1:Int),V0 (x.1.2.1:Int),V0 (x.1.2.2:Int),V0 x.2.1,V0 x.2.2]
theorem Znh(x:Plc):(Zqa x).length=5:=rfl
def Zp5(l:Bl)(x:Plc)(want:Int):V6 Int×Int×V6 Int :=
 if x.2.2≠0 then([x.2.1],x.2.2,[])
 else if Ye l (x.1.1:Int)≠0 then([x.2.1,(x.1.1:Int)],Ye l (x.1.1:Int),[])
 else if((Ut l (x.1.1:Int)).length:Int)≠want then([x.2.1],7,[])
 else if Yn (Ut l (x.1.1:Int))=x.1.2.1∧Xi (Ut l (x.1.1:Int))=x.1.2.2 then([],0,Ut l (x.1.1:Int))
 else([x.2.1],13,[])
theorem Zua{l:Bl}{x:Plc}{want:Int}(h:(Zp5 l x want).2.1=0):Zp5 l x want=([],0,Ut l (x.1.1:Int))∧((Ut l (x.1.1:Int)).length:Int)=want:=by
 unfold Zp5 at h ⊢;by_cases h1:x.2.2=0
 ·rw[V7 (fun q=>q h1)] at h ⊢;by_cases h2:Ye l (x.1.1:Int)=0
  ·rw[V7 (fun q=>q h2)] at h ⊢;by_cases h3:((Ut l (x.1.1:Int)).length:Int)=want
   ·rw[V7 (fun q=>q h3)] at h ⊢;by_cases h4:Yn (Ut l (x.1.1:Int))=x.1.2.1∧Xi (Ut l (x.1.1:Int))=x.1.2.2
    ·rw[V8 h4];exact⟨rfl,h3⟩
    ·rw[V7 h4] at h;simp at h
   ·rw[V8 h3] at h;simp at h
  ·rw[V8 h2] at h;exact absurd h h2
 ·rw[V8 h1] at h;exact absurd h h1
def Ur(n:Int)(i:Nat):Int:=if n-960*i<960 then n-960*i else 960
def Zgn(l:Bl)(X:V6 Plc)(n:Int)(i:Nat):V6 Int×Int×V6 Int:=Zp5 l (X.getD i Mi) (Ur n i)
def Ba(l:Bl)(X:V6 Plc)(n:Int)(i:Nat):V6 (V6 Int):=(range i).map fun j=>Ut l ((X.getD j Mi).1.1:Int)
theorem Kf(l:Bl)(X:V6 Plc)(n:Int)(i:Nat):(Ba l X n i).length=i:=by simp[Ba]
theorem Zmt{l:Bl}{X:V6 Plc}{n:Int}{i j:Nat}(h:j<i):(Ba l X n i).getD j []=Ut l ((X.getD j Mi).1.1:Int):=by simp[Ba,getD,C1 h]
theorem Zg8(l:Bl)(X:V6 Plc)(n:Int)(i:Nat):Ba l X n (i+1)=Ba l X n i++[Ut l ((X.getD i Mi).1.1:Int)]:=by simp[Ba,B8]
def allK(l:Bl)(X:V6 Plc)(n:Int)(i:Nat):Prop:=∀ j,j<i→(Zgn l X n j).2.1=0
theorem Zyw{l:Bl}{X:V6 Plc}{n:Int}{i:Nat}(h:allK l X n i)(h2:(Zgn l X n i).2.1=0):allK l X n (i+1):=fun j hj=>by
 by_cases e:j=i
 ·subst e;exact h2
 ·exact h j M0
theorem Zsu(l:Bl)(no:Int):Uo (Ut l no):=by
 unfold Ut;split
 ·exact Zp0 _ _
 ·intro n hn;cases hn
theorem Zut{l:Bl}{X:V6 Plc}{n:Int}(h:allK l X n X.length)(hX:X.length=bmI n):FormOk (Ba l X n X.length):=by
 have hw:∀ i,i<X.length→((Ut l ((X.getD i Mi).1.1:Int)).length:Int)=Ur n i:=fun i hi=>(Zua (h i hi)).2;constructor
 ·intro i hi;rw[Kf] at hi ⊢;rw[Zmt hi];have h1:=hw i hi;unfold Ur at h1;unfold bmI bmN at hX;split at h1<;>refine⟨M0,M0,fun h2=>by omega⟩
 ·intro i hi;rw[Kf] at hi;rw[Zmt hi];exact Zsu _ _
def Zl2(l:Bl)(L:V6 (V6 Int))(over am:Int):V6 Int×Int×V6 Int :=
 if(Ze l over 5 am).fs≠[] then((Kg (Ze l over 5 am)).1,(Kg (Ze l over 5 am)).2,[])
 else if(Pn L.flatten (Ze l over 5 am).es).1≠0 then([over],(Pn L.flatten (Ze l over 5 am).es).1,[])
 else([],0,(Pn L.flatten (Ze l over 5 am).es).2)
theorem Zy6{l:Bl}{L:V6 (V6 Int)}{over am:Int}(h:(Ze l over 5 am).fs≠[]):Zl2 l L over am=((Kg (Ze l over 5 am)).1,(Kg (Ze l over 5 am)).2,[]):=V8 h
theorem Zsg{l:Bl}{L:V6 (V6 Int)}{over am:Int}(h:(Ze l over 5 am).fs=[])(h2:(Pn L.flatten (Ze l over 5 am).es).1≠0):Zl2 l L over am=([over],(Pn L.flatten (Ze l over 5 am).es).1,[]):=by
 unfold Zl2;rw[V7 (fun q=>q h),V8 h2]
theorem Ze9{l:Bl}{L:V6 (V6 Int)}{over am:Int}(h:(Ze l over 5 am).fs=[])(h2:(Pn L.flatten (Ze l over 5 am).es).1=0):Zl2 l L over am=([],0,(Pn L.flatten (Ze l over 5 am).es).2):=by
 unfold Zl2;rw[V7 (fun q=>q h),V7 (fun q=>q h2)]
def Zs4(l:Bl)(X:V6 Plc)(over n am:Int):V6 Int×Int×V6 Int :=
 match (range X.length).find? (fun i=>(Zgn l X n i).2.1 != 0) with
 | some i=>((Zgn l X n i).1,(Zgn l X n i).2.1,[])
 | none=>Zl2 l (Ba l X n X.length) over am
theorem allO_bad{l:Bl}{X:V6 Plc}{over n am:Int}{i:Nat}(hi:i<X.length)(h:allK l X n i)(hb:(Zgn l X n i).2.1≠0):Zs4 l X over n am=((Zgn l X n i).1,(Zgn l X n i).2.1,[]):=by
 unfold Zs4;rw[show(range X.length).find? (fun i=>(Zgn l X n i).2.1 != 0)=some i from by
  rw[L0];exact⟨by simpa using hb,A7.2 hi,fun m hm=>by simpa using h m hm⟩]
theorem Zb4{l:Bl}{X:V6 Plc}{over n am:Int}(h:allK l X n X.length):Zs4 l X over n am=Zl2 l (Ba l X n X.length) over am:=by
 unfold Zs4;rw[show(range X.length).find? (fun i=>(Zgn l X n i).2.1 != 0)=none from by
  rw[N3];intro i hi;have:=h i (A7.1 hi);simp[this]]
def slotT(v:Bl):Nat×Nat×Nat:=((Xq Xx v).getD 0 0,(Xq Xx v).getD 1 0,(Xq Xx v).getD 2 0)
def Zjk(x:Ent):Plc:=(slotT x.2.1,x.2.2,Xn Xx x.2.1)
def Zok(it:Int)(x:Nat×Nat×Nat):Plc:=(x,it,0)
def Zdt(es:V6 Ent):Bool:=(range es.length).all fun i=>(es.getD i Zn).1==(i:Int)
def Ah(l:Bl)(it over n am:Int):V6 Int×Int×V6 Int :=
 if(Ze l it 4 am).fs≠[] then((Kg (Ze l it 4 am)).1,(Kg (Ze l it 4 am)).2,[])
 else if(Ze l it 4 am).es.length≠bmI n then([it],7,[])
 else if Zdt (Ze l it 4 am).es=false then([it],7,[])
 else Zs4 l ((Ze l it 4 am).es.map Zjk) over n am
def Zcc(l:Bl)(it over n am:Int):V6 Int×Int×V6 Int :=
 if Qr l it≠0 then([it],Qr l it,[])
 else if(Wj l it).length≠bmI n then([it],7,[])
 else Zs4 l ((Wj l it).map (Zok it)) over n am
theorem Zpa{es:V6 Ent}{i:Nat}(hi:i<es.length)(h:(es.getD i Zn).1≠(i:Int)):Zdt es=false:=by
 unfold Zdt;rw[List.all_eq_false];exact⟨i,A7.2 hi,by simpa using h⟩
theorem Ziv{es:V6 Ent}(h:∀ i,i<es.length→(es.getD i Zn).1=(i:Int)):Zdt es=true:=by
 unfold Zdt;rw[I0];intro i hi;simpa using h i (A7.1 hi)
theorem Zif{l:Bl}{root tree am:Int}(h:(Ze l root tree am).fs≠[]):(Kg (Ze l root tree am)).2≠0:=by
 obtain⟨es,fs,hw⟩:=Nq l root tree am;have h2:(Ze l root tree am).fs=fs:=by rw[hw.fsE];rfl
 rw[(Rl h).2.1];rw[h2] at h ⊢;cases fs with
 | nil=>exact absurd rfl h
 | cons f r=>exact(hw.flt f Y5).2.2
end
end
end Go.Proofs.YtekomodnkfhihaaGreatDoor
