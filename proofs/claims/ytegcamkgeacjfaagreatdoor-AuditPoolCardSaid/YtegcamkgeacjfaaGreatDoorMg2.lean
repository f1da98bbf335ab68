/- crc.Sum of one slice, and package seal: Salt, known, sum and Seal. -/
import Derived.Deep.MidRow
import Derived.Laws.IdiomStrings
import Derived.Test.YtegcamkgeacjfaaGreatDoorMg1
namespace Go.Proofs.YtegcamkgeacjfaaGreatDoor
set_option maxHeartbeats 8000000
set_option maxRecDepth 100000
open Go.RowKit Go.Extern.Stop Go.Stop Go.Extern
set_option linter.unusedVariables false
attribute [local irreducible] wpList wpAnyH Code.wp Oper.wp Go
def Jq(l:Bl):Nat:=Xh 4294967295 l ^^^ 4294967295
theorem Up(l:Bl):Jq l<4294967296:=Nat.xor_lt_two_pow (n:=32) (Hd (by decide) l) (by decide)
theorem Jb{n:Nat}(h:n<9223372036854775808):IntKind.i64.wrap (n:Int)=(n:Int):=IntWalk.i64_in _ (by omega)
theorem Cd{a b:Nat}(ha:a<4294967296)(hb:b<4294967296):IntKind.i64.wrap (↑(BitVec.ofInt 64 (a:Int) ^^^ BitVec.ofInt 64 (b:Int)).toNat:Int)=((a ^^^ b:Nat):Int):=by
 rw[BitVec.ofInt_natCast,BitVec.ofInt_natCast,BitVec.toNat_xor,BitVec.toNat_ofNat,BitVec.toNat_ofNat,Nat.mod_eq_of_lt (by omega),Nat.mod_eq_of_lt (by omega)]
 have:=Nat.xor_lt_two_pow (n:=32) ha hb
 exact Jb (by omega)
theorem crc_Sum1(g:Nat)(a:O0)(c:Nat)(l:Bl)(w:World)(hk:Blk w g [.slice a l.length c] 40)(h:Bys w (.slice a l.length c) l)(hl:l.length≤100000000) :
 C0 216 #[.slice (S1 g) 1 1] w (Ret (V0 (Jq l:Int)) w):=by
 refine zin 19 Tryz.func216 ?_
 refine xu 19 3 ?_
 refine xb 14 0 hk ?_
 refine xr 6 (args:=#[.int .u32 4294967295,.slice a l.length c]) (crc_run 4294967295 (by decide) a c l _ (h.below (B1 w)) hl) fun W1 a0=>?_
 refine xq 24 (congrArg (Value.int .u32) (show(IntKind.u32.wrap (↑(BitVec.ofInt 32 (↑(Xh 4294967295 l):Int) ^^^ BitVec.ofInt 32 (4294967295:Int)).toNat:Int):Int)=(↑(Jq l):Int) from Dm (b:=4294967295) (Hd (by decide) l) (by decide))) ?_
 refine xq 0 (congrArg V0 (show(IntKind.i64.wrap (↑(Jq l):Int):Int)=(↑(Jq l):Int) from Jb (by have:=Up l;omega))) ?_
 exact xe 4 (V0 (↑(Jq l):Int)) ⟨rfl,a0⟩
theorem Zgy(g:Nat)(a:O0)(n c:Nat)(l:Bl)(w:World)(hn:l.length=n)(hk:Blk w g [.slice a n c] 40)(h:Bys w (.slice a n c) l)(hl:n≤100000000) :
 C0 216 #[.slice (S1 g) 1 1] w (Ret (V0 (Jq l:Int)) w):=by
 subst hn;exact crc_Sum1 g a c l w hk h hl
def Wf(kind:Int):Nat:=if kind=1 then 160774 else if kind=2 then 121107 else if kind=3 then 240779 else if kind=4 then 160478 else 0
theorem Bn(kind:Int):Wf kind<4294967296:=by unfold Wf;(repeat' split)<;>omega
theorem Zfy(kind:Int)(w:World) :
 C0 217 #[V0 kind] w (Ret (V0 (Wf kind:Int)) w):=by
 refine zin 12 Tryz.func217 ?_
 refine xie 18 kind (1:Int) (fun a2=>?_) (fun a2=>?_)
 ·exact xe 8 (V0 160774) ⟨by simp_all [Wf],(B1 w)⟩
 refine xie 6 kind (2:Int) (fun a0=>?_) (fun a0=>?_)
 ·exact xe 8 (V0 121107) ⟨by simp_all [Wf],(B1 w)⟩
 refine xie 6 kind (3:Int) (fun a3=>?_) (fun a3=>?_)
 ·exact xe 8 (V0 240779) ⟨by simp_all [Wf],(B1 w)⟩
 refine xie 6 kind (4:Int) (fun a1=>?_) (fun a1=>?_)
 ·exact xe 8 (V0 160478) ⟨by simp_all [Wf],(B1 w)⟩
 exact xe 9 (V0 0) ⟨by simp_all [Wf],(B1 w)⟩
theorem Bys.take{w:World}{a:O0}{n c:Nat}{l:Bl}(h:Bys w (.slice a n c) l)(hn:l.length=n)(m:Nat)(hm:m≤n):Bys w (.slice a m c) (l.take m):=by
 have a0:(l.take m).length=m:=by simp;omega
 rcases h with ⟨a',c',h1,h2,h3⟩|⟨b,a1,a3,h1,h2,h3,h4⟩
 ·obtain rfl:m=0:=by omega
  simp only[Value.slice.injEq] at h1
  exact .inl ⟨a,c,rfl,by simp,by simp⟩
 ·simp only[Value.slice.injEq] at h1
  obtain⟨rfl,_,rfl⟩:=h1
  refine .inr ⟨b,a1,c,by rw[a0],by omega,h3,fun j x hj=>h4 j x ?_⟩
  have a2:j<m:=by have:=(List.getElem?_eq_some_iff.1 hj).1;simp at this;omega
  rwa [List.map_take,List.getElem?_take_of_lt a2] at hj
def Td(l:Bl)(kind:Int):Nat:=Jq (l.take 252) ^^^ Wf kind
theorem seal_sum(kind:Int)(a:O0)(c:Nat)(l:Bl)(w:World)(hn:l.length=256)(hc:256≤c)(h:Bys w (.slice a 256 c) l) :
 C0 136 #[.slice a 256 c,V0 kind] w (Ret (V0 (Td l kind:Int)) w):=by
 refine zin 12 Tryz.func136 ?_
 refine xsH 8 (fun _ _ _ _ zo zx zy V=>Qo (k:=252) (b:=a) (n:=256) (c:=c) (i:=252) (ki:=.i64) zo zx zy rfl (by omega) Tryz.underlying40 (by kernel_rfl) V) ?_
 refine xbs 0 1 [.slice a 252 c] 40 fun b1 W1 n1=>?_
 refine xr 0 (args:=#[.slice (S1 b1) 1 1]) (Zgy b1 a 252 c (l.take 252) _ (by simp;omega) n1.blk ((h.take hn 252 (by decide)).below n1.below) (by decide)) fun W2 a1=>?_
 refine xr 1 (args:=#[V0 kind]) (Zfy kind _) fun W3 a2=>?_
 refine xq 0 (congrArg V0 (show(IntKind.i64.wrap (↑(BitVec.ofInt 64 (↑(Jq (l.take 252)):Int) ^^^ BitVec.ofInt 64 (↑(Wf kind):Int)).toNat:Int):Int)=(↑(Td l kind):Int) from Cd (Up _) (Bn _))) ?_
 have a0:=bln (bln n1.below a1) a2
 exact xe 4 (V0 (↑(Td l kind):Int)) ⟨rfl,a0⟩
theorem zerosB(n:Nat):Hf (Value.int .u8 0).cells.toList n=(List.replicate n (0:UInt8)).map bv:=by
 rw[show(Value.int .u8 0).cells.toList=[Value.int .u8 0] from rfl,Hf,List.map_replicate]
 induction n with
 | zero=>rfl
 | succ n ih=>rw[List.replicate_succ,List.flatten_cons,ih,List.replicate_succ];rfl
theorem Gp{w:World}{v:Value}{n:Nat}{l:Bl}(h:Sl w v n (l.map bv))(hn:l.length=n):Bys w v l:=by subst hn;exact h
end Go.Proofs.YtegcamkgeacjfaaGreatDoor
namespace Go.Proofs.YtegcamkgeacjfaaGreatDoor
set_option maxHeartbeats 8000000
set_option maxRecDepth 100000
open Go.RowKit Go.Extern.Stop Go.Stop Go.Extern
set_option linter.unusedVariables false
theorem errno_eq{P:Program}(w:World){ti tn:TypeId}{ms:Array (String×TypeId)}{i:TypeInfo}{k:IntKind}(a b:Int)
 (hi:P.underlying ti=some (.interface ms)) (hn:P.underlying tn=some (.int k)) (hinfo:P.info? tn=some i) (hcomp:i.comparable=true) :
 (binOp .eql ti (.iface tn (.int k a)) (.iface tn (.int k b))).run P w=.ok (.bool (a==b)) w:=by
 have h:∀ d:Nat,(Op.equalIn (d+2) ti (.iface tn (.int k a)) (.iface tn (.int k b))).run P w=.ok (a==b) w:=fun d=>by simp[Op.equalIn,run_underlying hi,run_underlying hn,typeInfo,hinfo,hcomp]
 simp only[binOp]
 simp[Op.equal,Op.maxDepth,h 9998]
theorem Tryz.eqN(a b:Int)(w:World):(binOp .eql 29 (.iface 63 (V0 a)) (.iface 63 (V0 b))).run Tryz.prog w=.ok (.bool (a==b)) w:=by
 obtain⟨i,h1,h2⟩:=Option.map_eq_some_iff.1 (show(Tryz.prog.info? 63).map (·.comparable)=some true by kernel_rfl)
 exact errno_eq w a b Tryz.underlying29 Tryz.underlying63 h1 h2
theorem Tryz.methComparable (h : Value) (w : World) : (Go.method 562 360 (.agg #[h]) "Comparable").run Tryz.prog w = .ok (347, .agg #[h]) w := by kernel_rfl
theorem Tryz.comparableN(w:World):(callFunc 347 #[.agg #[.pointer (some ⟨1,63,none⟩)]]).run Tryz.prog w=.ok (Next.value (.bool true)) w:=by kernel_rfl
theorem Zeg(c d:Int)(w:World):C0 276 #[.iface 63 (V0 c),.iface 63 (V0 d),.bool true] w (Ret (.bool (c==d)) w):=by
 have y1:=Tryz.eqN
 have y2:=Tryz.noIsN
 have y3:=Tryz.noUnwrapN
 have y4:=Tryz.noUnwrapsN
 go_enter Tryz.func276,Tryz.ntmps276
 go_wp2_with fail
 go_loopw [0] (fun v wr=>v=.iface 63 (V0 c)∧wr=w) (fun _ _=>0)
 case atStart=>exact⟨rfl,rfl⟩
 case round =>
  obtain⟨rfl,rfl⟩:=hrel
  by_cases h:c=d
  ·have h':(c==d)=true:=by simpa using h
   have HH:=Lib.hid h;clear h
   go_wp2_with fail
   go_ret
   exact⟨by rw[h'];rfl,Below.refl _ _⟩
  ·have h':(c==d)=false:=by simpa using h
   have HH:=Lib.hid h;clear h
   go_wp2_with fail
   go_ret
   exact⟨by rw[h'];rfl,Below.refl _ _⟩
theorem Fg(c d:Int)(w:World):C0 242 #[.iface 63 (V0 c),.iface 63 (V0 d)] w (Ret (.bool (c==d)) w):=by
 have a0:=@run_callFunc_extern Tryz.prog 251 _ ReflectliteType.typeOf Tryz.func251 (by kernel_rfl) (by kernel_rfl) (by kernel_rfl) (by kernel_rfl)
 have y1:=Tryz.typeOfN
 have y2:=Tryz.methComparable
 have y3:=Tryz.comparableN
 go_enter Tryz.func242,Tryz.ntmps242
 go_wp2_with fail
 refine(Zeg c d _).mono ?_
 rintro e w' ⟨rfl,hb⟩
 go_wp2_with fail
 go_ret
 exact⟨rfl,hb⟩
theorem Yr(no c:Int)(w:World):C0 172 #[V0 no,.iface 63 (V0 c)] w (Ko (fun w' r=>Kl w' (if c=0 then [] else [some no]) (if c=0 then none else some c) r) w):=by
 by_cases h:c=0
 ·subst h
  go_enter Tryz.func172,Tryz.ntmps172
  go_wp2_with fail
  refine(Fg 0 0 _).mono ?_
  rintro e w1 ⟨rfl,hb⟩
  rw[show((0:Int)==0)=true from rfl]
  go_wp2_with fail
  go_ret
  exact⟨_,rfl,hb,rfl⟩
 ·have h':(c==0)=false:=by simpa using h
  simp only[h,if_false]
  have HC:=Lib.hid h;clear h
  go_enter Tryz.func172,Tryz.ntmps172
  go_wp2_with fail
  refine(Fg c 0 _).mono ?_
  rintro e w1 ⟨rfl,hb⟩
  rw[h']
  go_wp2_with fail
  refine(Qs no (some c) [] _ w1 rfl).mono ?_
  rintro e w2 ⟨r,rfl,a0,h2⟩
  go_wp2_with fail
  go_ret
  exact⟨_,rfl,bln hb a0,h2⟩
theorem Tryz.nilBytes(w:World):(binOp .eql 40 (S0) (S0)).run Tryz.prog w=.ok (.bool true) w:=by kernel_rfl
theorem Ib(w:World):C0 15 #[S0] w fun e w'=>e=.returned (.pointer (some ⟨w.heap.size,0,none⟩))∧w'=w.alloc (.cells #[S0] 95):=by
 have y:=Tryz.nilBytes
 go_enter Tryz.func15,Tryz.ntmps15
 go_wp2
 go_ret
 exact⟨rfl,rfl⟩
theorem Eu(b:Nat)(k:Int)(w:World)(h:Blk w b [S0] 95)(hk:0≤k):C0 26 #[P0 b,V0 k] w (Ret (.tuple #[S0,V0 3]) w):=by
 have c0:=h.cell (i:=0) rfl
 have a0:¬ (k<0):=by omega
 have y:=Tryz.nilBytes
 go_enter Tryz.func26,Tryz.ntmps26
 go_wp2
 exact bodyPost_ret (v:=.tuple #[S0,V0 3]) (by simp[results,Tryz.results26,go_sem]) rfl ⟨rfl,Below.refl _ _⟩
theorem Blk.range{w:World}{b:Nat}{cs:List Value}{t:TypeId}(h:Blk w b cs t):w.rangeAt b 0 cs:=fun j v hj=>by rw[Nat.zero_add];exact h.cell hj
theorem Blk.there{w:World}{b:Nat}{cs:List Value}{t:TypeId}(h:Blk w b cs t){n:Nat}(hn:n=cs.length):w.there b 0 n:=fun j hj=>by
 rw[Nat.zero_add]
 exact⟨by rw[h.cell (List.getElem?_eq_getElem (by omega))];rfl,h.frozen j⟩
end Go.Proofs.YtegcamkgeacjfaaGreatDoor
namespace Go.Proofs.YtegcamkgeacjfaaGreatDoor
set_option maxHeartbeats 8000000
set_option maxRecDepth 100000
open Go.RowKit Go.Extern.Stop Go.Stop Go.Extern
set_option linter.unusedVariables false
attribute [local irreducible] wpList wpAnyH Code.wp Oper.wp Go
theorem Zfx(n k:Nat)(hn:n<9223372036854775808)(hk:0<k):IntKind.i64.wrap (Int.tdiv (n:Int) (k:Int))=((n/k:Nat):Int):=by
 rw[Int.tdiv_eq_ediv_of_nonneg (Int.natCast_nonneg _),←Int.natCast_ediv]
 exact Jb (Nat.lt_of_le_of_lt (Nat.div_le_self _ _) hn)
theorem min_cast(a b:Nat):(if(b:Int)<(a:Int) then(b:Int) else(a:Int))=((min a b:Nat):Int):=by split<;>omega
theorem Gu(b:Nat)(p:O0)(n c:Nat)(w:World)(hk:Blk w b [.slice p n c] 95)(hn:n≤100000000) :
 C0 25 #[P0 b] w (Ret (V0 ((n/256:Nat):Int)) w):=by
 refine zin 11 Tryz.func25 ?_
 refine xb 20 0 hk ?_
 refine xq 1 (congrArg V0 (show(IntKind.i64.wrap (Int.tdiv (n:Int) 256):Int)=(↑(n/256):Int) from Zfx n 256 (by omega) (by decide))) ?_
 exact xe 4 (V0 (↑(n/256):Int)) ⟨rfl,(B1 w)⟩
theorem image_Of(a:O0)(c:Nat)(l:Bl)(w:World)(h:Bys w (.slice a l.length c) l)(hl:l.length≤100000000)(hc:l.length≤c) :
 C0 15 #[.slice a l.length c] w (Ko (fun w' r=>∃ b p c,r=P0 b∧w.heap.size≤b∧Blk w' b [.slice p (min (l.length/256) 14400*256) c] 95∧w'.ownsRow w.heap.size 5 1 (.slice p (min (l.length/256) 14400*256) c) (min (l.length/256) 14400*256) ((l.take (min (l.length/256) 14400*256)).map bv)) w):=by
 refine zin 15 Tryz.func15 ?_
 refine xq 9 (congrArg V0 (show(IntKind.i64.wrap (Int.tdiv (l.length:Int) 256):Int)=(↑(l.length/256):Int) from Zfx l.length 256 (by omega) (by decide))) ?_
 refine xq 0 (congrArg V0 (show(if(14400:Int)<(↑(l.length/256):Int) then(14400:Int) else(↑(l.length/256):Int):Int)=(↑(min (l.length/256) 14400):Int) from min_cast (l.length/256) 14400)) ?_
 refine xwm 7 ((↑(min (l.length/256) 14400):Int)*256) (↑((min (l.length/256) 14400)*256):Int) ?_
 refine xsH 0 (fun _ _ _ _ zo zx zy V=>Qo (k:=((min (l.length/256) 14400)*256)) (b:=a) (n:=l.length) (c:=c) (i:=(↑((min (l.length/256) 14400)*256):Int)) (ki:=.i64) zo zx zy rfl (by omega) Tryz.underlying40 (by kernel_rfl) V) ?_
 refine xc 0 (args:=#[.slice a ((min (l.length/256) 14400)*256) c]) (Kk a (min (l.length/256) 14400*256) c (l.take (min (l.length/256) 14400*256)) _ (by simp;omega) ((h.take rfl _ (by omega)).below (B1 w)) (by omega)) ?_
 rintro _ W1 ⟨_,rfl,a2,ho⟩
 have a3:=Nat.le_refl w.heap.size
 have a0:=Zg ho a3
 unfold Oa at a0
 rw[show(l.take (min (l.length/256) 14400*256)).length=min (l.length/256) 14400*256 by simp;omega] at a0
 obtain⟨pd,cd,rfl⟩:=(Zh a0).slice
 refine xa 1 [.slice pd (min (l.length/256) 14400*256) cd] 95 fun b2 W2 n2=>?_
 have hB:=bln a2 n2.below
 have g2:=n2.ge a2
 have a1:=Zb a0 n2.below
 exact xe 4 (P0 b2) ⟨_,rfl,hB,_,_,_,rfl,g2,n2.blk,a1⟩
theorem Zai(b g:Nat)(n c k:Nat)(w:World)(hk:Blk w b [.slice (S1 g) n c] 95)(hn:n≤100000000)(hc:n≤c)(hkn:k<n/256) :
 C0 65 #[P0 b,V0 (k:Int)] w (Ret (.tuple #[.slice (some ⟨g,k*256,none⟩) 256 256,V0 0]) w):=by
 refine zin 33 Tryz.func65 ?_
 refine xgk 21 [13,14] (show(decide ((k:Int)<(0:Int)):Bool)=false from decide_eq_false (by omega)) ?_
 refine xr 2 (args:=#[P0 b]) (Gu b _ n c _ (hk.below (B1 w)) hn) fun W2 a1=>?_
 refine xk 5 (show(decide ((k:Int)≥(↑(n/256):Int)):Bool)=false from decide_eq_false (by omega)) ?_
 refine xwm 6 ((k:Int)*256) (↑(k*256):Int) ?_
 refine xwm 1 ((k:Int)+1) (↑(k+1):Int) ?_
 refine xwm 0 ((↑(k+1):Int)*256) (↑((k+1)*256):Int) ?_
 have a0:=hk.below a1
 refine xb 9 0 a0 ?_
 refine xs3 3 (fun _ _ _ _ _ _ zo zx zy zz zm V=>Zdo (k:=(k*256)) (h:=((k+1)*256)) (b:=g) (off:=0) (n:=n) (c:=c) (i:=(↑(k*256):Int)) (ki:=.i64) (j:=(↑((k+1)*256):Int)) (kj:=.i64) (j2:=(↑((k+1)*256):Int)) (kj2:=.i64) 1 (k*256) 256 zo zx zy rfl zz rfl zm rfl (by omega) (by omega) (by omega) (by omega) Tryz.underlying40 (by kernel_rfl) V) ?_
 exact xe 5 (.tuple #[.slice (some ⟨g,(k*256),none⟩) 256 256,V0 0]) ⟨rfl,a1⟩
theorem IntsN.elem{w:World}{b:O0}{n c:Nat}{l:List Int}(h:Sl w (.slice b n c) n (l.map V0))(hl:l.length=n){k:Nat}(hk:k<n):b.isSome=true∧w.cell? (Xq b (k*1))=some (V0 (l.getD k 0)):=by
 subst hl;exact Ints.elem h hk
theorem Ze.mono{T T':List TypeId}{w w':World}(h:Ze T w w')(hT:∀ t,T'.contains t=false→T.contains t=false):Ze T' w w':=fun k cs t fr hk ht=>h k cs t fr hk (hT t ht)
theorem Mt(w:World) :
 C0 272 #[V0 1,.bool true] w (Ret (V0 4) w):=by
 refine zin 31 Tryz.func272 ?_
 exact xe 94 (V0 4) ⟨rfl,(B1 w)⟩
theorem Ze0(w:World) :
 C0 269 #[V0 1,.bool true] w (Ret (V0 18) w):=by
 refine zin 16 Tryz.func269 ?_
 refine xr 9 (args:=#[V0 1,.bool true]) (Mt _) fun W1 a0=>?_
 exact xe 24 (V0 18) ⟨rfl,a0⟩
theorem My(w:World) :
 C0 272 #[V0 1,.bool false] w (Ret (V0 4) w):=by
 refine zin 31 Tryz.func272 ?_
 exact xe 41 (V0 4) ⟨rfl,(B1 w)⟩
theorem Zdm(w:World) :
 C0 269 #[V0 1,.bool false] w (Ret (V0 18) w):=by
 refine zin 16 Tryz.func269 ?_
 refine xr 9 (args:=#[V0 1,.bool false]) (My _) fun W1 a0=>?_
 exact xe 24 (V0 18) ⟨rfl,a0⟩
theorem Ml(w:World) :
 C0 272 #[V0 2,.bool true] w (Ret (V0 8) w):=by
 refine zin 31 Tryz.func272 ?_
 exact xe 101 (V0 8) ⟨rfl,(B1 w)⟩
theorem Zd6(w:World) :
 C0 269 #[V0 2,.bool true] w (Ret (V0 12) w):=by
 refine zin 16 Tryz.func269 ?_
 refine xr 9 (args:=#[V0 2,.bool true]) (Ml _) fun W1 a0=>?_
 exact xe 24 (V0 12) ⟨rfl,a0⟩
theorem Mh(w:World) :
 C0 272 #[V0 2,.bool false] w (Ret (V0 4) w):=by
 refine zin 31 Tryz.func272 ?_
 exact xe 41 (V0 4) ⟨rfl,(B1 w)⟩
theorem Zen(w:World) :
 C0 269 #[V0 2,.bool false] w (Ret (V0 18) w):=by
 refine zin 16 Tryz.func269 ?_
 refine xr 9 (args:=#[V0 2,.bool false]) (Mh _) fun W1 a0=>?_
 exact xe 24 (V0 18) ⟨rfl,a0⟩
theorem Lc(w:World) :
 C0 272 #[V0 3,.bool true] w (Ret (V0 24) w):=by
 refine zin 31 Tryz.func272 ?_
 exact xe 93 (V0 24) ⟨rfl,(B1 w)⟩
theorem Zdv(w:World) :
 C0 269 #[V0 3,.bool true] w (Ret (V0 6) w):=by
 refine zin 16 Tryz.func269 ?_
 refine xr 9 (args:=#[V0 3,.bool true]) (Lc _) fun W1 a0=>?_
 exact xe 24 (V0 6) ⟨rfl,a0⟩
theorem Mz(w:World) :
 C0 272 #[V0 3,.bool false] w (Ret (V0 4) w):=by
 refine zin 31 Tryz.func272 ?_
 exact xe 41 (V0 4) ⟨rfl,(B1 w)⟩
theorem Zdg(w:World) :
 C0 269 #[V0 3,.bool false] w (Ret (V0 18) w):=by
 refine zin 16 Tryz.func269 ?_
 refine xr 9 (args:=#[V0 3,.bool false]) (Mz _) fun W1 a0=>?_
 exact xe 24 (V0 18) ⟨rfl,a0⟩
theorem Lf(w:World) :
 C0 272 #[V0 4,.bool true] w (Ret (V0 16) w):=by
 refine zin 31 Tryz.func272 ?_
 exact xe 98 (V0 16) ⟨rfl,(B1 w)⟩
theorem Zed(w:World) :
 C0 269 #[V0 4,.bool true] w (Ret (V0 9) w):=by
 refine zin 16 Tryz.func269 ?_
 refine xr 9 (args:=#[V0 4,.bool true]) (Lf _) fun W1 a0=>?_
 exact xe 24 (V0 9) ⟨rfl,a0⟩
theorem Mo(w:World) :
 C0 272 #[V0 4,.bool false] w (Ret (V0 4) w):=by
 refine zin 31 Tryz.func272 ?_
 exact xe 41 (V0 4) ⟨rfl,(B1 w)⟩
theorem Zef(w:World) :
 C0 269 #[V0 4,.bool false] w (Ret (V0 18) w):=by
 refine zin 16 Tryz.func269 ?_
 refine xr 9 (args:=#[V0 4,.bool false]) (Mo _) fun W1 a0=>?_
 exact xe 24 (V0 18) ⟨rfl,a0⟩
theorem Lb(w:World) :
 C0 272 #[V0 5,.bool true] w (Ret (V0 4) w):=by
 refine zin 31 Tryz.func272 ?_
 exact xe 94 (V0 4) ⟨rfl,(B1 w)⟩
theorem Zds(w:World) :
 C0 269 #[V0 5,.bool true] w (Ret (V0 18) w):=by
 refine zin 16 Tryz.func269 ?_
 refine xr 9 (args:=#[V0 5,.bool true]) (Lb _) fun W1 a0=>?_
 exact xe 24 (V0 18) ⟨rfl,a0⟩
theorem La(w:World) :
 C0 272 #[V0 5,.bool false] w (Ret (V0 4) w):=by
 refine zin 31 Tryz.func272 ?_
 exact xe 41 (V0 4) ⟨rfl,(B1 w)⟩
theorem Zez(w:World) :
 C0 269 #[V0 5,.bool false] w (Ret (V0 18) w):=by
 refine zin 16 Tryz.func269 ?_
 refine xr 9 (args:=#[V0 5,.bool false]) (La _) fun W1 a0=>?_
 exact xe 24 (V0 18) ⟨rfl,a0⟩
def widN(t:Int)(leaf:Bool):Nat:=if leaf=false then 4 else if t=2 then 8 else if t=3 then 24 else if t=4 then 16 else 4
def maxN(t:Int)(leaf:Bool):Nat:=if leaf=false then 18 else if t=2 then 12 else if t=3 then 6 else if t=4 then 9 else 18
theorem Zec(t:Int)(leaf:Bool)(h1:1≤t)(h2:t≤5)(w:World):C0 272 #[V0 t,.bool leaf] w (Ret (V0 (widN t leaf:Int)) w):=by
 obtain rfl|rfl|rfl|rfl|rfl:t=1∨t=2∨t=3∨t=4∨t=5:=by omega
 all_goals cases leaf
 ·exact My w
 ·exact Mt w
 ·exact Mh w
 ·exact Ml w
 ·exact Mz w
 ·exact Lc w
 ·exact Mo w
 ·exact Lf w
 ·exact La w
 ·exact Lb w
theorem node_Max(t:Int)(leaf:Bool)(h1:1≤t)(h2:t≤5)(w:World):C0 269 #[V0 t,.bool leaf] w (Ret (V0 (maxN t leaf:Int)) w):=by
 obtain rfl|rfl|rfl|rfl|rfl:t=1∨t=2∨t=3∨t=4∨t=5:=by omega
 all_goals cases leaf
 ·exact Zdm w
 ·exact Ze0 w
 ·exact Zen w
 ·exact Zd6 w
 ·exact Zdg w
 ·exact Zdv w
 ·exact Zef w
 ·exact Zed w
 ·exact Zez w
 ·exact Zds w
theorem maxN_pos(t:Int)(leaf:Bool):1≤maxN t leaf∧maxN t leaf≤18:=by
 unfold maxN;repeat' split
 all_goals decide
def lenOf:Value→Nat
 | .slice _ n _=>n
 | _=>0
def nv (n:Nat):Value:=V0 (n:Int)
theorem Zr{w:World}{b:O0}{n c:Nat}{l:List Nat}(h:Sl w (.slice b n c) n (l.map nv))(hl:l.length=n){k:Nat}(hk:k<n):b.isSome=true∧w.cell? (Xq b (k*1))=some (V0 ((l.getD k 0:Nat):Int)):=by
 have e:l.map nv=(l.map fun x:Nat=>(x:Int)).map V0:=by simp[nv]
 rw[e] at h
 have:=IntsN.elem h (by simpa using hl) hk
 rw[show(l.map fun x:Nat=>(x:Int)).getD k 0=((l.getD k 0:Nat):Int) by simp[List.getD,List.getElem?_eq_getElem (show k<l.length by omega)]] at this
 exact this
theorem take_sum{L:List Nat}{k:Nat}(h:k<L.length):(L.take (k+1)).sum=(L.take k).sum+L.getD k 0:=by
 rw[List.take_add_one,List.sum_append];simp[List.getD,List.getElem?_eq_getElem h]
theorem take_le{L:List Nat}(k:Nat):(L.take k).sum≤L.sum:=by
 conv=>rhs;rw[←List.take_append_drop k L,List.sum_append]
 omega
def Zl(l:Bl):Nat→Nat→Nat
 | _,0=>0
 | k,w+1=>(l.getD k 0).toNat+256*Zl l (k+1) w
theorem Nt(l:Bl):∀ (w k:Nat),Zl l k w<256 ^ w
 | 0,k=>by simp[Zl]
 | w+1,k=>by
  have:=Nt l w (k+1)
  have h:=(l.getD k 0).toNat_lt
  rw[Zl,Nat.pow_succ];omega
theorem Zcm(l:Bl)(k w:Nat)(hw:w≤7):Zl l k w<72057594037927936:=Nat.lt_of_lt_of_le (Nt l w k) (by rw[show(72057594037927936:Nat)=256 ^ 7 from rfl];exact Nat.pow_le_pow_right (by decide) hw)
theorem Yl(l:Bl)(k w:Nat)(hw:w≤4):Zl l k w<4294967296:=Nat.lt_of_lt_of_le (Nt l w k) (by rw[show(4294967296:Nat)=256 ^ 4 from rfl];exact Nat.pow_le_pow_right (by decide) hw)
theorem Zci{n b:Nat}(hn:n<72057594037927936)(hb:b<256):IntKind.u64.wrap (↑(BitVec.ofInt 64 (IntKind.u64.wrap ((n:Int)*2 ^ 8)) ||| BitVec.ofInt 64 (b:Int)).toNat:Int)=((b+256*n:Nat):Int):=by
 have h1:IntKind.u64.wrap ((n:Int)*2 ^ 8)=((n*2 ^ 8:Nat):Int):=by
  rw[show(n:Int)*2 ^ 8=((n*2 ^ 8:Nat):Int) by omega];exact IntWalk.u64_in _ (by constructor<;>omega)
 rw[h1,BitVec.ofInt_natCast,BitVec.ofInt_natCast,BitVec.toNat_or,BitVec.toNat_ofNat,BitVec.toNat_ofNat,Nat.mod_eq_of_lt (by omega),Nat.mod_eq_of_lt (by omega)]
 rw[←Nat.shiftLeft_eq,←Nat.shiftLeft_add_eq_or_of_lt (by exact hb:b<2 ^ 8),Nat.shiftLeft_eq,IntWalk.u64_in _ (by constructor<;>omega)]
 congr 1;omega
theorem Zgm{n:Nat}(h:n<18446744073709551616):IntKind.u64.wrap (n:Int)=(n:Int):=IntWalk.u64_in _ (by constructor<;>omega)
theorem Zcv(a:O0)(m c k w:Nat)(hw:w=1∨w=2∨w=4∨w=8)(hk:k+w≤m)(hm:m≤100000000)(W:World) :
 C0 215 #[.slice a m c,V0 (k:Int),V0 (w:Int)] W (Ret (V0 0) W):=by
 rcases hw with rfl|rfl|rfl|rfl
 ·exact there_1 a m c k hk hm W
 ·exact there_2 a m c k hk hm W
 ·exact there_4 a m c k hk hm W
 ·exact there_8 a m c k hk hm W
theorem Zce(a:O0)(c k w:Nat)(l:Bl)(W:World)(hw:w=1∨w=2∨w=4∨w=8)(hk:k+w≤l.length)(hl:l.length≤100000000)(h:Bys W (.slice a l.length c) l)(hq:Zl l k w<9223372036854775808) :
 C0 131 #[.slice a l.length c,V0 (k:Int),V0 (w:Int)] W (Ret (.tuple #[V0 (Zl l k w:Int),V0 0]) W):=by
 refine zin 38 Tryz.func131 ?_
 refine xr 12 (args:=#[.slice a l.length c,V0 (k:Int),V0 (w:Int)]) (Zcv a l.length c k w hw hk hl _) fun W1 a3=>?_
 refine xw 21 ((w:Int)-1) ?_
 refine zl 4 38 (fun zm a1 V=>∃ (j r:Nat),a1=[(0,.slice a l.length c),(1,V0 (k:Int)),(6,V0 0),(7,V0 0),(9,.int .u64 (↑(Zl l (k+j) r):Int)),(10,V0 ((j:Int)-1))]∧zm=(((j:Int)-1)+1).toNat∧B0 W V∧j+r=w) ⟨w,0,rfl,rfl,a3,by omega⟩ ?_
 rintro _ _ W2 ⟨j,r,rfl,rfl,a0,a5⟩ J2 a4 r2
 refine xid 7 ((j:Int)-1≥(0:Int)) (fun a2=>?_) (fun a2=>?_)
 ·refine xq 10 (congrArg V0 (show IntKind.i64.wrap ((k:Int)+((j:Int)-1))=(↑(k+(j-1)):Int) from(show IntKind.i64.wrap ((k:Int)+((j:Int)-1))=((k:Int)+((j:Int)-1)) from by first|exact IntWalk.i64_in _ (by omega)|(simp only[IntKind.wrap];omega)).trans (by omega))) ?_
  refine xx 0 _ l.length (k+(j-1)) 1 (Bys.elem h (k:=(k+(j-1))) (by omega)).1 ?_
  refine xl 0 ((Bys.elem (h.below a0) (k:=(k+(j-1))) (by omega)).2) ?_
  refine xq 0 (congrArg (Value.int .u64) (show(IntKind.u64.wrap (↑(l.getD (k+(j-1)) 0).toNat:Int):Int)=(↑(l.getD (k+(j-1)) 0).toNat:Int) from Zgm (by have:=(l.getD (k+(j-1)) 0).toNat_lt;omega))) ?_
  refine xq 0 (congrArg (Value.int .u64) (show(IntKind.u64.wrap (↑(BitVec.ofInt 64 (IntKind.u64.wrap ((↑(Zl l (k+j) r):Int)*2 ^ 8)) ||| BitVec.ofInt 64 (↑(l.getD (k+(j-1)) 0).toNat:Int)).toNat:Int):Int)=(↑(Zl l (k+(j-1)) (r+1)):Int) from(Zci (Zcm l (k+j) r (by omega)) (l.getD (k+(j-1)) 0).toNat_lt).trans (congrArg (fun x:Nat=>(x:Int)) (by rw[Zl,show k+(j-1)+1=k+j by omega])))) ?_
  refine xq 6 (congrArg V0 (show IntKind.i64.wrap ((j:Int)-1-1)=((↑(j-1:Nat):Int)-1) from(show IntKind.i64.wrap ((j:Int)-1-1)=((j:Int)-1-1) from by first|exact IntWalk.i64_in _ (by omega)|(simp only[IntKind.wrap];omega)).trans (by omega))) ?_
  exact ze 2 (a4 _ _ _ ⟨j-1,r+1,rfl,rfl,a0,by omega⟩ (by omega))
 refine xk 12 (show(decide ((↑(Zl l (k+j) r):Int)≥(9223372036854775808:Int)):Bool)=false from by rw[(show Zl l (k+j) r=Zl l k w from by rw[show j=0 by omega,show r=w by omega];rfl)];exact decide_eq_false (by omega)) ?_
 refine xq 5 (congrArg V0 (show(IntKind.i64.wrap (↑(Zl l (k+j) r):Int):Int)=(↑(Zl l k w):Int) from by rw[(show Zl l (k+j) r=Zl l k w from by rw[show j=0 by omega,show r=w by omega];rfl)];exact Jb hq)) ?_
 exact xe 5 (.tuple #[V0 (↑(Zl l k w):Int),V0 0]) ⟨rfl,a0⟩
theorem Zhl(a:O0)(c k w:Nat)(l:Bl)(W:World)(hw:w=1∨w=2∨w=4∨w=8)(hk:k+w≤l.length)(hl:l.length≤100000000)(h:Bys W (.slice a l.length c) l)(hq:¬ Zl l k w<9223372036854775808) :
 C0 131 #[.slice a l.length c,V0 (k:Int),V0 (w:Int)] W (Ret (.tuple #[V0 0,V0 2]) W):=by
 refine zin 38 Tryz.func131 ?_
 refine xr 12 (args:=#[.slice a l.length c,V0 (k:Int),V0 (w:Int)]) (Zcv a l.length c k w hw hk hl _) fun W1 a3=>?_
 refine xw 21 ((w:Int)-1) ?_
 refine zl 4 38 (fun zm a1 V=>∃ (j r:Nat),a1=[(0,.slice a l.length c),(1,V0 (k:Int)),(6,V0 0),(7,V0 0),(9,.int .u64 (↑(Zl l (k+j) r):Int)),(10,V0 ((j:Int)-1))]∧zm=(((j:Int)-1)+1).toNat∧B0 W V∧j+r=w) ⟨w,0,rfl,rfl,a3,by omega⟩ ?_
 rintro _ _ W2 ⟨j,r,rfl,rfl,a0,a5⟩ J2 a4 r2
 refine xid 7 ((j:Int)-1≥(0:Int)) (fun a2=>?_) (fun a2=>?_)
 ·refine xq 10 (congrArg V0 (show IntKind.i64.wrap ((k:Int)+((j:Int)-1))=(↑(k+(j-1)):Int) from(show IntKind.i64.wrap ((k:Int)+((j:Int)-1))=((k:Int)+((j:Int)-1)) from by first|exact IntWalk.i64_in _ (by omega)|(simp only[IntKind.wrap];omega)).trans (by omega))) ?_
  refine xx 0 _ l.length (k+(j-1)) 1 (Bys.elem h (k:=(k+(j-1))) (by omega)).1 ?_
  refine xl 0 ((Bys.elem (h.below a0) (k:=(k+(j-1))) (by omega)).2) ?_
  refine xq 0 (congrArg (Value.int .u64) (show(IntKind.u64.wrap (↑(l.getD (k+(j-1)) 0).toNat:Int):Int)=(↑(l.getD (k+(j-1)) 0).toNat:Int) from Zgm (by have:=(l.getD (k+(j-1)) 0).toNat_lt;omega))) ?_
  refine xq 0 (congrArg (Value.int .u64) (show(IntKind.u64.wrap (↑(BitVec.ofInt 64 (IntKind.u64.wrap ((↑(Zl l (k+j) r):Int)*2 ^ 8)) ||| BitVec.ofInt 64 (↑(l.getD (k+(j-1)) 0).toNat:Int)).toNat:Int):Int)=(↑(Zl l (k+(j-1)) (r+1)):Int) from(Zci (Zcm l (k+j) r (by omega)) (l.getD (k+(j-1)) 0).toNat_lt).trans (congrArg (fun x:Nat=>(x:Int)) (by rw[Zl,show k+(j-1)+1=k+j by omega])))) ?_
  refine xq 6 (congrArg V0 (show IntKind.i64.wrap ((j:Int)-1-1)=((↑(j-1:Nat):Int)-1) from(show IntKind.i64.wrap ((j:Int)-1-1)=((j:Int)-1-1) from by first|exact IntWalk.i64_in _ (by omega)|(simp only[IntKind.wrap];omega)).trans (by omega))) ?_
  exact ze 2 (a4 _ _ _ ⟨j-1,r+1,rfl,rfl,a0,by omega⟩ (by omega))
 refine xk 12 (show(decide ((↑(Zl l (k+j) r):Int)≥(9223372036854775808:Int)):Bool)=true from by rw[(show Zl l (k+j) r=Zl l k w from by rw[show j=0 by omega,show r=w by omega];rfl)];exact decide_eq_true (by omega)) ?_
 exact xe 8 (.tuple #[V0 0,V0 2]) ⟨rfl,a0⟩
def Km(l:Bl):Nat→List Nat→List Nat
 | _,[]=>[]
 | k,w::r=>Zl l k w::Km l (k+w) r
theorem Sd(l:Bl):∀ (ws:List Nat) (k:Nat),(Km l k ws).length=ws.length
 | [],k=>rfl
 | w::r,k=>by simp[Km,Sd l r]
theorem Um(l:Bl)(w:Nat):∀ (ws:List Nat) (k:Nat),Km l k (ws++[w])=Km l k ws++[Zl l (k+ws.sum) w]
 | [],k=>by simp[Km]
 | x::r,k=>by simp[Km,Um l w r,Nat.add_assoc]
theorem Wa(l:Bl):∀ (ws:List Nat) (k i:Nat),i<ws.length→(Km l k ws).getD i 0=Zl l (k+(ws.take i).sum) (ws.getD i 0)
 | [],k,i,h=>by simp at h
 | w::r,k,0,h=>by simp[Km]
 | w::r,k,i+1,h=>by
  have:=Wa l r (k+w) i (by simpa using h)
  simp only[List.getD_eq_getElem?_getD] at this ⊢
  simp[Km,this,Nat.add_assoc]
theorem Ke{ws:List Nat}{i:Nat}(h:i<ws.length):ws.take (i+1)=ws.take i++[ws.getD i 0]:=by
 rw[List.take_succ_eq_append_getElem h];simp[List.getD,h]
theorem Gj{ws:List Nat}{i:Nat}(h:i<ws.length):(ws.take i).sum+ws.getD i 0≤ws.sum:=by
 have h1:=take_sum h;have h2:=take_le (L:=ws) (i+1);omega
def Zdr(l:Bl)(k w:Nat):Int:=if Zl l k w<9223372036854775808 then(Zl l k w:Int) else 0
def Ob(l:Bl)(k w:Nat):Int:=if Zl l k w<9223372036854775808 then 0 else 2
theorem Il{l:Bl}{k w:Nat}(h:Ob l k w=0):Zl l k w<9223372036854775808:=by unfold Ob at h;split at h;assumption;cases h
theorem Zcq{l:Bl}{k w:Nat}(h:Ob l k w≠0):¬ Zl l k w<9223372036854775808∧Ob l k w=2:=by unfold Ob at h ⊢;split at h;exact absurd rfl h;rename_i h2;exact⟨h2,if_neg h2⟩
theorem Sh{l:Bl}{k w:Nat}(h:Zl l k w<9223372036854775808):Ob l k w=0:=if_pos h
theorem Nk{l:Bl}{k w:Nat}(h:Zl l k w<9223372036854775808):Zdr l k w=(Zl l k w:Int):=if_pos h
theorem Zf7(a:O0)(c k w:Nat)(l:Bl)(W:World)(hw:w=1∨w=2∨w=4∨w=8)(hk:k+w≤l.length)(hl:l.length≤100000000)(h:Bys W (.slice a l.length c) l) :
 C0 131 #[.slice a l.length c,V0 (k:Int),V0 (w:Int)] W (Ret (.tuple #[V0 (Zdr l k w),V0 (Ob l k w)]) W):=by
 by_cases hq:Zl l k w<9223372036854775808
 ·rw[Nk hq,Sh hq];exact Zce a c k w l W hw hk hl h hq
 ·rw[Zdr,Ob,if_neg hq,if_neg hq];exact Zhl a c k w l W hw hk hl h hq
theorem Ar(a:O0)(c:Nat)(l:Bl)(aw:O0)(cw:Nat)(ws:List Nat)(W:World)(hk:∀ i,i<ws.length→ws.getD i 0=1∨ws.getD i 0=2∨ws.getD i 0=4∨ws.getD i 0=8)(hs:ws.sum≤l.length)(hl:l.length≤100000000)(hw:ws.length≤1000)(h:Bys W (.slice a l.length c) l)(hws:Sl W (.slice aw ws.length cw) ws.length (ws.map nv))(hq:∀ i,i<ws.length→(Km l 0 ws).getD i 0<9223372036854775808) :
 C0 259 #[.slice a l.length c,.slice aw ws.length cw] W (Ko (fun w' r=>∃ p c,r=.tuple #[.slice p ws.length c,V0 0]∧w'.ownsRow W.heap.size 3 1 (.slice p ws.length c) ws.length ((Km l 0 ws).map nv)) W):=by
 refine zin 37 Tryz.func259 ?_
 have hB:=Below.refl W.heap.size W
 refine zl 25 37 (fun zm b0 V=>∃ (i:Nat) (p:O0) (c2:Nat),b0=[(0,.slice a l.length c),(6,.slice p i c2),(7,V0 (↑(ws.take i).sum:Int)),(12,.slice aw ws.length cw),(13,V0 (ws.length:Int)),(14,V0 (i:Int))]∧zm=ws.length-((i:Int)).toNat∧B0 W V∧V.ownsRow W.heap.size 3 1 (.slice p i c2) i ((Km l 0 (ws.take i)).map nv)∧i≤ws.length) ⟨0,_,_,rfl,rfl,hB,World.ownsRow_nil _ _ _ _,Nat.zero_le _⟩ ?_
 rintro _ _ W1 ⟨i,p,c2,rfl,rfl,a0,ho,hi⟩ J1 a9 r1
 have b7:i<ws.length→(ws.take i).sum+ws.getD i 0≤ws.sum:=Gj
 have a8:i<ws.length→(Km l 0 ws).getD i 0=Zl l (ws.take i).sum (ws.getD i 0):=fun h=>by rw[Wa l ws 0 i h,Nat.zero_add]
 refine xid 6 ((i:Int)<(ws.length:Int)) (fun b1=>?_) (fun b1=>?_)
 ·refine xx 6 _ ws.length i 1 (Zr hws rfl (k:=i) (by omega)).1 ?_
  refine xl 0 ((Zr (hws.below a0) rfl (k:=i) (by omega)).2) ?_
  refine xr 8 (args:=#[.slice a l.length c,V0 (↑(ws.take i).sum:Int),V0 (↑(ws.getD i 0):Int)]) (Zf7 a c (ws.take i).sum (ws.getD i 0) l _ (hk i (by omega)) (by omega) hl (h.below a0)) fun W3 a7=>?_
  refine xk 14 (show(((Ob l (ws.take i).sum (ws.getD i 0)) != (0:Int)):Bool)=false from by rw[Sh (by rw[←a8 (by omega)];exact hq i (by omega))];rfl) ?_
  refine xbs 6 1 [V0 (Zdr l (ws.take i).sum (ws.getD i 0))] 3 fun b4 W4 n4=>?_
  have a1:=bln a0 a7
  have g4:=n4.ge a1
  have a3:=Zb ho a7
  have a6:=Zx a3 n4
  have a4:=Zb a3 n4.below
  have a2:=bln a1 n4.below
  refine xbi 0 fun _ _ _ _ zJ zQ zo zx zy zK=>Zw (m:=1) (news:=[V0 (Zdr l (ws.take i).sum (ws.getD i 0))]) (V0 0) 1 8 (i+1) ((Km l 0 (ws.take (i+1))).map nv) zo Tryz.underlying33 (by kernel_rfl) rfl (by decide) zx a4 zy (n4.blk.sl 1 1 (by decide) (by decide)) rfl (by simp[Value.oneCell']) (by unfold maxLen;omega) (by omega) a2.size (by rfl) (by rw[Ke (by omega),Um,Nat.zero_add,List.map_append];simp only[List.map_cons,List.map_nil,nv];rw[Nk (by rw[←a8 (by omega)];exact hq i (by omega))]) fun b3 b5 W5 o5 b6 b2=>?_
  refine zK _ _ ?_
  refine xwm 6 ((↑(ws.take i).sum:Int)+(↑(ws.getD i 0):Int)) (↑((ws.take i).sum+(ws.getD i 0)):Int) ?_
  refine xwm 5 ((i:Int)+1) (↑(i+1):Int) ?_
  refine xv1 2 7 (show(V0 (↑((ws.take i).sum+(ws.getD i 0)):Int):Value)=V0 (↑(ws.take (i+1)).sum:Int) from by rw[Ke (by omega),List.sum_append];simp) ?_
  have a5:=a2.trans b2
  exact ze 0 (a9 _ _ _ ⟨i+1,_,_,rfl,rfl,a5,o5,by omega⟩ (by omega))
 refine xe 13 (.tuple #[.slice p i c2,V0 0]) ?_
 obtain rfl:i=ws.length:=by omega
 rw[List.take_length] at ho
 exact⟨_,rfl,a0,_,_,rfl,ho⟩
theorem Zdk(a:O0)(c:Nat)(l:Bl)(aw:O0)(cw:Nat)(ws:List Nat)(W:World)(hk:∀ i,i<ws.length→ws.getD i 0=1∨ws.getD i 0=2∨ws.getD i 0=4∨ws.getD i 0=8)(hs:ws.sum≤l.length)(hl:l.length≤100000000)(hw:ws.length≤1000)(h:Bys W (.slice a l.length c) l)(hws:Sl W (.slice aw ws.length cw) ws.length (ws.map nv))(hq:¬ ∀ i,i<ws.length→(Km l 0 ws).getD i 0<9223372036854775808) :
 C0 259 #[.slice a l.length c,.slice aw ws.length cw] W (Ret (.tuple #[S0,V0 2]) W):=by
 refine zin 37 Tryz.func259 ?_
 have hB:=Below.refl W.heap.size W
 refine zl 25 37 (fun zm b2 V=>∃ (i:Nat) (p:O0) (c2:Nat),b2=[(0,.slice a l.length c),(6,.slice p i c2),(7,V0 (↑(ws.take i).sum:Int)),(12,.slice aw ws.length cw),(13,V0 (ws.length:Int)),(14,V0 (i:Int))]∧zm=ws.length-((i:Int)).toNat∧B0 W V∧V.ownsRow W.heap.size 3 1 (.slice p i c2) i ((Km l 0 (ws.take i)).map nv)∧i≤ws.length∧(∀ j,j<i→(Km l 0 ws).getD j 0<9223372036854775808)) ⟨0,_,_,rfl,rfl,hB,World.ownsRow_nil _ _ _ _,Nat.zero_le _,?_⟩ ?_
 ·exact fun j hj=>absurd hj (by omega)
 rintro _ _ W1 ⟨i,p,c2,rfl,rfl,a0,ho,hi,a3⟩ J1 b6 r1
 have c1:i<ws.length→(ws.take i).sum+ws.getD i 0≤ws.sum:=Gj
 have b4:i<ws.length→(Km l 0 ws).getD i 0=Zl l (ws.take i).sum (ws.getD i 0):=fun h=>by rw[Wa l ws 0 i h,Nat.zero_add]
 refine xid 6 ((i:Int)<(ws.length:Int)) (fun b3=>?_) (fun b3=>?_)
 ·refine xx 6 _ ws.length i 1 (Zr hws rfl (k:=i) (by omega)).1 ?_
  refine xl 0 ((Zr (hws.below a0) rfl (k:=i) (by omega)).2) ?_
  refine xr 8 (args:=#[.slice a l.length c,V0 (↑(ws.take i).sum:Int),V0 (↑(ws.getD i 0):Int)]) (Zf7 a c (ws.take i).sum (ws.getD i 0) l _ (hk i (by omega)) (by omega) hl (h.below a0)) fun W3 b0=>?_
  refine xin 14 (Ob l (ws.take i).sum (ws.getD i 0)) (0:Int) (fun a8=>?_) (fun a8=>?_)
  ·have a5:=Zcq a8
   have a7:=bln a0 b0
   refine xe 14 (.tuple #[S0,V0 (Ob l (ws.take i).sum (ws.getD i 0))]) ?_
   rw[a5.2];exact⟨rfl,a7⟩
  have a5:=Il a8
  refine xbs 6 1 [V0 (Zdr l (ws.take i).sum (ws.getD i 0))] 3 fun b5 W5 n5=>?_
  have a2:=bln a0 b0
  have g5:=n5.ge a2
  have a4:=Zb ho b0
  have b1:=Zx a4 n5
  have a6:=Zb a4 n5.below
  have a1:=bln a2 n5.below
  refine xbi 0 fun _ _ _ _ zJ zQ zo zx zy zK=>Zw (m:=1) (news:=[V0 (Zdr l (ws.take i).sum (ws.getD i 0))]) (V0 0) 1 8 (i+1) ((Km l 0 (ws.take (i+1))).map nv) zo Tryz.underlying33 (by kernel_rfl) rfl (by decide) zx a6 zy (n5.blk.sl 1 1 (by decide) (by decide)) rfl (by simp[Value.oneCell']) (by unfold maxLen;omega) (by omega) a1.size (by rfl) (by rw[Ke (by omega),Um,Nat.zero_add,List.map_append];simp only[List.map_cons,List.map_nil,nv];rw[Nk a5]) fun c0 b9 W6 o6 b8 b7=>?_
  refine zK _ _ ?_
  refine xwm 6 ((↑(ws.take i).sum:Int)+(↑(ws.getD i 0):Int)) (↑((ws.take i).sum+(ws.getD i 0)):Int) ?_
  refine xwm 5 ((i:Int)+1) (↑(i+1):Int) ?_
  refine xv1 2 7 (show(V0 (↑((ws.take i).sum+(ws.getD i 0)):Int):Value)=V0 (↑(ws.take (i+1)).sum:Int) from by rw[Ke (by omega),List.sum_append];simp) ?_
  have a9:=a1.trans b7
  exact ze 0 (b6 _ _ _ ⟨i+1,_,_,rfl,rfl,a9,o6,by omega,fun j hj=>(Nat.lt_or_ge j i).elim (fun q=>a3 j q) (fun q=>by obtain rfl:j=i:=(by omega);rw[b4 (by omega)];exact a5)⟩ (by omega))
 refine xe 13 (.tuple #[.slice p i c2,V0 0]) ?_
 exact absurd (fun j hj=>a3 j (by omega)) hq
end Go.Proofs.YtegcamkgeacjfaaGreatDoor
namespace Go.Proofs.YtegcamkgeacjfaaGreatDoor
set_option maxHeartbeats 8000000
set_option maxRecDepth 100000
open Go.RowKit
set_option linter.unusedVariables false
theorem loop_eq(bs:ByteArray)(i:Nat)(r:Bl):ByteArray.toList.loop bs i r=r.reverse++bs.data.toList.drop i:=by
 have hs:bs.data.toList.length=bs.size:=by rw[Array.length_toList];rfl
 rw[ByteArray.toList.loop]
 split
 ·rename_i h
  have h':i<bs.data.toList.length:=by omega
  rw[loop_eq bs (i+1) _,List.drop_eq_getElem_cons h']
  have e:bs.get! i=bs.data.toList[i]:=by
   have h2:i<bs.data.size:=by rw[←Array.length_toList];exact h'
   show bs.data[i]! = _
   rw[getElem!_pos bs.data i h2];simp
  rw[e];simp
 ·rename_i h
  rw[List.drop_eq_nil_of_le (by omega)];simp
termination_by bs.size-i
theorem Zbn(a:Bl):(⟨a.toArray⟩:ByteArray).toList=a:=by
 unfold ByteArray.toList;rw[loop_eq];simp
theorem Ue(a b:Bl):((⟨a.toArray⟩:ByteArray).toList==(⟨b.toArray⟩:ByteArray).toList)=(a==b):=by rw[Zbn,Zbn]
theorem Ca(l:Bl):∀ (w k i:Nat),i<w→Zl l k w/256 ^ i%256=(l.getD (k+i) 0).toNat
 | 0,k,i,h=>absurd h (by omega)
 | w+1,k,0,_=>by
  have:=(l.getD k 0).toNat_lt
  rw[Zl];simp only[Nat.pow_zero,Nat.div_one,Nat.add_zero];omega
 | w+1,k,i+1,h=>by
  have:=(l.getD k 0).toNat_lt
  have ih:=Ca l w (k+1) i (by omega)
  rw[Zl,Nat.pow_succ,Nat.mul_comm (256 ^ i) 256,←Nat.div_div_eq_div_mul,show((l.getD k 0).toNat+256*Zl l (k+1) w)/256=Zl l (k+1) w by omega,ih,show k+1+i=k+(i+1) by omega]
theorem Rr{l:Bl}{k w:Nat}(h:k+w≤l.length):leB (Zl l k w:Int) w=(l.drop k).take w:=by
 apply List.ext_getElem
 ·simp[Ym];omega
 intro i h1 h2
 have hw:i<w:=by simpa [Ym] using h1
 have e:=Ca l w k i hw
 apply UInt8.toNat_inj.1
 simp only[leB,List.getElem_map,List.getElem_range,Xf,Int.toNat_natCast,UInt8.toNat_ofNat',List.getElem_take,List.getElem_drop]
 have e2:l.getD (k+i) 0=l[k+i]'(by omega):=by simp[List.getD,show k+i<l.length by omega]
 rw[e2] at e
 rw[←e]
theorem leB_inj{m n w:Nat}(hm:m<256 ^ w)(hn:n<256 ^ w)(h:leB (m:Int) w=leB (n:Int) w):m=n:=by
 have e:∀ i,i<w→m/256 ^ i%256=n/256 ^ i%256:=fun i hi=>by
  have:=congrArg (fun l=>(l.getD i 0).toNat) h
  simpa [leB,Xf,List.getD,List.getElem?_range hi,UInt8.toNat_ofNat'] using this
 clear h
 induction w generalizing m n with
 | zero=>simp at hm hn;omega
 | succ w ih =>
  have h0:=e 0 (by omega)
  have h1:m/256=n/256:=ih (by rw[Nat.pow_succ] at hm;omega) (by rw[Nat.pow_succ] at hn;omega) fun i hi=>by
   have:=e (i+1) (by omega)
   rw[Nat.pow_succ,Nat.mul_comm (256 ^ i) 256,←Nat.div_div_eq_div_mul,←Nat.div_div_eq_div_mul] at this
   exact this
  simp only[Nat.pow_zero,Nat.div_one] at h0
  omega
theorem Lr{b:Bool}(h:(!b)=true):b=false:=by simpa using h
theorem Lm{b:Bool}(h:(!b)=false):b=true:=by simpa using h
end Go.Proofs.YtegcamkgeacjfaaGreatDoor
namespace Go.Proofs.YtegcamkgeacjfaaGreatDoor
set_option maxHeartbeats 8000000
set_option maxRecDepth 100000
open Go.RowKit Go.Extern.Stop Go.Stop Go.Extern
set_option linter.unusedVariables false
attribute [local irreducible] wpList wpAnyH Code.wp Oper.wp Go
theorem Kc{P:Program}{a:Act}{o:Oper}{src dst e:TypeId}{x:Operand}{b:O0}{n c:Nat}{l:Bl}{w:World}(ho:o.op=.convert src dst x)(hx:a.eval x=.slice b n c)(h:Bys w (.slice b n c) l)(hl:l.length=n)
 (hs:P.underlying src=some (.slice e)) (he:P.underlying e=some (.int .u8)) (hd:P.underlying dst=some .string):(execOp a.eval o).run P w=.ok (.value (.string ⟨l.toArray⟩)) w:=by
 have hr:(convert src dst (.slice b n c)).run P w=.ok (.string ⟨l.toArray⟩) w:=by
  subst hl
  rcases Sl.at h with hn|⟨g,a0,rfl,hc⟩
  ·obtain rfl:l=[]:=by simpa using hn
   cases b with
   | none=>rw[run_convert_bytes_string w src dst e none _ c hs he hd];rfl
   | some p=>exact run_convert_bytes_back w src dst e p c [] hs he hd (fun j hj=>by simp at hj)
  ·exact run_convert_bytes_back w src dst e _ c l hs he hd (fun j hj=>by rw[Addr.add_mid];exact hc j _ (by simp[List.getElem?_eq_getElem hj,bv]))
 simp only[execOp,ho,hx,Sem.run_bind,hr];rfl
theorem Bys.cap{w:World}{a:O0}{n c:Nat}{l:Bl}(h:Bys w (.slice a n c) l)(hl:l.length=n):n≤c:=by
 rcases h with ⟨a',c',h1,h2,_⟩|⟨b,a0,cap,h1,h2,_,_⟩
 ·omega
 ·simp only[Value.slice.injEq] at h1;omega
end Go.Proofs.YtegcamkgeacjfaaGreatDoor
namespace Go.Proofs.YtegcamkgeacjfaaGreatDoor
set_option maxHeartbeats 8000000
set_option maxRecDepth 100000
open Go.RowKit Go.Extern.Stop Go.Stop Go.Extern
set_option linter.unusedVariables false
attribute [local irreducible] wpList wpAnyH Code.wp Oper.wp Go
section
variable {P:Program} {a:Act}
theorem Qg{o:Oper}{t e:TypeId}{x y y2:Operand}{b:O0}{n k h c:Nat}{i j:Int}{ki kj:IntKind}(size:Nat)(ho:o.op=.slice t x (some y) (some y2) none)(hx:a.eval x=.slice b n c)(hy:a.eval y=.int ki i)(hi:i=(k:Int))(hy2:a.eval y2=.int kj j)(hj:j=(h:Int))(hk:k≤h)(hc:h≤c)
 (ht:P.underlying t=some (.slice e)) (hs:(P.info? e).map (·.size)=some size) (w:World):(execOp a.eval o).run P w=.ok (.value (.slice (Qu b k c size) (h-k) (c-k))) w:=by
 cases hq:P.info? e with
 | none=>simp[hq] at hs
 | some q =>
  have a0:q.size=size:=by simpa [hq] using hs
  subst hi hj
  have h1:(0:Int)≤(k:Int):=by omega
  have h2:(0:Int)≤(h:Int):=by omega
  have h3:(k:Int)≤(h:Int):=by omega
  have h4:(h:Int)≤(c:Int):=by omega
  by_cases h5:c=k
  ·simp_all [execOp,Instr.sliceAt,Instr.slice,Instr.sliceBounds,Instr.sliceBound,asIntOf,run_underlying ht,sizeOf,typeInfo,Qu]
  ·simp_all [execOp,Instr.sliceAt,Instr.slice,Instr.sliceBounds,Instr.sliceBound,asIntOf,run_underlying ht,sizeOf,typeInfo,Qu]
end
theorem Bys.cut{w:World}{b:O0}{n c:Nat}{l:Bl}(h:Bys w (.slice b n c) l)(hl:l.length=n)(k m:Nat)(hk:k≤m)(hm:m≤n):Bys w (.slice (Qu b k c 1) (m-k) (c-k)) ((l.drop k).take (m-k)):=by
 have a0:((l.drop k).take (m-k)).length=m-k:=by simp;omega
 have a2:=Bys.cap h hl
 rcases h with ⟨a',c',h1,h2,h3⟩|⟨g,a1,a3,h1,h2,h3,h4⟩
 ·obtain rfl:k=0:=by omega
  obtain rfl:m=0:=by omega
  refine .inl ⟨Qu b 0 c 1,c-0,?_,by simp,by simp⟩
  simp
 ·simp only[Value.slice.injEq] at h1
  obtain⟨rfl,_,rfl⟩:=h1
  by_cases hz:m-k=0
  ·refine .inl ⟨Qu (some ⟨g,a1,none⟩) k c 1,c-k,by rw[hz],by omega,?_⟩
   rw[hz];rfl
  ·refine .inr ⟨g,a1+k*1,c-k,?_,by omega,by omega,fun j x hj=>?_⟩
   ·rw[Qu,if_neg (by omega),a0];simp[Addr.add]
   ·rw[List.getElem?_map,List.getElem?_take] at hj
    split at hj
    ·rw[List.getElem?_drop] at hj
     have:=h4 (k+j) x (by rw[List.getElem?_map];exact hj)
     rwa [Nat.mul_one,Nat.add_assoc]
    ·cases hj
def Qv(l:Bl):Bool:=l.all (·==0)
theorem Fw{l:Bl}(h:∀ j,j<l.length→l.getD j 0=0):Qv l=true:=by
 unfold Qv
 rw[List.all_eq_true]
 intro x hx
 obtain⟨j,hj,rfl⟩:=List.mem_iff_getElem.1 hx
 have:=h j hj
 simpa [List.getD,hj] using this
theorem Cq{l:Bl}{j:Nat}(hj:j<l.length)(h:((l.getD j 0).toNat:Int)≠0):Qv l=false:=by
 unfold Qv
 rw[List.all_eq_false]
 refine⟨l[j],List.getElem_mem hj,?_⟩
 intro h2
 apply h
 have:l[j]=0:=by simpa using h2
 simp[List.getD,hj,this]
theorem Au{x:UInt8}(h:(x.toNat:Int)=0):x=0:=by
 have h1:x.toNat=0:=by omega
 exact UInt8.toNat_inj.1 (by rw[h1];rfl)
theorem zero_1(n:Int)(w:World) :
 C0 319 #[.int .u8 n] w (Ret (.bool (n != 0)) w):=by
 refine zin 5 Tryz.func319 ?_
 exact xe 13 (.bool (n != (0:Int))) ⟨rfl,(B1 w)⟩
theorem indexZero(a:O0)(c:Nat)(l:Bl)(w:World)(hl:l.length≤100000000)(h:Bys w (.slice a l.length c) l) :
 C0 320 #[.slice a l.length c,.func (.func 319) #[] #[]] w (fun e w'=>(Qv l=true∧e=.returned (V0 (-1))∧B0 w w')∨(Qv l=false∧∃ i:Nat,e=.returned (V0 (i:Int))∧B0 w w')):=by
 refine zin 19 Tryz.func320 ?_
 have hB:=Below.refl w.heap.size w
 refine zl 14 19 (fun zm a4 V=>∃ (i:Nat),a4=[(0,.slice a l.length c),(1,.func (.func 319) #[] #[]),(7,V0 (l.length:Int)),(8,V0 (i:Int))]∧zm=l.length-((i:Int)).toNat∧B0 w V∧i≤l.length∧(∀ j,j<i→l.getD j 0=0)) ⟨0,rfl,rfl,hB,Nat.zero_le _,?_⟩ ?_
 ·exact fun j hj=>absurd hj (by omega)
 rintro _ _ W1 ⟨i,rfl,rfl,a0,hi,hz⟩ J1 a7 r1
 refine xid 6 ((i:Int)<(l.length:Int)) (fun a5=>?_) (fun a5=>?_)
 ·refine xx 15 _ l.length i 1 (Bys.elem h (k:=i) (by omega)).1 ?_
  refine xl 0 ((Bys.elem (h.below a0) (k:=i) (by omega)).2) ?_
  refine xr 0 (args:=#[.int .u8 (↑(l.getD i 0).toNat:Int)]) (zero_1 (↑(l.getD i 0).toNat:Int) _) fun W3 a3=>?_
  refine xin 2 (↑(l.getD i 0).toNat:Int) (0:Int) (fun a6=>?_) (fun a6=>?_)
  ·have a1:=bln a0 a3
   exact xe 12 (V0 (i:Int)) (.inr ⟨Cq (j:=i) (by omega) (by assumption),_,rfl,a1⟩)
  refine xwm 4 ((i:Int)+1) (↑(i+1):Int) ?_
  have a2:=bln a0 a3
  exact ze 2 (a7 _ _ _ ⟨i+1,rfl,rfl,a2,by omega,fun j hj=>(Nat.lt_or_ge j i).elim (hz j) (fun q=>by obtain rfl:j=i:=(by omega);exact Au (by assumption))⟩ (by omega))
 exact xe 11 (V0 (-1)) (.inl ⟨Fw (fun j hj=>hz j (by omega)),rfl,a0⟩)
theorem Ie(a:O0)(c:Nat)(l:Bl)(w:World)(hl:l.length≤100000000)(h:Bys w (.slice a l.length c) l) :
 C0 318 #[.slice a l.length c,.func (.func 319) #[] #[]] w (Ret (.bool (!Qv l)) w):=by
 refine zin 9 Tryz.func318 ?_
 refine xc 9 (args:=#[.slice a l.length c,.func (.func 319) #[] #[]]) (indexZero a c l _ hl (h.below (B1 w))) ?_
 rintro e W1 a1
 rcases a1 with ⟨hz,rfl,a0⟩|⟨hz,i0,rfl,a0⟩
 ·refine xe 5 (.bool false) ?_
  rw[hz];exact⟨rfl,a0⟩
 refine xe 5 (.bool (decide ((i0:Int)≥(0:Int)))) ?_
 rw[hz,show decide ((i0:Int)≥(0:Int))=true from decide_eq_true (by omega)];exact⟨rfl,a0⟩
theorem code_Zero(a:O0)(c:Nat)(l:Bl)(w:World)(hl:l.length≤100000000)(h:Bys w (.slice a l.length c) l) :
 C0 316 #[.slice a l.length c] w (Ret (.bool (Qv l)) w):=by
 refine zin 6 Tryz.func316 ?_
 refine xr 8 (args:=#[.slice a l.length c,.func (.func 319) #[] #[]]) (Ie a c l _ hl (h.below (B1 w))) fun W1 a0=>?_
 refine xe 5 (.bool (!(!Qv l))) ?_
 rw[Bool.not_not];exact⟨rfl,a0⟩
def Kj(kind no:Int):Bool:=decide (1≤kind∧kind≤4∧0≤no∧no<14400)
theorem Za2(kind no:Int)(w:World) :
 C0 133 #[V0 kind,V0 no] w (Ret (.bool (Kj kind no)) w):=by
 refine zin 19 Tryz.func133 ?_
 refine xg 10 [6,7] (decide (kind≥(1:Int))) (fun a1=>?_) (fun a1=>?_)
 ·have a1:=of_decide_eq_true a1
  refine xg 4 [9,10,11] (decide (kind≤(4:Int))) (fun a0=>?_) (fun a0=>?_)
  ·have a0:=of_decide_eq_true a0
   refine xg 4 [13,14,15] (decide (no≥(0:Int))) (fun a2=>?_) (fun a2=>?_)
   ·have a2:=of_decide_eq_true a2
    exact xe 7 (.bool (decide (no<(14400:Int)))) ⟨by rw[show Kj kind no=decide (no<14400) from decide_eq_decide.2 ⟨fun h=>h.2.2.2,fun h=>⟨by omega,by omega,by omega,h⟩⟩],(B1 w)⟩
   have a2:=of_decide_eq_false a2
   exact xe 7 (.bool false) ⟨by rw[show Kj kind no=false from decide_eq_false (by omega)],(B1 w)⟩
  have a0:=of_decide_eq_false a0
  exact xe 11 (.bool false) ⟨by rw[show Kj kind no=false from decide_eq_false (by omega)],(B1 w)⟩
 have a1:=of_decide_eq_false a1
 exact xe 15 (.bool false) ⟨by rw[show Kj kind no=false from decide_eq_false (by omega)],(B1 w)⟩
theorem Zfz(a:O0)(c k w:Nat)(l:Bl)(W:World)(hw:w=1∨w=2∨w=4)(hk:k+w≤l.length)(hl:l.length≤100000000)(h:Bys W (.slice a l.length c) l) :
 C0 66 #[.slice a l.length c,V0 (k:Int),V0 (w:Int)] W (Ret (V0 (Zl l k w:Int)) W):=by
 refine zin 17 Tryz.func66 ?_
 refine xr 10 (args:=#[.slice a l.length c,V0 (k:Int),V0 (w:Int)]) (Zce a c k w l _ (by omega) hk hl (h.below (B1 W)) (by have:=Yl l k w (by omega);omega)) fun W1 a0=>?_
 exact xe 14 (V0 (↑(Zl l k w):Int)) ⟨rfl,a0⟩
theorem We(a:O0)(n c k w:Nat)(ki wi:Int)(l:Bl)(W:World)(hn:l.length=n)(hki:ki=(k:Int))(hwi:wi=(w:Int))(hw:w=1∨w=2∨w=4)(hk:k+w≤n)(hl:n≤100000000)(h:Bys W (.slice a n c) l) :
 C0 66 #[.slice a n c,V0 ki,V0 wi] W (Ret (V0 (Zl l k w:Int)) W):=by
 subst hn hki hwi;exact Zfz a c k w l W hw hk hl h
def Gz(kind no:Int)(l:Bl):Nat→Bool
 | 0=>!Kj kind no
 | 1=>(l.length:Int) != 256
 | 2=>(Zl l 252 4:Int) != (Td l kind:Int)
 | 3=>(Zl l 0 4:Int) != no
 | 4=>(Zl l 4 2:Int) != kind
 | _=>(Zl l 6 2:Int) != 0
def Yk(kind no:Int)(l:Bl):Int :=
 if Gz kind no l 0 then 1 else if Gz kind no l 1 then 7 else if Gz kind no l 2 then 4 else if Gz kind no l 3 then 5 else if Gz kind no l 4 then 6 else if Gz kind no l 5 then 7 else 0
theorem Ze8{kind no:Int}{l:Bl}(h:Gz kind no l 1=false):l.length=256:=by
 have:(l.length:Int)=256:=Xn h
 omega
theorem open_1(kind no:Int)(w:World)(l:Bl)(bk:Nat)(kk:Blk w bk [V0 kind] 3)(bn:Nat)(kn:Blk w bn [V0 no] 3) :
 C0 132 #[P0 bk,P0 bn] w (Ret (.bool (Gz kind no l 0)) w):=by
 refine zin 7 Tryz.func132 ?_
 refine xb 7 0 kk ?_
 refine xb 0 0 kn ?_
 refine xr 0 (args:=#[V0 kind,V0 no]) (Za2 kind no _) fun W1 a0=>?_
 exact xe 5 (.bool (!(Kj kind no))) ⟨rfl,a0⟩
theorem open_2(kind no:Int)(w:World)(bb:Nat)(a:O0)(c:Nat)(l:Bl)(kb:Blk w bb [.slice a l.length c] 40) :
 C0 134 #[P0 bb] w (Ret (.bool (Gz kind no l 1)) w):=by
 refine zin 5 Tryz.func134 ?_
 refine xb 7 0 kb ?_
 exact xe 6 (.bool ((l.length:Int) != (256:Int))) ⟨rfl,(B1 w)⟩
theorem Zfb(kind:Int)(a:O0)(c n:Nat)(l:Bl)(w:World)(hn:l.length=n)(h256:n=256)(hc:256≤c)(h:Bys w (.slice a n c) l) :
 C0 136 #[.slice a n c,V0 kind] w (Ret (V0 (Td l kind:Int)) w):=by
 subst h256;exact seal_sum kind a c l w hn hc h
theorem open_3(kind no:Int)(w:World)(bb:Nat)(a:O0)(c:Nat)(l:Bl)(kb:Blk w bb [.slice a l.length c] 40)(bk:Nat)(kk:Blk w bk [V0 kind] 3)(hl:l.length=256)(hc:256≤c)(h:Bys w (.slice a l.length c) l) :
 C0 135 #[P0 bb,P0 bk] w (Ret (.bool (Gz kind no l 2)) w):=by
 refine zin 9 Tryz.func135 ?_
 refine xd 6 .z ?_
 have a1:=kb.below (Za w)
 refine xb (.e [] 0) 0 a1 ?_
 refine xb (.e [] 2) 0 a1 ?_
 have a2:=kk.below (Za w)
 refine xb (.e [] 3) 0 a2 ?_
 have hB:=(Za w)
 refine xr (.o [] 1) (args:=#[.slice a l.length c,V0 252,V0 4]) (We a l.length c 252 4 252 4 l _ rfl rfl rfl (by decide) (by omega) (by omega) (h.below hB)) fun W1 a5=>?_
 have a0:=bln hB a5
 refine xr (.o [] 4) (args:=#[.slice a l.length c,V0 kind]) (Zfb kind a c l.length l _ rfl hl hc (h.below a0)) fun W2 a4=>?_
 have a3:=bln a0 a4
 exact xe (.r [5,6] 3) (.bool ((↑(Zl l 252 4):Int) != (↑(Td l kind):Int))) ⟨rfl,a3⟩
theorem open_4(kind no:Int)(w:World)(bb:Nat)(a:O0)(c:Nat)(l:Bl)(kb:Blk w bb [.slice a l.length c] 40)(bn:Nat)(kn:Blk w bn [V0 no] 3)(hl:l.length=256)(hc:256≤c)(h:Bys w (.slice a l.length c) l) :
 C0 137 #[P0 bb,P0 bn] w (Ret (.bool (Gz kind no l 3)) w):=by
 refine zin 7 Tryz.func137 ?_
 refine xd 6 .z ?_
 have a2:=kb.below (Za w)
 refine xb (.e [] 0) 0 a2 ?_
 have a1:=kn.below (Za w)
 refine xb (.e [] 2) 0 a1 ?_
 have hB:=(Za w)
 refine xr (.o [] 1) (args:=#[.slice a l.length c,V0 0,V0 4]) (We a l.length c 0 4 0 4 l _ rfl rfl rfl (by decide) (by omega) (by omega) (h.below hB)) fun W1 a3=>?_
 have a0:=bln hB a3
 exact xe (.r [3,4] 3) (.bool ((↑(Zl l 0 4):Int) != no)) ⟨rfl,a0⟩
theorem open_5(kind no:Int)(w:World)(bb:Nat)(a:O0)(c:Nat)(l:Bl)(kb:Blk w bb [.slice a l.length c] 40)(bk:Nat)(kk:Blk w bk [V0 kind] 3)(hl:l.length=256)(hc:256≤c)(h:Bys w (.slice a l.length c) l) :
 C0 138 #[P0 bb,P0 bk] w (Ret (.bool (Gz kind no l 4)) w):=by
 refine zin 7 Tryz.func138 ?_
 refine xd 6 .z ?_
 have a1:=kb.below (Za w)
 refine xb (.e [] 0) 0 a1 ?_
 have a2:=kk.below (Za w)
 refine xb (.e [] 2) 0 a2 ?_
 have hB:=(Za w)
 refine xr (.o [] 1) (args:=#[.slice a l.length c,V0 4,V0 2]) (We a l.length c 4 2 4 2 l _ rfl rfl rfl (by decide) (by omega) (by omega) (h.below hB)) fun W1 a3=>?_
 have a0:=bln hB a3
 exact xe (.r [3,4] 3) (.bool ((↑(Zl l 4 2):Int) != kind)) ⟨rfl,a0⟩
theorem open_6(kind no:Int)(w:World)(bb:Nat)(a:O0)(c:Nat)(l:Bl)(kb:Blk w bb [.slice a l.length c] 40)(hl:l.length=256)(hc:256≤c)(h:Bys w (.slice a l.length c) l) :
 C0 139 #[P0 bb] w (Ret (.bool (Gz kind no l 5)) w):=by
 refine zin 5 Tryz.func139 ?_
 refine xb 7 0 kb ?_
 refine xr 0 (args:=#[.slice a l.length c,V0 6,V0 2]) (We a l.length c 6 2 6 2 l _ rfl rfl rfl (by decide) (by omega) (by omega) (h.below (B1 w))) fun W1 a0=>?_
 exact xe 5 (.bool ((↑(Zl l 6 2):Int) != (0:Int))) ⟨rfl,a0⟩
def Zhf(kind no:Int)(l:Bl)(w:World)(e:Ending)(w':World):Prop :=
 (Yk kind no l≠0∧e=.returned (.tuple #[S0,V0 (Yk kind no l)])∧B0 w w') ∨
 (Yk kind no l=0∧∃ p c,e=.returned (.tuple #[.slice p 244 c,V0 0])∧B0 w w'∧w'.ownsRow w.heap.size 5 1 (.slice p 244 c) 244 (((l.drop 8).take 244).map bv))
theorem seal_Open(kind no:Int)(a:O0)(c:Nat)(l:Bl)(w:World)(h:Bys w (.slice a l.length c) l) :
 C0 67 #[.slice a l.length c,V0 kind,V0 no] w (Zhf kind no l w):=by
 have m4:=h.cap rfl
 refine zin 39 Tryz.func67 ?_
 refine xa 2 [.slice a l.length c] 40 fun b1 W1 n1=>?_
 refine xa 0 [V0 kind] 3 fun b2 W2 n2=>?_
 refine xa 0 [V0 no] 3 fun b3 W3 n3=>?_
 have m1:=n3.ne n2.blk
 refine xbs 18 6 [.func (.func 132) #[] #[P0 b2,P0 b3],V0 1,.func (.func 134) #[] #[P0 b1],V0 7,.func (.func 135) #[] #[P0 b1,P0 b2],V0 4,.func (.func 137) #[] #[P0 b1,P0 b3],V0 5,.func (.func 138) #[] #[P0 b1,P0 b2],V0 6,.func (.func 139) #[] #[P0 b1],V0 7] 240 fun b4 W4 n4=>?_
 refine xu 12 7 ?_
 refine xlv 14 (n4.blk.rpp 0 2) ?_
 refine xa 0 [.nilFunc,V0 0] 240 fun b5 W5 n5=>?_
 have i2:=n5.ne n4.blk
 refine xsv 0 n5.blk [.func (.func 132) #[] #[P0 b2,P0 b3],V0 1] fun W6 u6 k6=>?_
 have g5:=n5.ge (bln (bln (bln n1.below n2.below) n3.below) n4.below)
 refine xb 5 0 k6 ?_
 have g3:=u6.blkT (((n2.blk.below n3.below).below n4.below).below n5.below) n5.blk (by decide)
 have k3:=u6.blkT ((n3.blk.below n4.below).below n5.below) n5.blk (by decide)
 refine xr 0 (args:=#[P0 b2,P0 b3]) (open_1 kind no _ l b2 g3 b3 k3) fun W7 b6=>?_
 refine xi 2 (Gz kind no l 0) (fun j3=>?_) (fun j3=>?_)
 ·have c8:=j3
  refine xd 1 .z ?_
  have k2:=(k6.below b6).below (Za W7)
  refine xb (.e [0] 1) 1 k2 ?_
  have hB:=bln (bln (u6.below (bln (bln (bln (bln n1.below n2.below) n3.below) n4.below) n5.below) g5) b6) (Za W7)
  refine xe (.r [2,3] 8) (.tuple #[S0,V0 1]) ?_
  have he:Yk kind no l=1:=by simp[Yk,c8]
  exact .inl ⟨by rw[he];decide,by rw[he],hB⟩
 have c8:=j3
 have f1:=(u6.blk (n4.blk.below n5.below) (Ne.symm (Ne.symm i2))).below b6
 refine xlv 22 (f1.rpp 2 2) ?_
 refine xa 0 [.nilFunc,V0 0] 240 fun b9 W9 n9=>?_
 have h0:=n9.ne f1
 have i7:=k6.below b6
 have f8:=n9.ne i7
 refine xsv 0 n9.blk [.func (.func 134) #[] #[P0 b1],V0 7] fun o7 d9 l2=>?_
 have g9:=n9.ge (bln (u6.below (bln (bln (bln (bln n1.below n2.below) n3.below) n4.below) n5.below) g5) b6)
 refine xb 5 0 l2 ?_
 have k1:=d9.blkT (((u6.blkT ((((n1.blk.below n2.below).below n3.below).below n4.below).below n5.below) n5.blk (by decide)).below b6).below n9.below) n9.blk (by decide)
 refine xr 0 (args:=#[P0 b1]) (open_2 kind no _ b1 a c l k1) fun l7 a3=>?_
 refine xi 2 (Gz kind no l 1) (fun d7=>?_) (fun d7=>?_)
 ·have a4:=d7
  refine xd 1 .z ?_
  have h8:=(l2.below a3).below (Za l7)
  refine xb (.e [0] 1) 1 h8 ?_
  have hB:=bln (bln (d9.below (bln (bln (u6.below (bln (bln (bln (bln n1.below n2.below) n3.below) n4.below) n5.below) g5) b6) n9.below) g9) a3) (Za l7)
  refine xe (.r [2,3] 8) (.tuple #[S0,V0 7]) ?_
  have he:Yk kind no l=7:=by simp[Yk,c8,a4]
  exact .inl ⟨by rw[he];decide,by rw[he],hB⟩
 have a4:=d7
 have l8:=Ze8 a4
 have f0:=(d9.blk (f1.below n9.below) (Ne.symm (Ne.symm h0))).below a3
 refine xlv 22 (f0.rpp 4 2) ?_
 refine xa 0 [.nilFunc,V0 0] 240 fun o2 n8 a7=>?_
 have e3:=a7.ne f0
 have h7:=(d9.blk (i7.below n9.below) (Ne.symm (Ne.symm f8))).below a3
 have f2:=a7.ne h7
 have d2:=l2.below a3
 have d6:=a7.ne d2
 have hB:=bln (d9.below (bln (bln (u6.below (bln (bln (bln (bln n1.below n2.below) n3.below) n4.below) n5.below) g5) b6) n9.below) g9) a3
 have m5:=a7.ge hB
 refine xsv 0 a7.blk [.func (.func 135) #[] #[P0 b1,P0 b2],V0 4] fun m9 e6 l3=>?_
 refine xb 5 0 l3 ?_
 have i0:=e6.blkT ((k1.below a3).below a7.below) a7.blk (by decide)
 have g7:=e6.blkT (((d9.blkT ((g3.below b6).below n9.below) n9.blk (by decide)).below a3).below a7.below) a7.blk (by decide)
 have f3:=e6.below (bln hB a7.below) m5
 refine xr 0 (args:=#[P0 b1,P0 b2]) (open_3 kind no _ b1 a c l i0 b2 g7 (Ze8 a4) (by have:=Ze8 a4;have:=h.cap rfl;omega) (h.below f3)) fun m0 a1=>?_
 refine xi 2 (Gz kind no l 2) (fun e2=>?_) (fun e2=>?_)
 ·have f6:=e2
  refine xd 1 .z ?_
  have g2:=(l3.below a1).below (Za m0)
  refine xb (.e [0] 1) 1 g2 ?_
  have j5:=bln (bln f3 a1) (Za m0)
  refine xe (.r [2,3] 8) (.tuple #[S0,V0 4]) ?_
  have he:Yk kind no l=4:=by simp[Yk,c8,a4,f6]
  exact .inl ⟨by rw[he];decide,by rw[he],j5⟩
 have f6:=e2
 have e7:=(e6.blk (f0.below a7.below) (Ne.symm (Ne.symm e3))).below a1
 refine xlv 22 (e7.rpp 6 2) ?_
 refine xa 0 [.nilFunc,V0 0] 240 fun o6 o0 a6=>?_
 have e9:=a6.ne e7
 have g6:=(e6.blk (h7.below a7.below) (Ne.symm (Ne.symm f2))).below a1
 have e0:=a6.ne g6
 have d0:=(e6.blk (d2.below a7.below) (Ne.symm (Ne.symm d6))).below a1
 have d3:=a6.ne d0
 have c4:=l3.below a1
 have b7:=a6.ne c4
 have h5:=bln f3 a1
 have m3:=a6.ge h5
 refine xsv 0 a6.blk [.func (.func 137) #[] #[P0 b1,P0 b3],V0 5] fun o1 c6 j2=>?_
 refine xb 5 0 j2 ?_
 have i6:=c6.blkT ((i0.below a1).below a6.below) a6.blk (by decide)
 have k0:=c6.blkT (((e6.blkT (((d9.blkT ((k3.below b6).below n9.below) n9.blk (by decide)).below a3).below a7.below) a7.blk (by decide)).below a1).below a6.below) a6.blk (by decide)
 have f4:=c6.below (bln h5 a6.below) m3
 refine xr 0 (args:=#[P0 b1,P0 b3]) (open_4 kind no _ b1 a c l i6 b3 k0 (Ze8 a4) (by have:=Ze8 a4;have:=h.cap rfl;omega) (h.below f4)) fun m2 a0=>?_
 refine xi 2 (Gz kind no l 3) (fun e5=>?_) (fun e5=>?_)
 ·have g1:=e5
  refine xd 1 .z ?_
  have h3:=(j2.below a0).below (Za m2)
  refine xb (.e [0] 1) 1 h3 ?_
  have j8:=bln (bln f4 a0) (Za m2)
  refine xe (.r [2,3] 8) (.tuple #[S0,V0 5]) ?_
  have he:Yk kind no l=5:=by simp[Yk,c8,a4,f6,g1]
  exact .inl ⟨by rw[he];decide,by rw[he],j8⟩
 have g1:=e5
 have e1:=(c6.blk (e7.below a6.below) (Ne.symm (Ne.symm e9))).below a0
 refine xlv 22 (e1.rpp 8 2) ?_
 refine xa 0 [.nilFunc,V0 0] 240 fun n0 m8 a5=>?_
 have e4:=a5.ne e1
 have f7:=(c6.blk (g6.below a6.below) (Ne.symm (Ne.symm e0))).below a0
 have e8:=a5.ne f7
 have c2:=(c6.blk (d0.below a6.below) (Ne.symm (Ne.symm d3))).below a0
 have f5:=a5.ne c2
 have c9:=(c6.blk (c4.below a6.below) (Ne.symm (Ne.symm b7))).below a0
 have c0:=a5.ne c9
 have c5:=j2.below a0
 have c1:=a5.ne c5
 have i1:=bln f4 a0
 have m7:=a5.ge i1
 refine xsv 0 a5.blk [.func (.func 138) #[] #[P0 b1,P0 b2],V0 6] fun o3 c7 k8=>?_
 refine xb 5 0 k8 ?_
 have i3:=c7.blkT ((i6.below a0).below a5.below) a5.blk (by decide)
 have l0:=c7.blkT (((c6.blkT ((g7.below a1).below a6.below) a6.blk (by decide)).below a0).below a5.below) a5.blk (by decide)
 have d4:=c7.below (bln i1 a5.below) m7
 refine xr 0 (args:=#[P0 b1,P0 b2]) (open_5 kind no _ b1 a c l i3 b2 l0 (Ze8 a4) (by have:=Ze8 a4;have:=h.cap rfl;omega) (h.below d4)) fun l9 a2=>?_
 refine xi 2 (Gz kind no l 4) (fun d8=>?_) (fun d8=>?_)
 ·have j0:=d8
  refine xd 1 .z ?_
  have i5:=(k8.below a2).below (Za l9)
  refine xb (.e [0] 1) 1 i5 ?_
  have j7:=bln (bln d4 a2) (Za l9)
  refine xe (.r [2,3] 8) (.tuple #[S0,V0 6]) ?_
  have he:Yk kind no l=6:=by simp[Yk,c8,a4,f6,g1,j0]
  exact .inl ⟨by rw[he];decide,by rw[he],j7⟩
 have j0:=d8
 have h1:=(c7.blk (e1.below a5.below) (Ne.symm (Ne.symm e4))).below a2
 refine xlv 22 (h1.rpp 10 2) ?_
 refine xa 0 [.nilFunc,V0 0] 240 fun o4 n7 b0=>?_
 have j4:=b0.ne h1
 have j9:=(c7.blk (f7.below a5.below) (Ne.symm (Ne.symm e8))).below a2
 have j6:=b0.ne j9
 have i4:=(c7.blk (c2.below a5.below) (Ne.symm (Ne.symm f5))).below a2
 have k5:=b0.ne i4
 have h2:=(c7.blk (c9.below a5.below) (Ne.symm (Ne.symm c0))).below a2
 have i8:=b0.ne h2
 have f9:=(c7.blk (c5.below a5.below) (Ne.symm (Ne.symm c1))).below a2
 have i9:=b0.ne f9
 have h9:=k8.below a2
 have j1:=b0.ne h9
 have g8:=bln d4 a2
 have m6:=b0.ge g8
 refine xsv 0 b0.blk [.func (.func 139) #[] #[P0 b1],V0 7] fun o5 l4 l5=>?_
 refine xb 5 0 l5 ?_
 have h6:=l4.blkT ((i3.below a2).below b0.below) b0.blk (by decide)
 have a8:=l4.below (bln g8 b0.below) m6
 refine xr 0 (args:=#[P0 b1]) (open_6 kind no _ b1 a c l h6  (Ze8 a4) (by have:=Ze8 a4;have:=h.cap rfl;omega) (h.below a8)) fun l6 a9=>?_
 refine xi 2 (Gz kind no l 5) (fun d5=>?_) (fun d5=>?_)
 ·have k9:=d5
  refine xd 1 .z ?_
  have g4:=(l5.below a9).below (Za l6)
  refine xb (.e [0] 1) 1 g4 ?_
  have h4:=bln (bln a8 a9) (Za l6)
  refine xe (.r [2,3] 8) (.tuple #[S0,V0 7]) ?_
  have he:Yk kind no l=7:=by simp[Yk,c8,a4,f6,g1,j0,k9]
  exact .inl ⟨by rw[he];decide,by rw[he],h4⟩
 have k9:=d5
 have k7:=h6.below a9
 refine xb 22 0 k7 ?_
 refine xsB 0 (fun _ _ _ _ _ zo zx zy zz V=>Qg (k:=8) (h:=252) (b:=a) (n:=l.length) (c:=c) (i:=8) (ki:=.i64) (j:=252) (kj:=.i64) 1 zo zx zy rfl zz rfl (by omega) (by omega) Tryz.underlying40 (by kernel_rfl) V) ?_
 have d1:=bln a8 a9
 refine xc 0 (args:=#[.slice (Qu a 8 c 1) 244 (c-8)]) (Kk (Qu a 8 c 1) 244 (c-8) ((l.drop 8).take 244) _ (by have:=Ze8 a4;simp;omega) ((Bys.cut h rfl 8 252 (by decide) (by have:=Ze8 a4;omega)).below d1) (by decide)) ?_
 rintro _ n6 ⟨_,rfl,l1,ho⟩
 have k4:=(bln a8 a9).size
 have b8:=Zg ho k4
 unfold Oa at b8
 rw[show((l.drop 8).take 244).length=244 from by have:=Ze8 a4;simp;omega] at b8
 obtain⟨p,c3,rfl⟩:=(Zh b8).slice
 have g0:=bln d1 l1
 exact xe 5 (.tuple #[.slice p 244 c3,V0 0]) (.inr ⟨by simp[Yk,c8,a4,f6,g1,j0,k9],_,_,rfl,g0,b8⟩)
end Go.Proofs.YtegcamkgeacjfaaGreatDoor
namespace Go.Proofs.YtegcamkgeacjfaaGreatDoor
set_option maxHeartbeats 8000000
set_option maxRecDepth 100000
open Go.RowKit Go.Extern.Stop Go.Stop Go.Extern
set_option linter.unusedVariables false
attribute [local irreducible] wpList wpAnyH Code.wp Oper.wp Go
theorem Sl.cap{w:World}{b:O0}{n c:Nat}{xs:List Value}(h:Sl w (.slice b n c) n xs):n≤c:=by
 rcases h with ⟨a',c',h1,h2,_⟩|⟨b',a0,cap,h1,h2,_,_⟩
 ·omega
 ·simp only[Value.slice.injEq] at h1;omega
theorem widN_bd(t:Int)(leaf:Bool):4≤widN t leaf∧widN t leaf≤24:=by
 unfold widN
 repeat' split
 all_goals decide
theorem fitN(t:Int)(leaf:Bool):12+maxN t leaf*8+maxN t leaf*widN t leaf≤244:=by
 unfold widN maxN
 repeat' split
 all_goals decide
def Zg1(t:Int)(leaf:Bool):Nat:=if 1≤t∧t≤5 then widN t leaf else 0
def Zfa(t:Int)(leaf:Bool):Nat:=if 1≤t∧t≤5 then maxN t leaf else 0
theorem fitG(t:Int)(leaf:Bool):12+Zfa t leaf*8+Zfa t leaf*Zg1 t leaf≤244:=by
 unfold Zfa Zg1;split
 ·exact fitN t leaf
 ·decide
theorem Zax(t:Int)(leaf:Bool):Zfa t leaf≤18:=by
 unfold Zfa;split
 ·exact(maxN_pos t leaf).2
 ·decide
theorem Oy(t:Int)(leaf:Bool):Zg1 t leaf≤24:=by
 unfold Zg1;split
 ·exact(widN_bd t leaf).2
 ·decide
theorem Wj(t:Int)(leaf:Bool)(w:World)(h:¬ (1≤t∧t≤5)) :
 C0 272 #[V0 t,.bool leaf] w (Ret (V0 0) w):=by
 refine zin 31 Tryz.func272 ?_
 refine xg 17 [8,9] (decide (t<(1:Int))) (fun a0=>?_) (fun a0=>?_)
 ·have a0:=of_decide_eq_true a0
  exact xe 15 (V0 0) ⟨rfl,(B1 w)⟩
 have a0:=of_decide_eq_false a0
 refine xk 6 (show(decide (t>(5:Int)):Bool)=true from decide_eq_true (by omega)) ?_
 exact xe 8 (V0 0) ⟨rfl,(B1 w)⟩
theorem Wq(t:Int)(leaf:Bool)(w:World):C0 272 #[V0 t,.bool leaf] w (Ret (V0 (Zg1 t leaf:Int)) w):=by
 unfold Zg1
 by_cases h:1≤t∧t≤5
 ·rw[if_pos h];exact Zec t leaf h.1 h.2 w
 ·rw[if_neg h];exact Wj t leaf w h
theorem Tq(t:Int)(leaf:Bool)(w:World)(h:¬ (1≤t∧t≤5)) :
 C0 269 #[V0 t,.bool leaf] w (Ret (V0 0) w):=by
 refine zin 16 Tryz.func269 ?_
 refine xr 9 (args:=#[V0 t,.bool leaf]) (Wj t leaf _ h) fun W1 a0=>?_
 exact xe 18 (V0 0) ⟨rfl,a0⟩
theorem Ad(t:Int)(leaf:Bool)(w:World):C0 269 #[V0 t,.bool leaf] w (Ret (V0 (Zfa t leaf:Int)) w):=by
 unfold Zfa
 by_cases h:1≤t∧t≤5
 ·rw[if_pos h];exact node_Max t leaf h.1 h.2 w
 ·rw[if_neg h];exact Tq t leaf w h
def Zd2(L:List Int)(i:Nat)(k:Int):Int:=if k<0∨281474976710655<k then 2 else if 0<i∧k≤L.getD (i-1) 0 then 8 else 0
def Xv(l:Bl):Int:=(Zl l 1 1:Int)
def Xr(l:Bl):Bool:=(Zl l 0 1:Int)==(1:Int)
def Zt(l:Bl):Nat:=Zl l 2 2
def Xm(l:Bl):Nat:=Zg1 (Xv l) (Xr l)
def Xp(l:Bl):Nat:=Zfa (Xv l) (Xr l)
def Vu(l:Bl):Bool:=decide (Zl l 0 1≤1∧Xm l≠0∧Zl l 2 2≤Xp l∧Zl l 4 2=Xm l∧Zl l 6 2=Xp l∧Zl l 8 4=0∧(Zl l 0 1=1∨0<Zl l 2 2))
def ShapeP(l:Bl)(w:World)(e:Ending)(w':World):Prop :=
 (Vu l=false∧∃ a b c,e=.returned (.tuple #[.agg #[V0 a,.bool b,S0,S0],V0 c,.bool false])∧B0 w w') ∨
 (Vu l=true∧e=.returned (.tuple #[.agg #[V0 (Xv l),.bool (Xr l),S0,S0],V0 (Zt l:Int),.bool true])∧B0 w w')
theorem Ng(a:O0)(n c:Nat)(l:Bl)(aw:O0)(cw m:Nat)(ws:List Nat)(xs:List Nat)(W:World)(hn:l.length=n)(hm:ws.length=m)(hx:Km l 0 ws=xs)(hk:∀ i,i<ws.length→ws.getD i 0=1∨ws.getD i 0=2∨ws.getD i 0=4∨ws.getD i 0=8)(hs:ws.sum≤n)(hl:n≤100000000)(hw:ws.length≤1000)(h:Bys W (.slice a n c) l)(hws:Sl W (.slice aw m cw) m (ws.map nv))(hq:∀ i,i<ws.length→(Km l 0 ws).getD i 0<9223372036854775808) :
 C0 259 #[.slice a n c,.slice aw m cw] W (Ko (fun w' r=>∃ p c,r=.tuple #[.slice p m c,V0 0]∧w'.ownsRow W.heap.size 3 1 (.slice p m c) m (xs.map nv)) W):=by
 subst hn hm hx;exact Ar a c l aw cw ws W hk hs hl hw h hws hq
def Yg(l:Bl):List Nat:=[Zl l 0 1,Zl l 1 1,Zl l 2 2,Zl l 4 2,Zl l 6 2,Zl l 8 4]
theorem Zbg(l:Bl)(i:Nat)(hi:i<6):(Km l 0 [1,1,2,2,2,4]).getD i 0<9223372036854775808:=by
 have h1:=Yl l 0 1 (by decide)
 have h2:=Yl l 1 1 (by decide)
 have h3:=Yl l 2 2 (by decide)
 have h4:=Yl l 4 2 (by decide)
 have h5:=Yl l 6 2 (by decide)
 have h6:=Yl l 8 4 (by decide)
 obtain rfl|rfl|rfl|rfl|rfl|rfl:i=0∨i=1∨i=2∨i=3∨i=4∨i=5:=by omega
 all_goals simp[Km]
 all_goals omega
theorem Zde(a:O0)(c:Nat)(l:Bl)(w:World)(hl:l.length=244)(h:Bys w (.slice a 244 c) l) :
 C0 315 #[.slice a 244 c] w (ShapeP l w):=by
 refine zin 92 Tryz.func315 ?_
 refine xa 2 [V0 0,.bool false,S0,S0] 173 fun b1 W1 n1=>?_
 refine xbs 18 6 [V0 1,V0 1,V0 2,V0 2,V0 2,V0 4] 3 fun b2 W2 n2=>?_
 have hB:=bln n1.below n2.below
 refine xc 0 (args:=#[.slice a 244 c,.slice (S1 b2) 6 6]) (Ng a 244 c l (S1 b2) 6 6 [1,1,2,2,2,4] (Yg l) _ hl rfl rfl (by decide) (by decide) (by decide) (by decide) (h.below hB) (n2.blk.sl 6 6 (by decide) (by decide)) (Zbg l)) ?_
 rintro _ W3 ⟨_,rfl,f3,p5,c5,rfl,h5⟩
 have g3:=(bln n1.below n2.below).size
 refine xd 8 (.t w.heap.size [173]) ?_
 have a8:=Zb (Zg h5 g3) (Za W3)
 refine xx (.e [0] 1) _ 6 1 1 (Zr (l:=Yg l) (Zh a8) rfl (k:=1) (by decide)).1 ?_
 refine xlt (.e [] 2) (.t w.heap.size [173]) (fun V hV=>(Zr (l:=Yg l) (Zh (Zn a8 hV.2 (by decide))) rfl (k:=1) (by decide)).2) ?_
 refine xx (.e [3] 4) _ 6 0 1 (Zr (l:=Yg l) (Zh a8) rfl (k:=0) (by decide)).1 ?_
 refine xlt (.e [] 5) (.t w.heap.size [173]) (fun V hV=>(Zr (l:=Yg l) (Zh (Zn a8 hV.2 (by decide))) rfl (k:=0) (by decide)).2) ?_
 refine xa (.o [6,7] 8) [V0 0,.bool false,S0,S0] 173 fun b4 W4 n4=>?_
 have k1:=((n1.blk.below n2.below).below f3).below (Za W3)
 have a3:=n4.ne k1
 have a5:=bln (bln hB f3) (Za W3)
 have g4:=n4.ge a5
 refine ysv (.o [] 9) n4.blk [V0 (↑(Zl l 1 1):Int),.bool ((↑(Zl l 0 1):Int)==(1:Int)),S0,S0] (.t w.heap.size [173]) fun W5 u5 k5=>⟨(Zp u5 n4.blk g4 (by decide)),?_⟩
 have b8:=u5.own2 (Zb a8 n4.below) n4.blk (by decide)
 refine xx 6 _ 6 0 1 (Zr (l:=Yg l) (Zh b8) rfl (k:=0) (by decide)).1 ?_
 refine xl 0 ((Zr (l:=Yg l) (Zh b8) rfl (k:=0) (by decide)).2) ?_
 refine xg 2 [32,33] (decide ((↑(Zl l 0 1):Int)>(1:Int))) (fun c7=>?_) (fun c7=>?_)
 ·have c7:=of_decide_eq_true c7
  have e2:=u5.blk (k1.below n4.below) (Ne.symm (Ne.symm a3))
  refine xsv 13 e2 [V0 0,.bool false,S0,S0] fun W7 u7 k7=>?_
  have g1:=n1.ge (B1 w)
  have e3:=u7.below (u5.below (bln a5 n4.below) g4) g1
  exact xec 6 k7 (.tuple #[.agg #[V0 0,.bool false,S0,S0],V0 0,.bool false]) (.inl ⟨decide_eq_false (by omega),_,_,_,rfl,e3⟩)
 have c7:=of_decide_eq_false c7
 refine xb 1 0 k5 ?_
 refine xb 1 1 k5 ?_
 refine xr 0 (args:=#[V0 (↑(Zl l 1 1):Int),.bool ((↑(Zl l 0 1):Int)==(1:Int))]) (Wq (Xv l) (Xr l) _) fun W8 a7=>?_
 refine xie 4 (↑(Xm l):Int) (0:Int) (fun f6=>?_) (fun f6=>?_)
 ·have e5:=(u5.blk (k1.below n4.below) (Ne.symm (Ne.symm a3))).below a7
  refine xsv 3 e5 [V0 0,.bool false,S0,S0] fun h7 g8 g7=>?_
  have g1:=n1.ge (B1 w)
  have d9:=g8.below (bln (u5.below (bln a5 n4.below) g4) a7) g1
  exact xec 6 g7 (.tuple #[.agg #[V0 0,.bool false,S0,S0],V0 0,.bool false]) (.inl ⟨decide_eq_false (by omega),_,_,_,rfl,d9⟩)
 refine xd 3 .z ?_
 have a6:=(k5.below a7).below (Za W8)
 refine xb (.e [0] 1) 0 a6 ?_
 refine xb (.e [2] 3) 1 a6 ?_
 refine xb (.e [5] 6) 0 a6 ?_
 refine xb (.e [7] 8) 1 a6 ?_
 refine xr (.o [] 4) (args:=#[V0 (↑(Zl l 1 1):Int),.bool ((↑(Zl l 0 1):Int)==(1:Int))]) (Wq (Xv l) (Xr l) _) fun h1 a0=>?_
 refine xr (.o [] 9) (args:=#[V0 (↑(Zl l 1 1):Int),.bool ((↑(Zl l 0 1):Int)==(1:Int))]) (Ad (Xv l) (Xr l) _) fun a4 a1=>?_
 have a2:=Zb (Zb (Zb (Zb b8 a7) (Za W8)) a0) a1
 refine xx (.r [10,11] 5) _ 6 2 1 (Zr (l:=Yg l) (Zh a2) rfl (k:=2) (by decide)).1 ?_
 refine xl 0 ((Zr (l:=Yg l) (Zh a2) rfl (k:=2) (by decide)).2) ?_
 refine xg 3 [56,57] (decide ((↑(Zl l 2 2):Int)≤(↑(Xp l):Int))) (fun a9=>?_) (fun a9=>?_)
 ·have a9:=of_decide_eq_true a9
  refine xx 1 _ 6 3 1 (Zr (l:=Yg l) (Zh a2) rfl (k:=3) (by decide)).1 ?_
  refine xl 0 ((Zr (l:=Yg l) (Zh a2) rfl (k:=3) (by decide)).2) ?_
  refine xg 4 [62,63,64] ((↑(Zl l 4 2):Int)==(↑(Xm l):Int)) (fun b0=>?_) (fun b0=>?_)
  ·have b0:=eq_of_beq b0
   refine xx 1 _ 6 4 1 (Zr (l:=Yg l) (Zh a2) rfl (k:=4) (by decide)).1 ?_
   refine xl 0 ((Zr (l:=Yg l) (Zh a2) rfl (k:=4) (by decide)).2) ?_
   refine xg 4 [69,70,71] ((↑(Zl l 6 2):Int)==(↑(Xp l):Int)) (fun b3=>?_) (fun b3=>?_)
   ·have b3:=eq_of_beq b3
    refine xx 1 _ 6 5 1 (Zr (l:=Yg l) (Zh a2) rfl (k:=5) (by decide)).1 ?_
    refine xl 0 ((Zr (l:=Yg l) (Zh a2) rfl (k:=5) (by decide)).2) ?_
    refine xg 3 [75,76,77] ((↑(Zl l 8 4):Int)==(0:Int)) (fun b5=>?_) (fun b5=>?_)
    ·have b5:=eq_of_beq b5
     have b7:=(a6.below a0).below a1
     refine xb 1 1 b7 ?_
     refine xg 1 [27,37,45,50,79,80] ((↑(Zl l 0 1):Int)==(1:Int)) (fun b6=>?_) (fun b6=>?_)
     ·have b6:=eq_of_beq b6
      refine xd 10 (.t w.heap.size [173]) ?_
      have c1:=Zb a2 (Za a4)
      refine xx (.e [1] 2) _ 6 2 1 (Zr (l:=Yg l) (Zh c1) rfl (k:=2) (by decide)).1 ?_
      refine xlt (.e [] 3) (.t w.heap.size [173]) (fun V hV=>(Zr (l:=Yg l) (Zh (Zn c1 hV.2 (by decide))) rfl (k:=2) (by decide)).2) ?_
      have e6:=b7.below (Za a4)
      refine xlv (.o [4] 0) e6.rp ?_
      have c2:=(((((u5.blk (k1.below n4.below) (Ne.symm (Ne.symm a3))).below a7).below (Za W8)).below a0).below a1).below (Za a4)
      have g1:=n1.ge (B1 w)
      refine ysv (.o [] 5) c2 [V0 (↑(Zl l 1 1):Int),.bool ((↑(Zl l 0 1):Int)==(1:Int)),S0,S0] (.t w.heap.size [173]) fun g9 f0 f9=>⟨(Zp f0 c2 g1 (by decide)),?_⟩
      have e1:=f0.below (bln (bln (bln (bln (bln (u5.below (bln a5 n4.below) g4) a7) (Za W8)) a0) a1) (Za a4)) g1
      exact xec (.r [6,7] 3) f9 (.tuple #[.agg #[V0 (↑(Zl l 1 1):Int),.bool ((↑(Zl l 0 1):Int)==(1:Int)),S0,S0],V0 (↑(Zl l 2 2):Int),.bool true]) (.inr ⟨decide_eq_true (by omega),rfl,e1⟩)
     have b6:=Xl b6
     refine xx 1 _ 6 2 1 (Zr (l:=Yg l) (Zh a2) rfl (k:=2) (by decide)).1 ?_
     refine xl 0 ((Zr (l:=Yg l) (Zh a2) rfl (k:=2) (by decide)).2) ?_
     refine xd 7 (.t w.heap.size [173]) ?_
     have d2:=Zb a2 (Za a4)
     refine xx (.e [1] 2) _ 6 2 1 (Zr (l:=Yg l) (Zh d2) rfl (k:=2) (by decide)).1 ?_
     refine xlt (.e [] 3) (.t w.heap.size [173]) (fun V hV=>(Zr (l:=Yg l) (Zh (Zn d2 hV.2 (by decide))) rfl (k:=2) (by decide)).2) ?_
     have d4:=b7.below (Za a4)
     refine xlv (.o [4] 0) d4.rp ?_
     have c8:=(((((u5.blk (k1.below n4.below) (Ne.symm (Ne.symm a3))).below a7).below (Za W8)).below a0).below a1).below (Za a4)
     have g1:=n1.ge (B1 w)
     refine ysv (.o [] 5) c8 [V0 (↑(Zl l 1 1):Int),.bool ((↑(Zl l 0 1):Int)==(1:Int)),S0,S0] (.t w.heap.size [173]) fun h4 e9 f7=>⟨(Zp e9 c8 g1 (by decide)),?_⟩
     have d3:=e9.below (bln (bln (bln (bln (bln (u5.below (bln a5 n4.below) g4) a7) (Za W8)) a0) a1) (Za a4)) g1
     refine xec (.r [6,7] 3) f7 (.tuple #[.agg #[V0 (↑(Zl l 1 1):Int),.bool ((↑(Zl l 0 1):Int)==(1:Int)),S0,S0],V0 (↑(Zl l 2 2):Int),.bool (decide ((↑(Zl l 2 2):Int)>(0:Int)))]) ?_
     rcases Bool.eq_false_or_eq_true (decide ((↑(Zl l 2 2):Int)>(0:Int))) with hq|hq
     ·have g6:=of_decide_eq_true hq
      rw[hq];exact .inr ⟨decide_eq_true (by omega),rfl,d3⟩
     ·have g6:=of_decide_eq_false hq
      rw[hq];exact .inl ⟨decide_eq_false (by omega),_,_,_,rfl,d3⟩
    have b5:=Xl b5
    refine xd 13 (.t w.heap.size [173]) ?_
    have c9:=Zb a2 (Za a4)
    refine xx (.e [1] 2) _ 6 2 1 (Zr (l:=Yg l) (Zh c9) rfl (k:=2) (by decide)).1 ?_
    refine xlt (.e [] 3) (.t w.heap.size [173]) (fun V hV=>(Zr (l:=Yg l) (Zh (Zn c9 hV.2 (by decide))) rfl (k:=2) (by decide)).2) ?_
    have d7:=((a6.below a0).below a1).below (Za a4)
    refine xlv (.o [4] 0) d7.rp ?_
    have c3:=(((((u5.blk (k1.below n4.below) (Ne.symm (Ne.symm a3))).below a7).below (Za W8)).below a0).below a1).below (Za a4)
    have g1:=n1.ge (B1 w)
    refine ysv (.o [] 5) c3 [V0 (↑(Zl l 1 1):Int),.bool ((↑(Zl l 0 1):Int)==(1:Int)),S0,S0] (.t w.heap.size [173]) fun h3 f4 g0=>⟨(Zp f4 c3 g1 (by decide)),?_⟩
    have e4:=f4.below (bln (bln (bln (bln (bln (u5.below (bln a5 n4.below) g4) a7) (Za W8)) a0) a1) (Za a4)) g1
    exact xec (.r [6,7] 3) g0 (.tuple #[.agg #[V0 (↑(Zl l 1 1):Int),.bool ((↑(Zl l 0 1):Int)==(1:Int)),S0,S0],V0 (↑(Zl l 2 2):Int),.bool false]) (.inl ⟨decide_eq_false (by omega),_,_,_,rfl,e4⟩)
   have b3:=Xl b3
   refine xd 19 (.t w.heap.size [173]) ?_
   have d1:=Zb a2 (Za a4)
   refine xx (.e [1] 2) _ 6 2 1 (Zr (l:=Yg l) (Zh d1) rfl (k:=2) (by decide)).1 ?_
   refine xlt (.e [] 3) (.t w.heap.size [173]) (fun V hV=>(Zr (l:=Yg l) (Zh (Zn d1 hV.2 (by decide))) rfl (k:=2) (by decide)).2) ?_
   have e0:=((a6.below a0).below a1).below (Za a4)
   refine xlv (.o [4] 0) e0.rp ?_
   have c6:=(((((u5.blk (k1.below n4.below) (Ne.symm (Ne.symm a3))).below a7).below (Za W8)).below a0).below a1).below (Za a4)
   have g1:=n1.ge (B1 w)
   refine ysv (.o [] 5) c6 [V0 (↑(Zl l 1 1):Int),.bool ((↑(Zl l 0 1):Int)==(1:Int)),S0,S0] (.t w.heap.size [173]) fun h0 f1 f8=>⟨(Zp f1 c6 g1 (by decide)),?_⟩
   have d8:=f1.below (bln (bln (bln (bln (bln (u5.below (bln a5 n4.below) g4) a7) (Za W8)) a0) a1) (Za a4)) g1
   exact xec (.r [6,7] 3) f8 (.tuple #[.agg #[V0 (↑(Zl l 1 1):Int),.bool ((↑(Zl l 0 1):Int)==(1:Int)),S0,S0],V0 (↑(Zl l 2 2):Int),.bool false]) (.inl ⟨decide_eq_false (by omega),_,_,_,rfl,d8⟩)
  have b0:=Xl b0
  refine xd 26 (.t w.heap.size [173]) ?_
  have d0:=Zb a2 (Za a4)
  refine xx (.e [1] 2) _ 6 2 1 (Zr (l:=Yg l) (Zh d0) rfl (k:=2) (by decide)).1 ?_
  refine xlt (.e [] 3) (.t w.heap.size [173]) (fun V hV=>(Zr (l:=Yg l) (Zh (Zn d0 hV.2 (by decide))) rfl (k:=2) (by decide)).2) ?_
  have d6:=((a6.below a0).below a1).below (Za a4)
  refine xlv (.o [4] 0) d6.rp ?_
  have b9:=(((((u5.blk (k1.below n4.below) (Ne.symm (Ne.symm a3))).below a7).below (Za W8)).below a0).below a1).below (Za a4)
  have g1:=n1.ge (B1 w)
  refine ysv (.o [] 5) b9 [V0 (↑(Zl l 1 1):Int),.bool ((↑(Zl l 0 1):Int)==(1:Int)),S0,S0] (.t w.heap.size [173]) fun h2 f5 g5=>⟨(Zp f5 b9 g1 (by decide)),?_⟩
  have e8:=f5.below (bln (bln (bln (bln (bln (u5.below (bln a5 n4.below) g4) a7) (Za W8)) a0) a1) (Za a4)) g1
  exact xec (.r [6,7] 3) g5 (.tuple #[.agg #[V0 (↑(Zl l 1 1):Int),.bool ((↑(Zl l 0 1):Int)==(1:Int)),S0,S0],V0 (↑(Zl l 2 2):Int),.bool false]) (.inl ⟨decide_eq_false (by omega),_,_,_,rfl,e8⟩)
 have a9:=of_decide_eq_false a9
 refine xd 33 (.t w.heap.size [173]) ?_
 have c4:=Zb a2 (Za a4)
 refine xx (.e [1] 2) _ 6 2 1 (Zr (l:=Yg l) (Zh c4) rfl (k:=2) (by decide)).1 ?_
 refine xlt (.e [] 3) (.t w.heap.size [173]) (fun V hV=>(Zr (l:=Yg l) (Zh (Zn c4 hV.2 (by decide))) rfl (k:=2) (by decide)).2) ?_
 have d5:=((a6.below a0).below a1).below (Za a4)
 refine xlv (.o [4] 0) d5.rp ?_
 have c0:=(((((u5.blk (k1.below n4.below) (Ne.symm (Ne.symm a3))).below a7).below (Za W8)).below a0).below a1).below (Za a4)
 have g1:=n1.ge (B1 w)
 refine ysv (.o [] 5) c0 [V0 (↑(Zl l 1 1):Int),.bool ((↑(Zl l 0 1):Int)==(1:Int)),S0,S0] (.t w.heap.size [173]) fun h6 f2 g2=>⟨(Zp f2 c0 g1 (by decide)),?_⟩
 have e7:=f2.below (bln (bln (bln (bln (bln (u5.below (bln a5 n4.below) g4) a7) (Za W8)) a0) a1) (Za a4)) g1
 exact xec (.r [6,7] 3) g2 (.tuple #[.agg #[V0 (↑(Zl l 1 1):Int),.bool ((↑(Zl l 0 1):Int)==(1:Int)),S0,S0],V0 (↑(Zl l 2 2):Int),.bool false]) (.inl ⟨decide_eq_false (by omega),_,_,_,rfl,e7⟩)
theorem node_keyG(a:O0)(i c:Nat)(L:List Int)(k:Int)(w:World)(hL:L.length=i)(h:Sl w (.slice a i c) i (L.map V0))(hi:i≤1000) :
 C0 314 #[.slice a i c,V0 k] w (Ret (V0 (Zd2 L i k)) w):=by
 refine zin 26 Tryz.func314 ?_
 refine xg 12 [7,8] (decide (k<(0:Int))) (fun a0=>?_) (fun a0=>?_)
 ·have a0:=of_decide_eq_true a0
  exact xe 15 (V0 2) ⟨by rw[show Zd2 L i k=2 from by unfold Zd2;rw[if_pos (by omega)]],(B1 w)⟩
 have a0:=of_decide_eq_false a0
 refine xid 6 (k>(281474976710655:Int)) (fun a2=>?_) (fun a2=>?_)
 ·exact xe 8 (V0 2) ⟨by rw[show Zd2 L i k=2 from by unfold Zd2;rw[if_pos (by omega)]],(B1 w)⟩
 refine xg 6 [15,16] (decide ((i:Int)>(0:Int))) (fun a1=>?_) (fun a1=>?_)
 ·have a1:=of_decide_eq_true a1
  refine xwm 3 ((i:Int)-1) (↑(i-1):Int) ?_
  refine xx 0 _ i (i-1) 1 (IntsN.elem h hL (k:=(i-1)) (by omega)).1 ?_
  refine xl 0 ((IntsN.elem h hL (k:=(i-1)) (by omega)).2) ?_
  refine xid 6 ((L.getD (i-1) 0)≥k) (fun a3=>?_) (fun a3=>?_)
  ·exact xe 8 (V0 8) ⟨by rw[show Zd2 L i k=8 from by unfold Zd2;rw[if_neg (by omega),if_pos (by omega)]],(B1 w)⟩
  exact xe 9 (V0 0) ⟨by rw[show Zd2 L i k=0 from by unfold Zd2;rw[if_neg (by omega),if_neg (by omega)]],(B1 w)⟩
 have a1:=of_decide_eq_false a1
 exact xe 22 (V0 0) ⟨by rw[show Zd2 L i k=0 from by unfold Zd2;rw[if_neg (by omega),if_neg (by omega)]],(B1 w)⟩
def Cl(l:Bl)(i:Nat):Nat:=Zl l (12+i*8) 8
def Yx(l:Bl)(n:Nat):List Int:=(List.range n).map fun i=>(Cl l i:Int)
theorem Qe(l:Bl)(n:Nat):(Yx l n).length=n:=by simp[Yx]
theorem Nz(l:Bl)(n:Nat):Yx l (n+1)=Yx l n++[(Cl l n:Int)]:=by simp[Yx,List.range_succ]
theorem Cp(l:Bl){n i:Nat}(h:i<n):(Yx l n).getD i 0=(Cl l i:Int):=by simp[Yx,List.getD,List.getElem?_range h]
def Dr(l:Bl)(i:Nat):Bl:=(l.drop (12+Xp l*8+i*Xm l)).take (Xm l)
def Vw(l:Bl)(n:Nat):List Bl:=(List.range n).map (Dr l)
theorem Vo(l:Bl)(n:Nat):(Vw l n).length=n:=by simp[Vw]
theorem Kw(l:Bl)(n:Nat):Vw l (n+1)=Vw l n++[Dr l n]:=by simp[Vw,List.range_succ]
theorem Zgx(l:Bl){n i:Nat}(h:i<n):(Vw l n).getD i []=Dr l i:=by simp[Vw,List.getD,List.getElem?_range h]
def Pb(l:Bl)(i:Nat):Int:=if 281474976710655<Cl l i then 2 else if 0<i∧Cl l i≤Cl l (i-1) then 8 else 0
def Yi(l:Bl):Nat→Int
 | 0=>0
 | i+1=>if Yi l i≠0 then Yi l i else Pb l i
theorem Mn{l:Bl}{i:Nat}(h:Yi l i≠0):∀ n,i≤n→Yi l n=Yi l i
 | 0,h2=>by
  obtain rfl:i=0:=by omega
  rfl
 | n+1,h2=>by
   by_cases e:i=n+1
   ·rw[e]
   ·have ih:=Mn h n (by omega)
    rw[Yi,if_pos (by rw[ih];exact h),ih]
theorem Hh{l:Bl}{i n:Nat}(h:Yi l i=0)(he:Pb l i≠0)(hi:i<n):Yi l n=Pb l i:=by
 have e:Yi l (i+1)=Pb l i:=by rw[Yi,if_neg (by rw[h];decide)]
 rw[Mn (by rw[e];exact he) n hi,e]
theorem Vh{l:Bl}{i:Nat}(h:Yi l i=0)(he:Pb l i=0):Yi l (i+1)=0:=by rw[Yi,if_neg (by rw[h];decide),he]
theorem keyE_R{l:Bl}{i:Nat}:Zd2 (Yx l i) i (Cl l i:Int)=Pb l i:=by
 unfold Zd2 Pb
 by_cases h:281474976710655<Cl l i
 ·rw[if_pos (by omega),if_pos h]
 ·rw[if_neg (by omega),if_neg h]
  by_cases h2:0<i
  ·rw[Cp l (show i-1<i by omega)]
   by_cases h3:Cl l i≤Cl l (i-1)
   ·rw[if_pos (by omega),if_pos (by omega)]
   ·rw[if_neg (by omega),if_neg (by omega)]
  ·rw[if_neg (by omega),if_neg (by omega)]
def Er(l:Bl):Nat:=12+Zt l*8
def Zan(l:Bl):Nat:=12+Xp l*8
def Ee(l:Bl):Nat:=Zan l+Zt l*Xm l
def Lp(l:Bl):Bool:=Qv ((l.drop (Er l)).take (Zan l-Er l))&&Qv ((l.drop (Ee l)).take (244-Ee l))
def Yz(l:Bl):Int:=if Vu l then(if Lp l then Yi l (Zt l) else 7) else 7
def NodeP(l:Bl)(w:World)(e:Ending)(w':World):Prop :=
 (Yz l≠0∧e=.returned (.tuple #[.agg #[V0 0,.bool false,S0,S0],V0 (Yz l)])∧B0 w w') ∨
 (Yz l=0∧∃ kp kc vp vc,e=.returned (.tuple #[.agg #[V0 (Xv l),.bool (Xr l),.slice kp (Zt l) kc,.slice vp (Zt l) vc],V0 0])∧B0 w w' ∧
  w'.ownsRow w.heap.size 3 1 (.slice kp (Zt l) kc) (Zt l) ((Yx l (Zt l)).map V0)∧w'.ownsRow w.heap.size 9 1 (.slice vp (Zt l) vc) (Zt l) ((Vw l (Zt l)).map sv))
theorem Jk{l:Bl}(h:Vu l=true):Zt l≤Xp l:=(of_decide_eq_true h).2.2.1
theorem Rl(a:O0)(n c:Nat)(l:Bl)(w:World)(hn:l.length=n)(hl:n≤100000000)(h:Bys w (.slice a n c) l):C0 316 #[.slice a n c] w (Ret (.bool (Qv l)) w):=by
 subst hn;exact code_Zero a c l w hl h
theorem valN_bys{a:O0}{c i:Nat}{l:Bl}{w:World}(h:Bys w (.slice a 244 c) l)(hl:l.length=244)(hb:12+Xp l*8+(i+1)*Xm l≤244)(hi:(i+1)*Xm l=i*Xm l+Xm l) :
 Bys w (.slice (Qu a (12+Xp l*8+i*Xm l) c 1) (12+Xp l*8+(i+1)*Xm l-(12+Xp l*8+i*Xm l)) (c-(12+Xp l*8+i*Xm l))) (Dr l i):=by
 have:=Bys.cut h hl (12+Xp l*8+i*Xm l) (12+Xp l*8+(i+1)*Xm l) (by omega) hb
 rw[show 12+Xp l*8+(i+1)*Xm l-(12+Xp l*8+i*Xm l)=Xm l by omega] at this ⊢
 exact this
theorem Zha{i:Nat}{l:Bl}(hl:l.length=244)(hb:12+Xp l*8+(i+1)*Xm l≤244)(hi:(i+1)*Xm l=i*Xm l+Xm l):(Dr l i).length=12+Xp l*8+(i+1)*Xm l-(12+Xp l*8+i*Xm l):=by
 unfold Dr;simp only[List.length_take,List.length_drop];omega
def GetP(l:Bl)(k w:Nat)(W:World)(e:Ending)(w':World):Prop :=
 (Zl l k w<9223372036854775808∧e=.returned (.tuple #[V0 (Zl l k w:Int),V0 0])∧B0 W w')∨(¬ Zl l k w<9223372036854775808∧e=.returned (.tuple #[V0 0,V0 2])∧B0 W w')
theorem Get_P(a:O0)(n c k w:Nat)(l:Bl)(W:World)(hn:l.length=n)(hw:w=1∨w=2∨w=4∨w=8)(hk:k+w≤n)(hl:n≤100000000)(h:Bys W (.slice a n c) l)(wi:Int)(hwi:wi=(w:Int)) :
 C0 131 #[.slice a n c,V0 (k:Int),V0 wi] W (GetP l k w W):=by
 subst hn hwi
 by_cases hq:Zl l k w<9223372036854775808
 ·refine(Zce a c k w l W hw hk hl h hq).mono ?_
  rintro e V ⟨rfl,hb⟩;exact .inl ⟨hq,rfl,hb⟩
 ·refine(Zhl a c k w l W hw hk hl h hq).mono ?_
  rintro e V ⟨rfl,hb⟩;exact .inr ⟨hq,rfl,hb⟩
theorem node_keyP(l:Bl)(a:O0)(i c:Nat)(w:World)(h:Sl w (.slice a i c) i ((Yx l i).map V0))(hi:i≤1000) :
 C0 314 #[.slice a i c,V0 (↑(Cl l i):Int)] w (fun e w'=>(Pb l i=0∧e=.returned (V0 0)∧B0 w w')∨(Pb l i≠0∧e=.returned (V0 (Pb l i))∧B0 w w')):=by
 refine(node_keyG a i c (Yx l i) (Cl l i) w (Qe l i) h hi).mono ?_
 rintro e W ⟨rfl,hb⟩
 rw[keyE_R]
 by_cases hz:Pb l i=0
 ·exact .inl ⟨hz,by rw[hz],hb⟩
 ·exact .inr ⟨hz,rfl,hb⟩
theorem node_Read(a:O0)(c:Nat)(l:Bl)(w:World)(hl:l.length=244)(h:Bys w (.slice a 244 c) l) :
 C0 304 #[.slice a 244 c] w (NodeP l w):=by
 have m3:=Bys.cap h hl
 refine zin 104 Tryz.func304 ?_
 refine xa 2 [V0 0,.bool false,S0,S0] 173 fun b1 W1 n1=>?_
 refine xc 6 (args:=#[.slice a 244 c]) (Zde a c l _ hl (h.below n1.below)) ?_
 rintro e W2 l2
 rcases l2 with ⟨hs,t0,l0,c0,rfl,g2⟩|⟨hs,rfl,g2⟩
 ·refine xa 4 [V0 0,.bool false,S0,S0] 173 fun b3 W3 n3=>?_
  have k1:=n1.blk.below g2
  have h0:=n3.ne k1
  have h2:=bln n1.below g2
  have g3:=n3.ge h2
  refine xsv 0 n3.blk [V0 t0,.bool l0,S0,S0] fun W4 u4 k4=>?_
  have j1:=u4.blk (k1.below n3.below) (Ne.symm (Ne.symm h0))
  refine xsv 15 j1 [V0 0,.bool false,S0,S0] fun W5 u5 k5=>?_
  have g1:=n1.ge (B1 w)
  have h7:=u5.below (u4.below (bln h2 n3.below) g3) g1
  refine xec 5 k5 (.tuple #[.agg #[V0 0,.bool false,S0,S0],V0 7]) ?_
  have he:Yz l=7:=by unfold Yz;simp[hs]
  exact .inl ⟨by rw[he];decide,by rw[he],h7⟩
 have l8:=Jk hs
 have k2:=fitG (Xv l) (Xr l)
 have i6:=Zax (Xv l) (Xr l)
 have j0:=Oy (Xv l) (Xr l)
 change 12+Xp l*8+Xp l*Xm l≤244 at k2
 change Xp l≤18 at i6
 change Xm l≤24 at j0
 have p1:Zt l*Xm l≤Xp l*Xm l:=Nat.mul_le_mul_right _ l8
 refine xa 4 [V0 0,.bool false,S0,S0] 173 fun b6 W6 n6=>?_
 have k1:=n1.blk.below g2
 have a3:=n6.ne k1
 have f9:=bln n1.below g2
 have g6:=n6.ge f9
 refine xsv 0 n6.blk [V0 (Xv l),.bool (Xr l),S0,S0] fun W7 u7 k7=>?_
 refine xd 15 .z ?_
 have b9:=k7.below (Za W7)
 refine xb (.e [0] 1) 0 b9 ?_
 refine xb (.e [2] 3) 1 b9 ?_
 refine xb (.e [5] 6) 0 b9 ?_
 refine xb (.e [7] 8) 1 b9 ?_
 refine xr (.o [] 4) (args:=#[V0 (Xv l),.bool (Xr l)]) (Wq (Xv l) (Xr l) _) fun W8 g4=>?_
 refine xr (.o [] 9) (args:=#[V0 (Xv l),.bool (Xr l)]) (Ad (Xv l) (Xr l) _) fun W9 f6=>?_
 refine xwm (.r [10,11] 5) ((↑(Xp l):Int)*8) (↑((Xp l)*8):Int) ?_
 refine xwm 0 (12+(↑((Xp l)*8):Int)) (↑(12+((Xp l)*8)):Int) ?_
 refine xwm 8 ((↑(Zt l):Int)*8) (↑((Zt l)*8):Int) ?_
 refine xwm 0 (12+(↑((Zt l)*8):Int)) (↑(12+((Zt l)*8)):Int) ?_
 refine xsB 1 (fun _ _ _ _ _ zo zx zy zz V=>Qg (k:=(12+((Zt l)*8))) (h:=(12+((Xp l)*8))) (b:=a) (n:=244) (c:=c) (i:=(↑(12+((Zt l)*8)):Int)) (ki:=.i64) (j:=(↑(12+((Xp l)*8)):Int)) (kj:=.i64) 1 zo zx zy rfl zz rfl (by omega) (by omega) Tryz.underlying40 (by kernel_rfl) V) ?_
 have e4:=bln (bln (bln (u7.below (bln f9 n6.below) g6) (Za W7)) g4) f6
 refine xr 0 (args:=#[.slice (Qu a (12+((Zt l)*8)) c 1) ((12+((Xp l)*8))-(12+((Zt l)*8))) (c-(12+((Zt l)*8)))]) (Rl (Qu a (12+((Zt l)*8)) c 1) ((12+((Xp l)*8))-(12+((Zt l)*8))) (c-(12+((Zt l)*8))) _ _ (by simp;omega) (by omega) ((Bys.cut h hl (12+((Zt l)*8)) (12+((Xp l)*8)) (by omega) (by omega)).below e4)) fun p9 b2=>?_
 refine xg 2 [42,43] (!(Qv ((l.drop (Er l)).take (Zan l-Er l)))) (fun e0=>?_) (fun e0=>?_)
 ·have h3:Qv ((l.drop (Er l)).take (Zan l-Er l))=false:=by simpa using e0
  have k0:=((((u7.blk (k1.below n6.below) (Ne.symm (Ne.symm a3))).below (Za W7)).below g4).below f6).below b2
  refine xsv 16 k0 [V0 0,.bool false,S0,S0] fun o4 l9 m8=>?_
  have g1:=n1.ge (B1 w)
  have i0:=l9.below (bln e4 b2) g1
  refine xec 5 m8 (.tuple #[.agg #[V0 0,.bool false,S0,S0],V0 7]) ?_
  have he:Yz l=7:=by unfold Yz;simp[hs,Lp,h3]
  exact .inl ⟨by rw[he];decide,by rw[he],i0⟩
 have h3:Qv ((l.drop (Er l)).take (Zan l-Er l))=true:=by simpa using e0
 refine xwm 4 ((↑(Zt l):Int)*(↑(Xm l):Int)) (↑((Zt l)*(Xm l)):Int) ?_
 refine xwm 0 ((↑(12+((Xp l)*8)):Int)+(↑((Zt l)*(Xm l)):Int)) (↑((12+((Xp l)*8))+((Zt l)*(Xm l))):Int) ?_
 refine xsL 0 (fun _ _ _ _ zo zx zy V=>Qi (k:=((12+((Xp l)*8))+((Zt l)*(Xm l)))) (b:=a) (n:=244) (c:=c) (i:=(↑((12+((Xp l)*8))+((Zt l)*(Xm l))):Int)) (ki:=.i64) 1 zo zx zy rfl (by omega) Tryz.underlying40 (by kernel_rfl) V) ?_
 have e2:=bln e4 b2
 refine xr 0 (args:=#[.slice (Qu a ((12+((Xp l)*8))+((Zt l)*(Xm l))) c 1) (244-((12+((Xp l)*8))+((Zt l)*(Xm l)))) (c-((12+((Xp l)*8))+((Zt l)*(Xm l))))]) (Rl (Qu a ((12+((Xp l)*8))+((Zt l)*(Xm l))) c 1) (244-((12+((Xp l)*8))+((Zt l)*(Xm l)))) (c-((12+((Xp l)*8))+((Zt l)*(Xm l)))) _ _ (by simp;omega) (by omega) ((Bys.cut h hl (12+((Xp l)*8)+((Zt l)*(Xm l))) 244 (by omega) (by omega)).below e2)) fun p0 c6=>?_
 refine xi 4 (!(Qv ((l.drop (Ee l)).take (244-Ee l)))) (fun d9=>?_) (fun d9=>?_)
 ·have h8:Qv ((l.drop (Ee l)).take (244-Ee l))=false:=by simpa using d9
  have j6:=(((((u7.blk (k1.below n6.below) (Ne.symm (Ne.symm a3))).below (Za W7)).below g4).below f6).below b2).below c6
  refine xsv 3 j6 [V0 0,.bool false,S0,S0] fun p4 m7 m6=>?_
  have g1:=n1.ge (B1 w)
  have h4:=m7.below (bln e2 c6) g1
  refine xec 5 m6 (.tuple #[.agg #[V0 0,.bool false,S0,S0],V0 7]) ?_
  have he:Yz l=7:=by unfold Yz;simp[hs,Lp,h3,h8]
  exact .inl ⟨by rw[he];decide,by rw[he],h4⟩
 have h8:Qv ((l.drop (Ee l)).take (244-Ee l))=true:=by simpa using d9
 have j7:Lp l=true:=by unfold Lp;rw[h3,h8];rfl
 have h9:=bln e2 c6
 have i4:=(((((u7.blk (k1.below n6.below) (Ne.symm (Ne.symm a3))).below (Za W7)).below g4).below f6).below b2).below c6
 have i5:=(((b9.below g4).below f6).below b2).below c6
 refine zl 10 104 (fun zm l5 V=>∃ (i:Nat) (kp:O0) (kc:Nat) (vp:O0) (vc:Nat),l5=[(0,.slice a 244 c),(2,P0 b1),(4,P0 b6),(7,V0 (↑(Xm l):Int)),(9,V0 (↑(12+((Xp l)*8)):Int)),(55,V0 (↑(Zt l):Int)),(56,V0 (i:Int))]∧zm=Zt l-((i:Int)).toNat∧B0 w V∧Blk V b1 ([V0 0,.bool false,S0,S0]) 173∧Blk V b6 ([V0 (Xv l),.bool (Xr l),.slice kp i kc,.slice vp i vc]) 173∧V.ownsRow w.heap.size 3 1 (.slice kp i kc) i ((Yx l i).map V0)∧V.ownsRow w.heap.size 9 1 (.slice vp i vc) i ((Vw l i).map sv)∧i≤Zt l∧Yi l i=0) ⟨0,none,0,none,0,rfl,rfl,h9,i4,i5,World.ownsRow_nil _ _ _ _,World.ownsRow_nil _ _ _ _,Nat.zero_le _,rfl⟩ ?_
 rintro _ _ n8 ⟨i,kp,kc,vp,vc,rfl,rfl,a7,a0,c3,hK,hV,hi,hz⟩ p7 g0 o2
 have k3:(i+1)*Xm l=i*Xm l+Xm l:=Nat.succ_mul i (Xm l)
 have l6:i<Zt l→(i+1)*Xm l≤Xp l*Xm l:=fun hh=>Nat.mul_le_mul_right _ (by omega)
 refine xid 6 ((i:Int)<(↑(Zt l):Int)) (fun j3=>?_) (fun j3=>?_)
 ·refine xwm 14 ((i:Int)*8) (↑(i*8):Int) ?_
  refine xwm 0 (12+(↑(i*8):Int)) (↑(12+(i*8)):Int) ?_
  refine xc 0 (args:=#[.slice a 244 c,V0 (↑(12+(i*8)):Int),V0 8]) (Get_P a 244 c (12+(i*8)) 8 l _ hl (by decide) (by omega) (by decide) (h.below a7) 8 rfl) ?_
  rintro e p3 j2
  rcases j2 with ⟨l7,rfl,a2⟩|⟨l7,rfl,a2⟩
  ·have a8:=c3.below a2
   refine xb 17 2 a8 ?_
   have h1:=Zb hK a2
   refine xc 1 (args:=#[.slice kp i kc,V0 (↑(Cl l i):Int)]) (node_keyP l kp i kc _ (Zh h1) (by omega)) ?_
   rintro e p6 h5
   rcases h5 with ⟨e6,rfl,a4⟩|⟨e6,rfl,a4⟩
   ·have a6:=a8.below a4
    refine xb 16 2 a6 ?_
    refine xbs 1 1 [V0 (↑(Cl l i):Int)] 3 fun o7 p5 c7=>?_
    have f7:=bln (bln a7 a2) a4
    have n9:=c7.ge f7
    have f5:=Zb h1 a4
    have i8:=Zx f5 c7
    have b7:=Zb f5 c7.below
    have d2:=bln f7 c7.below
    refine xbi 0 fun _ _ _ _ zJ zQ zo zx zy zK=>Zw (m:=1) (news:=[V0 (↑(Cl l i):Int)]) (V0 0) 1 8 (i+1) ((Yx l (i+1)).map V0) zo Tryz.underlying33 (by kernel_rfl) rfl (by decide) zx b7 zy (c7.blk.sl 1 1 (by decide) (by decide)) rfl (by simp[Value.oneCell']) (by unfold maxLen;omega) (by omega) d2.size (by rfl) (by rw[Nz,List.map_append];rfl) fun e3 e1 n0 k6 c9 j4=>?_
    refine zK _ _ ?_
    have a1:=(a6.below c7.below).grown c9 b7 (by decide)
    refine xs 1 a1 [V0 (Xv l),.bool (Xr l),.slice e3 (i+1) e1,.slice vp i vc] fun d6 e5 k8=>?_
    refine xd 2 (.t w.heap.size [9,173]) ?_
    refine xwm (.e [0,2,3,4,5] 6) ((i:Int)*(↑(Xm l):Int)) (↑(i*(Xm l)):Int) ?_
    refine xwm (.e [] 7) ((↑(12+((Xp l)*8)):Int)+(↑(i*(Xm l)):Int)) (↑((12+((Xp l)*8))+(i*(Xm l))):Int) ?_
    refine xwm (.e [8,9] 10) ((i:Int)+1) (↑(i+1):Int) ?_
    refine xwm (.e [11] 12) ((↑(i+1):Int)*(↑(Xm l):Int)) (↑((i+1)*(Xm l)):Int) ?_
    refine xwm (.e [] 13) ((↑(12+((Xp l)*8)):Int)+(↑((i+1)*(Xm l)):Int)) (↑((12+((Xp l)*8))+((i+1)*(Xm l))):Int) ?_
    refine xsB (.e [] 14) (fun _ _ _ _ _ zo zx zy zz V=>Qg (k:=((12+((Xp l)*8))+(i*(Xm l)))) (h:=((12+((Xp l)*8))+((i+1)*(Xm l)))) (b:=a) (n:=244) (c:=c) (i:=(↑((12+((Xp l)*8))+(i*(Xm l))):Int)) (ki:=.i64) (j:=(↑((12+((Xp l)*8))+((i+1)*(Xm l))):Int)) (kj:=.i64) 1 zo zx zy rfl zz rfl (by omega) (by omega) Tryz.underlying40 (by kernel_rfl) V) ?_
    have b4:=Zb (e5.own2 (Zf (Zb (Zb (Zb hV a2) a4) c7.below) c9 b7 (by decide)) a1 (by decide)) (Za d6)
    have a5:=bln (e5.below (d2.trans j4) g6) (Za d6)
    refine xcvt (.e [] 15) (.t w.heap.size [9,173]) (fun _ _ _ zo zx V b4=>Kc zo zx ((valN_bys h hl (by omega) k3).below (Kb a5 b4 (Nat.le_refl _))) (Zha hl (by omega) k3) Tryz.underlying40 Tryz.underlying5 Tryz.underlying9) ?_
    refine xm2 0 1 16 ?_ ?_
    ·have d8:=k8.below (Za d6)
     refine xb 0 3 d8 ?_
     refine xbs (.o [] 16) 1 [.string ⟨(Dr l i).toArray⟩] 9 fun o3 p2 d4=>?_
     have n7:=d4.ge a5
     have i3:=Zx b4 d4
     have b5:=Zb b4 d4.below
     have d7:=bln a5 d4.below
     refine ybi (.o [] 17) (.t w.heap.size [9,173]) fun _ _ _ _ zJ zQ zo zx zy zK=>Zw (m:=1) (news:=[.string ⟨(Dr l i).toArray⟩]) (.string ⟨#[]⟩) 1 16 (i+1) ((Vw l (i+1)).map sv) zo Tryz.underlying96 (by kernel_rfl) rfl (by decide) zx b5 zy (d4.blk.sl 1 1 (by decide) (by decide)) rfl (by simp[Value.oneCell']) (by unfold maxLen;omega) (by omega) d7.size (by rfl) (by rw[Kw,List.map_append];rfl) fun j5 i1 o0 m4 c8 g9=>?_
     refine zK _ _ (Zu g9 c8 b5 (by decide)) ?_
     have a9:=(d8.below d4.below).grown c8 b5 (by decide)
     refine ys (.o [18] 19) a9 [V0 (Xv l),.bool (Xr l),.slice e3 (i+1) e1,.slice j5 (i+1) i1] (.t w.heap.size [9,173]) fun o9 e9 m1=>⟨(Zp e9 a9 g6 (by decide)),?_⟩
     refine xwm 4 ((i:Int)+1) (↑(i+1):Int) ?_
     have e7:=e9.below (d7.trans g9) g6
     have c4:=e9.blk ((((e5.blk ((((a0.below a2).below a4).below c7.below).grown c9 b7 (by decide)) (Ne.symm (Ne.symm a3))).below (Za d6)).below d4.below).grown c8 b5 (by decide)) (Ne.symm (Ne.symm a3))
     have f1:=e9.own2 (Zf (Zb (Zb (e5.own2 k6 a1 (by decide)) (Za d6)) d4.below) c8 b5 (by decide)) a9 (by decide)
     have e8:=e9.own2 m4 a9 (by decide)
     exact ze 2 (g0 _ _ _ ⟨i+1,_,_,_,_,rfl,rfl,e7,c4,m1,f1,e8,by omega,Vh hz e6⟩ (by omega))
    refine xbs 0 1 [.string ⟨(Dr l i).toArray⟩] 9 fun n2 p8 d1=>?_
    have n5:=d1.ge a5
    have i7:=Zx b4 d1
    have d3:=(k8.below (Za d6)).below d1.below
    refine xb (.o [] 1) 3 d3 ?_
    have c1:=Zb b4 d1.below
    have d5:=bln a5 d1.below
    refine ybi (.o [] 17) (.t w.heap.size [9,173]) fun _ _ _ _ zJ zQ zo zx zy zK=>Zw (m:=1) (news:=[.string ⟨(Dr l i).toArray⟩]) (.string ⟨#[]⟩) 1 16 (i+1) ((Vw l (i+1)).map sv) zo Tryz.underlying96 (by kernel_rfl) rfl (by decide) zx c1 zy (d1.blk.sl 1 1 (by decide) (by decide)) rfl (by simp[Value.oneCell']) (by unfold maxLen;omega) (by omega) d5.size (by rfl) (by rw[Kw,List.map_append];rfl) fun i2 i9 o6 l3 d0 f0=>?_
    refine zK _ _ (Zu f0 d0 c1 (by decide)) ?_
    have b0:=d3.grown d0 c1 (by decide)
    refine ys (.o [18] 19) b0 [V0 (Xv l),.bool (Xr l),.slice e3 (i+1) e1,.slice i2 (i+1) i9] (.t w.heap.size [9,173]) fun n4 g7 l1=>⟨(Zp g7 b0 g6 (by decide)),?_⟩
    refine xwm 4 ((i:Int)+1) (↑(i+1):Int) ?_
    have f2:=g7.below (d5.trans f0) g6
    have c2:=g7.blk ((((e5.blk ((((a0.below a2).below a4).below c7.below).grown c9 b7 (by decide)) (Ne.symm (Ne.symm a3))).below (Za d6)).below d1.below).grown d0 c1 (by decide)) (Ne.symm (Ne.symm a3))
    have f8:=g7.own2 (Zf (Zb (Zb (e5.own2 k6 a1 (by decide)) (Za d6)) d1.below) d0 c1 (by decide)) b0 (by decide)
    have g5:=g7.own2 l3 b0 (by decide)
    exact ze 2 (g0 _ _ _ ⟨i+1,_,_,_,_,rfl,rfl,f2,c2,l1,f8,g5,by omega,Vh hz e6⟩ (by omega))
   refine xk 10 (show(((Pb l i) != (0:Int)):Bool)=true from bne_iff_ne.2 e6) ?_
   have b8:=(a0.below a2).below a4
   refine xsv 4 b8 [V0 0,.bool false,S0,S0] fun o8 l4 m0=>?_
   have g1:=n1.ge (B1 w)
   have g8:=l4.below (bln (bln a7 a2) a4) g1
   refine xec 10 m0 (.tuple #[.agg #[V0 0,.bool false,S0,S0],V0 (Pb l i)]) ?_
   have he:Yz l=Pb l i:=by unfold Yz;rw[if_pos hs,if_pos j7,Hh hz e6 (by omega)]
   exact .inl ⟨by rw[he];exact e6,by rw[he],g8⟩
  have c5:=a0.below a2
  refine xsv 29 c5 [V0 0,.bool false,S0,S0] fun o5 m2 m9=>?_
  have g1:=n1.ge (B1 w)
  have f3:=m2.below (bln a7 a2) g1
  refine xec 10 m9 (.tuple #[.agg #[V0 0,.bool false,S0,S0],V0 2]) ?_
  have k9:Pb l i=2:=by unfold Pb;rw[if_pos (by unfold Cl;omega)]
  have he:Yz l=2:=by unfold Yz;rw[if_pos hs,if_pos j7,Hh hz (by rw[k9];decide) (by omega),k9]
  exact .inl ⟨by rw[he];decide,by rw[he],f3⟩
 refine xlv 7 c3.rp ?_
 refine xsv 0 a0 [V0 (Xv l),.bool (Xr l),.slice kp i kc,.slice vp i vc] fun o1 j8 m5=>?_
 have g1:=n1.ge (B1 w)
 have f4:=j8.below a7 g1
 have j9:=j8.own2 hK a0 (by decide)
 have h6:=j8.own2 hV a0 (by decide)
 refine xec 4 m5 (.tuple #[.agg #[V0 (Xv l),.bool (Xr l),.slice kp i kc,.slice vp i vc],V0 0]) ?_
 obtain rfl:i=Zt l:=by omega
 exact .inr ⟨by unfold Yz;rw[if_pos hs,if_pos j7,hz],_,_,_,_,rfl,f4,j9,h6⟩
theorem Vf{P:Program}{a:Act}{w:World}{K:Act→World→Prop}{Q:Exit→Act→World→Prop}{o:Oper}{src dst e:TypeId}{x:Operand}(l:Bl)(ho:o.op=.convert src dst x)(hx:a.eval x=.string ⟨l.toArray⟩)
 (hs:P.underlying src=some .string) (hd:P.underlying dst=some (.slice e)) (he:P.underlying e=some (.int .u8)) (hl:l.length≤1000000)
 (k:∀ b c W,B0 w W→Bys W (.slice (S1 b) l.length c) l→K (a.put o.dst (.slice (S1 b) l.length c)) W):o.wp P a w K Q:=by
 have hr:=run_bytes_of_string (P:=P) w src dst e ⟨l.toArray⟩ hs hd he
 have a2:(⟨l.toArray⟩:ByteArray).size=l.length:=by simp[ByteArray.size]
 rw[a2] at hr
 obtain⟨W1,a0⟩:∃ W1,W1=w.drew.alloc (.cells (bytesRow ⟨l.toArray⟩ (grownCap w l.length 0 e)) e ((bytesRow ⟨l.toArray⟩ (grownCap w l.length 0 e)).size,(bytesRow ⟨l.toArray⟩ (grownCap w l.length 0 e)).size+1)):=⟨_,rfl⟩
 rw[←a0] at hr
 have h2:(execOp a.eval o).run P w=.ok (.value (.slice (some ⟨w.heap.size,0,none⟩) l.length (grownCap w l.length 0 e))) W1:=by
  simp only[execOp,ho,hx,Sem.run_bind,hr];rfl
 refine Kp h2 (k _ _ _ (by rw[a0];exact(Za w).trans (show Below w.drew.heap.size w.drew _ from blx w.drew _)) (.inr ⟨w.heap.size,0,_,rfl,grownCap_ge w l.length 0 e,grownCap_le_maxLen w l.length 0 e (by unfold maxLen;omega),fun j y hj=>?_⟩))
 have a1:j<l.length:=by have:=(List.getElem?_eq_some_iff.1 hj).1;simpa using this
 have hb:=bytesRow_at ⟨l.toArray⟩ (grownCap w l.length 0 e) j (by simpa using a1)
 have hy:y=.int .u8 ((l.toArray[j]'(by simpa using a1)).toNat:Int):=by
  rw[List.getElem?_map,List.getElem?_eq_getElem a1] at hj
  simp only[Option.map_some,Option.some.injEq] at hj
  rw[←hj];rfl
 have hh:W1.heap[w.heap.size]? = some (.cells (bytesRow ⟨l.toArray⟩ (grownCap w l.length 0 e)) e ((bytesRow ⟨l.toArray⟩ (grownCap w l.length 0 e)).size,(bytesRow ⟨l.toArray⟩ (grownCap w l.length 0 e)).size+1)):=by rw[a0];exact heap_alloc_new w.drew _
 rw[hy]
 simp[World.cell?,hh,hb]
def Xo(s:Bl):Int:=if s.length=4 then(if 1≤Zl s 0 4∧Zl s 0 4≤14399 then 0 else 2) else 7
def Zo(s:Bl):Nat:=if Xo s=0 then Zl s 0 4 else 0
theorem Zcw(bs:ByteArray)(i:Nat)(r:Bl)(h:i≤bs.size):(ByteArray.toList.loop bs i r).length=r.length+(bs.size-i):=by
 rw[ByteArray.toList.loop]
 split
 ·rename_i h2
  rw[Zcw bs (i+1) _ (by omega)]
  simp;omega
 ·simp;omega
termination_by bs.size-i
theorem Fa(bs:ByteArray):bs.toList.length=bs.size:=by
 unfold ByteArray.toList;rw[Zcw _ _ _ (Nat.zero_le _)];simp
theorem four_ne(n:Int):((⟨(leB n 4).toArray⟩:ByteArray).toList==(⟨#[]⟩:ByteArray).toList)=false:=by
 cases hq:((⟨(leB n 4).toArray⟩:ByteArray).toList==(⟨#[]⟩:ByteArray).toList) with
 | false=>rfl
 | true =>
  have e:=congrArg List.length (eq_of_beq hq)
  rw[Fa,Fa] at e
  simp[ByteArray.size,Ym] at e
theorem Za7(w:World) :
 C0 204 #[] w (Ko (fun w' r=>∃ b,r=.slice (S1 b) 1 1∧w.heap.size≤b∧Blk w' b [V0 4,V0 1,V0 14399] 377) w):=by
 refine zin 3 Tryz.func204 ?_
 refine xbs 8 1 [V0 4,V0 1,V0 14399] 377 fun b1 W1 n1=>?_
 have g1:=n1.ge (B1 w)
 exact xe 4 (.slice (S1 b1) 1 1) ⟨_,rfl,n1.below,_,rfl,g1,n1.blk⟩
theorem Zd0(gl:Nat)(an:O0)(cn:Nat)(n:Int)(w:World)(hl:Blk w gl [V0 4,V0 1,V0 14399] 377)(hn:Sl w (.slice an 1 cn) 1 [V0 n])(h1:1≤n)(h2:n≤14399) :
 C0 222 #[.slice (S1 gl) 1 1,.slice an 1 cn] w (Ret (.string ⟨(leB n 4).toArray⟩) w):=by
 have b5:=h1
 have b3:=h2
 clear h2
 refine zin 51 Tryz.func222 ?_
 refine xu 19 2 ?_
 refine xlv 15 hl.rp ?_
 refine xa 0 [V0 0,V0 0,V0 0] 377 fun b1 W1 n1=>?_
 have a6:=n1.ne hl
 refine xsv 1 n1.blk [V0 4,V0 1,V0 14399] fun W2 u2 k2=>?_
 have g1:=n1.ge (B1 w)
 refine xd 4 .z ?_
 refine xx (.e [0,1] 2) _ 1 0 1 (Ints.elem (l:=[n]) hn (k:=0) (by simp)).1 ?_
 have hB:=bln (u2.below n1.below g1) (Za W2)
 refine xl (.e [] 3) ((Ints.elem (l:=[n]) (hn.below hB) (k:=0) (by simp)).2) ?_
 have a1:=k2.below (Za W2)
 refine xb (.e [4] 5) 1 a1 ?_
 refine xgk (.b [6,7]) [23,24] (show(decide (n<(1:Int)):Bool)=false from decide_eq_false (by omega)) ?_
 refine xx (.e [8,9] 10) _ 1 0 1 (Ints.elem (l:=[n]) hn (k:=0) (by simp)).1 ?_
 refine xl (.e [] 11) ((Ints.elem (l:=[n]) (hn.below hB) (k:=0) (by simp)).2) ?_
 refine xb (.e [12] 13) 2 a1 ?_
 refine xk (.r [14,15] 2) (show(decide (n>(14399:Int)):Bool)=false from decide_eq_false (by omega)) ?_
 refine xd 3 .z ?_
 have a4:=a1.below (Za W2.drew)
 refine xb (.e [0] 1) 0 a4 ?_
 refine xx (.e [2,3] 4) _ 1 0 1 (Ints.elem (l:=[n]) hn (k:=0) (by simp)).1 ?_
 have a0:=bln hB (Za W2.drew)
 refine xl (.e [] 5) ((Ints.elem (l:=[n]) (hn.below a0) (k:=0) (by simp)).2) ?_
 refine xbs (.o [6] 7) 1 [V0 4,V0 n] 271 fun b4 W4 n4=>?_
 have g4:=n4.ge a0
 refine yc (.o [] 8) (args:=#[.slice (S1 b4) 1 1]) .z (Pack_4 b4 n (by omega) (by omega) _ n4.blk) ?_
 rintro _ W5 ⟨_,rfl,a7,p2,c2,rfl,h2⟩
 have a9:=(bln a0 n4.below).size
 refine⟨a7,?_⟩
 have o6:=World.ownsRow_nil W5 w.heap.size 5 1
 have a5:=Zg h2 a9
 have a2:=bln (bln a0 n4.below) a7
 refine xbi (.r [9,10,11,12,13] 5) fun _ _ _ _ zJ zQ zo zx zy zK=>Zw (m:=4) (news:=(leB n 4).map bv) (.int .u8 0) 1 1 (4) ((leB n 4).map bv) zo Tryz.underlying40 (by kernel_rfl) rfl (by decide) zx o6 zy (Zh a5) (by simp[Ym]) (Mu _) (by unfold maxLen;omega) (by omega) a2.size (by rfl) (by simp) fun b0 b6 W7 o7 b2 a8=>?_
 refine zK _ _ ?_
 refine xcv0 24 (fun _ _ _ zo zx=>Kc zo zx (Gp (Zh o7) (Ym _ _)) (Ym _ _) Tryz.underlying40 Tryz.underlying5 Tryz.underlying9) ?_
 have a3:=a2.trans a8
 exact xe 4 (.string ⟨(leB n 4).toArray⟩) ⟨rfl,a3⟩
theorem Zdu(gl:Nat)(an:O0)(cn:Nat)(n:Int)(w:World)(hl:Blk w gl [V0 4,V0 1,V0 14399] 377)(hn:Sl w (.slice an 1 cn) 1 [V0 n])(h:¬ (1≤n∧n≤14399)) :
 C0 222 #[.slice (S1 gl) 1 1,.slice an 1 cn] w (Ret (.string ⟨#[]⟩) w):=by
 refine zin 51 Tryz.func222 ?_
 refine xu 19 2 ?_
 refine xlv 15 hl.rp ?_
 refine xa 0 [V0 0,V0 0,V0 0] 377 fun b1 W1 n1=>?_
 have a2:=n1.ne hl
 refine xsv 1 n1.blk [V0 4,V0 1,V0 14399] fun W2 u2 k2=>?_
 have g1:=n1.ge (B1 w)
 refine xd 4 .z ?_
 refine xx (.e [0,1] 2) _ 1 0 1 (Ints.elem (l:=[n]) hn (k:=0) (by simp)).1 ?_
 have hB:=bln (u2.below n1.below g1) (Za W2)
 refine xl (.e [] 3) ((Ints.elem (l:=[n]) (hn.below hB) (k:=0) (by simp)).2) ?_
 have a0:=k2.below (Za W2)
 refine xb (.e [4] 5) 1 a0 ?_
 refine xg (.b [6,7]) [23,24] (decide (n<(1:Int))) (fun a1=>?_) (fun a1=>?_)
 ·have a1:=of_decide_eq_true a1
  exact xe (.r [8,9,10,11,12,13,14,15] 15) (.string ⟨#[]⟩) ⟨rfl,hB⟩
 have a1:=of_decide_eq_false a1
 refine xx (.e [8,9] 10) _ 1 0 1 (Ints.elem (l:=[n]) hn (k:=0) (by simp)).1 ?_
 refine xl (.e [] 11) ((Ints.elem (l:=[n]) (hn.below hB) (k:=0) (by simp)).2) ?_
 refine xb (.e [12] 13) 2 a0 ?_
 refine xk (.r [14,15] 2) (show(decide (n>(14399:Int)):Bool)=true from decide_eq_true (by omega)) ?_
 exact xe 12 (.string ⟨#[]⟩) ⟨rfl,hB⟩
theorem Eo(gl:Nat)(s:Bl)(w:World)(hl:Blk w gl [V0 4,V0 1,V0 14399] 377)(hs:s.length≤1000)(h4:s.length≠4) :
 C0 202 #[.slice (S1 gl) 1 1,.string ⟨s.toArray⟩] w (Ko (fun w' r=>∃ p c,r=.tuple #[.slice p 1 c,V0 7]∧w'.ownsRow w.heap.size 3 1 (.slice p 1 c) 1 [V0 0]) w):=by
 refine zin 54 Tryz.func202 ?_
 refine xu 25 2 ?_
 refine xlv 14 hl.rp ?_
 refine xa 0 [V0 0,V0 0,V0 0] 377 fun b1 W1 n1=>?_
 have a3:=n1.ne hl
 refine xsv 0 n1.blk [V0 4,V0 1,V0 14399] fun W2 u2 k2=>?_
 have g1:=n1.ge (B1 w)
 refine xb 6 0 k2 ?_
 refine xbs 0 1 [V0 4] 3 fun b3 W3 n3=>?_
 have o4:=World.ownsRow_nil W3 w.heap.size 3 1
 have hB:=bln (u2.below n1.below g1) n3.below
 refine xbi 0 fun _ _ _ _ zJ zQ zo zx zy zK=>Zw (m:=1) (news:=[V0 4]) (V0 0) 1 8 (1) ([Value.int .i64 4]) zo Tryz.underlying33 (by kernel_rfl) rfl (by decide) zx o4 zy (n3.blk.sl 1 1 (by decide) (by decide)) rfl (by simp[Value.oneCell']) (by unfold maxLen;omega) (by omega) hB.size (by rfl) (by rfl) fun a7 a8 W5 o5 a5 a6=>?_
 refine zK _ _ ?_
 have a1:=(k2.below n3.below).grown a5 o4 (by decide)
 refine xb 6 0 a1 ?_
 refine xk 31 (show(((s.length:Int) != (4:Int)):Bool)=true from bne_iff_ne.2 (by omega)) ?_
 refine xmk 4 fun _ _ _ _ zJ zQ zo zx zy zK=>Ma 1 (V0 0) 1 8 [Value.int .i64 0] zo zx zy Tryz.underlying33 (by kernel_rfl) rfl (by omega) (by omega) (rfl) fun b6 W6 n6=>?_
 have a0:=hB.trans a6
 have g6:=n6.ge a0
 have a4:=Zx o5 n6
 refine zK _ _ ?_
 have a2:=bln a0 n6.below
 have o6:=Xc (size:=1) (n:=1) n6.blk g6 (rfl) (by unfold maxLen;omega)
 exact xe 6 (.tuple #[.slice (S1 b6) 1 1,V0 7]) ⟨_,rfl,a2,_,_,rfl,o6⟩
theorem Rq(gl:Nat)(s:Bl)(w:World)(hl:Blk w gl [V0 4,V0 1,V0 14399] 377)(hs:s.length≤1000)(h4:s.length=4)(h1:1≤Zl s 0 4)(h2:Zl s 0 4≤14399) :
 C0 202 #[.slice (S1 gl) 1 1,.string ⟨s.toArray⟩] w (Ko (fun w' r=>∃ p c,r=.tuple #[.slice p 1 c,V0 0]∧w'.ownsRow w.heap.size 3 1 (.slice p 1 c) 1 [V0 (↑(Zl s 0 4):Int)]) w):=by
 refine zin 54 Tryz.func202 ?_
 refine xu 25 2 ?_
 refine xlv 14 hl.rp ?_
 refine xa 0 [V0 0,V0 0,V0 0] 377 fun b1 W1 n1=>?_
 have a0:=n1.ne hl
 refine xsv 0 n1.blk [V0 4,V0 1,V0 14399] fun W2 u2 k2=>?_
 have g1:=n1.ge (B1 w)
 refine xb 6 0 k2 ?_
 refine xbs 0 1 [V0 4] 3 fun b3 W3 n3=>?_
 have o4:=World.ownsRow_nil W3 w.heap.size 3 1
 have hB:=bln (u2.below n1.below g1) n3.below
 refine xbi 0 fun _ _ _ _ zJ zQ zo zx zy zK=>Zw (m:=1) (news:=[V0 4]) (V0 0) 1 8 (1) ([Value.int .i64 4]) zo Tryz.underlying33 (by kernel_rfl) rfl (by decide) zx o4 zy (n3.blk.sl 1 1 (by decide) (by decide)) rfl (by simp[Value.oneCell']) (by unfold maxLen;omega) (by omega) hB.size (by rfl) (by rfl) fun a9 b2 W5 o5 b4 b5=>?_
 refine zK _ _ ?_
 have a4:=(k2.below n3.below).grown b4 o4 (by decide)
 refine xb 6 0 a4 ?_
 refine xk 31 (show(((s.length:Int) != (4:Int)):Bool)=false from by rw[h4];rfl) ?_
 refine xcf 5 fun _ _ _ zJ zQ zo zx zK=>Vf s zo zx Tryz.underlying9 Tryz.underlying40 Tryz.underlying5 (by omega) ?_
 intro bz cz W6 a2 b6
 refine zK _ _ ?_
 have a5:=Zb o5 a2
 refine xc 1 (args:=#[.slice (S1 bz) s.length cz,.slice a9 1 b2]) (Ng (S1 bz) s.length cz s a9 b2 1 [4] [Zl s 0 4] _ rfl rfl rfl (by decide) (by simp;omega) (by omega) (by decide) b6 (Zh a5) (fun i hi=>by obtain rfl:i=0:=(by simpa using hi);have:=Yl s 0 4 (by decide);simp[Km];omega)) ?_
 rintro _ W7 ⟨_,rfl,a8,p5,c5,rfl,h5⟩
 have b7:=(bln (hB.trans b5) a2).size
 have a7:=((((u2.blk (hl.below n1.below) (Ne.symm (Ne.symm a0))).below n3.below).grown b4 o4 (by decide)).below a2).below a8
 have a1:=Zg h5 b7
 refine xr 15 (args:=#[.slice (S1 gl) 1 1,.slice p5 1 c5]) (Zd0 gl p5 c5 (↑(Zl s 0 4):Int) _ a7 (Zh a1) (by omega) (by omega)) fun W8 b0=>?_
 refine xk 4 (show(((⟨(leB (↑(Zl s 0 4):Int) 4).toArray⟩:ByteArray).toList==(⟨#[]⟩:ByteArray).toList):Bool)=false from four_ne _) ?_
 have a3:=bln (bln (bln (hB.trans b5) a2) a8) b0
 have a6:=Zb a1 b0
 exact xe 10 (.tuple #[.slice p5 1 c5,V0 0]) ⟨_,rfl,a3,_,_,rfl,a6⟩
theorem Ew(gl:Nat)(s:Bl)(w:World)(hl:Blk w gl [V0 4,V0 1,V0 14399] 377)(hs:s.length≤1000)(h4:s.length=4)(h1:¬ (1≤(Zl s 0 4:Int)∧(Zl s 0 4:Int)≤14399)) :
 C0 202 #[.slice (S1 gl) 1 1,.string ⟨s.toArray⟩] w (Ko (fun w' r=>∃ p c,r=.tuple #[.slice p 1 c,V0 2]∧w'.ownsRow w.heap.size 3 1 (.slice p 1 c) 1 [V0 0]) w):=by
 refine zin 54 Tryz.func202 ?_
 refine xu 25 2 ?_
 refine xlv 14 hl.rp ?_
 refine xa 0 [V0 0,V0 0,V0 0] 377 fun b1 W1 n1=>?_
 have a3:=n1.ne hl
 refine xsv 0 n1.blk [V0 4,V0 1,V0 14399] fun W2 u2 k2=>?_
 have g1:=n1.ge (B1 w)
 refine xb 6 0 k2 ?_
 refine xbs 0 1 [V0 4] 3 fun b3 W3 n3=>?_
 have o4:=World.ownsRow_nil W3 w.heap.size 3 1
 have hB:=bln (u2.below n1.below g1) n3.below
 refine xbi 0 fun _ _ _ _ zJ zQ zo zx zy zK=>Zw (m:=1) (news:=[V0 4]) (V0 0) 1 8 (1) ([Value.int .i64 4]) zo Tryz.underlying33 (by kernel_rfl) rfl (by decide) zx o4 zy (n3.blk.sl 1 1 (by decide) (by decide)) rfl (by simp[Value.oneCell']) (by unfold maxLen;omega) (by omega) hB.size (by rfl) (by rfl) fun b5 b8 W5 o5 c0 b4=>?_
 refine zK _ _ ?_
 have a8:=(k2.below n3.below).grown c0 o4 (by decide)
 refine xb 6 0 a8 ?_
 refine xk 31 (show(((s.length:Int) != (4:Int)):Bool)=false from by rw[h4];rfl) ?_
 refine xcf 5 fun _ _ _ zJ zQ zo zx zK=>Vf s zo zx Tryz.underlying9 Tryz.underlying40 Tryz.underlying5 (by omega) ?_
 intro bz cz W6 a4 c2
 refine zK _ _ ?_
 have a1:=Zb o5 a4
 refine xc 1 (args:=#[.slice (S1 bz) s.length cz,.slice b5 1 b8]) (Ng (S1 bz) s.length cz s b5 b8 1 [4] [Zl s 0 4] _ rfl rfl rfl (by decide) (by simp;omega) (by omega) (by decide) c2 (Zh a1) (fun i hi=>by obtain rfl:i=0:=(by simpa using hi);have:=Yl s 0 4 (by decide);simp[Km];omega)) ?_
 rintro _ W7 ⟨_,rfl,a5,p5,c5,rfl,h5⟩
 have c1:=(bln (hB.trans b4) a4).size
 have a9:=((((u2.blk (hl.below n1.below) (Ne.symm (Ne.symm a3))).below n3.below).grown c0 o4 (by decide)).below a4).below a5
 have a0:=Zg h5 c1
 refine xr 15 (args:=#[.slice (S1 gl) 1 1,.slice p5 1 c5]) (Zdu gl p5 c5 (↑(Zl s 0 4):Int) _ a9 (Zh a0) (by omega)) fun W8 a6=>?_
 refine xmk 9 fun _ _ _ _ zJ zQ zo zx zy zK=>Ma 1 (V0 0) 1 8 [Value.int .i64 0] zo zx zy Tryz.underlying33 (by kernel_rfl) rfl (by omega) (by omega) (rfl) fun b9 W9 n9=>?_
 have a2:=bln (bln (bln (hB.trans b4) a4) a5) a6
 have g9:=n9.ge a2
 have a7:=Zb (Zb a1 a5) a6
 have b7:=Zx a7 n9
 have b2:=Zb a0 a6
 have b6:=Zx b2 n9
 refine zK _ _ ?_
 have b0:=bln a2 n9.below
 have o9:=Xc (size:=1) (n:=1) n9.blk g9 (rfl) (by unfold maxLen;omega)
 exact xe 6 (.tuple #[.slice (S1 b9) 1 1,V0 2]) ⟨_,rfl,b0,_,_,rfl,o9⟩
theorem Zal(gl:Nat)(s:Bl)(w:World)(hl:Blk w gl [V0 4,V0 1,V0 14399] 377)(hs:s.length≤1000):C0 202 #[.slice (S1 gl) 1 1,.string ⟨s.toArray⟩] w (Ko (fun w' r=>∃ p c,r=.tuple #[.slice p 1 c,V0 (Xo s)]∧w'.ownsRow w.heap.size 3 1 (.slice p 1 c) 1 [V0 (Zo s:Int)]) w):=by
 by_cases h4:s.length=4
 ·by_cases h1:1≤Zl s 0 4∧Zl s 0 4≤14399
  ·have he:Xo s=0:=by unfold Xo;rw[if_pos h4,if_pos h1]
   rw[he,Zo,if_pos he]
   exact Rq gl s w hl hs h4 h1.1 h1.2
  ·have he:Xo s=2:=by unfold Xo;rw[if_pos h4,if_neg h1]
   rw[he,Zo,if_neg (by rw[he];decide)]
   exact Ew gl s w hl hs h4 (by omega)
 ·have he:Xo s=7:=by unfold Xo;rw[if_neg h4]
  rw[he,Zo,if_neg (by rw[he];decide)]
  exact Eo gl s w hl hs h4
theorem Jv(s:Bl)(w:World)(hs:s.length≤1000) :
 C0 111 #[.string ⟨s.toArray⟩] w (Ret (.tuple #[V0 (Zo s:Int),V0 (Xo s)]) w):=by
 refine zin 16 Tryz.func111 ?_
 refine xc 8 (args:=#[]) (Za7 _) ?_
 rintro _ W1 ⟨_,rfl,a1,gl,rfl,gg,kl⟩
 refine xc 1 (args:=#[.slice (S1 gl) 1 1,.string ⟨s.toArray⟩]) (Zal gl s _ kl hs) ?_
 rintro _ W2 ⟨_,rfl,a2,p5,c5,rfl,h5⟩
 have a0:=Zg h5 a1.size
 refine xx 10 _ 1 0 1 (Ints.elem (l:=[(Zo s:Int)]) (Zh a0) (k:=0) (by simp)).1 ?_
 refine xl 0 ((Ints.elem (l:=[(Zo s:Int)]) (Zh a0) (k:=0) (by simp)).2) ?_
 have hB:=bln a1 a2
 exact xe 6 (.tuple #[V0 (↑(Zo s):Int),V0 (Xo s)]) ⟨rfl,hB⟩
abbrev Wk:=Nat×Int×Int
def Zel(p:Wk):List Value:=[V0 (p.1:Int),V0 p.2.1,V0 p.2.2]
theorem Hp(p:Wk):(Zel p).length=3:=rfl
def Yo:Wk:=(4,0,0)
def Gg(ps:List Wk):Prop:=ps.length≤1000∧∀ i,i<ps.length→((ps.getD i Yo).1=4∨(ps.getD i Yo).1=8)∧0≤(ps.getD i Yo).2.1∧(ps.getD i Yo).2.2<9223372036854775808∧((ps.getD i Yo).1=4→(ps.getD i Yo).2.2<4294967296)
def inP (p:Wk)(n:Int):Bool:=decide (p.2.1≤n∧n≤p.2.2)
def Wu(ps:List Wk)(N:List Int)(k:Nat):Bool:=(List.range k).all fun i=>inP (ps.getD i Yo) (N.getD i 0)
theorem Zeo(ps:List Wk)(N:List Int)(k:Nat):Wu ps N (k+1)=(Wu ps N k&&inP (ps.getD k Yo) (N.getD k 0)):=by simp[Wu,List.range_succ]
theorem Fn{ps:List Wk}{N:List Int}{i k:Nat}(hi:i<k)(h:inP (ps.getD i Yo) (N.getD i 0)=false):Wu ps N k=false:=by
 unfold Wu
 rw[List.all_eq_false]
 exact⟨i,List.mem_range.2 hi,by rw[h];decide⟩
def Zgk(ps:List Wk)(N:List Int)(k:Nat):Bl:=(List.range k).flatMap fun i=>leB (N.getD i 0) (ps.getD i Yo).1
theorem Cs(ps:List Wk)(N:List Int)(k:Nat):Zgk ps N (k+1)=Zgk ps N k++leB (N.getD k 0) (ps.getD k Yo).1:=by simp[Zgk,List.range_succ]
def Jy(ps:List Wk)(k:Nat):List Nat:=(List.range k).map fun i=>(ps.getD i Yo).1
theorem Kg(ps:List Wk)(k:Nat):Jy ps (k+1)=Jy ps k++[(ps.getD k Yo).1]:=by simp[Jy,List.range_succ]
theorem Po(ps:List Wk)(k:Nat):(Jy ps k).length=k:=by simp[Jy]
theorem wids_get(ps:List Wk){k i:Nat}(h:i<k):(Jy ps k).getD i 0=(ps.getD i Yo).1:=by simp[Jy,List.getD,List.getElem?_range h]
theorem Zcd(ps:List Wk)(N:List Int)(k:Nat):(Zgk ps N k).length=(Jy ps k).sum:=by
 induction k with
 | zero=>rfl
 | succ k ih=>rw[Cs,Kg,List.length_append,Ym,ih];simp
theorem Pack_48(g w:Nat)(n:Int)(W:World)(hw:w=4∨w=8)(h0:0≤n)(hb:w=4→n<4294967296)(hk:Blk W g [V0 (w:Int),V0 n] 271):C0 169 #[.slice (S1 g) 1 1] W (Ko (fun w' r=>∃ p c,r=.tuple #[.slice p w c,V0 0]∧w'.ownsRow W.heap.size 5 1 (.slice p w c) w ((leB n w).map bv)) W):=by
 rcases hw with rfl|rfl
 ·exact Pack_4 g n h0 (hb rfl) W hk
 ·exact Pack_8 g n h0 W hk
def ValPutP(ps:List Wk)(N:List Int)(w:World)(e:Ending)(w':World):Prop :=
 (Wu ps N ps.length=false∧e=.returned (.string ⟨#[]⟩)∧B0 w w')∨(Wu ps N ps.length=true∧e=.returned (.string ⟨(Zgk ps N ps.length).toArray⟩)∧B0 w w')
theorem Zdl(ps:List Wk)(N:List Int)(gl gn:O0)(cl cn:Nat)(w:World)(hps:Gg ps)(hNl:N.length=ps.length)(hP:Sts Zel w (.slice gl ps.length cl) ps)(hN:Sl w (.slice gn ps.length cn) ps.length (N.map V0)) :
 C0 222 #[.slice gl ps.length cl,.slice gn ps.length cn] w (ValPutP ps N w):=by
 have c1:=hps.1
 refine zin 51 Tryz.func222 ?_
 have hB:=Below.refl w.heap.size w
 refine zl 19 51 (fun zm b2 V=>∃ (i m:Nat) (q:O0) (d:Nat),b2=[(1,.slice gn ps.length cn),(5,.slice q m d),(10,.slice gl ps.length cl),(11,V0 (ps.length:Int)),(12,V0 (i:Int))]∧zm=ps.length-((i:Int)).toNat∧B0 w V∧V.ownsRow w.heap.size 5 1 (.slice q m d) m ((Zgk ps N i).map bv)∧i≤ps.length∧m=(Jy ps i).sum∧m≤i*8∧Wu ps N i=true) ⟨0,0,_,_,rfl,rfl,hB,World.ownsRow_nil _ _ _ _,Nat.zero_le _,rfl,Nat.zero_le _,rfl⟩ ?_
 rintro _ _ W1 ⟨i,m,q,d,rfl,rfl,a1,ho,hi,hm,c4,a6⟩ J1 b9 r1
 refine xid 6 ((i:Int)<(ps.length:Int)) (fun b4=>?_) (fun b4=>?_)
 ·refine xx 7 _ ps.length i 3 (Sts.cell hP Hp Yo (k:=i) (i:=0) (by omega) rfl).1 ?_
  refine xlv 0 (Sts.rp (k:=i) (hP.below a1) Hp Yo (by omega) (by decide)) ?_
  refine xa 0 [V0 0,V0 0,V0 0] 377 fun b3 W3 n3=>?_
  have g3:=n3.ge a1
  refine xsv 1 n3.blk [V0 (↑(ps.getD i Yo).1:Int),V0 ((ps.getD i Yo).2.1),V0 ((ps.getD i Yo).2.2)] fun W4 u4 k4=>?_
  refine xd 4 .z ?_
  refine xx (.e [0,1] 2) _ ps.length i 1 (IntsN.elem hN hNl (k:=i) (by omega)).1 ?_
  have a0:=bln (u4.below (bln a1 n3.below) g3) (Za W4)
  refine xl (.e [] 3) ((IntsN.elem (hN.below a0) hNl (k:=i) (by omega)).2) ?_
  have a3:=k4.below (Za W4)
  refine xb (.e [4] 5) 1 a3 ?_
  refine xg (.b [6,7]) [23,24] (decide ((N.getD i 0)<(ps.getD i Yo).2.1)) (fun a4=>?_) (fun a4=>?_)
  ·have a4:=of_decide_eq_true a4
   exact xe (.r [8,9,10,11,12,13,14,15] 15) (.string ⟨#[]⟩) (.inl ⟨Fn (i:=i) (by omega) (decide_eq_false (by omega)),rfl,a0⟩)
  have a4:=of_decide_eq_false a4
  refine xx (.e [8,9] 10) _ ps.length i 1 (IntsN.elem hN hNl (k:=i) (by omega)).1 ?_
  refine xl (.e [] 11) ((IntsN.elem (hN.below a0) hNl (k:=i) (by omega)).2) ?_
  refine xb (.e [12] 13) 2 a3 ?_
  refine xid (.r [14,15] 2) ((N.getD i 0)>(ps.getD i Yo).2.2) (fun b6=>?_) (fun b6=>?_)
  ·exact xe 12 (.string ⟨#[]⟩) (.inl ⟨Fn (i:=i) (by omega) (decide_eq_false (by omega)),rfl,a0⟩)
  refine xd 3 .z ?_
  have b0:=a3.below (Za W4.drew)
  refine xb (.e [0] 1) 0 b0 ?_
  refine xx (.e [2,3] 4) _ ps.length i 1 (IntsN.elem hN hNl (k:=i) (by omega)).1 ?_
  have a2:=bln a0 (Za W4.drew)
  refine xl (.e [] 5) ((IntsN.elem (hN.below a2) hNl (k:=i) (by omega)).2) ?_
  refine xbs (.o [6] 7) 1 [V0 (↑(ps.getD i Yo).1:Int),V0 (N.getD i 0)] 271 fun b7 W7 n7=>?_
  have g7:=n7.ge a2
  refine yc (.o [] 8) (args:=#[.slice (S1 b7) 1 1]) .z (Pack_48 b7 (ps.getD i Yo).1 (N.getD i 0) _ (hps.2 i (by omega)).1 (by have:=(hps.2 i (by omega)).2.1;omega) (fun q=>by have:=(hps.2 i (by omega)).2.2.2 q;omega) n7.blk) ?_
  rintro _ W8 ⟨_,rfl,a7,p2,c2,rfl,h2⟩
  have b5:=(bln a2 n7.below).size
  refine⟨a7,?_⟩
  have b1:=Zb (Zb (Zb (Zb (u4.own2 (Zb ho n3.below) n3.blk (by decide)) (Za W4)) (Za W4.drew)) n7.below) a7
  have a9:=Zg h2 b5
  have a5:=bln (bln a2 n7.below) a7
  refine xbi (.r [9,10,11,12,13] 5) fun _ _ _ _ zJ zQ zo zx zy zK=>Zw (m:=(ps.getD i Yo).1) (news:=(leB (N.getD i 0) (ps.getD i Yo).1).map bv) (.int .u8 0) 1 1 ((m+(ps.getD i Yo).1)) (((Zgk ps N (i+1)).map bv)) zo Tryz.underlying40 (by kernel_rfl) rfl (by decide) zx b1 zy (Zh a9) (by simp[Ym]) (Mu _) (by unfold maxLen;have:=(hps.2 i (by omega)).1;omega) (by have:=(hps.2 i (by omega)).1;omega) a5.size (by rfl) (by rw[Cs,List.map_append]) fun c3 c5 W9 o9 c0 b8=>?_
  refine zK _ _ ?_
  refine xwm 5 ((i:Int)+1) (↑(i+1):Int) ?_
  have a8:=a5.trans b8
  exact ze 2 (b9 _ _ _ ⟨i+1,_,_,_,rfl,rfl,a8,o9,by omega,by rw[Kg,hm];simp,by have:=(hps.2 i (by omega)).1;omega,by rw[Zeo,a6];exact decide_eq_true ⟨by omega,by omega⟩⟩ (by omega))
 refine xcv0 8 (fun _ _ _ zo zx=>Kc zo zx (Gp (Zh ho) (by rw[Zcd];exact hm.symm)) (by rw[Zcd];exact hm.symm) Tryz.underlying40 Tryz.underlying5 Tryz.underlying9) ?_
 refine xe 4 (.string ⟨(Zgk ps N i).toArray⟩) ?_
 obtain rfl:i=ps.length:=by omega
 exact .inr ⟨a6,rfl,a1⟩
def Wh(ps:List Wk)(s:Bl):List Nat:=Km s 0 (Jy ps ps.length)
theorem Bw(ps:List Wk)(s:Bl):(Wh ps s).length=ps.length:=by rw[Wh,Sd,Po]
def Hk(ps:List Wk)(s:Bl):Bool:=Wu ps ((Wh ps s).map fun n:Nat=>(n:Int)) ps.length
def Xt(ps:List Wk)(s:Bl):Int:=if s.length=(Jy ps ps.length).sum then(if Hk ps s then 0 else 2) else 7
def Qa(ps:List Wk)(s:Bl):List Nat:=if Xt ps s=0 then Wh ps s else List.replicate ps.length 0
theorem Ql(ps:List Wk)(s:Bl):(Qa ps s).length=ps.length:=by
 unfold Qa;split
 ·exact Bw ps s
 ·simp
theorem Zhb{ps:List Wk}{s:Bl}(hp:Gg ps)(h:Hk ps s=true):∀ i,i<(Jy ps ps.length).length→(Km s 0 (Jy ps ps.length)).getD i 0<9223372036854775808:=by
 intro i hi
 rw[Po] at hi
 unfold Hk Wu at h
 rw[List.all_eq_true] at h
 have h1:=of_decide_eq_true (h i (List.mem_range.2 hi))
 have h2:=(hp.2 i hi).2.2.1
 rw[show((Wh ps s).map fun n:Nat=>(n:Int)).getD i 0=(((Wh ps s).getD i 0:Nat):Int) by simp[List.getD,show i<(Wh ps s).length by rw[Bw];exact hi]] at h1
 change (Wh ps s).getD i 0<_
 omega
theorem map_nv(l:List Nat):l.map nv=(l.map fun n:Nat=>(n:Int)).map V0:=by simp[nv]
theorem putL_ne{ps:List Wk}{N:List Int}(hp:Gg ps)(h0:0<ps.length):((⟨(Zgk ps N ps.length).toArray⟩:ByteArray).toList==(⟨#[]⟩:ByteArray).toList)=false:=by
 rw[show(⟨#[]⟩:ByteArray)=⟨([]:Bl).toArray⟩ from rfl,Ue]
 apply beq_false_of_ne
 intro q
 have h1:=congrArg List.length q
 obtain⟨k,hk⟩:∃ k,ps.length=k+1:=⟨ps.length-1,by omega⟩
 rw[hk,Cs,List.length_append,Ym] at h1
 rw[List.length_nil] at h1
 have:=(hp.2 k (by omega)).1
 omega
theorem Sa(n:Nat):Hf (Value.int .i64 0).cells.toList n=(List.replicate n 0).map nv:=by
 rw[show(Value.int .i64 0).cells.toList=[Value.int .i64 0] from rfl,Hf,List.map_replicate]
 induction n with
 | zero=>rfl
 | succ n ih=>rw[List.replicate_succ,List.flatten_cons,ih,List.replicate_succ];rfl
theorem Ct(ps:List Wk)(s:Bl)(gl:O0)(cl:Nat)(w:World)(hps:Gg ps)(h0:0<ps.length)(hs:s.length≤100000)(hP:Sts Zel w (.slice gl ps.length cl) ps)(hsl:s.length≠(Jy ps ps.length).sum) :
 C0 202 #[.slice gl ps.length cl,.string ⟨s.toArray⟩] w (Ko (fun w' r=>∃ p c,r=.tuple #[.slice p ps.length c,V0 (Xt ps s)]∧w'.ownsRow w.heap.size 3 1 (.slice p ps.length c) ps.length ((Qa ps s).map nv)) w):=by
 have c0:=hps.1
 refine zin 54 Tryz.func202 ?_
 have hB:=Below.refl w.heap.size w
 refine zl 25 54 (fun zm b1 V=>∃ (i:Nat) (q:O0) (d:Nat),b1=[(0,.slice gl ps.length cl),(1,.string ⟨s.toArray⟩),(4,S0),(5,V0 0),(6,.slice q i d),(7,V0 (↑(Jy ps i).sum:Int)),(12,.slice gl ps.length cl),(13,V0 (ps.length:Int)),(14,V0 (i:Int))]∧zm=ps.length-((i:Int)).toNat∧B0 w V∧V.ownsRow w.heap.size 3 1 (.slice q i d) i ((Jy ps i).map nv)∧i≤ps.length∧(Jy ps i).sum≤i*8) ⟨0,_,_,rfl,rfl,hB,World.ownsRow_nil _ _ _ _,Nat.zero_le _,Nat.zero_le _⟩ ?_
 rintro _ _ W1 ⟨i,q,d,rfl,rfl,a0,ho,hi,c1⟩ J1 b6 r1
 have b4:i<ps.length→(ps.getD i Yo).1≤8:=fun q=>by have:=(hps.2 i q).1;omega
 refine xid 6 ((i:Int)<(ps.length:Int)) (fun b2=>?_) (fun b2=>?_)
 ·refine xx 6 _ ps.length i 3 (Sts.cell hP Hp Yo (k:=i) (i:=0) (by omega) rfl).1 ?_
  refine xlv 0 (Sts.rp (k:=i) (hP.below a0) Hp Yo (by omega) (by decide)) ?_
  refine xa 0 [V0 0,V0 0,V0 0] 377 fun b3 W3 n3=>?_
  have g3:=n3.ge a0
  refine xsv 0 n3.blk [V0 (↑(ps.getD i Yo).1:Int),V0 ((ps.getD i Yo).2.1),V0 ((ps.getD i Yo).2.2)] fun W4 u4 k4=>?_
  refine xb 6 0 k4 ?_
  refine xbs 0 1 [V0 (↑(ps.getD i Yo).1:Int)] 3 fun b5 W5 n5=>?_
  have a2:=u4.below (bln a0 n3.below) g3
  have g5:=n5.ge a2
  have a4:=u4.own2 (Zb ho n3.below) n3.blk (by decide)
  have a9:=Zx a4 n5
  have a1:=Zb a4 n5.below
  have a3:=bln a2 n5.below
  refine xbi 0 fun _ _ _ _ zJ zQ zo zx zy zK=>Zw (m:=1) (news:=[V0 (↑(ps.getD i Yo).1:Int)]) (V0 0) 1 8 (i+1) (((Jy ps (i+1)).map nv)) zo Tryz.underlying33 (by kernel_rfl) rfl (by decide) zx a1 zy (n5.blk.sl 1 1 (by decide) (by decide)) rfl (by simp[Value.oneCell']) (by unfold maxLen;omega) (by omega) a3.size (by rfl) (by rw[Kg,List.map_append];rfl) fun c2 b9 W6 o6 b0 b8=>?_
  refine zK _ _ ?_
  have a5:=(k4.below n5.below).grown b0 a1 (by decide)
  refine xb 6 0 a5 ?_
  refine xwm 0 ((↑(Jy ps i).sum:Int)+(↑(ps.getD i Yo).1:Int)) (↑((Jy ps i).sum+((ps.getD i Yo).1)):Int) ?_
  refine xwm 5 ((i:Int)+1) (↑(i+1):Int) ?_
  refine xv1 2 7 (show(V0 (↑((Jy ps i).sum+((ps.getD i Yo).1)):Int):Value)=V0 (↑(Jy ps (i+1)).sum:Int) from by rw[Kg];simp) ?_
  have a6:=a3.trans b8
  exact ze 0 (b6 _ _ _ ⟨i+1,_,_,rfl,rfl,a6,o6,by omega,by rw[Kg,List.sum_append,List.sum_cons,List.sum_nil];have:=b4 (by omega);omega⟩ (by omega))
 refine xk 14 (show(((s.length:Int) != (↑(Jy ps i).sum:Int)):Bool)=true from bne_iff_ne.2 (by rw[show i=ps.length by omega];omega)) ?_
 refine xmk 4 fun _ _ _ _ zJ zQ zo zx zy zK=>Ma ps.length (V0 0) 1 8 ((List.replicate ps.length 0).map nv) zo zx zy Tryz.underlying33 (by kernel_rfl) rfl (by omega) (by omega) (Sa _) fun b7 W7 n7=>?_
 have g7:=n7.ge a0
 have a8:=Zx ho n7
 refine zK _ _ ?_
 have a7:=bln a0 n7.below
 have o7:=Xc (size:=1) (n:=ps.length) n7.blk g7 (by simp) (by unfold maxLen;omega)
 refine xe 6 (.tuple #[.slice (S1 b7) ps.length ps.length,V0 7]) ?_
 have he:Xt ps s=7:=if_neg hsl
 exact⟨_,rfl,a7,_,_,by rw[he],by rw[Qa,if_neg (by rw[he];decide)];exact o7⟩
def UnpP(s:Bl)(ws:List Nat)(n:Nat)(W:World)(e:Ending)(w':World):Prop :=
 ((¬ ∀ i,i<ws.length→(Km s 0 ws).getD i 0<9223372036854775808)∧e=.returned (.tuple #[S0,V0 2])∧B0 W w') ∨
 ((∀ i,i<ws.length→(Km s 0 ws).getD i 0<9223372036854775808)∧∃ p c,e=.returned (.tuple #[.slice p n c,V0 0])∧B0 W w'∧w'.ownsRow W.heap.size 3 1 (.slice p n c) n ((Km s 0 ws).map nv))
theorem Unpack_P(a:O0)(n c m:Nat)(s:Bl)(aw:O0)(cw:Nat)(ws:List Nat)(W:World)(hn:s.length=n)(hm:ws.length=m)(hk:∀ i,i<ws.length→ws.getD i 0=1∨ws.getD i 0=2∨ws.getD i 0=4∨ws.getD i 0=8)(hs:ws.sum≤n)(hl:n≤100000000)(hw:m≤1000)(h:Bys W (.slice a n c) s)(hws:Sl W (.slice aw m cw) m (ws.map nv)) :
 C0 259 #[.slice a n c,.slice aw m cw] W (UnpP s ws m W):=by
 subst hn hm
 by_cases hq:∀ i,i<ws.length→(Km s 0 ws).getD i 0<9223372036854775808
 ·refine(Ar a c s aw cw ws W hk hs hl hw h hws hq).mono ?_
  rintro e V ⟨_,rfl,hb,p,c2,rfl,ho⟩
  exact .inr ⟨hq,p,c2,rfl,hb,ho⟩
 ·refine(Zdk a c s aw cw ws W hk hs hl hw h hws hq).mono ?_
  rintro e V ⟨rfl,hb⟩
  exact .inl ⟨hq,rfl,hb⟩
theorem Zg2(ps:List Wk)(s:Bl)(k:Nat):((Km s 0 (Jy ps k)).map fun n:Nat=>(n:Int)).length=k:=by rw[List.length_map,Sd,Po]
theorem Zah(ps:List Wk)(N:List Int)(gl gn:O0)(cl cn n:Nat)(w:World)(hps:Gg ps)(hn:n=ps.length)(hNl:N.length=n)(hP:Sts Zel w (.slice gl ps.length cl) ps)(hN:Sl w (.slice gn n cn) n (N.map V0)) :
 C0 222 #[.slice gl ps.length cl,.slice gn n cn] w (fun e w'=>(Wu ps N n=false∧e=.returned (.string ⟨#[]⟩)∧B0 w w')∨(Wu ps N n=true∧e=.returned (.string ⟨(Zgk ps N ps.length).toArray⟩)∧B0 w w')):=by
 subst hn;exact Zdl ps N gl gn cl cn w hps hNl hP hN
theorem Eh(ps:List Wk)(s:Bl)(gl:O0)(cl:Nat)(w:World)(hps:Gg ps)(h0:0<ps.length)(hs:s.length≤100000)(hP:Sts Zel w (.slice gl ps.length cl) ps)(hsl:s.length=(Jy ps ps.length).sum) :
 C0 202 #[.slice gl ps.length cl,.string ⟨s.toArray⟩] w (Ko (fun w' r=>∃ p c,r=.tuple #[.slice p ps.length c,V0 (Xt ps s)]∧w'.ownsRow w.heap.size 3 1 (.slice p ps.length c) ps.length ((Qa ps s).map nv)) w):=by
 have f1:=hps.1
 refine zin 54 Tryz.func202 ?_
 have hB:=Below.refl w.heap.size w
 refine zl 25 54 (fun zm d7 V=>∃ (i:Nat) (q:O0) (d:Nat),d7=[(0,.slice gl ps.length cl),(1,.string ⟨s.toArray⟩),(4,S0),(5,V0 0),(6,.slice q i d),(7,V0 (↑(Jy ps i).sum:Int)),(12,.slice gl ps.length cl),(13,V0 (ps.length:Int)),(14,V0 (i:Int))]∧zm=ps.length-((i:Int)).toNat∧B0 w V∧V.ownsRow w.heap.size 3 1 (.slice q i d) i ((Jy ps i).map nv)∧i≤ps.length∧(Jy ps i).sum≤i*8) ⟨0,_,_,rfl,rfl,hB,World.ownsRow_nil _ _ _ _,Nat.zero_le _,Nat.zero_le _⟩ ?_
 rintro _ _ W1 ⟨i,q,d,rfl,rfl,a1,ho,hi,f2⟩ J1 e7 r1
 have e3:i<ps.length→(ps.getD i Yo).1≤8:=fun q=>by have:=(hps.2 i q).1;omega
 refine xid 6 ((i:Int)<(ps.length:Int)) (fun d8=>?_) (fun d8=>?_)
 ·refine xx 6 _ ps.length i 3 (Sts.cell hP Hp Yo (k:=i) (i:=0) (by omega) rfl).1 ?_
  refine xlv 0 (Sts.rp (k:=i) (hP.below a1) Hp Yo (by omega) (by decide)) ?_
  refine xa 0 [V0 0,V0 0,V0 0] 377 fun b3 W3 n3=>?_
  have g3:=n3.ge a1
  refine xsv 0 n3.blk [V0 (↑(ps.getD i Yo).1:Int),V0 ((ps.getD i Yo).2.1),V0 ((ps.getD i Yo).2.2)] fun W4 u4 k4=>?_
  refine xb 6 0 k4 ?_
  refine xbs 0 1 [V0 (↑(ps.getD i Yo).1:Int)] 3 fun b5 W5 n5=>?_
  have a8:=u4.below (bln a1 n3.below) g3
  have g5:=n5.ge a8
  have b4:=u4.own2 (Zb ho n3.below) n3.blk (by decide)
  have d5:=Zx b4 n5
  have a6:=Zb b4 n5.below
  have b2:=bln a8 n5.below
  refine xbi 0 fun _ _ _ _ zJ zQ zo zx zy zK=>Zw (m:=1) (news:=[V0 (↑(ps.getD i Yo).1:Int)]) (V0 0) 1 8 (i+1) (((Jy ps (i+1)).map nv)) zo Tryz.underlying33 (by kernel_rfl) rfl (by decide) zx a6 zy (n5.blk.sl 1 1 (by decide) (by decide)) rfl (by simp[Value.oneCell']) (by unfold maxLen;omega) (by omega) b2.size (by rfl) (by rw[Kg,List.map_append];rfl) fun f3 e9 W6 o6 d6 e0=>?_
  refine zK _ _ ?_
  have b8:=(k4.below n5.below).grown d6 a6 (by decide)
  refine xb 6 0 b8 ?_
  refine xwm 0 ((↑(Jy ps i).sum:Int)+(↑(ps.getD i Yo).1:Int)) (↑((Jy ps i).sum+((ps.getD i Yo).1)):Int) ?_
  refine xwm 5 ((i:Int)+1) (↑(i+1):Int) ?_
  refine xv1 2 7 (show(V0 (↑((Jy ps i).sum+((ps.getD i Yo).1)):Int):Value)=V0 (↑(Jy ps (i+1)).sum:Int) from by rw[Kg];simp) ?_
  have c4:=b2.trans e0
  exact ze 0 (e7 _ _ _ ⟨i+1,_,_,rfl,rfl,c4,o6,by omega,by rw[Kg,List.sum_append,List.sum_cons,List.sum_nil];have:=e3 (by omega);omega⟩ (by omega))
 refine xk 14 (show(((s.length:Int) != (↑(Jy ps i).sum:Int)):Bool)=false from by rw[show i=ps.length by omega,hsl];simp) ?_
 refine xcf 5 fun _ _ _ zJ zQ zo zx zK=>Vf s zo zx Tryz.underlying9 Tryz.underlying40 Tryz.underlying5 (by omega) ?_
 intro bz cz W7 b6 e5
 refine zK _ _ ?_
 have a3:=Zb ho b6
 refine xc 1 (args:=#[.slice (S1 bz) s.length cz,.slice q i d]) (Unpack_P (S1 bz) s.length cz i s q d (Jy ps i) _ rfl (Po ps i) (fun j hj=>by rw[Po] at hj;rw[wids_get ps hj];have:=(hps.2 j (by omega)).1;omega) (by rw[show i=ps.length by omega];omega) (by omega) (by omega) e5 (Zh a3)) ?_
 rintro e W8 d9
 rcases d9 with ⟨hq,rfl,a9⟩|⟨hq,p5,c5,rfl,a9,h5⟩
 ·have a5:i=ps.length:=by omega
  have c7:Hk ps s=false:=by rw[←Bool.not_eq_true];intro q;exact hq (by rw[a5];exact Zhb hps q)
  refine xmk 25 fun _ _ _ _ zJ zQ zo zx zy zK=>Ma ps.length (V0 0) 1 8 ((List.replicate ps.length 0).map nv) zo zx zy Tryz.underlying33 (by kernel_rfl) rfl (by omega) (by omega) (Sa _) fun b9 W9 n9=>?_
  have b1:=bln (bln a1 b6) a9
  have g9:=n9.ge b1
  have c3:=Zb a3 a9
  have d4:=Zx c3 n9
  refine zK _ _ ?_
  have d3:=bln b1 n9.below
  have o9:=Xc (size:=1) (n:=ps.length) n9.blk g9 (by simp) (by unfold maxLen;omega)
  refine xe 6 (.tuple #[.slice (S1 b9) ps.length ps.length,V0 2]) ?_
  have he:Xt ps s=2:=by unfold Xt;rw[if_pos hsl,if_neg (by rw[c7];decide)]
  exact⟨_,rfl,d3,_,_,by rw[he],by rw[Qa,if_neg (by rw[he];decide)];exact o9⟩
 have e2:=(bln a1 b6).size
 have a5:i=ps.length:=by omega
 have a2:=Zg h5 e2
 have e1:Sl (W8) (.slice p5 i c5) i (((Km s 0 (Jy ps i)).map fun n:Nat=>(n:Int)).map V0):=by have q:=Zh a2;rw[map_nv] at q;exact q
 have a4:=bln (bln a1 b6) a9
 refine xc 15 (args:=#[.slice gl ps.length cl,.slice p5 i c5]) (Zah ps ((Km s 0 (Jy ps i)).map fun n:Nat=>(n:Int)) gl p5 cl c5 i _ hps a5 (Zg2 ps s i) (hP.below a4) e1) ?_
 rintro e f4 b7
 rcases b7 with ⟨c9,rfl,a0⟩|⟨c9,rfl,a0⟩
 ·have c7:Hk ps s=false:=by unfold Hk Wh;rw[←a5];exact c9
  refine xmk 9 fun _ _ _ _ zJ zQ zo zx zy zK=>Ma ps.length (V0 0) 1 8 ((List.replicate ps.length 0).map nv) zo zx zy Tryz.underlying33 (by kernel_rfl) rfl (by omega) (by omega) (Sa _) fun e8 f0 a7=>?_
  have b0:=bln a4 a0
  have e4:=a7.ge b0
  have c8:=Zb (Zb a3 a9) a0
  have c6:=Zx c8 a7
  have d0:=Zb a2 a0
  have c2:=Zx d0 a7
  refine zK _ _ ?_
  have d2:=bln b0 a7.below
  have e6:=Xc (size:=1) (n:=ps.length) a7.blk e4 (by simp) (by unfold maxLen;omega)
  refine xe 6 (.tuple #[.slice (S1 e8) ps.length ps.length,V0 2]) ?_
  have he:Xt ps s=2:=by unfold Xt;rw[if_pos hsl,if_neg (by rw[c7];decide)]
  exact⟨_,rfl,d2,_,_,by rw[he],by rw[Qa,if_neg (by rw[he];decide)];exact e6⟩
 have c0:Hk ps s=true:=by unfold Hk Wh;rw[←a5];exact c9
 refine xk 4 (show(((⟨(Zgk ps ((Km s 0 (Jy ps i)).map fun n:Nat=>(n:Int)) ps.length).toArray⟩:ByteArray).toList==(⟨#[]⟩:ByteArray).toList):Bool)=false from putL_ne hps h0) ?_
 have d1:=bln a4 a0
 have c1:=Zb a2 a0
 refine xe 10 (.tuple #[.slice p5 i c5,V0 0]) ?_
 have he:Xt ps s=0:=by unfold Xt;rw[if_pos hsl,if_pos c0]
 subst a5
 exact⟨_,rfl,d1,_,_,by rw[he],by rw[Qa,if_pos he];exact c1⟩
theorem Cj(ps:List Wk)(s:Bl)(gl:O0)(cl:Nat)(w:World)(hps:Gg ps)(h0:0<ps.length)(hs:s.length≤100000)(hP:Sts Zel w (.slice gl ps.length cl) ps) :
 C0 202 #[.slice gl ps.length cl,.string ⟨s.toArray⟩] w (Ko (fun w' r=>∃ p c,r=.tuple #[.slice p ps.length c,V0 (Xt ps s)]∧w'.ownsRow w.heap.size 3 1 (.slice p ps.length c) ps.length ((Qa ps s).map nv)) w):=by
 by_cases h:s.length=(Jy ps ps.length).sum
 ·exact Eh ps s gl cl w hps h0 hs hP h
 ·exact Ct ps s gl cl w hps h0 hs hP h
def Vn:List Wk:=[(8,0,1099511627775)]
theorem mapP_ok:Gg Vn:=by
 refine⟨by decide,fun i hi=>?_⟩
 have a0:i<1:=hi
 obtain rfl:i=0:=by omega
 simp[Vn,List.getD]
def Ky:List Wk:=[(8,0,16384),(8,0,2147483647),(4,0,16777215),(4,0,16777215)]
theorem detP_ok:Gg Ky:=by
 refine⟨by decide,fun i hi=>?_⟩
 have a0:i<4:=hi
 obtain rfl|rfl|rfl|rfl:i=0∨i=1∨i=2∨i=3:=by omega
 all_goals simp[Ky,List.getD]
abbrev Mp:=Int×Int×Int
def Hs(m:Mp):List Value:=[V0 m.1,V0 m.2.1,V0 m.2.2]
theorem Lz(m:Mp):(Hs m).length=3:=rfl
abbrev Dv:=(Int×Int×Int×Int)×List Mp
def Kt(L:List Dv):Nat:=(L.map fun d=>d.2.length).sum
def Zae(v:Bl):Nat:=(Qa Vn v).getD 0 0
def Mb(v:Bl):Nat:=Zae v/16777216
def Ef(v:Bl):Nat:=Zae v%16777216
theorem mapN_bd(v:Bl):Zae v≤1099511627775:=by
 unfold Zae Qa
 by_cases h:Xt Vn v=0
 ·rw[if_pos h]
  unfold Xt at h
  split at h
  ·split at h
   ·rename_i h1 h2
    unfold Hk Wu at h2
    rw[List.all_eq_true] at h2
    have h3:=of_decide_eq_true (h2 0 (List.mem_range.2 (by decide)))
    rw[show((Wh Vn v).map fun n:Nat=>(n:Int)).getD 0 0=(((Wh Vn v).getD 0 0:Nat):Int) by simp[List.getD,show 0<(Wh Vn v).length by rw[Bw];decide]] at h3
    have h4:(((Wh Vn v).getD 0 0:Nat):Int)≤1099511627775:=h3.2
    omega
   ·simp at h
  ·simp at h
 ·rw[if_neg h];decide
def Vj(data:Int)(v:Bl):Int:=if Xt Vn v≠0 then Xt Vn v else if data≤(Mb v:Int) then 2 else 0
def Xu(v:Bl)(i:Nat):Nat:=(Qa Ky v).getD i 0
def mpD:Mp:=(0,0,0)
end Go.Proofs.YtegcamkgeacjfaaGreatDoor
namespace Go.Proofs.YtegcamkgeacjfaaGreatDoor
set_option maxHeartbeats 8000000
set_option maxRecDepth 100000
open Go.RowKit Go.Extern.Stop Go.Stop Go.Extern
set_option linter.unusedVariables false
attribute [local irreducible] wpList wpAnyH Code.wp Oper.wp Go
section
variable {P:Program} {a:Act}
end
theorem Get_okN(a:O0)(n c k w:Nat)(ki wi:Int)(l:Bl)(W:World)(hn:l.length=n)(hki:ki=(k:Int))(hwi:wi=(w:Int))(hw:w=1∨w=2∨w=4)(hk:k+w≤n)(hl:n≤100000000)(h:Bys W (.slice a n c) l) :
 C0 131 #[.slice a n c,V0 ki,V0 wi] W (Ret (.tuple #[V0 (Zl l k w:Int),V0 0]) W):=by
 subst hn hki hwi;exact Zce a c k w l W (by omega) hk hl h (by have:=Yl l k w (by omega);omega)
theorem Bf(n k:Nat)(hn:n<9223372036854775808)(hk:0<k):IntKind.i64.wrap (Int.tdiv (n:Int) (k:Int))=((n/k:Nat):Int):=by
 rw[Int.tdiv_eq_ediv_of_nonneg (Int.natCast_nonneg _),←Int.natCast_ediv]
 exact Jb (Nat.lt_of_le_of_lt (Nat.div_le_self _ _) hn)
theorem Tf(n k:Nat):Int.tmod (n:Int) (k:Int)=((n%k:Nat):Int):=by
 rw[Int.tmod_eq_emod_of_nonneg (Int.natCast_nonneg _),←Int.natCast_emod]
end Go.Proofs.YtegcamkgeacjfaaGreatDoor
namespace Go.Proofs.YtegcamkgeacjfaaGreatDoor
set_option maxHeartbeats 8000000
set_option maxRecDepth 100000
open Go.RowKit
theorem Blk.ty{w:World}{b:Nat}{cs cs':List Value}{t t':TypeId}(k:Blk w b cs t)(q:Blk w b cs' t'):t=t':=by
 have h1:w.heap[b]? = some (.cells cs.toArray t (0,0)):=k
 have h2:w.heap[b]? = some (.cells cs'.toArray t' (0,0)):=q
 rw[h1] at h2
 simp only[Option.some.injEq,Obj.cells.injEq] at h2
 exact h2.2.1
theorem Kl.upd{w W:World}{b:Nat}{cs:List Value}{t:TypeId}{l:List (Option Int)}{c:Option Int}{v:Value}(h:Kl w l c v)(u:Upd w b W)(k:Blk w b cs t)(hne:t≠188):Kl W l c v :=
 h.kept fun _ _ q=>u.blk q (by rintro rfl;exact hne (k.ty q))
theorem Kl.grown{w W:World}{e:TypeId}{base size n:Nat}{s:Value}{xs:List Value}{l:List (Option Int)}{c:Option Int}{v:Value}(h:Kl w l c v)(hg:w.grownBy W s.ownBlock)(hown:w.ownsRow base e size s n xs)(hne:e≠188):Kl W l c v :=
 h.kept fun _ _ q=>q.grown hg hown hne
theorem Kl.only{T:List TypeId}{w W:World}{l:List (Option Int)}{c:Option Int}{v:Value}(h:Kl w l c v)(k:Ze T w W)(hne:T.contains 188=false):Kl W l c v:=h.kept fun _ _ q=>q.only k hne
end Go.Proofs.YtegcamkgeacjfaaGreatDoor
namespace Go.Proofs.YtegcamkgeacjfaaGreatDoor
set_option maxHeartbeats 8000000
set_option maxRecDepth 100000
open Go.RowKit Go.Extern.Stop Go.Stop Go.Extern
set_option linter.unusedVariables false
attribute [local irreducible] wpList wpAnyH Code.wp Oper.wp Go
structure ImgR(B b:Nat)(p:Option Addr)(n c:Nat)(l:List UInt8)(w:World):Prop where
 blk:Blk w b [.slice p n c] 95
 row:w.ownsRow B 5 1 (.slice p n c) n (l.map bv)
 hn:n≤3686400
theorem ImgR.below{B b:Nat}{p:O0}{n c:Nat}{l:Bl}{w W:World}(h:ImgR B b p n c l w)(hb:B0 w W):ImgR B b p n c l W:=⟨h.blk.below hb,Zb h.row hb,h.hn⟩
theorem ImgR.only{B b:Nat}{p:O0}{n c:Nat}{l:Bl}{w W:World}{T:List TypeId}(h:ImgR B b p n c l w)(hO:Ze T w W)(hT:T.contains 95=false∧T.contains 5=false):ImgR B b p n c l W:=⟨h.blk.only hO hT.1,Zn h.row hO hT.2,h.hn⟩
theorem ImgR.len{B b:Nat}{p:O0}{n c:Nat}{l:Bl}{w:World}(h:ImgR B b p n c l w):l.length=n:=by have:=h.row.1;simpa using this
theorem ImgR.base{B b:Nat}{p:O0}{n c:Nat}{l:Bl}{w:World}(h:ImgR B b p n c l w)(hn:0<n):∃ g,p=some ⟨g,0,none⟩∧n≤c:=by
 rcases h.row.2 with ⟨_,h0⟩|⟨g,a0,a1,hv,_,_,hc,_⟩
 ·omega
 ·simp only[Value.slice.injEq] at hv
  obtain⟨rfl,_,rfl⟩:=hv
  exact⟨g,rfl,hc⟩
def Jw(l:Bl)(j:Nat):Bl:=(l.drop (j*256)).take 256
theorem Gf{l:Bl}{j:Nat}(h:j<l.length/256):(Jw l j).length=256:=by simp[Jw];omega
theorem Bys.mid{w:World}{g off n c:Nat}{l:Bl}(h:Bys w (.slice (some ⟨g,off,none⟩) n c) l)(hl:l.length=n)(k m:Nat)(hm:0<m)(hk:k+m≤n):Bys w (.slice (some ⟨g,off+k,none⟩) m m) ((l.drop k).take m):=by
 have a0:((l.drop k).take m).length=m:=by simp;omega
 rcases h with ⟨a',c',h1,h2,h3⟩|⟨g',a1,a2,h1,h2,h3,h4⟩
 ·omega
 ·simp only[Value.slice.injEq,Option.some.injEq,Addr.mk.injEq] at h1
  obtain⟨⟨rfl,rfl,_⟩,_,rfl⟩:=h1
  refine .inr ⟨g,off+k,m,by rw[a0],by omega,by omega,fun j x hj=>?_⟩
  rw[List.getElem?_map,List.getElem?_take] at hj
  split at hj
  ·rw[List.getElem?_drop] at hj
   have:=h4 (k+j) x (by rw[List.getElem?_map];exact hj)
   rwa [←Nat.add_assoc] at this
  ·cases hj
theorem ImgR.part{B b g:Nat}{n c:Nat}{l:Bl}{w:World}(h:ImgR B b (S1 g) n c l w){j:Nat}(hj:j<n/256):Bys w (.slice (some ⟨g,j*256,none⟩) 256 256) (Jw l j):=by
 have:=Bys.mid (Gp (Zh h.row) h.len) h.len (j*256) 256 (by decide) (by omega)
 rwa [Nat.zero_add] at this
def ReadP(n:Nat)(l:Bl)(k:Int)(w:World)(e:Ending)(w':World):Prop :=
 (¬ (0≤k∧k<(n/256:Nat))∧∃ v,e=.returned (.tuple #[v,V0 3])∧B0 w w') ∨
 (∃ j:Nat,k=(j:Int)∧j<n/256∧∃ p c,e=.returned (.tuple #[.slice p 256 c,V0 0])∧B0 w w'∧w'.ownsRow w.heap.size 5 1 (.slice p 256 c) 256 ((Jw l j).map bv))
theorem Co(b:Nat)(p:O0)(n c:Nat)(k:Int)(w:World)(hk:Blk w b [.slice p n c] 95)(hn:n≤100000000)(ho:¬ (0≤k∧k<(n/256:Nat))) :
 C0 65 #[P0 b,V0 k] w (Ret (.tuple #[S0,V0 3]) w):=by
 refine zin 33 Tryz.func65 ?_
 refine xg 21 [13,14] (decide (k<(0:Int))) (fun a0=>?_) (fun a0=>?_)
 ·have a0:=of_decide_eq_true a0
  exact xe 18 (.tuple #[S0,V0 3]) ⟨rfl,(B1 w)⟩
 have a0:=of_decide_eq_false a0
 refine xr 2 (args:=#[P0 b]) (Gu b _ n c _ (hk.below (B1 w)) hn) fun W2 a1=>?_
 refine xk 5 (show(decide (k≥(↑(n/256):Int)):Bool)=true from decide_eq_true (by omega)) ?_
 exact xe 9 (.tuple #[S0,V0 3]) ⟨rfl,a1⟩
theorem Eb(B b:Nat)(p:O0)(n c:Nat)(l:Bl)(k:Int)(w:World)(hI:ImgR B b p n c l w)(ho:¬ (0≤k∧k<(n/256:Nat))) :
 C0 26 #[P0 b,V0 k] w (Ko (fun _ r=>∃ v,r=.tuple #[v,V0 3]) w):=by
 refine zin 17 Tryz.func26 ?_
 refine xr 10 (args:=#[P0 b,V0 k]) (Co b p n c k _ (hI.below (B1 w)).blk (by have:=hI.hn;omega) ho) fun W1 a1=>?_
 refine xc 10 (args:=#[S0]) (Ij 0 _) ?_
 rintro _ W2 ⟨v2,rfl,a0,_⟩
 have hB:=bln a1 a0
 exact xe 6 (.tuple #[v2,V0 3]) ⟨_,rfl,hB,_,rfl⟩
theorem Sn(B b g:Nat)(n c:Nat)(l:Bl)(j:Nat)(w:World)(hI:ImgR B b (S1 g) n c l w)(hj:j<n/256)(hc:n≤c) :
 C0 26 #[P0 b,V0 (j:Int)] w (Ko (fun w' r=>∃ p2 c3,r=.tuple #[.slice p2 256 c3,V0 0]∧w'.ownsRow w.heap.size 5 1 (.slice p2 256 c3) 256 ((Jw l j).map bv)) w):=by
 have a3:=Gf (l:=l) (j:=j) (by rw[hI.len];exact hj)
 refine zin 17 Tryz.func26 ?_
 refine xr 10 (args:=#[P0 b,V0 (j:Int)]) (Zai b g n c j _ (hI.below (B1 w)).blk (by have:=hI.hn;omega) hc hj) fun W1 a2=>?_
 refine xc 10 (args:=#[.slice (some ⟨g,(j*256),none⟩) 256 256]) (Kk (some ⟨g,(j*256),none⟩) 256 256 (Jw l j) _ a3 ((hI.below a2).part hj) (by decide)) ?_
 rintro _ W2 ⟨_,rfl,a4,ho⟩
 have a0:=Zg ho a2.size
 unfold Oa at a0
 rw[a3] at a0
 obtain⟨p2,c3,rfl⟩:=(Zh a0).slice
 have a1:=bln a2 a4
 exact xe 6 (.tuple #[.slice p2 256 c3,V0 0]) ⟨_,rfl,a1,_,_,rfl,a0⟩
theorem Ff(B b:Nat)(p:O0)(n c:Nat)(l:Bl)(k:Int)(w:World)(hI:ImgR B b p n c l w) :
 C0 26 #[P0 b,V0 k] w (ReadP n l k w):=by
 by_cases h:0≤k∧k<(n/256:Nat)
 ·obtain⟨g,rfl,hc⟩:=hI.base (by omega)
  obtain⟨j,rfl⟩:∃ j:Nat,k=j:=⟨k.toNat,by omega⟩
  refine(Sn B b g n c l j w hI (by omega) hc).mono ?_
  rintro e W ⟨_,rfl,hb,p2,c3,rfl,ho⟩
  exact .inr ⟨j,rfl,by omega,_,_,rfl,hb,ho⟩
 ·refine(Eb B b p n c l k w hI h).mono ?_
  rintro e W ⟨_,rfl,hb,v,rfl⟩
  exact .inl ⟨h,_,rfl,hb⟩
def inE (l:Bl)(kind no:Int):Int:=if 0≤no∧no<(l.length/256:Nat) then Yk kind no (Jw l no.toNat) else 3
def inB (l:Bl)(no:Int):Bl:=((Jw l no.toNat).drop 8).take 244
theorem Db{l:Bl}{kind no:Int}{n:Nat}(hl:l.length=n)(h:¬ (0≤no∧no<(n/256:Nat))):inE l kind no=3:=by subst hl;exact if_neg h
theorem inE_in{l:Bl}{kind no:Int}{n j:Nat}(hl:l.length=n)(hk:no=(j:Int))(h:j<n/256):inE l kind no=Yk kind no (Jw l j):=by
 subst hl hk;rw[inE,if_pos ⟨by omega,by omega⟩];rfl
theorem Zf6{l:Bl}{no:Int}{j:Nat}(hk:no=(j:Int)):inB l no=((Jw l j).drop 8).take 244:=by subst hk;rfl
theorem Zho{l:Bl}{no:Int}{n j:Nat}(hl:l.length=n)(hk:no=(j:Int))(h:j<n/256):(inB l no).length=244:=by
 subst hl hk;have:=Gf h;simp[inB,this]
theorem Fs{kind no:Int}(h:Kj kind no=true):1≤kind∧kind≤4∧0≤no∧no<14400:=of_decide_eq_true h
theorem Zfh(a b:Nat):Hj (a ^^^ b)=Hj a ^^^ Hj b:=by
 have e:∀ r,Hj r=(r/2) ^^^ (if r%2=1 then 2197175160 else 0):=fun r=>by unfold Hj;split<;>simp
 rw[e,e,e,Nat.xor_div_two]
 have hp:=Nat.xor_mod_two_eq_one (a:=a) (b:=b)
 by_cases h1:a%2=1<;>by_cases h2:b%2=1
 ·rw[if_neg (by rw[hp];simp[h1,h2]),if_pos h1,if_pos h2,Nat.xor_zero]
  rw[show a/2 ^^^ 2197175160 ^^^ (b/2 ^^^ 2197175160)=a/2 ^^^ b/2 ^^^ (2197175160 ^^^ 2197175160) by ac_rfl];simp
 ·rw[if_pos (by rw[hp];simp[h1,h2]),if_pos h1,if_neg h2,Nat.xor_zero];ac_rfl
 ·rw[if_pos (by rw[hp];simp[h1,h2]),if_neg h1,if_pos h2,Nat.xor_zero];ac_rfl
 ·rw[if_neg (by rw[hp];simp[h1,h2]),if_neg h1,if_neg h2,Nat.xor_zero,Nat.xor_zero,Nat.xor_zero]
theorem Zfe(n a b:Nat):Yc n (a ^^^ b)=Yc n a ^^^ Yc n b:=by
 induction n with
 | zero=>rfl
 | succ n ih=>rw[Yc,ih,Zfh];rfl
theorem Wb(q:Nat):Hj (2*q)=q:=by unfold Hj;rw[if_neg (by omega)];omega
theorem stepN_16(q:Nat):Yc 4 (16*q)=q:=by
 show Hj (Hj (Hj (Hj (16*q))))=q
 rw[show 16*q=2*(2*(2*(2*q))) by omega,Wb,Wb,Wb,Wb]
theorem split16(r:Nat):r=(16*(r/16)) ^^^ (r%16):=by
 apply Nat.eq_of_testBit_eq
 intro i
 rw[Nat.testBit_xor,show 16*(r/16)=2 ^ 4*(r/2 ^ 4) from rfl,Nat.testBit_two_pow_mul,Nat.testBit_div_two_pow,show r%16=r%2 ^ 4 from rfl,Nat.testBit_mod_two_pow]
 by_cases h:4≤i
 ·rw[show i-4+4=i by omega,show decide (i≥4)=true from decide_eq_true h,show decide (i<4)=false from decide_eq_false (by omega)];simp
 ·rw[show decide (i≥4)=false from decide_eq_false h,show decide (i<4)=true from decide_eq_true (by omega)];simp
theorem Zfk(r:Nat):Yc 4 r=(r/16) ^^^ Ww (r%16):=by
 conv=>lhs;rw[split16 r]
 rw[Zfe,stepN_16];rfl
theorem Zgt(m n r:Nat):Yc (m+n) r=Yc m (Yc n r):=by
 induction m with
 | zero=>simp[Yc]
 | succ m ih=>rw[Nat.succ_add,Yc,ih];rfl
theorem Zgj(r:Nat)(x:UInt8):Ss r x=Yc 8 (r ^^^ x.toNat):=by
 show _=Yc (4+4) (r ^^^ x.toNat)
 rw[Zgt,Zfk,Zfk];rfl
theorem Zgl{r:Nat}(h:r%2=1):Hj r=(r/2) ^^^ 2197175160:=if_pos h
theorem step1_ev{r:Nat}(h:¬ r%2=1):Hj r=r/2:=if_neg h
theorem ref_Step(r:Nat)(w:World)(hr:r<4294967296) :
 C0 299 #[V0 (r:Int)] w (Ret (V0 (Yc 8 r:Int)) w):=by
 refine zin 18 Tryz.func299 ?_
 have hB:=Below.refl w.heap.size w
 refine zl 12 18 (fun zm a2 V=>∃ (j:Nat),a2=[(0,V0 (↑(Yc j r):Int)),(2,V0 0),(3,V0 (j:Int))]∧zm=8-((j:Int)).toNat∧B0 w V∧j≤8) ⟨0,rfl,rfl,hB,by decide⟩ ?_
 rintro _ _ W1 ⟨j,rfl,rfl,a0,hj⟩ J1 a1 r1
 refine xid 7 ((j:Int)<(8:Int)) (fun a4=>?_) (fun a4=>?_)
 ·refine xq 7 (congrArg V0 (show(Int.tmod (↑(Yc j r):Int) 2:Int)=(↑((Yc j r)%2):Int) from Tf (Yc j r) 2)) ?_
  refine xq 7 (congrArg V0 (show(IntKind.i64.wrap (Int.tdiv (↑(Yc j r):Int) 2):Int)=(↑((Yc j r)/2):Int) from Bf (Yc j r) 2 (by have:=Bj (j:=j) hr;omega) (by decide))) ?_
  refine xie 8 (↑((Yc j r)%2):Int) (1:Int) (fun a3=>?_) (fun a3=>?_)
  ·refine xq 2 (congrArg V0 (show(IntKind.i64.wrap (↑(BitVec.ofInt 64 (↑((Yc j r)/2):Int) ^^^ BitVec.ofInt 64 (2197175160:Int)).toNat:Int):Int)=(↑(((Yc j r)/2) ^^^ 2197175160):Int) from Cd (a:=(Yc j r)/2) (b:=2197175160) (by have:=Bj (j:=j) hr;omega) (by decide))) ?_
   refine xwm 6 ((j:Int)+1) (↑(j+1):Int) ?_
   refine xv1 2 0 (show(V0 (↑(((Yc j r)/2) ^^^ 2197175160):Int):Value)=V0 (↑(Yc (j+1) r):Int) from by rw[show Yc (j+1) r=Hj (Yc j r) from rfl,Zgl (by omega)]) ?_
   exact ze 0 (a1 _ _ _ ⟨j+1,rfl,rfl,a0,by omega⟩ (by omega))
  refine xwm 5 ((j:Int)+1) (↑(j+1):Int) ?_
  refine xv1 2 0 (show(V0 (↑((Yc j r)/2):Int):Value)=V0 (↑(Yc (j+1) r):Int) from by rw[show Yc (j+1) r=Hj (Yc j r) from rfl,step1_ev (by omega)]) ?_
  exact ze 0 (a1 _ _ _ ⟨j+1,rfl,rfl,a0,by omega⟩ (by omega))
 refine xe 12 (V0 (↑(Yc j r):Int)) ?_
 obtain rfl:j=8:=by omega
 exact⟨rfl,a0⟩
theorem ref_More(a:O0)(c:Nat)(l:Bl)(w:World)(hl:l.length≤100000000)(h:Bys w (.slice a l.length c) l) :
 C0 277 #[V0 0,.slice a l.length c] w (Ret (V0 (Jq l:Int)) w):=by
 refine zin 31 Tryz.func277 ?_
 have hB:=Below.refl w.heap.size w
 refine zl 33 31 (fun zm a2 V=>∃ (i:Nat),a2=[(1,.slice a l.length c),(4,V0 0),(5,V0 (↑(Xh 4294967295 (l.take i)):Int)),(6,V0 (i:Int))]∧zm=l.length-((i:Int)).toNat∧B0 w V∧i≤l.length) ⟨0,rfl,rfl,hB,Nat.zero_le _⟩ ?_
 rintro _ _ W1 ⟨i,rfl,rfl,a0,hi⟩ J1 a5 r1
 refine xid 9 ((i:Int)<(l.length:Int)) (fun a3=>?_) (fun a3=>?_)
 ·refine xx 8 _ l.length i 1 (Bys.elem h (k:=i) (by omega)).1 ?_
  refine xl 0 ((Bys.elem (h.below a0) (k:=i) (by omega)).2) ?_
  refine xq 0 (congrArg V0 (show(IntKind.i64.wrap (↑(l.getD i 0).toNat:Int):Int)=(↑(l.getD i 0).toNat:Int) from Jb (by have:=(l.getD i 0).toNat_lt;omega))) ?_
  refine xq 0 (congrArg V0 (show(IntKind.i64.wrap (↑(BitVec.ofInt 64 (↑(Xh 4294967295 (l.take i)):Int) ^^^ BitVec.ofInt 64 (↑(l.getD i 0).toNat:Int)).toNat:Int):Int)=(↑((Xh 4294967295 (l.take i)) ^^^ (l.getD i 0).toNat):Int) from Cd (Hd (by decide) _) (Zee _))) ?_
  refine xr 0 (args:=#[V0 (↑((Xh 4294967295 (l.take i)) ^^^ (l.getD i 0).toNat):Int)]) (ref_Step ((Xh 4294967295 (l.take i)) ^^^ (l.getD i 0).toNat) _ (Nat.xor_lt_two_pow (n:=32) (Hd (by decide) _) (Zee _))) fun W3 a4=>?_
  refine xwm 6 ((i:Int)+1) (↑(i+1):Int) ?_
  refine xv1 2 5 (show(V0 (↑(Yc 8 ((Xh 4294967295 (l.take i)) ^^^ (l.getD i 0).toNat)):Int):Value)=V0 (↑(Xh 4294967295 (l.take (i+1))):Int) from by rw[Bv (by omega),Zgj]) ?_
  have a1:=bln a0 a4
  exact ze 0 (a5 _ _ _ ⟨i+1,rfl,rfl,a1,by omega⟩ (by omega))
 refine xq 8 (congrArg V0 (show(IntKind.i64.wrap (↑(BitVec.ofInt 64 (↑(Xh 4294967295 (l.take i)):Int) ^^^ BitVec.ofInt 64 (4294967295:Int)).toNat:Int):Int)=(↑((Xh 4294967295 (l.take i)) ^^^ 4294967295):Int) from Cd (b:=4294967295) (Hd (by decide) _) (by decide))) ?_
 refine xe 4 (V0 (↑((Xh 4294967295 (l.take i)) ^^^ 4294967295):Int)) ?_
 obtain rfl:i=l.length:=by omega
 rw[List.take_length]
 exact⟨rfl,a0⟩
theorem ref_Sum(a:O0)(c:Nat)(l:Bl)(w:World)(hl:l.length≤100000000)(h:Bys w (.slice a l.length c) l) :
 C0 249 #[.slice a l.length c] w (Ret (V0 (Jq l:Int)) w):=by
 refine zin 5 Tryz.func249 ?_
 refine xr 8 (args:=#[V0 0,.slice a l.length c]) (ref_More a c l _ hl (h.below (B1 w))) fun W1 a0=>?_
 exact xe 4 (V0 (↑(Jq l):Int)) ⟨rfl,a0⟩
theorem ref_SumN(a:O0)(n c:Nat)(l:Bl)(w:World)(hn:l.length=n)(hl:n≤100000000)(h:Bys w (.slice a n c) l):C0 249 #[.slice a n c] w (Ret (V0 (Jq l:Int)) w):=by
 subst hn;exact ref_Sum a c l w hl h
theorem leB_snoc(n:Int)(w:Nat):leB n (w+1)=leB n w++[Xf n w]:=by simp[leB,List.range_succ]
theorem u8_byteAt(m i:Nat):IntKind.u8.wrap (((m/256 ^ i)%256:Nat):Int)=((Xf (m:Int) i).toNat:Int):=by
 rw[Zgw (Int.natCast_nonneg _)]
 unfold Xf
 simp only[Int.toNat_natCast,Nat.pow_zero,Nat.div_one]
 congr 2
 apply UInt8.toNat_inj.1
 simp[UInt8.toNat_ofNat']
theorem Zhd(m w:Nat)(W:World)(hm:m<9223372036854775808)(hw:w≤8) :
 C0 91 #[V0 (m:Int),V0 (w:Int)] W (Ko (fun W' r=>∃ p c,r=.slice p w c∧W'.ownsRow W.heap.size 5 1 (.slice p w c) w ((leB (m:Int) w).map bv)) W):=by
 refine zin 21 Tryz.func91 ?_
 refine xv1 17 0 (show(V0 (m:Int):Value)=V0 ((m/256 ^ 0:Nat):Int) from by rw[Nat.pow_zero,Nat.div_one]) ?_
 have hB:=Below.refl W.heap.size W
 refine zl 0 21 (fun zm a5 V=>∃ (i:Nat) (p:O0) (c:Nat),a5=[(0,V0 (↑(m/256 ^ i):Int)),(1,V0 (w:Int)),(4,S0),(5,.slice p i c),(6,V0 (i:Int))]∧zm=w-((i:Int)).toNat∧B0 W V∧V.ownsRow W.heap.size 5 1 (.slice p i c) i ((leB (m:Int) i).map bv)∧i≤w) ⟨0,_,_,rfl,rfl,hB,World.ownsRow_nil _ _ _ _,Nat.zero_le _⟩ ?_
 rintro _ _ W1 ⟨i,p,c,rfl,rfl,a0,ho,hi⟩ J1 a7 r1
 refine xid 8 ((i:Int)<(w:Int)) (fun a6=>?_) (fun a6=>?_)
 ·refine xq 8 (congrArg V0 (show(Int.tmod (↑(m/256 ^ i):Int) 256:Int)=(↑((m/256 ^ i)%256):Int) from Tf (m/256 ^ i) 256)) ?_
  refine xq 0 (congrArg (Value.int .u8) (show(IntKind.u8.wrap (↑((m/256 ^ i)%256):Int):Int)=(↑(Xf (m:Int) i).toNat:Int) from u8_byteAt m i)) ?_
  refine xbs 0 1 [.int .u8 (↑(Xf (m:Int) i).toNat:Int)] 5 fun b3 W3 n3=>?_
  have g3:=n3.ge a0
  have a4:=Zx ho n3
  have a3:=Zb ho n3.below
  have a1:=bln a0 n3.below
  refine xbi 0 fun _ _ _ _ zJ zQ zo zx zy zK=>Zw (m:=1) (news:=[.int .u8 (↑(Xf (m:Int) i).toNat:Int)]) (.int .u8 0) 1 1 (i+1) ((leB (m:Int) (i+1)).map bv) zo Tryz.underlying40 (by kernel_rfl) rfl (by decide) zx a3 zy (n3.blk.sl 1 1 (by decide) (by decide)) rfl (by simp[Value.oneCell']) (by unfold maxLen;omega) (by omega) a1.size (by rfl) (by rw[leB_snoc,List.map_append];rfl) fun b1 a9 W4 o4 b0 a8=>?_
  refine zK _ _ ?_
  refine xq 5 (congrArg V0 (show(IntKind.i64.wrap (Int.tdiv (↑(m/256 ^ i):Int) 256):Int)=(↑((m/256 ^ i)/256):Int) from Bf (m/256 ^ i) 256 (Nat.lt_of_le_of_lt (Nat.div_le_self _ _) hm) (by decide))) ?_
  refine xwm 6 ((i:Int)+1) (↑(i+1):Int) ?_
  refine xv1 2 0 (show(V0 (↑((m/256 ^ i)/256):Int):Value)=V0 (↑(m/256 ^ (i+1)):Int) from by rw[Nat.pow_succ,←Nat.div_div_eq_div_mul]) ?_
  have a2:=a1.trans a8
  exact ze 0 (a7 _ _ _ ⟨i+1,_,_,rfl,rfl,a2,o4,by omega⟩ (by omega))
 refine xe 12 (.slice p i c) ?_
 obtain rfl:i=w:=by omega
 exact⟨_,rfl,a0,_,_,rfl,ho⟩
theorem Rh(n:Int)(w:Nat)(wi:Int)(W:World)(h0:0≤n)(hn:n<9223372036854775808)(hwi:wi=(w:Int))(hw:w≤8):C0 91 #[V0 n,V0 wi] W (Ko (fun W' r=>∃ p c,r=.slice p w c∧W'.ownsRow W.heap.size 5 1 (.slice p w c) w ((leB n w).map bv)) W):=by
 subst hwi
 obtain⟨m,rfl⟩:∃ m:Nat,n=m:=⟨n.toNat,by omega⟩
 exact Zhd m w W (by omega) hw
theorem Zgc(w:World) :
 C0 250 #[V0 1] w (Ret (V0 (Wf 1:Int)) w):=by
 refine zin 15 Tryz.func250 ?_
 refine xbs 7 5 [V0 0,V0 160774,V0 121107,V0 240779,V0 160478] 3 fun b1 W1 n1=>?_
 refine xb 22 1 n1.blk ?_
 exact xe 4 (V0 160774) ⟨rfl,n1.below⟩
theorem ref_Salt2(w:World) :
 C0 250 #[V0 2] w (Ret (V0 (Wf 2:Int)) w):=by
 refine zin 15 Tryz.func250 ?_
 refine xbs 7 5 [V0 0,V0 160774,V0 121107,V0 240779,V0 160478] 3 fun b1 W1 n1=>?_
 refine xb 22 2 n1.blk ?_
 exact xe 4 (V0 121107) ⟨rfl,n1.below⟩
theorem ref_Salt3(w:World) :
 C0 250 #[V0 3] w (Ret (V0 (Wf 3:Int)) w):=by
 refine zin 15 Tryz.func250 ?_
 refine xbs 7 5 [V0 0,V0 160774,V0 121107,V0 240779,V0 160478] 3 fun b1 W1 n1=>?_
 refine xb 22 3 n1.blk ?_
 exact xe 4 (V0 240779) ⟨rfl,n1.below⟩
theorem ref_Salt4(w:World) :
 C0 250 #[V0 4] w (Ret (V0 (Wf 4:Int)) w):=by
 refine zin 15 Tryz.func250 ?_
 refine xbs 7 5 [V0 0,V0 160774,V0 121107,V0 240779,V0 160478] 3 fun b1 W1 n1=>?_
 refine xb 22 4 n1.blk ?_
 exact xe 4 (V0 160478) ⟨rfl,n1.below⟩
theorem ref_Salt(kind:Int)(h1:1≤kind)(h2:kind≤4)(w:World):C0 250 #[V0 kind] w (Ret (V0 (Wf kind:Int)) w):=by
 obtain rfl|rfl|rfl|rfl:kind=1∨kind=2∨kind=3∨kind=4:=by omega
 ·exact Zgc w
 ·exact ref_Salt2 w
 ·exact ref_Salt3 w
 ·exact ref_Salt4 w
theorem Tm(kind no:Int)(w:World) :
 C0 248 #[V0 kind,V0 no] w (Ret (.bool (Kj kind no)) w):=by
 refine zin 19 Tryz.func248 ?_
 refine xg 10 [6,7] (decide (kind≥(1:Int))) (fun a1=>?_) (fun a1=>?_)
 ·have a1:=of_decide_eq_true a1
  refine xg 4 [9,10,11] (decide (kind≤(4:Int))) (fun a0=>?_) (fun a0=>?_)
  ·have a0:=of_decide_eq_true a0
   refine xg 4 [13,14,15] (decide (no≥(0:Int))) (fun a2=>?_) (fun a2=>?_)
   ·have a2:=of_decide_eq_true a2
    exact xe 7 (.bool (decide (no<(14400:Int)))) ⟨by rw[show Kj kind no=decide (no<14400) from decide_eq_decide.2 ⟨fun h=>h.2.2.2,fun h=>⟨by omega,by omega,by omega,h⟩⟩],(B1 w)⟩
   have a2:=of_decide_eq_false a2
   exact xe 7 (.bool false) ⟨by rw[show Kj kind no=false from decide_eq_false (by omega)],(B1 w)⟩
  have a0:=of_decide_eq_false a0
  exact xe 11 (.bool false) ⟨by rw[show Kj kind no=false from decide_eq_false (by omega)],(B1 w)⟩
 have a1:=of_decide_eq_false a1
 exact xe 15 (.bool false) ⟨by rw[show Kj kind no=false from decide_eq_false (by omega)],(B1 w)⟩
theorem Zg4(l:Bl):∀ (j k r:Nat),Zl l (k+j) r≤Zl l k (j+r)
 | 0,k,r=>by simp
 | j+1,k,r=>by
  have ih:=Zg4 l j (k+1) r
  rw[show j+1+r=(j+r)+1 by omega,Zl,show k+(j+1)=k+1+j by omega]
  omega
theorem raw8(l:Bl)(k:Nat):Zl l k 8<9223372036854775808↔(l.getD (k+7) 0).toNat<128:=by
 have h:∀ i,(l.getD i 0).toNat<256:=fun i=>(l.getD i 0).toNat_lt
 have h0:=h k
 have h1:=h (k+1)
 have h2:=h (k+2)
 have h3:=h (k+3)
 have h4:=h (k+4)
 have h5:=h (k+5)
 have h6:=h (k+6)
 have h7:=h (k+7)
 simp only[Zl,Nat.add_assoc,Nat.reduceAdd]
 omega
theorem Tp{l:Bl}{k w j r:Nat}(h:Zl l k w<9223372036854775808)(hj:0<j)(e:j+r=w):(l.getD (k+(j-1)) 0).toNat+256*Zl l (k+j) r<9223372036854775808∧Zl l (k+(j-1)) (r+1)=Zl l (k+j) r*256+(l.getD (k+(j-1)) 0).toNat:=by
 have h1:=Zg4 l (j-1) k (r+1)
 rw[show j-1+(r+1)=w by omega,Zl,show k+(j-1)+1=k+j by omega] at h1
 refine⟨by omega,?_⟩
 rw[Zl,show k+(j-1)+1=k+j by omega];omega
theorem Zeu(w:World) :
 C0 295 #[V0 1] w (Ret (.bool true) w):=by
 refine zin 17 Tryz.func295 ?_
 exact xe 25 (.bool true) ⟨rfl,(B1 w)⟩
theorem Ze1(w:World) :
 C0 295 #[V0 2] w (Ret (.bool true) w):=by
 refine zin 17 Tryz.func295 ?_
 exact xe 25 (.bool true) ⟨rfl,(B1 w)⟩
theorem Zdw(w:World) :
 C0 295 #[V0 4] w (Ret (.bool true) w):=by
 refine zin 17 Tryz.func295 ?_
 exact xe 25 (.bool true) ⟨rfl,(B1 w)⟩
theorem Zc5(w:World) :
 C0 295 #[V0 8] w (Ret (.bool true) w):=by
 refine zin 17 Tryz.func295 ?_
 exact xe 25 (.bool true) ⟨rfl,(B1 w)⟩
theorem Zgr(k:Nat)(hw:k=1∨k=2∨k=4∨k=8)(w:World):C0 295 #[V0 (k:Int)] w (Ret (.bool true) w):=by
 rcases hw with rfl|rfl|rfl|rfl
 ·exact Zeu w
 ·exact Ze1 w
 ·exact Zdw w
 ·exact Zc5 w
theorem Zb3(a:O0)(m c k w:Nat)(W:World)(hw:w=1∨w=2∨w=4∨w=8)(hk:k+w≤m)(hm:m≤100000000) :
 C0 265 #[.slice a m c,V0 (k:Int),V0 (w:Int)] W (Ret (V0 0) W):=by
 refine zin 26 Tryz.func265 ?_
 refine xr 9 (args:=#[V0 (w:Int)]) (Zgr w hw _) fun W1 a0=>?_
 refine xgk 12 [11,12] (show(decide ((k:Int)<(0:Int)):Bool)=false from decide_eq_false (by omega)) ?_
 refine xgk 6 [16,17,18] (show(decide ((k:Int)>(m:Int)):Bool)=false from decide_eq_false (by omega)) ?_
 refine xwm 3 ((m:Int)-(k:Int)) (↑(m-k):Int) ?_
 refine xk 5 (show(decide ((↑(m-k):Int)<(w:Int)):Bool)=false from decide_eq_false (by omega)) ?_
 exact xe 8 (V0 0) ⟨rfl,a0⟩
theorem Wv(a:O0)(c k w:Nat)(l:Bl)(W:World)(hw:w=1∨w=2∨w=4∨w=8)(hk:k+w≤l.length)(hl:l.length≤100000000)(h:Bys W (.slice a l.length c) l)(hq:¬ Zl l k w<9223372036854775808) :
 C0 213 #[.slice a l.length c,V0 (k:Int),V0 (w:Int)] W (Ret (.tuple #[V0 0,V0 2]) W):=by
 have a0:w=8:=by
  rcases hw with h1|h1|h1|h1
  ·have:=Yl l k w (by omega);omega
  ·have:=Yl l k w (by omega);omega
  ·have:=Yl l k w (by omega);omega
  ·exact h1
 have a2:=(not_congr (raw8 l k)).1 (by rw[←a0];exact hq)
 refine zin 45 Tryz.func213 ?_
 refine xr 11 (args:=#[.slice a l.length c,V0 (k:Int),V0 (w:Int)]) (Zb3 a l.length c k w _ hw hk hl) fun W1 a1=>?_
 refine xgk 19 [19,20] (show(((w:Int)==(8:Int)):Bool)=true from by rw[a0];rfl) ?_
 refine xwm 2 ((k:Int)+7) (↑(k+7):Int) ?_
 refine xx 0 _ l.length (k+7) 1 (Bys.elem h (k:=(k+7)) (by omega)).1 ?_
 refine xl 0 ((Bys.elem (h.below a1) (k:=(k+7)) (by omega)).2) ?_
 refine xk 4 (show(decide ((↑(l.getD (k+7) 0).toNat:Int)≥(128:Int)):Bool)=true from decide_eq_true (by omega)) ?_
 exact xe 8 (.tuple #[V0 0,V0 2]) ⟨rfl,a1⟩
theorem Uv(a:O0)(c k w:Nat)(l:Bl)(W:World)(hw:w=1∨w=2∨w=4∨w=8)(hk:k+w≤l.length)(hl:l.length≤100000000)(h:Bys W (.slice a l.length c) l)(hq:Zl l k w<9223372036854775808) :
 C0 213 #[.slice a l.length c,V0 (k:Int),V0 (w:Int)] W (Ret (.tuple #[V0 (Zl l k w:Int),V0 0]) W):=by
 refine zin 45 Tryz.func213 ?_
 refine xr 11 (args:=#[.slice a l.length c,V0 (k:Int),V0 (w:Int)]) (Zb3 a l.length c k w _ hw hk hl) fun W1 a6=>?_
 refine xg 19 [19,20] ((w:Int)==(8:Int)) (fun a2=>?_) (fun a2=>?_)
 ·have a2:=eq_of_beq a2
  refine xwm 2 ((k:Int)+7) (↑(k+7):Int) ?_
  refine xx 0 _ l.length (k+7) 1 (Bys.elem h (k:=(k+7)) (by omega)).1 ?_
  refine xl 0 ((Bys.elem (h.below a6) (k:=(k+7)) (by omega)).2) ?_
  refine xk 4 (show(decide ((↑(l.getD (k+7) 0).toNat:Int)≥(128:Int)):Bool)=false from decide_eq_false (by have:=(raw8 l k).1 (by rw[←show w=8 by omega];exact hq);omega)) ?_
  refine xwm 11 ((w:Int)-1) (↑(w-1):Int) ?_
  refine xv1 4 10 (show(V0 (↑(w-1):Int):Value)=V0 ((w:Int)-1) from congrArg V0 (by omega)) ?_
  refine zl 0 45 (fun zm a5 V=>∃ (j r:Nat),a5=[(0,.slice a l.length c),(1,V0 (k:Int)),(6,V0 0),(7,V0 0),(9,V0 (↑(Zl l (k+j) r):Int)),(10,V0 ((j:Int)-1))]∧zm=(((j:Int)-1)+1).toNat∧B0 W V∧j+r=w) ⟨w,0,rfl,rfl,a6,by omega⟩ ?_
  rintro _ _ W3 ⟨j,r,rfl,rfl,a1,a3⟩ J3 b0 r3
  have a4:0<j→_:=fun hj=>Tp hq hj a3
  refine xid 7 ((j:Int)-1≥(0:Int)) (fun a8=>?_) (fun a8=>?_)
  ·refine xwm 6 ((↑(Zl l (k+j) r):Int)*256) (↑((Zl l (k+j) r)*256):Int) ?_
   refine xq 3 (congrArg V0 (show IntKind.i64.wrap ((k:Int)+((j:Int)-1))=(↑(k+(j-1)):Int) from(show IntKind.i64.wrap ((k:Int)+((j:Int)-1))=((k:Int)+((j:Int)-1)) from by first|exact IntWalk.i64_in _ (by omega)|(simp only[IntKind.wrap];omega)).trans (by omega))) ?_
   refine xx 0 _ l.length (k+(j-1)) 1 (Bys.elem h (k:=(k+(j-1))) (by omega)).1 ?_
   refine xl 0 ((Bys.elem (h.below a1) (k:=(k+(j-1))) (by omega)).2) ?_
   refine xq 0 (congrArg V0 (show(IntKind.i64.wrap (↑(l.getD (k+(j-1)) 0).toNat:Int):Int)=(↑(l.getD (k+(j-1)) 0).toNat:Int) from Jb (by have:=(l.getD (k+(j-1)) 0).toNat_lt;omega))) ?_
   refine xw 0 ((↑((Zl l (k+j) r)*256):Int)+(↑(l.getD (k+(j-1)) 0).toNat:Int)) ?_
   refine xq 6 (congrArg V0 (show IntKind.i64.wrap ((j:Int)-1-1)=((↑(j-1:Nat):Int)-1) from(show IntKind.i64.wrap ((j:Int)-1-1)=((j:Int)-1-1) from by first|exact IntWalk.i64_in _ (by omega)|(simp only[IntKind.wrap];omega)).trans (by omega))) ?_
   refine xv1 2 9 (show(V0 ((↑((Zl l (k+j) r)*256):Int)+(↑(l.getD (k+(j-1)) 0).toNat:Int)):Value)=V0 (↑(Zl l (k+(j-1)) (r+1)):Int) from by rw[(a4 (by omega)).2];rfl) ?_
   exact ze 0 (b0 _ _ _ ⟨j-1,r+1,rfl,rfl,a1,by omega⟩ (by omega))
  refine xe 13 (.tuple #[V0 (↑(Zl l (k+j) r):Int),V0 0]) ?_
  rw[show Zl l (k+j) r=Zl l k w from by rw[show j=0 by omega,show r=w by omega];rfl];exact⟨rfl,a1⟩
 have a2:=Xl a2
 refine xwm 21 ((w:Int)-1) (↑(w-1):Int) ?_
 refine xv1 4 10 (show(V0 (↑(w-1):Int):Value)=V0 ((w:Int)-1) from congrArg V0 (by omega)) ?_
 refine zl 0 45 (fun zm a5 V=>∃ (j r:Nat),a5=[(0,.slice a l.length c),(1,V0 (k:Int)),(6,V0 0),(7,V0 0),(9,V0 (↑(Zl l (k+j) r):Int)),(10,V0 ((j:Int)-1))]∧zm=(((j:Int)-1)+1).toNat∧B0 W V∧j+r=w) ⟨w,0,rfl,rfl,a6,by omega⟩ ?_
 rintro _ _ W5 ⟨j,r,rfl,rfl,a0,a3⟩ J5 a9 r5
 have a4:0<j→_:=fun hj=>Tp hq hj a3
 refine xid 7 ((j:Int)-1≥(0:Int)) (fun a7=>?_) (fun a7=>?_)
 ·refine xwm 6 ((↑(Zl l (k+j) r):Int)*256) (↑((Zl l (k+j) r)*256):Int) ?_
  refine xq 3 (congrArg V0 (show IntKind.i64.wrap ((k:Int)+((j:Int)-1))=(↑(k+(j-1)):Int) from(show IntKind.i64.wrap ((k:Int)+((j:Int)-1))=((k:Int)+((j:Int)-1)) from by first|exact IntWalk.i64_in _ (by omega)|(simp only[IntKind.wrap];omega)).trans (by omega))) ?_
  refine xx 0 _ l.length (k+(j-1)) 1 (Bys.elem h (k:=(k+(j-1))) (by omega)).1 ?_
  refine xl 0 ((Bys.elem (h.below a0) (k:=(k+(j-1))) (by omega)).2) ?_
  refine xq 0 (congrArg V0 (show(IntKind.i64.wrap (↑(l.getD (k+(j-1)) 0).toNat:Int):Int)=(↑(l.getD (k+(j-1)) 0).toNat:Int) from Jb (by have:=(l.getD (k+(j-1)) 0).toNat_lt;omega))) ?_
  refine xw 0 ((↑((Zl l (k+j) r)*256):Int)+(↑(l.getD (k+(j-1)) 0).toNat:Int)) ?_
  refine xq 6 (congrArg V0 (show IntKind.i64.wrap ((j:Int)-1-1)=((↑(j-1:Nat):Int)-1) from(show IntKind.i64.wrap ((j:Int)-1-1)=((j:Int)-1-1) from by first|exact IntWalk.i64_in _ (by omega)|(simp only[IntKind.wrap];omega)).trans (by omega))) ?_
  refine xv1 2 9 (show(V0 ((↑((Zl l (k+j) r)*256):Int)+(↑(l.getD (k+(j-1)) 0).toNat:Int)):Value)=V0 (↑(Zl l (k+(j-1)) (r+1)):Int) from by rw[(a4 (by omega)).2];rfl) ?_
  exact ze 0 (a9 _ _ _ ⟨j-1,r+1,rfl,rfl,a0,by omega⟩ (by omega))
 refine xe 13 (.tuple #[V0 (↑(Zl l (k+j) r):Int),V0 0]) ?_
 rw[show Zl l (k+j) r=Zl l k w from by rw[show j=0 by omega,show r=w by omega];rfl];exact⟨rfl,a0⟩
theorem ref_Get(a:O0)(c k w:Nat)(l:Bl)(W:World)(hw:w=1∨w=2∨w=4∨w=8)(hk:k+w≤l.length)(hl:l.length≤100000000)(h:Bys W (.slice a l.length c) l) :
 C0 213 #[.slice a l.length c,V0 (k:Int),V0 (w:Int)] W (Ret (.tuple #[V0 (Zdr l k w),V0 (Ob l k w)]) W):=by
 by_cases hq:Zl l k w<9223372036854775808
 ·rw[Nk hq,Sh hq];exact Uv a c k w l W hw hk hl h hq
 ·rw[Zdr,Ob,if_neg hq,if_neg hq];exact Wv a c k w l W hw hk hl h hq
theorem Rm(a:O0)(n c k w:Nat)(ki wi:Int)(l:Bl)(W:World)(hn:l.length=n)(hki:ki=(k:Int))(hwi:wi=(w:Int))(hw:w=1∨w=2∨w=4)(hk:k+w≤n)(hl:n≤100000000)(h:Bys W (.slice a n c) l) :
 C0 213 #[.slice a n c,V0 ki,V0 wi] W (Ret (.tuple #[V0 (Zl l k w:Int),V0 0]) W):=by
 subst hn hki hwi;exact Uv a c k w l W (by omega) hk hl h (by have:=Yl l k w (by omega);omega)
theorem Pl(a:O0)(c:Nat)(l:Bl)(aw:O0)(cw:Nat)(ws:List Nat)(W:World)(hk:∀ i,i<ws.length→ws.getD i 0=1∨ws.getD i 0=2∨ws.getD i 0=4∨ws.getD i 0=8)(hs:ws.sum≤l.length)(hl:l.length≤100000000)(hw:ws.length≤1000)(h:Bys W (.slice a l.length c) l)(hws:Sl W (.slice aw ws.length cw) ws.length (ws.map nv))(hq:∀ i,i<ws.length→(Km l 0 ws).getD i 0<9223372036854775808) :
 C0 198 #[.slice a l.length c,.slice aw ws.length cw] W (Ko (fun w' r=>∃ p c,r=.tuple #[.slice p ws.length c,V0 0]∧w'.ownsRow W.heap.size 3 1 (.slice p ws.length c) ws.length ((Km l 0 ws).map nv)) W):=by
 refine zin 41 Tryz.func198 ?_
 have hB:=Below.refl W.heap.size W
 refine zl 23 41 (fun zm b0 V=>∃ (i:Nat) (p:O0) (c2:Nat),b0=[(0,.slice a l.length c),(1,.slice aw ws.length cw),(6,.slice p i c2),(7,V0 (↑(ws.take i).sum:Int)),(8,V0 (i:Int))]∧zm=ws.length-((i:Int)).toNat∧B0 W V∧V.ownsRow W.heap.size 3 1 (.slice p i c2) i ((Km l 0 (ws.take i)).map nv)∧i≤ws.length) ⟨0,_,_,rfl,rfl,hB,World.ownsRow_nil _ _ _ _,Nat.zero_le _⟩ ?_
 rintro _ _ W1 ⟨i,p,c2,rfl,rfl,a0,ho,hi⟩ J1 a9 r1
 have b7:i<ws.length→(ws.take i).sum+ws.getD i 0≤ws.sum:=Gj
 have a8:i<ws.length→(Km l 0 ws).getD i 0=Zl l (ws.take i).sum (ws.getD i 0):=fun h=>by rw[Wa l ws 0 i h,Nat.zero_add]
 refine xid 9 ((i:Int)<(ws.length:Int)) (fun b1=>?_) (fun b1=>?_)
 ·refine xx 10 _ ws.length i 1 (Zr hws rfl (k:=i) (by omega)).1 ?_
  refine xl 0 ((Zr (hws.below a0) rfl (k:=i) (by omega)).2) ?_
  refine xr 0 (args:=#[.slice a l.length c,V0 (↑(ws.take i).sum:Int),V0 (↑(ws.getD i 0):Int)]) (ref_Get a c (ws.take i).sum (ws.getD i 0) l _ (hk i (by omega)) (by omega) hl (h.below a0)) fun W3 a7=>?_
  refine xk 14 (show(((Ob l (ws.take i).sum (ws.getD i 0)) != (0:Int)):Bool)=false from by rw[Sh (by rw[←a8 (by omega)];exact hq i (by omega))];rfl) ?_
  refine xbs 6 1 [V0 (Zdr l (ws.take i).sum (ws.getD i 0))] 3 fun b4 W4 n4=>?_
  have a1:=bln a0 a7
  have g4:=n4.ge a1
  have a4:=Zb ho a7
  have a6:=Zx a4 n4
  have a5:=Zb a4 n4.below
  have a3:=bln a1 n4.below
  refine xbi 0 fun _ _ _ _ zJ zQ zo zx zy zK=>Zw (m:=1) (news:=[V0 (Zdr l (ws.take i).sum (ws.getD i 0))]) (V0 0) 1 8 (i+1) ((Km l 0 (ws.take (i+1))).map nv) zo Tryz.underlying33 (by kernel_rfl) rfl (by decide) zx a5 zy (n4.blk.sl 1 1 (by decide) (by decide)) rfl (by simp[Value.oneCell']) (by unfold maxLen;omega) (by omega) a3.size (by rfl) (by rw[Ke (by omega),Um,Nat.zero_add,List.map_append];simp only[List.map_cons,List.map_nil,nv];rw[Nk (by rw[←a8 (by omega)];exact hq i (by omega))]) fun b3 b5 W5 o5 b6 b2=>?_
  refine zK _ _ ?_
  refine xx 7 _ ws.length i 1 (Zr hws rfl (k:=i) (by omega)).1 ?_
  have a2:=a3.trans b2
  refine xl 0 ((Zr (hws.below a2) rfl (k:=i) (by omega)).2) ?_
  refine xwm 0 ((↑(ws.take i).sum:Int)+(↑(ws.getD i 0):Int)) (↑((ws.take i).sum+(ws.getD i 0)):Int) ?_
  refine xwm 6 ((i:Int)+1) (↑(i+1):Int) ?_
  refine xv1 2 7 (show(V0 (↑((ws.take i).sum+(ws.getD i 0)):Int):Value)=V0 (↑(ws.take (i+1)).sum:Int) from by rw[Ke (by omega),List.sum_append];simp) ?_
  exact ze 0 (a9 _ _ _ ⟨i+1,_,_,rfl,rfl,a2,o5,by omega⟩ (by omega))
 refine xe 13 (.tuple #[.slice p i c2,V0 0]) ?_
 obtain rfl:i=ws.length:=by omega
 rw[List.take_length] at ho
 exact⟨_,rfl,a0,_,_,rfl,ho⟩
theorem Ep(a:O0)(c:Nat)(l:Bl)(aw:O0)(cw:Nat)(ws:List Nat)(W:World)(hk:∀ i,i<ws.length→ws.getD i 0=1∨ws.getD i 0=2∨ws.getD i 0=4∨ws.getD i 0=8)(hs:ws.sum≤l.length)(hl:l.length≤100000000)(hw:ws.length≤1000)(h:Bys W (.slice a l.length c) l)(hws:Sl W (.slice aw ws.length cw) ws.length (ws.map nv))(hq:¬ ∀ i,i<ws.length→(Km l 0 ws).getD i 0<9223372036854775808) :
 C0 198 #[.slice a l.length c,.slice aw ws.length cw] W (Ret (.tuple #[S0,V0 2]) W):=by
 refine zin 41 Tryz.func198 ?_
 have hB:=Below.refl W.heap.size W
 refine zl 23 41 (fun zm b2 V=>∃ (i:Nat) (p:O0) (c2:Nat),b2=[(0,.slice a l.length c),(1,.slice aw ws.length cw),(6,.slice p i c2),(7,V0 (↑(ws.take i).sum:Int)),(8,V0 (i:Int))]∧zm=ws.length-((i:Int)).toNat∧B0 W V∧V.ownsRow W.heap.size 3 1 (.slice p i c2) i ((Km l 0 (ws.take i)).map nv)∧i≤ws.length∧(∀ j,j<i→(Km l 0 ws).getD j 0<9223372036854775808)) ⟨0,_,_,rfl,rfl,hB,World.ownsRow_nil _ _ _ _,Nat.zero_le _,?_⟩ ?_
 ·exact fun j hj=>absurd hj (by omega)
 rintro _ _ W1 ⟨i,p,c2,rfl,rfl,a0,ho,hi,a4⟩ J1 b6 r1
 have c1:i<ws.length→(ws.take i).sum+ws.getD i 0≤ws.sum:=Gj
 have b4:i<ws.length→(Km l 0 ws).getD i 0=Zl l (ws.take i).sum (ws.getD i 0):=fun h=>by rw[Wa l ws 0 i h,Nat.zero_add]
 refine xid 9 ((i:Int)<(ws.length:Int)) (fun b3=>?_) (fun b3=>?_)
 ·refine xx 10 _ ws.length i 1 (Zr hws rfl (k:=i) (by omega)).1 ?_
  refine xl 0 ((Zr (hws.below a0) rfl (k:=i) (by omega)).2) ?_
  refine xr 0 (args:=#[.slice a l.length c,V0 (↑(ws.take i).sum:Int),V0 (↑(ws.getD i 0):Int)]) (ref_Get a c (ws.take i).sum (ws.getD i 0) l _ (hk i (by omega)) (by omega) hl (h.below a0)) fun W3 b0=>?_
  refine xin 14 (Ob l (ws.take i).sum (ws.getD i 0)) (0:Int) (fun a9=>?_) (fun a9=>?_)
  ·have a6:=Zcq a9
   have a8:=bln a0 b0
   refine xe 14 (.tuple #[S0,V0 (Ob l (ws.take i).sum (ws.getD i 0))]) ?_
   rw[a6.2];exact⟨rfl,a8⟩
  have a6:=Il a9
  refine xbs 6 1 [V0 (Zdr l (ws.take i).sum (ws.getD i 0))] 3 fun b5 W5 n5=>?_
  have a3:=bln a0 b0
  have g5:=n5.ge a3
  have a5:=Zb ho b0
  have b1:=Zx a5 n5
  have a7:=Zb a5 n5.below
  have a1:=bln a3 n5.below
  refine xbi 0 fun _ _ _ _ zJ zQ zo zx zy zK=>Zw (m:=1) (news:=[V0 (Zdr l (ws.take i).sum (ws.getD i 0))]) (V0 0) 1 8 (i+1) ((Km l 0 (ws.take (i+1))).map nv) zo Tryz.underlying33 (by kernel_rfl) rfl (by decide) zx a7 zy (n5.blk.sl 1 1 (by decide) (by decide)) rfl (by simp[Value.oneCell']) (by unfold maxLen;omega) (by omega) a1.size (by rfl) (by rw[Ke (by omega),Um,Nat.zero_add,List.map_append];simp only[List.map_cons,List.map_nil,nv];rw[Nk a6]) fun c0 b9 W6 o6 b8 b7=>?_
  refine zK _ _ ?_
  refine xx 7 _ ws.length i 1 (Zr hws rfl (k:=i) (by omega)).1 ?_
  have a2:=a1.trans b7
  refine xl 0 ((Zr (hws.below a2) rfl (k:=i) (by omega)).2) ?_
  refine xwm 0 ((↑(ws.take i).sum:Int)+(↑(ws.getD i 0):Int)) (↑((ws.take i).sum+(ws.getD i 0)):Int) ?_
  refine xwm 6 ((i:Int)+1) (↑(i+1):Int) ?_
  refine xv1 2 7 (show(V0 (↑((ws.take i).sum+(ws.getD i 0)):Int):Value)=V0 (↑(ws.take (i+1)).sum:Int) from by rw[Ke (by omega),List.sum_append];simp) ?_
  exact ze 0 (b6 _ _ _ ⟨i+1,_,_,rfl,rfl,a2,o6,by omega,fun j hj=>(Nat.lt_or_ge j i).elim (fun q=>a4 j q) (fun q=>by obtain rfl:j=i:=(by omega);rw[b4 (by omega)];exact a6)⟩ (by omega))
 refine xe 13 (.tuple #[.slice p i c2,V0 0]) ?_
 exact absurd (fun j hj=>a4 j (by omega)) hq
theorem Cr(a:O0)(n c:Nat)(l:Bl)(aw:O0)(cw m:Nat)(ws:List Nat)(xs:List Nat)(W:World)(hn:l.length=n)(hm:ws.length=m)(hx:Km l 0 ws=xs)(hk:∀ i,i<ws.length→ws.getD i 0=1∨ws.getD i 0=2∨ws.getD i 0=4∨ws.getD i 0=8)(hs:ws.sum≤n)(hl:n≤100000000)(hw:ws.length≤1000)(h:Bys W (.slice a n c) l)(hws:Sl W (.slice aw m cw) m (ws.map nv))(hq:∀ i,i<ws.length→(Km l 0 ws).getD i 0<9223372036854775808) :
 C0 198 #[.slice a n c,.slice aw m cw] W (Ko (fun w' r=>∃ p c,r=.tuple #[.slice p m c,V0 0]∧w'.ownsRow W.heap.size 3 1 (.slice p m c) m (xs.map nv)) W):=by
 subst hn hm hx;exact Pl a c l aw cw ws W hk hs hl hw h hws hq
theorem ref_Zero(a:O0)(c:Nat)(l:Bl)(w:World)(hl:l.length≤100000000)(h:Bys w (.slice a l.length c) l) :
 C0 199 #[.slice a l.length c] w (Ret (.bool (Qv l)) w):=by
 refine zin 15 Tryz.func199 ?_
 have hB:=Below.refl w.heap.size w
 refine zl 12 15 (fun zm a1 V=>∃ (i:Nat),a1=[(0,.slice a l.length c),(3,V0 (i:Int))]∧zm=l.length-((i:Int)).toNat∧B0 w V∧i≤l.length∧(∀ j,j<i→l.getD j 0=0)) ⟨0,rfl,rfl,hB,Nat.zero_le _,?_⟩ ?_
 ·exact fun j hj=>absurd hj (by omega)
 rintro _ _ W1 ⟨i,rfl,rfl,a0,hi,hz⟩ J1 a4 r1
 refine xid 9 ((i:Int)<(l.length:Int)) (fun a3=>?_) (fun a3=>?_)
 ·refine xx 8 _ l.length i 1 (Bys.elem h (k:=i) (by omega)).1 ?_
  refine xl 0 ((Bys.elem (h.below a0) (k:=i) (by omega)).2) ?_
  refine xin 3 (↑(l.getD i 0).toNat:Int) (0:Int) (fun a2=>?_) (fun a2=>?_)
  ·refine xe 11 (.bool false) ?_
   rw[Cq (j:=i) (by omega) (by assumption)];exact⟨rfl,a0⟩
  refine xwm 5 ((i:Int)+1) (↑(i+1):Int) ?_
  exact ze 2 (a4 _ _ _ ⟨i+1,rfl,rfl,a0,by omega,fun j hj=>(Nat.lt_or_ge j i).elim (hz j) (fun q=>by obtain rfl:j=i:=(by omega);exact Au (by assumption))⟩ (by omega))
 refine xe 11 (.bool true) ?_
 rw[Fw (fun j hj=>hz j (by omega))];exact⟨rfl,a0⟩
theorem Ug(a:O0)(n c:Nat)(l:Bl)(w:World)(hn:l.length=n)(hl:n≤100000000)(h:Bys w (.slice a n c) l):C0 199 #[.slice a n c] w (Ret (.bool (Qv l)) w):=by
 subst hn;exact ref_Zero a c l w hl h
end Go.Proofs.YtegcamkgeacjfaaGreatDoor
namespace Go.Proofs.YtegcamkgeacjfaaGreatDoor
set_option maxHeartbeats 8000000
set_option maxRecDepth 100000
open Go.RowKit Go.Extern.Stop Go.Stop Go.Extern
set_option linter.unusedVariables false
def FltV(w:World)(v:Value)(l:List Int)(c:Int):Prop:=∃ s,v=.agg #[s,V0 c]∧Ints w s l
theorem FltV.below{w w':World}{v:Value}{l:List Int}{c:Int}(h:FltV w v l c)(hb:B0 w w'):FltV w' v l c:=by
 obtain⟨s,rfl,hs⟩:=h
 exact⟨s,rfl,hs.below hb⟩
end Go.Proofs.YtegcamkgeacjfaaGreatDoor
namespace Go.Proofs.YtegcamkgeacjfaaGreatDoor
set_option maxHeartbeats 8000000
set_option maxRecDepth 100000
open Go.RowKit Go.Extern.Stop Go.Stop Go.Extern
set_option linter.unusedVariables false
attribute [local irreducible] wpList wpAnyH Code.wp Oper.wp Go
def Ub(l:Bl)(k:Nat):List Bl:=(List.range k).map (Jw l)
theorem An(l:Bl)(k:Nat):(Ub l k).length=k:=by simp[Ub]
theorem Ey(l:Bl)(k:Nat):Ub l (k+1)=Ub l k++[Jw l k]:=by simp[Ub,List.range_succ]
theorem Zgh(l:Bl){k i:Nat}(h:i<k):(Ub l k).getD i []=Jw l i:=by simp[Ub,List.getD,List.getElem?_range h]
theorem Zga{l:Bl}{i m:Nat}(h:i<m):Jw (l.take (m*256)) i=Jw l i:=by
 unfold Jw
 rw[List.drop_take,List.take_take,Nat.min_eq_left (by omega)]
theorem Fj{l:Bl}{k:Nat}:Ub (l.take (k*256)) k=Ub l k:=List.map_congr_left fun i hi=>Zga (List.mem_range.1 hi)
structure RefI(B bm:Nat)(p:Option Addr)(k c:Nat)(l:List UInt8)(w:World):Prop where
 blk:Blk w bm [.slice p k c] 98
 row:w.ownsRow B 9 1 (.slice p k c) k ((Ub l k).map sv)
 hk:k≤14400
 hl:l.length=k*256
theorem RefI.below{B bm:Nat}{p:O0}{k c:Nat}{l:Bl}{w W:World}(h:RefI B bm p k c l w)(hb:B0 w W):RefI B bm p k c l W:=⟨h.blk.below hb,Zb h.row hb,h.hk,h.hl⟩
theorem RefI.only{B bm:Nat}{p:O0}{k c:Nat}{l:Bl}{w W:World}{T:List TypeId}(h:RefI B bm p k c l w)(hO:Ze T w W)(hT:T.contains 98=false∧T.contains 9=false):RefI B bm p k c l W:=⟨h.blk.only hO hT.1,Zn h.row hO hT.2,h.hk,h.hl⟩
theorem RefI.mono{B B' bm:Nat}{p:O0}{k c:Nat}{l:Bl}{w:World}(h:RefI B bm p k c l w)(hB:B'≤B):RefI B' bm p k c l w:=⟨h.blk,Zg h.row hB,h.hk,h.hl⟩
theorem RefI.base{B bm:Nat}{p:O0}{k c:Nat}{l:Bl}{w:World}(h:RefI B bm p k c l w)(hn:0<k):∃ g,p=some ⟨g,0,none⟩:=by
 rcases h.row.2 with ⟨_,h0⟩|⟨g,a0,a1,hv,_,_,hc,_⟩
 ·omega
 ·simp only[Value.slice.injEq] at hv
  obtain⟨rfl,_,rfl⟩:=hv
  exact⟨g,rfl⟩
theorem ref_Of(a:O0)(c:Nat)(l:Bl)(w:World)(h:Bys w (.slice a l.length c) l)(hl:l.length≤100000000) :
 C0 16 #[.slice a l.length c] w (Ko (fun w' r=>∃ bm p c2,r=P0 bm∧w.heap.size≤bm∧RefI w.heap.size bm p (min (l.length/256) 14400) c2 (l.take (min (l.length/256) 14400*256)) w') w):=by
 refine zin 32 Tryz.func16 ?_
 refine xa 8 [S0] 98 fun b1 W1 n1=>?_
 refine zl 5 32 (fun zm d3 V=>∃ (k:Nat) (p:O0) (cp:Nat) (a2:O0) (c2:Nat) (l2:Bl),d3=[(0,.slice a2 l2.length c2),(2,.pointer none),(3,P0 b1)]∧zm=l2.length∧B0 w V∧Blk V b1 ([.slice p k cp]) 98∧V.ownsRow w.heap.size 9 1 (.slice p k cp) k ((Ub l k).map sv)∧Bys w (.slice a2 l2.length c2) l2∧l2=l.drop (k*256)∧k*256≤l.length∧k≤14400) ⟨0,none,0,a,c,l,rfl,rfl,n1.below,n1.blk,World.ownsRow_nil _ _ _ _,h,by simp,by omega,by decide⟩ ?_
 rintro _ _ W2 ⟨k,p,cp,a2,c2,l2,rfl,rfl,a8,a3,ho,b9,b6,e2,e3⟩ J2 c9 r2
 have d6:=b9.cap rfl
 have d5:l2.length=l.length-k*256:=by rw[b6];simp
 refine xg 7 [8,9] (decide ((l2.length:Int)≥(256:Int))) (fun b3=>?_) (fun b3=>?_)
 ·have b3:=of_decide_eq_true b3
  refine xb 3 0 a3 ?_
  refine xid 5 ((k:Int)<(14400:Int)) (fun d7=>?_) (fun d7=>?_)
  ·refine xd 4 (.t w.heap.size [9,98]) ?_
   refine xsH (.e [0,1,2,3,5] 6) (fun _ _ _ _ zo zx zy V=>Qo (k:=256) (b:=a2) (n:=l2.length) (c:=c2) (i:=256) (ki:=.i64) zo zx zy rfl (by omega) Tryz.underlying40 (by kernel_rfl) V) ?_
   have a6:=bln a8 (Za W2)
   refine xcvt (.e [] 7) (.t w.heap.size [9,98]) (fun _ _ _ zo zx V hV=>Kc zo zx ((Bys.take b9 rfl 256 (by omega)).below (Kb a6 hV (Nat.le_refl _))) (by simp;omega) Tryz.underlying40 Tryz.underlying5 Tryz.underlying9) ?_
   refine xm2 0 4 8 ?_ ?_
   ·have a5:=a3.below (Za W2)
    refine xb 0 0 a5 ?_
    refine xbs (.o [] 8) 1 [.string ⟨(l2.take 256).toArray⟩] 9 fun b5 W5 n5=>?_
    have g5:=n5.ge a6
    have b7:=Zb ho (Za W2)
    have d1:=Zx b7 n5
    have a7:=Zb b7 n5.below
    have b4:=bln a6 n5.below
    refine ybi (.o [] 9) (.t w.heap.size [9,98]) fun _ _ _ _ zJ zQ zo zx zy zK=>Zw (m:=1) (news:=[.string ⟨(l2.take 256).toArray⟩]) (.string ⟨#[]⟩) 1 16 (k+1) ((Ub l (k+1)).map sv) zo Tryz.underlying96 (by kernel_rfl) rfl (by decide) zx a7 zy (n5.blk.sl 1 1 (by decide) (by decide)) rfl (by simp[Value.oneCell']) (by unfold maxLen;omega) (by omega) b4.size (by rfl) (by rw[Ey,List.map_append,show Jw l k=l2.take 256 from by rw[b6];rfl];rfl) fun e0 d4 W6 o6 c6 c7=>?_
    refine zK _ _ (Zu c7 c6 a7 (by decide)) ?_
    have a1:=(a5.below n5.below).grown c6 a7 (by decide)
    have g1:=n1.ge (B1 w)
    refine ys (.o [10,11] 12) a1 [.slice e0 (k+1) d4] (.t w.heap.size [9,98]) fun W7 u7 k7=>⟨(Zp u7 a1 g1 (by decide)),?_⟩
    refine xsL 4 (fun _ _ _ _ zo zx zy V=>Qi (k:=256) (b:=a2) (n:=l2.length) (c:=c2) (i:=256) (ki:=.i64) 1 zo zx zy rfl (by omega) Tryz.underlying40 (by kernel_rfl) V) ?_
    refine xv1 3 0 (show(.slice (Qu a2 256 c2 1) (l2.length-256) (c2-256):Value)=.slice (Qu a2 256 c2 1) ((l2.drop 256).length) (c2-256) from by rw[List.length_drop]) ?_
    have c0:=u7.below (b4.trans c7) g1
    have c1:=u7.own2 o6 a1 (by decide)
    refine ze 0 (c9 _ _ _ ⟨k+1,_,_,_,_,(l2.drop 256),rfl,rfl,c0,k7,c1,(by have:=Bys.cut b9 rfl 256 l2.length (by omega) (Nat.le_refl _);rw[List.take_of_length_le (by simp)] at this;rwa [show(l2.drop 256).length=l2.length-256 by simp]),by rw[b6,List.drop_drop,Nat.add_mul,Nat.one_mul],by omega,by omega⟩ ?_)
    show((l2.drop 256).length)<l2.length
    rw[List.length_drop];omega
   refine xbs 0 1 [.string ⟨(l2.take 256).toArray⟩] 9 fun b8 W8 n8=>?_
   have g8:=n8.ge a6
   have b0:=Zb ho (Za W2)
   have d0:=Zx b0 n8
   have a4:=(a3.below (Za W2)).below n8.below
   refine xb (.o [] 4) 0 a4 ?_
   have a9:=Zb b0 n8.below
   have b2:=bln a6 n8.below
   refine ybi (.o [] 9) (.t w.heap.size [9,98]) fun _ _ _ _ zJ zQ zo zx zy zK=>Zw (m:=1) (news:=[.string ⟨(l2.take 256).toArray⟩]) (.string ⟨#[]⟩) 1 16 (k+1) ((Ub l (k+1)).map sv) zo Tryz.underlying96 (by kernel_rfl) rfl (by decide) zx a9 zy (n8.blk.sl 1 1 (by decide) (by decide)) rfl (by simp[Value.oneCell']) (by unfold maxLen;omega) (by omega) b2.size (by rfl) (by rw[Ey,List.map_append,show Jw l k=l2.take 256 from by rw[b6];rfl];rfl) fun d8 d9 W9 o9 c8 d2=>?_
   refine zK _ _ (Zu d2 c8 a9 (by decide)) ?_
   have a0:=a4.grown c8 a9 (by decide)
   have g1:=n1.ge (B1 w)
   refine ys (.o [10,11] 12) a0 [.slice d8 (k+1) d9] (.t w.heap.size [9,98]) fun e4 c4 e1=>⟨(Zp c4 a0 g1 (by decide)),?_⟩
   refine xsL 4 (fun _ _ _ _ zo zx zy V=>Qi (k:=256) (b:=a2) (n:=l2.length) (c:=c2) (i:=256) (ki:=.i64) 1 zo zx zy rfl (by omega) Tryz.underlying40 (by kernel_rfl) V) ?_
   refine xv1 3 0 (show(.slice (Qu a2 256 c2 1) (l2.length-256) (c2-256):Value)=.slice (Qu a2 256 c2 1) ((l2.drop 256).length) (c2-256) from by rw[List.length_drop]) ?_
   have c5:=c4.below (b2.trans d2) g1
   have c3:=c4.own2 o9 a0 (by decide)
   refine ze 0 (c9 _ _ _ ⟨k+1,_,_,_,_,(l2.drop 256),rfl,rfl,c5,e1,c3,(by have:=Bys.cut b9 rfl 256 l2.length (by omega) (Nat.le_refl _);rw[List.take_of_length_le (by simp)] at this;rwa [show(l2.drop 256).length=l2.length-256 by simp]),by rw[b6,List.drop_drop,Nat.add_mul,Nat.one_mul],by omega,by omega⟩ ?_)
   show((l2.drop 256).length)<l2.length
   rw[List.length_drop];omega
  have g1:=n1.ge (B1 w)
  refine xe 12 (P0 b1) ?_
  obtain rfl:k=min (l.length/256) 14400:=by omega
  exact⟨_,rfl,a8,_,_,_,rfl,g1,a3,by rw[Fj];exact ho,by omega,by simp;omega⟩
 have b3:=of_decide_eq_false b3
 have g1:=n1.ge (B1 w)
 refine xe 22 (P0 b1) ?_
 obtain rfl:k=min (l.length/256) 14400:=by omega
 exact⟨_,rfl,a8,_,_,_,rfl,g1,a3,by rw[Fj];exact ho,by omega,by simp;omega⟩
def fltL(no er:Int):List Int:=if er=0 then [] else [no]
theorem fltL_nz{no er:Int}(h:er≠0):fltL no er=[no]:=if_neg h
theorem Zet(no:Int)(w:World) :
 C0 197 #[V0 no,.agg #[S0,V0 0]] w (Ret (.agg #[S0,V0 0]) w):=by
 refine zin 17 Tryz.func197 ?_
 refine xa 2 [S0,V0 0] 35 fun b1 W1 n1=>?_
 refine xa 0 [S0,V0 0] 35 fun b2 W2 n2=>?_
 have a1:=n2.ne n1.blk
 have a0:=n1.blk.below n2.below
 refine xb 6 1 a0 ?_
 refine xsv 7 n2.blk [S0,V0 0] fun W3 u3 k3=>?_
 have g2:=n2.ge n1.below
 have hB:=u3.below (bln n1.below n2.below) g2
 exact xec 4 k3 (.agg #[S0,V0 0]) ⟨rfl,hB⟩
theorem Zc9(no er:Int)(w:World)(he:er≠0) :
 C0 197 #[V0 no,.agg #[S0,V0 er]] w (Ko (fun w' r=>∃ a c,r=.agg #[.slice a 1 c,V0 er]∧w'.ownsRow w.heap.size 3 1 (.slice a 1 c) 1 [V0 no]) w):=by
 refine zin 17 Tryz.func197 ?_
 refine xa 2 [S0,V0 er] 35 fun b1 W1 n1=>?_
 refine xa 0 [S0,V0 0] 35 fun b2 W2 n2=>?_
 have h2:=n2.ne n1.blk
 have a0:=n1.blk.below n2.below
 refine xb 6 1 a0 ?_
 refine xk 3 (show((er==(0:Int)):Bool)=false from beq_false_of_ne he) ?_
 refine xd 3 (.t w.heap.size [3,35]) ?_
 refine xm3 (.b [0,2,5]) 1 3 6 ?_ ?_ ?_
 ·refine xbs 0 1 [V0 no] 3 fun b3 W3 n3=>?_
  refine xm2 0 3 6 ?_ ?_
  ·have a5:=(a0.below (Za W2)).below n3.below
   refine xb 0 0 a5 ?_
   refine xm2 0 4 6 ?_ ?_
   ·have g3:=n3.ge (bln (bln n1.below n2.below) (Za W2))
    have o4:=Xc (size:=1) (n:=1) n3.blk g3 rfl (by decide)
    have hB:=bln (bln (bln n1.below n2.below) (Za W2)) n3.below
    refine ybi 0 (.t w.heap.size [3,35]) fun _ _ _ _ zJ zQ zo zx zy zK=>Zw (m:=0) (news:=[]) (V0 0) 1 8 (1) ([V0 no]) zo Tryz.underlying33 (by kernel_rfl) rfl (by decide) zx o4 zy (.inl ⟨none,0,rfl,rfl,rfl⟩) rfl (by simp) (by unfold maxLen;omega) (by omega) hB.size (by rfl) (by rfl) fun h8 h9 W5 o5 f2 h4=>?_
    refine zK _ _ (Zu h4 f2 o4 (by decide)) ?_
    have g8:=a5.grown f2 o4 (by decide)
    refine xb (.o [] 6) 1 g8 ?_
    have k2:=((n2.blk.below (Za W2)).below n3.below).grown f2 o4 (by decide)
    have g2:=n2.ge n1.below
    refine ysv (.o [7] 8) k2 [.slice h8 1 h9,V0 er] (.t w.heap.size [3,35]) fun W6 u6 k6=>⟨(Zp u6 k2 g2 (by decide)),?_⟩
    have g7:=u6.below (hB.trans h4) g2
    have e4:=u6.own2 o5 k2 (by decide)
    exact xec 3 k6 (.agg #[.slice h8 1 h9,V0 er]) ⟨_,rfl,g7,_,_,rfl,e4⟩
   refine xb 0 1 a5 ?_
   have g3:=n3.ge (bln (bln n1.below n2.below) (Za W2))
   have o7:=Xc (size:=1) (n:=1) n3.blk g3 rfl (by decide)
   have hB:=bln (bln (bln n1.below n2.below) (Za W2)) n3.below
   refine ybi (.o [] 4) (.t w.heap.size [3,35]) fun _ _ _ _ zJ zQ zo zx zy zK=>Zw (m:=0) (news:=[]) (V0 0) 1 8 (1) ([V0 no]) zo Tryz.underlying33 (by kernel_rfl) rfl (by decide) zx o7 zy (.inl ⟨none,0,rfl,rfl,rfl⟩) rfl (by simp) (by unfold maxLen;omega) (by omega) hB.size (by rfl) (by rfl) fun h3 h7 W8 o8 h6 h5=>?_
   refine zK _ _ (Zu h5 h6 o7 (by decide)) ?_
   have k2:=((n2.blk.below (Za W2)).below n3.below).grown h6 o7 (by decide)
   have g2:=n2.ge n1.below
   refine ysv (.o [7] 8) k2 [.slice h3 1 h7,V0 er] (.t w.heap.size [3,35]) fun W9 u9 k9=>⟨(Zp u9 k2 g2 (by decide)),?_⟩
   have e9:=u9.below (hB.trans h5) g2
   have g5:=u9.own2 o8 k2 (by decide)
   exact xec 3 k9 (.agg #[.slice h3 1 h7,V0 er]) ⟨_,rfl,e9,_,_,rfl,g5⟩
  have b7:=(a0.below (Za W2)).below n3.below
  refine xb 0 1 b7 ?_
  refine xb (.o [] 3) 0 b7 ?_
  have g3:=n3.ge (bln (bln n1.below n2.below) (Za W2))
  have f0:=Xc (size:=1) (n:=1) n3.blk g3 rfl (by decide)
  have hB:=bln (bln (bln n1.below n2.below) (Za W2)) n3.below
  refine ybi (.o [] 4) (.t w.heap.size [3,35]) fun _ _ _ _ zJ zQ zo zx zy zK=>Zw (m:=0) (news:=[]) (V0 0) 1 8 (1) ([V0 no]) zo Tryz.underlying33 (by kernel_rfl) rfl (by decide) zx f0 zy (.inl ⟨none,0,rfl,rfl,rfl⟩) rfl (by simp) (by unfold maxLen;omega) (by omega) hB.size (by rfl) (by rfl) fun b5 d3 k5 i7 c6 c8=>?_
  refine zK _ _ (Zu c8 c6 f0 (by decide)) ?_
  have k2:=((n2.blk.below (Za W2)).below n3.below).grown c6 f0 (by decide)
  have g2:=n2.ge n1.below
  refine ysv (.o [7] 8) k2 [.slice b5 1 d3,V0 er] (.t w.heap.size [3,35]) fun j9 f6 j4=>⟨(Zp f6 k2 g2 (by decide)),?_⟩
  have f5:=f6.below (hB.trans c8) g2
  have d1:=f6.own2 i7 k2 (by decide)
  exact xec 3 j4 (.agg #[.slice b5 1 d3,V0 er]) ⟨_,rfl,f5,_,_,rfl,d1⟩
 ·have a2:=a0.below (Za W2)
  refine xb 0 0 a2 ?_
  refine xm2 0 1 6 ?_ ?_
  ·refine xbs 0 1 [V0 no] 3 fun l1 k7 a1=>?_
   refine xm2 0 4 6 ?_ ?_
   ·have g1:=a1.ge (bln (bln n1.below n2.below) (Za W2))
    have e1:=Xc (size:=1) (n:=1) a1.blk g1 rfl (by decide)
    have hB:=bln (bln (bln n1.below n2.below) (Za W2)) a1.below
    refine ybi 0 (.t w.heap.size [3,35]) fun _ _ _ _ zJ zQ zo zx zy zK=>Zw (m:=0) (news:=[]) (V0 0) 1 8 (1) ([V0 no]) zo Tryz.underlying33 (by kernel_rfl) rfl (by decide) zx e1 zy (.inl ⟨none,0,rfl,rfl,rfl⟩) rfl (by simp) (by unfold maxLen;omega) (by omega) hB.size (by rfl) (by rfl) fun a6 c3 l3 i5 a4 c9=>?_
    refine zK _ _ (Zu c9 a4 e1 (by decide)) ?_
    have g0:=(a2.below a1.below).grown a4 e1 (by decide)
    refine xb (.o [] 6) 1 g0 ?_
    have k2:=((n2.blk.below (Za W2)).below a1.below).grown a4 e1 (by decide)
    have g2:=n2.ge n1.below
    refine ysv (.o [7] 8) k2 [.slice a6 1 c3,V0 er] (.t w.heap.size [3,35]) fun j6 e3 i4=>⟨(Zp e3 k2 g2 (by decide)),?_⟩
    have h0:=e3.below (hB.trans c9) g2
    have b8:=e3.own2 i5 k2 (by decide)
    exact xec 3 i4 (.agg #[.slice a6 1 c3,V0 er]) ⟨_,rfl,h0,_,_,rfl,b8⟩
   have f8:=a2.below a1.below
   refine xb 0 1 f8 ?_
   have g1:=a1.ge (bln (bln n1.below n2.below) (Za W2))
   have e8:=Xc (size:=1) (n:=1) a1.blk g1 rfl (by decide)
   have hB:=bln (bln (bln n1.below n2.below) (Za W2)) a1.below
   refine ybi (.o [] 4) (.t w.heap.size [3,35]) fun _ _ _ _ zJ zQ zo zx zy zK=>Zw (m:=0) (news:=[]) (V0 0) 1 8 (1) ([V0 no]) zo Tryz.underlying33 (by kernel_rfl) rfl (by decide) zx e8 zy (.inl ⟨none,0,rfl,rfl,rfl⟩) rfl (by simp) (by unfold maxLen;omega) (by omega) hB.size (by rfl) (by rfl) fun b6 b9 l0 i1 c4 d2=>?_
   refine zK _ _ (Zu d2 c4 e8 (by decide)) ?_
   have k2:=((n2.blk.below (Za W2)).below a1.below).grown c4 e8 (by decide)
   have g2:=n2.ge n1.below
   refine ysv (.o [7] 8) k2 [.slice b6 1 b9,V0 er] (.t w.heap.size [3,35]) fun l6 g6 i0=>⟨(Zp g6 k2 g2 (by decide)),?_⟩
   have f4:=g6.below (hB.trans d2) g2
   have a9:=g6.own2 i1 k2 (by decide)
   exact xec 3 i0 (.agg #[.slice b6 1 b9,V0 er]) ⟨_,rfl,f4,_,_,rfl,a9⟩
  refine xb 0 1 a2 ?_
  refine xbs (.o [] 1) 1 [V0 no] 3 fun k3 l5 e0=>?_
  have i3:=e0.ge (bln (bln n1.below n2.below) (Za W2))
  have f9:=Xc (size:=1) (n:=1) e0.blk i3 rfl (by decide)
  have hB:=bln (bln (bln n1.below n2.below) (Za W2)) e0.below
  refine ybi (.o [] 4) (.t w.heap.size [3,35]) fun _ _ _ _ zJ zQ zo zx zy zK=>Zw (m:=0) (news:=[]) (V0 0) 1 8 (1) ([V0 no]) zo Tryz.underlying33 (by kernel_rfl) rfl (by decide) zx f9 zy (.inl ⟨none,0,rfl,rfl,rfl⟩) rfl (by simp) (by unfold maxLen;omega) (by omega) hB.size (by rfl) (by rfl) fun d9 a8 l4 i6 d8 d5=>?_
  refine zK _ _ (Zu d5 d8 f9 (by decide)) ?_
  have k2:=((n2.blk.below (Za W2)).below e0.below).grown d8 f9 (by decide)
  have g2:=n2.ge n1.below
  refine ysv (.o [7] 8) k2 [.slice d9 1 a8,V0 er] (.t w.heap.size [3,35]) fun k8 g9 i2=>⟨(Zp g9 k2 g2 (by decide)),?_⟩
  have g4:=g9.below (hB.trans d5) g2
  have d7:=g9.own2 i6 k2 (by decide)
  exact xec 3 i2 (.agg #[.slice d9 1 a8,V0 er]) ⟨_,rfl,g4,_,_,rfl,d7⟩
 have a3:=a0.below (Za W2)
 refine xb 0 1 a3 ?_
 refine xm2 0 1 3 ?_ ?_
 ·refine xbs 0 1 [V0 no] 3 fun k4 j7 c5=>?_
  have f7:=a3.below c5.below
  refine xb (.o [] 3) 0 f7 ?_
  have i9:=c5.ge (bln (bln n1.below n2.below) (Za W2))
  have e5:=Xc (size:=1) (n:=1) c5.blk i9 rfl (by decide)
  have hB:=bln (bln (bln n1.below n2.below) (Za W2)) c5.below
  refine ybi (.o [] 4) (.t w.heap.size [3,35]) fun _ _ _ _ zJ zQ zo zx zy zK=>Zw (m:=0) (news:=[]) (V0 0) 1 8 (1) ([V0 no]) zo Tryz.underlying33 (by kernel_rfl) rfl (by decide) zx e5 zy (.inl ⟨none,0,rfl,rfl,rfl⟩) rfl (by simp) (by unfold maxLen;omega) (by omega) hB.size (by rfl) (by rfl) fun d0 c1 l7 j0 c0 d4=>?_
  refine zK _ _ (Zu d4 c0 e5 (by decide)) ?_
  have k2:=((n2.blk.below (Za W2)).below c5.below).grown c0 e5 (by decide)
  have g2:=n2.ge n1.below
  refine ysv (.o [7] 8) k2 [.slice d0 1 c1,V0 er] (.t w.heap.size [3,35]) fun k1 e6 i8=>⟨(Zp e6 k2 g2 (by decide)),?_⟩
  have e7:=e6.below (hB.trans d4) g2
  have b4:=e6.own2 j0 k2 (by decide)
  exact xec 3 i8 (.agg #[.slice d0 1 c1,V0 er]) ⟨_,rfl,e7,_,_,rfl,b4⟩
 refine xb 0 0 a3 ?_
 refine xbs (.o [] 1) 1 [V0 no] 3 fun l2 j5 e2=>?_
 have j3:=e2.ge (bln (bln n1.below n2.below) (Za W2))
 have f1:=Xc (size:=1) (n:=1) e2.blk j3 rfl (by decide)
 have hB:=bln (bln (bln n1.below n2.below) (Za W2)) e2.below
 refine ybi (.o [] 4) (.t w.heap.size [3,35]) fun _ _ _ _ zJ zQ zo zx zy zK=>Zw (m:=0) (news:=[]) (V0 0) 1 8 (1) ([V0 no]) zo Tryz.underlying33 (by kernel_rfl) rfl (by decide) zx f1 zy (.inl ⟨none,0,rfl,rfl,rfl⟩) rfl (by simp) (by unfold maxLen;omega) (by omega) hB.size (by rfl) (by rfl) fun d6 a7 k0 j1 c2 b0=>?_
 refine zK _ _ (Zu b0 c2 f1 (by decide)) ?_
 have k2:=((n2.blk.below (Za W2)).below e2.below).grown c2 f1 (by decide)
 have g2:=n2.ge n1.below
 refine ysv (.o [7] 8) k2 [.slice d6 1 a7,V0 er] (.t w.heap.size [3,35]) fun j8 h1 j2=>⟨(Zp h1 k2 g2 (by decide)),?_⟩
 have f3:=h1.below (hB.trans b0) g2
 have c7:=h1.own2 j1 k2 (by decide)
 exact xec 3 j2 (.agg #[.slice d6 1 a7,V0 er]) ⟨_,rfl,f3,_,_,rfl,c7⟩
def FltO(no er:Int)(w:World)(e:Ending)(w':World):Prop:=∃ a c,e=.returned (.agg #[.slice a (fltL no er).length c,V0 er])∧B0 w w'∧w'.ownsRow w.heap.size 3 1 (.slice a (fltL no er).length c) (fltL no er).length ((fltL no er).map V0)
theorem Zgp(no er:Int)(w:World):C0 197 #[V0 no,.agg #[S0,V0 er]] w (FltO no er w):=by
 by_cases he:er=0
 ·subst he
  refine(Zet no w).mono ?_
  rintro e W ⟨rfl,hb⟩
  exact⟨none,0,rfl,hb,World.ownsRow_nil _ _ _ _⟩
 ·refine(Zc9 no er w he).mono ?_
  rintro e W ⟨_,rfl,hb,a,c,rfl,ho⟩
  rw[FltO,fltL_nz he]
  exact⟨a,c,rfl,hb,ho⟩
theorem ref11_At(no er:Int)(w:World) :
 C0 106 #[V0 no,V0 er] w (FltO no er w):=by
 refine zin 9 Tryz.func106 ?_
 refine xa 2 [S0,V0 0] 35 fun b1 W1 n1=>?_
 refine xc 7 (args:=#[V0 no,.agg #[S0,V0 er]]) (Zgp no er _) ?_
 rintro _ W2 ⟨a5,c5,rfl,a1,a2⟩
 have k1:=n1.blk.below a1
 refine xsv 0 k1 [.slice a5 ((fltL no er).length) c5,V0 er] fun W3 u3 k3=>?_
 have g1:=n1.ge (B1 w)
 have hB:=u3.below (bln n1.below a1) g1
 have a0:=u3.own2 (Zg a2 n1.below.size) k1 (by decide)
 exact xec 3 k3 (.agg #[.slice a5 ((fltL no er).length) c5,V0 er]) ⟨_,_,rfl,hB,a0⟩
theorem raw1(l:Bl)(k:Nat):Zl l k 1=(l.getD k 0).toNat:=by simp[Zl]
theorem raw2(l:Bl)(k:Nat):Zl l k 2=(l.getD k 0).toNat+256*(l.getD (k+1) 0).toNat:=by simp[Zl]
theorem BysM.elem{w:World}{a:O0}{n c:Nat}{l:Bl}(h:Bys w (.slice a n c) l)(hl:l.length=n){k:Nat}(hk:k<n):a.isSome=true∧w.cell? (Xq a (k*1))=some (.int .u8 (↑(l.getD k 0).toNat:Int)):=by
 subst hl;exact Bys.elem h hk
theorem slN_of{w:World}{v:Value}{n:Nat}{l:Bl}(h:Bys w v l)(hl:l.length=n):Sl w v n (l.map bv):=by subst hl;exact h
theorem Sc{l:Bl}{k m n:Nat}(h:l.length=n)(hk:k≤m)(hm:m≤n):((l.drop k).take (m-k)).length=m-k:=by simp;omega
theorem Zge{kind no:Int}{l:Bl}(hl:l.length=256):(!(((l.drop 252).take 4)==leB ((Td l kind:Nat):Int) 4))=Gz kind no l 2:=by
 have h1:=Rr (l:=l) (k:=252) (w:=4) (by omega)
 have hs:Td l kind<256 ^ 4:=by
  have:=Nat.xor_lt_two_pow (n:=32) (Up (l.take 252)) (Bn kind)
  unfold Td;exact this
 have hr:=Nt l 4 252
 show _=((Zl l 252 4:Int) != (Td l kind:Int))
 rw[←h1]
 by_cases e:Zl l 252 4=Td l kind
 ·rw[e];simp
 ·have e2:leB (Zl l 252 4:Int) 4≠leB (Td l kind:Int) 4:=fun h=>e (leB_inj hr hs h)
  rw[beq_false_of_ne e2,bne_iff_ne.2 (by omega)];rfl
theorem Ox(kind no:Int)(a:O0)(c:Nat)(l:Bl)(w:World)(hl:l.length≠256)(h:Bys w (.slice a l.length c) l) :
 C0 196 #[.slice a l.length c,V0 kind,V0 no] w (Zhf kind no l w):=by
 refine zin 61 Tryz.func196 ?_
 refine xr 11 (args:=#[V0 kind,V0 no]) (Tm kind no _) fun W1 a2=>?_
 refine xi 3 (!(Kj kind no)) (fun a0=>?_) (fun a0=>?_)
 ·have a1:Gz kind no l 0=true:=a0
  refine xe 8 (.tuple #[S0,V0 1]) ?_
  have he:Yk kind no l=1:=by simp[Yk,a1]
  exact .inl ⟨by rw[he];decide,by rw[he],a2⟩
 have a1:Gz kind no l 0=false:=a0
 have a4:Kj kind no=true:=by simpa using a0
 refine xk 10 (show(((l.length:Int) != (256:Int)):Bool)=true from bne_iff_ne.2 (by omega)) ?_
 refine xe 8 (.tuple #[S0,V0 7]) ?_
 have a3:Gz kind no l 1=true:=bne_iff_ne.2 (by omega)
 have he:Yk kind no l=7:=by simp[Yk,a1,a3]
 exact .inl ⟨by rw[he];decide,by rw[he],a2⟩
theorem Ti(kind no:Int)(a:O0)(c:Nat)(l:Bl)(w:World)(hl256:l.length=256)(h:Bys w (.slice a 256 c) l) :
 C0 196 #[.slice a 256 c,V0 kind,V0 no] w (Zhf kind no l w):=by
 have d8:=h.cap hl256
 have a9:Gz kind no l 1=false:=bne_eq_false_iff_eq.2 (by rw[hl256];rfl)
 refine zin 61 Tryz.func196 ?_
 refine xr 11 (args:=#[V0 kind,V0 no]) (Tm kind no _) fun W1 d5=>?_
 refine xi 3 (!(Kj kind no)) (fun b3=>?_) (fun b3=>?_)
 ·have a2:Gz kind no l 0=true:=b3
  refine xe 8 (.tuple #[S0,V0 1]) ?_
  have he:Yk kind no l=1:=by simp[Yk,a2]
  exact .inl ⟨by rw[he];decide,by rw[he],d5⟩
 have a2:Gz kind no l 0=false:=b3
 have d4:Kj kind no=true:=by simpa using b3
 refine xd 15 .z ?_
 refine xsL (.e [0] 1) (fun _ _ _ _ zo zx zy V=>Qi (k:=252) (b:=a) (n:=256) (c:=c) (i:=252) (ki:=.i64) 1 zo zx zy rfl (by omega) Tryz.underlying40 (by kernel_rfl) V) ?_
 have hB:=bln d5 (Za W1)
 refine xcv (.e [] 2) (fun _ _ _ zo zx V hV=>Kc zo zx ((Bys.cut h hl256 252 256 (by decide) (Nat.le_refl _)).below (bln hB hV)) (Sc (m:=256) hl256 (by decide) (by decide)) Tryz.underlying40 Tryz.underlying5 Tryz.underlying9) ?_
 refine xsH (.e [3] 4) (fun _ _ _ _ zo zx zy V=>Qo (k:=252) (b:=a) (n:=256) (c:=c) (i:=252) (ki:=.i64) zo zx zy rfl (by omega) Tryz.underlying40 (by kernel_rfl) V) ?_
 refine xr (.o [6] 5) (args:=#[.slice a 252 c]) (ref_SumN a 252 c (l.take 252) _ (by simp;omega) (by decide) ((Bys.take h hl256 252 (by omega)).below hB)) fun W3 c3=>?_
 refine xr (.o [] 7) (args:=#[V0 kind]) (ref_Salt kind (Fs d4).1 (Fs d4).2.1 _) fun W4 d2=>?_
 refine xq (.e [] 8) (congrArg V0 (show(IntKind.i64.wrap (↑(BitVec.ofInt 64 (↑(Jq (l.take 252)):Int) ^^^ BitVec.ofInt 64 (↑(Wf kind):Int)).toNat:Int):Int)=(↑(Td l kind):Int) from Cd (Up (l.take 252)) (Bn kind))) ?_
 refine yc (.o [] 9) (args:=#[V0 (↑(Td l kind):Int),V0 4]) .z (Rh (↑(Td l kind):Int) 4 4 _ (Int.natCast_nonneg _) (by have:=Nat.xor_lt_two_pow (n:=32) (Up (l.take 252)) (Bn kind);unfold Td;omega) rfl (by decide)) ?_
 rintro _ W5 ⟨_,rfl,b5,p4,c4,rfl,h4⟩
 have e1:=(bln (bln hB c3) d2).size
 refine⟨b5,?_⟩
 have b1:=Zg h4 e1
 refine xcv (.e [] 10) (fun _ _ _ zo zx V hV=>Kc zo zx (Gp (Zh (Zb b1 hV)) (Ym _ _)) (Ym _ _) Tryz.underlying40 Tryz.underlying5 Tryz.underlying9) ?_
 refine xi (.r [11] 2) (!((⟨((l.drop 252).take 4).toArray⟩:ByteArray).toList==(⟨(leB (↑(Td l kind):Int) 4).toArray⟩:ByteArray).toList)) (fun c2=>?_) (fun c2=>?_)
 ·have a3:Gz kind no l 2=true:=by rw[←Zge hl256,←Ue];exact c2
  have b6:=bln (bln (bln hB c3) d2) b5
  refine xe 8 (.tuple #[S0,V0 4]) ?_
  have he:Yk kind no l=4:=by simp[Yk,a2,a9,a3]
  exact .inl ⟨by rw[he];decide,by rw[he],b6⟩
 have a3:Gz kind no l 2=false:=by rw[←Zge hl256,←Ue];exact c2
 have a7:=bln (bln (bln hB c3) d2) b5
 refine xr 5 (args:=#[.slice a 256 c,V0 0,V0 4]) (Rm a 256 c 0 4 0 4 l _ hl256 rfl rfl (by decide) (by decide) (by decide) (h.below a7)) fun W7 b7=>?_
 refine xin 15 (↑(Zl l 0 4):Int) no (fun b8=>?_) (fun b8=>?_)
 ·have a8:Gz kind no l 3=true:=bne_iff_ne.2 b8
  have c1:=bln a7 b7
  refine xe 8 (.tuple #[S0,V0 5]) ?_
  have he:Yk kind no l=5:=by simp[Yk,a2,a9,a3,a8]
  exact .inl ⟨by rw[he];decide,by rw[he],c1⟩
 have a8:Gz kind no l 3=false:=bne_eq_false_iff_eq.2 b8
 have a6:=bln a7 b7
 refine xr 5 (args:=#[.slice a 256 c,V0 4,V0 2]) (Rm a 256 c 4 2 4 2 l _ hl256 rfl rfl (by decide) (by decide) (by decide) (h.below a6)) fun W9 c6=>?_
 refine xin 15 (↑(Zl l 4 2):Int) kind (fun a4=>?_) (fun a4=>?_)
 ·have b2:Gz kind no l 4=true:=bne_iff_ne.2 a4
  have c0:=bln a6 c6
  refine xe 8 (.tuple #[S0,V0 6]) ?_
  have he:Yk kind no l=6:=by simp[Yk,a2,a9,a3,a8,b2]
  exact .inl ⟨by rw[he];decide,by rw[he],c0⟩
 have b2:Gz kind no l 4=false:=bne_eq_false_iff_eq.2 a4
 refine xx 6 _ 256 6 1 (BysM.elem h hl256 (k:=6) (by omega)).1 ?_
 have a0:=bln a6 c6
 refine xl 0 ((BysM.elem (h.below a0) hl256 (k:=6) (by omega)).2) ?_
 refine xg 2 [50,51] ((↑(l.getD 6 0).toNat:Int) != (0:Int)) (fun a1=>?_) (fun a1=>?_)
 ·have a1:=Qk a1
  refine xe 16 (.tuple #[S0,V0 7]) ?_
  have b0:Gz kind no l 5=true:=bne_iff_ne.2 (by have d3:Zl l 6 2=(l.getD 6 0).toNat+256*(l.getD 7 0).toNat:=raw2 l 6;omega)
  have he:Yk kind no l=7:=by simp[Yk,a2,a9,a3,a8,b2,b0]
  exact .inl ⟨by rw[he];decide,by rw[he],a0⟩
 have a1:=Xn a1
 refine xx 1 _ 256 7 1 (BysM.elem h hl256 (k:=7) (by omega)).1 ?_
 refine xl 0 ((BysM.elem (h.below a0) hl256 (k:=7) (by omega)).2) ?_
 refine xin 4 (↑(l.getD 7 0).toNat:Int) (0:Int) (fun c8=>?_) (fun c8=>?_)
 ·refine xe 8 (.tuple #[S0,V0 7]) ?_
  have b0:Gz kind no l 5=true:=bne_iff_ne.2 (by have d3:Zl l 6 2=(l.getD 6 0).toNat+256*(l.getD 7 0).toNat:=raw2 l 6;omega)
  have he:Yk kind no l=7:=by simp[Yk,a2,a9,a3,a8,b2,b0]
  exact .inl ⟨by rw[he];decide,by rw[he],a0⟩
 refine xb0 4 5 fun e2 e4 b4=>?_
 have d9:=b4.ge a0
 have c5:=Zb (Zb b1 b7) c6
 have d1:=Zx c5 b4
 refine xsB 1 (fun _ _ _ _ _ zo zx zy zz V=>Qg (k:=8) (h:=252) (b:=a) (n:=256) (c:=c) (i:=8) (ki:=.i64) (j:=252) (kj:=.i64) 1 zo zx zy rfl zz rfl (by omega) (by omega) Tryz.underlying40 (by kernel_rfl) V) ?_
 have d6:=Xc (size:=1) (n:=0) b4.blk d9 rfl (by decide)
 have a5:=bln a0 b4.below
 refine xbi 0 fun _ _ _ _ zJ zQ zo zx zy zK=>Zw (m:=(252-8)) (news:=(((l.drop 8).take (252-8)).map bv)) (.int .u8 0) 1 1 (244) ((((l.drop 8).take 244).map bv)) zo Tryz.underlying40 (by kernel_rfl) rfl (by decide) zx d6 zy (slN_of ((Bys.cut h hl256 8 252 (by decide) (by decide)).below a5) (by simp;omega)) (by simp;omega) (Mu _) (by unfold maxLen;omega) (by omega) a5.size (by rfl) (by rfl) fun b9 c7 e3 e0 d7 c9=>?_
 refine zK _ _ ?_
 have d0:=a5.trans c9
 refine xe 5 (.tuple #[.slice b9 244 c7,V0 0]) ?_
 have b0:Gz kind no l 5=false:=by have d3:Zl l 6 2=(l.getD 6 0).toNat+256*(l.getD 7 0).toNat:=raw2 l 6;exact bne_eq_false_iff_eq.2 (by omega)
 exact .inr ⟨by simp[Yk,a2,a9,a3,a8,b2,b0],_,_,rfl,d0,e0⟩
theorem ref_Open(kind no:Int)(a:O0)(n c:Nat)(l:Bl)(w:World)(hn:l.length=n)(h:Bys w (.slice a n c) l):C0 196 #[.slice a n c,V0 kind,V0 no] w (Zhf kind no l w):=by
 by_cases hl:l.length=256
 ·obtain rfl:n=256:=by omega
  exact Ti kind no a c l w hl h
 ·subst hn;exact Ox kind no a c l w hl h
theorem Du(B bm:Nat)(p:O0)(k c:Nat)(l:Bl)(w:World)(hI:RefI B bm p k c l w)(no:Int)(ho:¬ (0≤no∧no<(k:Int))) :
 C0 195 #[P0 bm,V0 no] w (Ret (.tuple #[S0,V0 3]) w):=by
 have hk:=hI.blk
 have a2:=hI.hk
 have a1:=hI.hl
 refine zin 25 Tryz.func195 ?_
 refine xg 12 [7,8] (decide (no<(0:Int))) (fun a0=>?_) (fun a0=>?_)
 ·have a0:=of_decide_eq_true a0
  exact xe 19 (.tuple #[S0,V0 3]) ⟨rfl,(B1 w)⟩
 have a0:=of_decide_eq_false a0
 refine xb 4 0 hk ?_
 refine xk 5 (show(decide (no≥(k:Int)):Bool)=true from decide_eq_true (by omega)) ?_
 exact xe 8 (.tuple #[S0,V0 3]) ⟨rfl,(B1 w)⟩
theorem Ei(B bm:Nat)(p:O0)(k c:Nat)(l:Bl)(w:World)(hI:RefI B bm p k c l w)(j:Nat)(hj:j<k) :
 C0 195 #[P0 bm,V0 (j:Int)] w (Ko (fun w' r=>∃ b c2,r=.tuple #[.slice (S1 b) 256 c2,V0 0]∧Bys w' (.slice (S1 b) 256 c2) (Jw l j)) w):=by
 have hk:=hI.blk
 have a5:=hI.hk
 have a4:=hI.hl
 have hr:=Zh hI.row
 have a2:(Ub l k).getD j []=Jw l j:=Zgh l hj
 have a1:((Ub l k).getD j []).length=256:=by rw[a2];exact Gf (by omega)
 refine zin 25 Tryz.func195 ?_
 refine xgk 12 [7,8] (show(decide ((j:Int)<(0:Int)):Bool)=false from decide_eq_false (by omega)) ?_
 refine xb 4 0 hk ?_
 refine xk 5 (show(decide ((j:Int)≥(k:Int)):Bool)=false from decide_eq_false (by omega)) ?_
 refine xb 7 0 hk ?_
 refine xx 1 _ k j 1 (Strs.elem hr (An l k) (k:=j) (by omega)).1 ?_
 refine xl 0 ((Strs.elem hr (An l k) (k:=j) (by omega)).2) ?_
 refine xcf 0 fun _ _ _ zJ zQ zo zx zK=>Vf ((Ub l k).getD j []) zo zx Tryz.underlying9 Tryz.underlying40 Tryz.underlying5 (by omega) ?_
 intro bz cz W2 a3 a0
 refine zK _ _ ?_
 refine xe 5 (.tuple #[.slice (S1 bz) (((Ub l k).getD j []).length) cz,V0 0]) ?_
 rw[a1]
 rw[a1,a2] at a0
 exact⟨_,rfl,a3,_,_,rfl,a0⟩
def RReadP(k:Nat)(l:Bl)(no:Int)(w:World)(e:Ending)(w':World):Prop :=
 (¬ (0≤no∧no<(k:Int))∧e=.returned (.tuple #[S0,V0 3])∧B0 w w') ∨
 (∃ j:Nat,no=(j:Int)∧j<k∧∃ b c,e=.returned (.tuple #[.slice (S1 b) 256 c,V0 0])∧B0 w w'∧Bys w' (.slice (S1 b) 256 c) (Jw l j))
theorem Oc(B bm:Nat)(p:O0)(k c:Nat)(l:Bl)(w:World)(hI:RefI B bm p k c l w)(no:Int) :
 C0 195 #[P0 bm,V0 no] w (RReadP k l no w):=by
 by_cases h:0≤no∧no<(k:Int)
 ·obtain⟨j,rfl⟩:∃ j:Nat,no=j:=⟨no.toNat,by omega⟩
  refine(Ei B bm p k c l w hI j (by omega)).mono ?_
  rintro e W ⟨_,rfl,hb,b,c2,rfl,ho⟩
  exact .inr ⟨j,rfl,by omega,_,_,rfl,hb,ho⟩
 ·refine(Du B bm p k c l w hI no h).mono ?_
  rintro e W ⟨rfl,hb⟩
  exact .inl ⟨h,rfl,hb⟩
def RInP(l:Bl)(kind no:Int)(w:World)(e:Ending)(w':World):Prop :=
 (inE l kind no≠0∧e=.returned (.tuple #[S0,V0 (inE l kind no)])∧B0 w w') ∨
 (inE l kind no=0∧(inB l no).length=244∧∃ p c,e=.returned (.tuple #[.slice p 244 c,V0 0])∧B0 w w'∧w'.ownsRow w.heap.size 5 1 (.slice p 244 c) 244 ((inB l no).map bv))
theorem Zcn(B bm:Nat)(p:O0)(k c:Nat)(l:Bl)(w:World)(hI:RefI B bm p k c l w)(no:Int)(kind:Int) :
 C0 105 #[P0 bm,V0 no,V0 kind] w (RInP l kind no w):=by
 have a9:=hI.hl
 refine zin 25 Tryz.func105 ?_
 refine xc 10 (args:=#[P0 bm,V0 no]) (Oc B bm p k c l _ (hI.below (B1 w)) no) ?_
 rintro e W1 a7
 rcases a7 with ⟨ho,rfl,a0⟩|⟨j,a5,hj,b3,c3,rfl,a0,a6⟩
 ·refine xe 24 (.tuple #[S0,V0 3]) ?_
  have he:inE l kind no=3:=Db (n:=k*256) hI.hl (by omega)
  exact .inl ⟨by rw[he];decide,by rw[he],a0⟩
 have a3:inE l kind no=Yk kind no (Jw l j):=inE_in (n:=k*256) hI.hl a5 (by omega)
 have a4:inB l no=((Jw l j).drop 8).take 244:=Zf6 a5
 refine xc 22 (args:=#[.slice (S1 b3) 256 c3,V0 kind,V0 no]) (ref_Open kind no _ 256 c3 (Jw l j) _ (Gf (by omega)) a6) ?_
 rintro e W2 a8
 rcases a8 with ⟨hs,rfl,a1⟩|⟨hs,p2,c2,rfl,a1,h2⟩
 ·have hB:=bln a0 a1
  exact xe 7 (.tuple #[S0,V0 (Yk kind no (Jw l j))]) (.inl ⟨by rw[a3];exact hs,by rw[a3],hB⟩)
 have hB:=bln a0 a1
 have a2:=Zg h2 a0.size
 exact xe 7 (.tuple #[.slice p2 244 c2,V0 0]) (.inr ⟨by rw[a3,hs],by rw[a4];simp[Gf (show j<l.length/256 by omega)],_,_,rfl,hB,by rw[a4];exact a2⟩)
end Go.Proofs.YtegcamkgeacjfaaGreatDoor
