/- errors.Is of one Errno at another, as a contract. -/
import Derived.Deep.MidRow
import Derived.Laws.IdiomStrings
import Derived.Test.YtegcamkgeacjfaaGreatDoorRows
import Derived.RangeFuncNested
import Derived.RangeFuncBound
import Derived.RangeFuncCalls
import Derived.RangeFuncLeaves
import Derived.Shelf.Abstract
import Derived.Shelf.RegionOpen
import Derived.OwnWalkIn
import Derived.TacticsInMore
import Derived.LoopNIn
import Derived.LoopIn
import Derived.Test.YtegcamkgeacjfaaGreatDoorMg1
namespace Go.Proofs.YtegcamkgeacjfaaGreatDoor
set_option maxHeartbeats 8000000
set_option maxRecDepth 100000
open Go.RowKit Go.Extern.Stop Go.Stop Go.Extern
set_option linter.unusedVariables false
theorem errno_eq{P:Program}(w:World){ti tn:TypeId}{ms:Array (String×TypeId)}{i:TypeInfo}{k:IntKind}(a b:Int)
 (hi:P.underlying ti=some (.interface ms)) (hn:P.underlying tn=some (.int k)) (hinfo:P.info? tn=some i) (hcomp:i.comparable=true) :
 (binOp .eql ti (.iface tn (.int k a)) (.iface tn (.int k b))).run P w=.ok (.bool (a==b)) w:=by
 have h:∀ d:Nat,(Op.equalIn (d+2) ti (.iface tn (.int k a)) (.iface tn (.int k b))).run P w=.ok (a==b) w:=fun d=>by simp[Op.equalIn,run_underlying hi,run_underlying hn,typeInfo,hinfo,hcomp]
 simp only[binOp]
 simp[Op.equal,Op.maxDepth,h 9998]
theorem Tryz.eqN(a b:Int)(w:World):(binOp .eql 29 (.iface 63 (V0 a)) (.iface 63 (V0 b))).run Tryz.prog w=.ok (.bool (a==b)) w:=by
 obtain⟨i,h1,h2⟩:=Option.map_eq_some_iff.1 (show(Tryz.prog.info? 63).map (·.comparable)=some true by kernel_rfl)
 exact errno_eq w a b Tryz.underlying29 Tryz.underlying63 h1 h2
theorem Tryz.methComparable (h : Value) (w : World) : (Go.method 562 360 (.agg #[h]) "Comparable").run Tryz.prog w = .ok (347, .agg #[h]) w := by kernel_rfl
theorem Tryz.comparableN(w:World):(callFunc 347 #[.agg #[.pointer (some ⟨1,63,none⟩)]]).run Tryz.prog w=.ok (Next.value (.bool true)) w:=by kernel_rfl
theorem Zat(c d:Int)(w:World):C0 276 #[.iface 63 (V0 c),.iface 63 (V0 d),.bool true] w (Ret (.bool (c==d)) w):=by
 have y1:=Tryz.eqN
 have y2:=Tryz.noIsN
 have y3:=Tryz.noUnwrapN
 have y4:=Tryz.noUnwrapsN
 go_enter Tryz.func276,Tryz.ntmps276
 go_wp2_with fail
 go_loopw [0] (fun v wr=>v=.iface 63 (V0 c)∧wr=w) (fun _ _=>0)
 case atStart=>exact⟨rfl,rfl⟩
 case round =>
  obtain⟨rfl,rfl⟩:=hrel
  by_cases h:c=d
  ·have h':(c==d)=true:=by simpa using h
   have HH:=Lib.hid h;clear h
   go_wp2_with fail
   go_ret
   exact⟨by rw[h'];rfl,Below.refl _ _⟩
  ·have h':(c==d)=false:=by simpa using h
   have HH:=Lib.hid h;clear h
   go_wp2_with fail
   go_ret
   exact⟨by rw[h'];rfl,Below.refl _ _⟩
theorem Bw(c d:Int)(w:World):C0 242 #[.iface 63 (V0 c),.iface 63 (V0 d)] w (Ret (.bool (c==d)) w):=by
 have a0:=@run_callFunc_extern Tryz.prog 251 _ ReflectliteType.typeOf Tryz.func251 (by kernel_rfl) (by kernel_rfl) (by kernel_rfl) (by kernel_rfl)
 have y1:=Tryz.typeOfN
 have y2:=Tryz.methComparable
 have y3:=Tryz.comparableN
 go_enter Tryz.func242,Tryz.ntmps242
 go_wp2_with fail
 refine(Zat c d _).mono ?_
 rintro e w' ⟨rfl,hb⟩
 go_wp2_with fail
 go_ret
 exact⟨rfl,hb⟩
theorem Qs(no c:Int)(w:World):C0 172 #[V0 no,.iface 63 (V0 c)] w (Jl (fun w' r=>Yu w' (if c=0 then [] else [some no]) (if c=0 then none else some c) r) w):=by
 by_cases h:c=0
 ·subst h
  go_enter Tryz.func172,Tryz.ntmps172
  go_wp2_with fail
  refine(Bw 0 0 _).mono ?_
  rintro e w1 ⟨rfl,hb⟩
  rw[show((0:Int)==0)=true from rfl]
  go_wp2_with fail
  go_ret
  exact⟨_,rfl,hb,rfl⟩
 ·have h':(c==0)=false:=by simpa using h
  simp only[h,if_false]
  have HC:=Lib.hid h;clear h
  go_enter Tryz.func172,Tryz.ntmps172
  go_wp2_with fail
  refine(Bw c 0 _).mono ?_
  rintro e w1 ⟨rfl,hb⟩
  rw[h']
  go_wp2_with fail
  refine(Yj no (some c) [] _ w1 rfl).mono ?_
  rintro e w2 ⟨r,rfl,a0,h2⟩
  go_wp2_with fail
  go_ret
  exact⟨_,rfl,bln hb a0,h2⟩
theorem Tryz.nilBytes(w:World):(binOp .eql 40 (S0) (S0)).run Tryz.prog w=.ok (.bool true) w:=by kernel_rfl
theorem Ex(w:World):C0 15 #[S0] w fun e w'=>e=.returned (.pointer (some ⟨w.heap.size,0,none⟩))∧w'=w.alloc (.cells #[S0] 95):=by
 have y:=Tryz.nilBytes
 go_enter Tryz.func15,Tryz.ntmps15
 go_wp2
 go_ret
 exact⟨rfl,rfl⟩
theorem Lj(b:Nat)(k:Int)(w:World)(h:Blk w b [S0] 95)(hk:0≤k):C0 26 #[P0 b,V0 k] w (Ret (.tuple #[S0,V0 3]) w):=by
 have c0:=h.cell (i:=0) rfl
 have a0:¬ (k<0):=by omega
 have y:=Tryz.nilBytes
 go_enter Tryz.func26,Tryz.ntmps26
 go_wp2
 exact bodyPost_ret (v:=.tuple #[S0,V0 3]) (by simp[results,Tryz.results26,go_sem]) rfl ⟨rfl,Below.refl _ _⟩
theorem Blk.range{w:World}{b:Nat}{cs:List Value}{t:TypeId}(h:Blk w b cs t):w.rangeAt b 0 cs:=fun j v hj=>by rw[Nat.zero_add];exact h.cell hj
theorem Blk.there{w:World}{b:Nat}{cs:List Value}{t:TypeId}(h:Blk w b cs t){n:Nat}(hn:n=cs.length):w.there b 0 n:=fun j hj=>by
 rw[Nat.zero_add]
 exact⟨by rw[h.cell (List.getElem?_eq_getElem (by omega))];rfl,h.frozen j⟩
end Go.Proofs.YtegcamkgeacjfaaGreatDoor
namespace Go.Proofs.YtegcamkgeacjfaaGreatDoor
set_option maxHeartbeats 8000000
set_option maxRecDepth 100000
open Go.RowKit Go.Extern.Stop Go.Stop Go.Extern
set_option linter.unusedVariables false
attribute [local irreducible] wpList wpAnyH Code.wp Oper.wp Go
theorem Zbl(n k:Nat)(hn:n<9223372036854775808)(hk:0<k):IntKind.i64.wrap (Int.tdiv (n:Int) (k:Int))=((n/k:Nat):Int):=by
 rw[Int.tdiv_eq_ediv_of_nonneg (Int.natCast_nonneg _),←Int.natCast_ediv]
 exact Me (Nat.lt_of_le_of_lt (Nat.div_le_self _ _) hn)
theorem min_cast(a b:Nat):(if(b:Int)<(a:Int) then(b:Int) else(a:Int))=((min a b:Nat):Int):=by split<;>omega
theorem Ws(b:Nat)(p:O0)(n c:Nat)(w:World)(hk:Blk w b [.slice p n c] 95)(hn:n≤100000000) :
 C0 25 #[P0 b] w (Ret (V0 ((n/256:Nat):Int)) w):=by
 refine zin 11 Tryz.func25 ?_
 refine xb 20 0 hk ?_
 refine xq 1 (congrArg V0 (show(IntKind.i64.wrap (Int.tdiv (n:Int) 256):Int)=(↑(n/256):Int) from Zbl n 256 (by omega) (by decide))) ?_
 exact xe 4 (V0 (↑(n/256):Int)) ⟨rfl,(B3 w)⟩
theorem image_Of(a:O0)(c:Nat)(l:Bl)(w:World)(h:Bys w (.slice a l.length c) l)(hl:l.length≤100000000)(hc:l.length≤c) :
 C0 15 #[.slice a l.length c] w (Jl (fun w' r=>∃ b p c,r=P0 b∧w.heap.size≤b∧Blk w' b [.slice p (min (l.length/256) 14400*256) c] 95∧w'.ownsRow w.heap.size 5 1 (.slice p (min (l.length/256) 14400*256) c) (min (l.length/256) 14400*256) ((l.take (min (l.length/256) 14400*256)).map bv)) w):=by
 refine zin 15 Tryz.func15 ?_
 refine xq 9 (congrArg V0 (show(IntKind.i64.wrap (Int.tdiv (l.length:Int) 256):Int)=(↑(l.length/256):Int) from Zbl l.length 256 (by omega) (by decide))) ?_
 refine xq 0 (congrArg V0 (show(if(14400:Int)<(↑(l.length/256):Int) then(14400:Int) else(↑(l.length/256):Int):Int)=(↑(min (l.length/256) 14400):Int) from min_cast (l.length/256) 14400)) ?_
 refine xwm 7 ((↑(min (l.length/256) 14400):Int)*256) (↑((min (l.length/256) 14400)*256):Int) ?_
 refine xsH 0 (fun _ _ _ _ zo zx zy V=>Qt (k:=((min (l.length/256) 14400)*256)) (b:=a) (n:=l.length) (c:=c) (i:=(↑((min (l.length/256) 14400)*256):Int)) (ki:=.i64) zo zx zy rfl (by omega) Tryz.underlying40 (by kernel_rfl) V) ?_
 refine xc 0 (args:=#[.slice a ((min (l.length/256) 14400)*256) c]) (Qy a (min (l.length/256) 14400*256) c (l.take (min (l.length/256) 14400*256)) _ (by simp;omega) ((h.take rfl _ (by omega)).below (B3 w)) (by omega)) ?_
 rintro _ W1 ⟨_,rfl,a2,ho⟩
 have a3:=Nat.le_refl w.heap.size
 have a0:=Zh ho a3
 unfold Se at a0
 rw[show(l.take (min (l.length/256) 14400*256)).length=min (l.length/256) 14400*256 by simp;omega] at a0
 obtain⟨pd,cd,rfl⟩:=(Zi a0).slice
 refine xa 1 [.slice pd (min (l.length/256) 14400*256) cd] 95 fun b2 W2 n2=>?_
 have hB:=bln a2 n2.below
 have g2:=n2.ge a2
 have a1:=Zb a0 n2.below
 exact xe 4 (P0 b2) ⟨_,rfl,hB,_,_,_,rfl,g2,n2.blk,a1⟩
theorem Ru(b g:Nat)(n c k:Nat)(w:World)(hk:Blk w b [.slice (S1 g) n c] 95)(hn:n≤100000000)(hc:n≤c)(hkn:k<n/256) :
 C0 65 #[P0 b,V0 (k:Int)] w (Ret (.tuple #[.slice (some ⟨g,k*256,none⟩) 256 256,V0 0]) w):=by
 refine zin 33 Tryz.func65 ?_
 refine xgk 21 [13,14] (show(decide ((k:Int)<(0:Int)):Bool)=false from decide_eq_false (by omega)) ?_
 refine xr 2 (args:=#[P0 b]) (Ws b _ n c _ (hk.below (B3 w)) hn) fun W2 a1=>?_
 refine xk 5 (show(decide ((k:Int)≥(↑(n/256):Int)):Bool)=false from decide_eq_false (by omega)) ?_
 refine xwm 6 ((k:Int)*256) (↑(k*256):Int) ?_
 refine xwm 1 ((k:Int)+1) (↑(k+1):Int) ?_
 refine xwm 0 ((↑(k+1):Int)*256) (↑((k+1)*256):Int) ?_
 have a0:=hk.below a1
 refine xb 9 0 a0 ?_
 refine xs3 3 (fun _ _ _ _ _ _ zo zx zy zz zm V=>Og (k:=(k*256)) (h:=((k+1)*256)) (b:=g) (off:=0) (n:=n) (c:=c) (i:=(↑(k*256):Int)) (ki:=.i64) (j:=(↑((k+1)*256):Int)) (kj:=.i64) (j2:=(↑((k+1)*256):Int)) (kj2:=.i64) 1 (k*256) 256 zo zx zy rfl zz rfl zm rfl (by omega) (by omega) (by omega) (by omega) Tryz.underlying40 (by kernel_rfl) V) ?_
 exact xe 5 (.tuple #[.slice (some ⟨g,(k*256),none⟩) 256 256,V0 0]) ⟨rfl,a1⟩
theorem IntsN.elem{w:World}{b:O0}{n c:Nat}{l:List Int}(h:Sl w (.slice b n c) n (l.map V0))(hl:l.length=n){k:Nat}(hk:k<n):b.isSome=true∧w.cell? (Xa b (k*1))=some (V0 (l.getD k 0)):=by
 subst hl;exact Ints.elem h hk
theorem Ze.mono{T T':List TypeId}{w w':World}(h:Ze T w w')(hT:∀ t,T'.contains t=false→T.contains t=false):Ze T' w w':=fun k cs t fr hk ht=>h k cs t fr hk (hT t ht)
theorem Wd(w:World) :
 C0 272 #[V0 1,.bool true] w (Ret (V0 4) w):=by
 refine zin 31 Tryz.func272 ?_
 exact xe 94 (V0 4) ⟨rfl,(B3 w)⟩
theorem Zay(w:World) :
 C0 269 #[V0 1,.bool true] w (Ret (V0 18) w):=by
 refine zin 16 Tryz.func269 ?_
 refine xr 9 (args:=#[V0 1,.bool true]) (Wd _) fun W1 a0=>?_
 exact xe 24 (V0 18) ⟨rfl,a0⟩
theorem Wo(w:World) :
 C0 272 #[V0 1,.bool false] w (Ret (V0 4) w):=by
 refine zin 31 Tryz.func272 ?_
 exact xe 41 (V0 4) ⟨rfl,(B3 w)⟩
theorem Oq(w:World) :
 C0 269 #[V0 1,.bool false] w (Ret (V0 18) w):=by
 refine zin 16 Tryz.func269 ?_
 refine xr 9 (args:=#[V0 1,.bool false]) (Wo _) fun W1 a0=>?_
 exact xe 24 (V0 18) ⟨rfl,a0⟩
theorem Wh(w:World) :
 C0 272 #[V0 2,.bool true] w (Ret (V0 8) w):=by
 refine zin 31 Tryz.func272 ?_
 exact xe 101 (V0 8) ⟨rfl,(B3 w)⟩
theorem Zbb(w:World) :
 C0 269 #[V0 2,.bool true] w (Ret (V0 12) w):=by
 refine zin 16 Tryz.func269 ?_
 refine xr 9 (args:=#[V0 2,.bool true]) (Wh _) fun W1 a0=>?_
 exact xe 24 (V0 12) ⟨rfl,a0⟩
theorem Wm(w:World) :
 C0 272 #[V0 2,.bool false] w (Ret (V0 4) w):=by
 refine zin 31 Tryz.func272 ?_
 exact xe 41 (V0 4) ⟨rfl,(B3 w)⟩
theorem Za2(w:World) :
 C0 269 #[V0 2,.bool false] w (Ret (V0 18) w):=by
 refine zin 16 Tryz.func269 ?_
 refine xr 9 (args:=#[V0 2,.bool false]) (Wm _) fun W1 a0=>?_
 exact xe 24 (V0 18) ⟨rfl,a0⟩
theorem Wx(w:World) :
 C0 272 #[V0 3,.bool true] w (Ret (V0 24) w):=by
 refine zin 31 Tryz.func272 ?_
 exact xe 93 (V0 24) ⟨rfl,(B3 w)⟩
theorem Ou(w:World) :
 C0 269 #[V0 3,.bool true] w (Ret (V0 6) w):=by
 refine zin 16 Tryz.func269 ?_
 refine xr 9 (args:=#[V0 3,.bool true]) (Wx _) fun W1 a0=>?_
 exact xe 24 (V0 6) ⟨rfl,a0⟩
theorem Wu(w:World) :
 C0 272 #[V0 3,.bool false] w (Ret (V0 4) w):=by
 refine zin 31 Tryz.func272 ?_
 exact xe 41 (V0 4) ⟨rfl,(B3 w)⟩
theorem Od(w:World) :
 C0 269 #[V0 3,.bool false] w (Ret (V0 18) w):=by
 refine zin 16 Tryz.func269 ?_
 refine xr 9 (args:=#[V0 3,.bool false]) (Wu _) fun W1 a0=>?_
 exact xe 24 (V0 18) ⟨rfl,a0⟩
theorem Wj(w:World) :
 C0 272 #[V0 4,.bool true] w (Ret (V0 16) w):=by
 refine zin 31 Tryz.func272 ?_
 exact xe 98 (V0 16) ⟨rfl,(B3 w)⟩
theorem Ok(w:World) :
 C0 269 #[V0 4,.bool true] w (Ret (V0 9) w):=by
 refine zin 16 Tryz.func269 ?_
 refine xr 9 (args:=#[V0 4,.bool true]) (Wj _) fun W1 a0=>?_
 exact xe 24 (V0 9) ⟨rfl,a0⟩
theorem Wq(w:World) :
 C0 272 #[V0 4,.bool false] w (Ret (V0 4) w):=by
 refine zin 31 Tryz.func272 ?_
 exact xe 41 (V0 4) ⟨rfl,(B3 w)⟩
theorem Zaq(w:World) :
 C0 269 #[V0 4,.bool false] w (Ret (V0 18) w):=by
 refine zin 16 Tryz.func269 ?_
 refine xr 9 (args:=#[V0 4,.bool false]) (Wq _) fun W1 a0=>?_
 exact xe 24 (V0 18) ⟨rfl,a0⟩
theorem Wl(w:World) :
 C0 272 #[V0 5,.bool true] w (Ret (V0 4) w):=by
 refine zin 31 Tryz.func272 ?_
 exact xe 94 (V0 4) ⟨rfl,(B3 w)⟩
theorem Zao(w:World) :
 C0 269 #[V0 5,.bool true] w (Ret (V0 18) w):=by
 refine zin 16 Tryz.func269 ?_
 refine xr 9 (args:=#[V0 5,.bool true]) (Wl _) fun W1 a0=>?_
 exact xe 24 (V0 18) ⟨rfl,a0⟩
theorem Ww(w:World) :
 C0 272 #[V0 5,.bool false] w (Ret (V0 4) w):=by
 refine zin 31 Tryz.func272 ?_
 exact xe 41 (V0 4) ⟨rfl,(B3 w)⟩
theorem Zac(w:World) :
 C0 269 #[V0 5,.bool false] w (Ret (V0 18) w):=by
 refine zin 16 Tryz.func269 ?_
 refine xr 9 (args:=#[V0 5,.bool false]) (Ww _) fun W1 a0=>?_
 exact xe 24 (V0 18) ⟨rfl,a0⟩
def widN(t:Int)(leaf:Bool):Nat:=if leaf=false then 4 else if t=2 then 8 else if t=3 then 24 else if t=4 then 16 else 4
def maxN(t:Int)(leaf:Bool):Nat:=if leaf=false then 18 else if t=2 then 12 else if t=3 then 6 else if t=4 then 9 else 18
theorem Oi(t:Int)(leaf:Bool)(h1:1≤t)(h2:t≤5)(w:World):C0 272 #[V0 t,.bool leaf] w (Ret (V0 (widN t leaf:Int)) w):=by
 obtain rfl|rfl|rfl|rfl|rfl:t=1∨t=2∨t=3∨t=4∨t=5:=by omega
 all_goals cases leaf
 ·exact Wo w
 ·exact Wd w
 ·exact Wm w
 ·exact Wh w
 ·exact Wu w
 ·exact Wx w
 ·exact Wq w
 ·exact Wj w
 ·exact Ww w
 ·exact Wl w
theorem node_Max(t:Int)(leaf:Bool)(h1:1≤t)(h2:t≤5)(w:World):C0 269 #[V0 t,.bool leaf] w (Ret (V0 (maxN t leaf:Int)) w):=by
 obtain rfl|rfl|rfl|rfl|rfl:t=1∨t=2∨t=3∨t=4∨t=5:=by omega
 all_goals cases leaf
 ·exact Oq w
 ·exact Zay w
 ·exact Za2 w
 ·exact Zbb w
 ·exact Od w
 ·exact Ou w
 ·exact Zaq w
 ·exact Ok w
 ·exact Zac w
 ·exact Zao w
theorem maxN_pos(t:Int)(leaf:Bool):1≤maxN t leaf∧maxN t leaf≤18:=by
 unfold maxN;repeat' split
 all_goals decide
def lenOf:Value→Nat
 | .slice _ n _=>n
 | _=>0
def nv (n:Nat):Value:=V0 (n:Int)
theorem Zw{w:World}{b:O0}{n c:Nat}{l:List Nat}(h:Sl w (.slice b n c) n (l.map nv))(hl:l.length=n){k:Nat}(hk:k<n):b.isSome=true∧w.cell? (Xa b (k*1))=some (V0 ((l.getD k 0:Nat):Int)):=by
 have e:l.map nv=(l.map fun x:Nat=>(x:Int)).map V0:=by simp[nv]
 rw[e] at h
 have:=IntsN.elem h (by simpa using hl) hk
 rw[show(l.map fun x:Nat=>(x:Int)).getD k 0=((l.getD k 0:Nat):Int) by simp[List.getD,List.getElem?_eq_getElem (show k<l.length by omega)]] at this
 exact this
theorem take_sum{L:List Nat}{k:Nat}(h:k<L.length):(L.take (k+1)).sum=(L.take k).sum+L.getD k 0:=by
 rw[List.take_add_one,List.sum_append];simp[List.getD,List.getElem?_eq_getElem h]
theorem take_le{L:List Nat}(k:Nat):(L.take k).sum≤L.sum:=by
 conv=>rhs;rw[←List.take_append_drop k L,List.sum_append]
 omega
def Xf(l:Bl):Nat→Nat→Nat
 | _,0=>0
 | k,w+1=>(l.getD k 0).toNat+256*Xf l (k+1) w
theorem Co(l:Bl):∀ (w k:Nat),Xf l k w<256 ^ w
 | 0,k=>by simp[Xf]
 | w+1,k=>by
  have:=Co l w (k+1)
  have h:=(l.getD k 0).toNat_lt
  rw[Xf,Nat.pow_succ];omega
theorem Tn(l:Bl)(k w:Nat)(hw:w≤7):Xf l k w<72057594037927936:=Nat.lt_of_lt_of_le (Co l w k) (by rw[show(72057594037927936:Nat)=256 ^ 7 from rfl];exact Nat.pow_le_pow_right (by decide) hw)
theorem Vi(l:Bl)(k w:Nat)(hw:w≤4):Xf l k w<4294967296:=Nat.lt_of_lt_of_le (Co l w k) (by rw[show(4294967296:Nat)=256 ^ 4 from rfl];exact Nat.pow_le_pow_right (by decide) hw)
theorem Tw{n b:Nat}(hn:n<72057594037927936)(hb:b<256):IntKind.u64.wrap (↑(BitVec.ofInt 64 (IntKind.u64.wrap ((n:Int)*2 ^ 8)) ||| BitVec.ofInt 64 (b:Int)).toNat:Int)=((b+256*n:Nat):Int):=by
 have h1:IntKind.u64.wrap ((n:Int)*2 ^ 8)=((n*2 ^ 8:Nat):Int):=by
  rw[show(n:Int)*2 ^ 8=((n*2 ^ 8:Nat):Int) by omega];exact IntWalk.u64_in _ (by constructor<;>omega)
 rw[h1,BitVec.ofInt_natCast,BitVec.ofInt_natCast,BitVec.toNat_or,BitVec.toNat_ofNat,BitVec.toNat_ofNat,Nat.mod_eq_of_lt (by omega),Nat.mod_eq_of_lt (by omega)]
 rw[←Nat.shiftLeft_eq,←Nat.shiftLeft_add_eq_or_of_lt (by exact hb:b<2 ^ 8),Nat.shiftLeft_eq,IntWalk.u64_in _ (by constructor<;>omega)]
 congr 1;omega
theorem Zbr{n:Nat}(h:n<18446744073709551616):IntKind.u64.wrap (n:Int)=(n:Int):=IntWalk.u64_in _ (by constructor<;>omega)
theorem Aj(a:O0)(m c k w:Nat)(hw:w=1∨w=2∨w=4∨w=8)(hk:k+w≤m)(hm:m≤100000000)(W:World) :
 C0 215 #[.slice a m c,V0 (k:Int),V0 (w:Int)] W (Ret (V0 0) W):=by
 rcases hw with rfl|rfl|rfl|rfl
 ·exact there_1 a m c k hk hm W
 ·exact there_2 a m c k hk hm W
 ·exact there_4 a m c k hk hm W
 ·exact there_8 a m c k hk hm W
theorem Zda(a:O0)(c k w:Nat)(l:Bl)(W:World)(hw:w=1∨w=2∨w=4∨w=8)(hk:k+w≤l.length)(hl:l.length≤100000000)(h:Bys W (.slice a l.length c) l)(hq:Xf l k w<9223372036854775808) :
 C0 131 #[.slice a l.length c,V0 (k:Int),V0 (w:Int)] W (Ret (.tuple #[V0 (Xf l k w:Int),V0 0]) W):=by
 refine zin 38 Tryz.func131 ?_
 refine xr 12 (args:=#[.slice a l.length c,V0 (k:Int),V0 (w:Int)]) (Aj a l.length c k w hw hk hl _) fun W1 a3=>?_
 refine xw 21 ((w:Int)-1) ?_
 refine zl 4 38 (fun zm a2 V=>∃ (j r:Nat),a2=[(0,.slice a l.length c),(1,V0 (k:Int)),(6,V0 0),(7,V0 0),(9,.int .u64 (↑(Xf l (k+j) r):Int)),(10,V0 ((j:Int)-1))]∧zm=(((j:Int)-1)+1).toNat∧B0 W V∧j+r=w) ⟨w,0,rfl,rfl,a3,by omega⟩ ?_
 rintro _ _ W2 ⟨j,r,rfl,rfl,a0,a5⟩ J2 a4 r2
 refine xid 7 ((j:Int)-1≥(0:Int)) (fun a1=>?_) (fun a1=>?_)
 ·refine xq 10 (congrArg V0 (show IntKind.i64.wrap ((k:Int)+((j:Int)-1))=(↑(k+(j-1)):Int) from(show IntKind.i64.wrap ((k:Int)+((j:Int)-1))=((k:Int)+((j:Int)-1)) from by first|exact IntWalk.i64_in _ (by omega)|(simp only[IntKind.wrap];omega)).trans (by omega))) ?_
  refine xx 0 _ l.length (k+(j-1)) 1 (Bys.elem h (k:=(k+(j-1))) (by omega)).1 ?_
  refine xl 0 ((Bys.elem (h.below a0) (k:=(k+(j-1))) (by omega)).2) ?_
  refine xq 0 (congrArg (Value.int .u64) (show(IntKind.u64.wrap (↑(l.getD (k+(j-1)) 0).toNat:Int):Int)=(↑(l.getD (k+(j-1)) 0).toNat:Int) from Zbr (by have:=(l.getD (k+(j-1)) 0).toNat_lt;omega))) ?_
  refine xq 0 (congrArg (Value.int .u64) (show(IntKind.u64.wrap (↑(BitVec.ofInt 64 (IntKind.u64.wrap ((↑(Xf l (k+j) r):Int)*2 ^ 8)) ||| BitVec.ofInt 64 (↑(l.getD (k+(j-1)) 0).toNat:Int)).toNat:Int):Int)=(↑(Xf l (k+(j-1)) (r+1)):Int) from(Tw (Tn l (k+j) r (by omega)) (l.getD (k+(j-1)) 0).toNat_lt).trans (congrArg (fun x:Nat=>(x:Int)) (by rw[Xf,show k+(j-1)+1=k+j by omega])))) ?_
  refine xq 6 (congrArg V0 (show IntKind.i64.wrap ((j:Int)-1-1)=((↑(j-1:Nat):Int)-1) from(show IntKind.i64.wrap ((j:Int)-1-1)=((j:Int)-1-1) from by first|exact IntWalk.i64_in _ (by omega)|(simp only[IntKind.wrap];omega)).trans (by omega))) ?_
  exact ze 2 (a4 _ _ _ ⟨j-1,r+1,rfl,rfl,a0,by omega⟩ (by omega))
 refine xk 12 (show(decide ((↑(Xf l (k+j) r):Int)≥(9223372036854775808:Int)):Bool)=false from by rw[(show Xf l (k+j) r=Xf l k w from by rw[show j=0 by omega,show r=w by omega];rfl)];exact decide_eq_false (by omega)) ?_
 refine xq 5 (congrArg V0 (show(IntKind.i64.wrap (↑(Xf l (k+j) r):Int):Int)=(↑(Xf l k w):Int) from by rw[(show Xf l (k+j) r=Xf l k w from by rw[show j=0 by omega,show r=w by omega];rfl)];exact Me hq)) ?_
 exact xe 5 (.tuple #[V0 (↑(Xf l k w):Int),V0 0]) ⟨rfl,a0⟩
theorem Zb0(a:O0)(c k w:Nat)(l:Bl)(W:World)(hw:w=1∨w=2∨w=4∨w=8)(hk:k+w≤l.length)(hl:l.length≤100000000)(h:Bys W (.slice a l.length c) l)(hq:¬ Xf l k w<9223372036854775808) :
 C0 131 #[.slice a l.length c,V0 (k:Int),V0 (w:Int)] W (Ret (.tuple #[V0 0,V0 2]) W):=by
 refine zin 38 Tryz.func131 ?_
 refine xr 12 (args:=#[.slice a l.length c,V0 (k:Int),V0 (w:Int)]) (Aj a l.length c k w hw hk hl _) fun W1 a3=>?_
 refine xw 21 ((w:Int)-1) ?_
 refine zl 4 38 (fun zm a2 V=>∃ (j r:Nat),a2=[(0,.slice a l.length c),(1,V0 (k:Int)),(6,V0 0),(7,V0 0),(9,.int .u64 (↑(Xf l (k+j) r):Int)),(10,V0 ((j:Int)-1))]∧zm=(((j:Int)-1)+1).toNat∧B0 W V∧j+r=w) ⟨w,0,rfl,rfl,a3,by omega⟩ ?_
 rintro _ _ W2 ⟨j,r,rfl,rfl,a0,a5⟩ J2 a4 r2
 refine xid 7 ((j:Int)-1≥(0:Int)) (fun a1=>?_) (fun a1=>?_)
 ·refine xq 10 (congrArg V0 (show IntKind.i64.wrap ((k:Int)+((j:Int)-1))=(↑(k+(j-1)):Int) from(show IntKind.i64.wrap ((k:Int)+((j:Int)-1))=((k:Int)+((j:Int)-1)) from by first|exact IntWalk.i64_in _ (by omega)|(simp only[IntKind.wrap];omega)).trans (by omega))) ?_
  refine xx 0 _ l.length (k+(j-1)) 1 (Bys.elem h (k:=(k+(j-1))) (by omega)).1 ?_
  refine xl 0 ((Bys.elem (h.below a0) (k:=(k+(j-1))) (by omega)).2) ?_
  refine xq 0 (congrArg (Value.int .u64) (show(IntKind.u64.wrap (↑(l.getD (k+(j-1)) 0).toNat:Int):Int)=(↑(l.getD (k+(j-1)) 0).toNat:Int) from Zbr (by have:=(l.getD (k+(j-1)) 0).toNat_lt;omega))) ?_
  refine xq 0 (congrArg (Value.int .u64) (show(IntKind.u64.wrap (↑(BitVec.ofInt 64 (IntKind.u64.wrap ((↑(Xf l (k+j) r):Int)*2 ^ 8)) ||| BitVec.ofInt 64 (↑(l.getD (k+(j-1)) 0).toNat:Int)).toNat:Int):Int)=(↑(Xf l (k+(j-1)) (r+1)):Int) from(Tw (Tn l (k+j) r (by omega)) (l.getD (k+(j-1)) 0).toNat_lt).trans (congrArg (fun x:Nat=>(x:Int)) (by rw[Xf,show k+(j-1)+1=k+j by omega])))) ?_
  refine xq 6 (congrArg V0 (show IntKind.i64.wrap ((j:Int)-1-1)=((↑(j-1:Nat):Int)-1) from(show IntKind.i64.wrap ((j:Int)-1-1)=((j:Int)-1-1) from by first|exact IntWalk.i64_in _ (by omega)|(simp only[IntKind.wrap];omega)).trans (by omega))) ?_
  exact ze 2 (a4 _ _ _ ⟨j-1,r+1,rfl,rfl,a0,by omega⟩ (by omega))
 refine xk 12 (show(decide ((↑(Xf l (k+j) r):Int)≥(9223372036854775808:Int)):Bool)=true from by rw[(show Xf l (k+j) r=Xf l k w from by rw[show j=0 by omega,show r=w by omega];rfl)];exact decide_eq_true (by omega)) ?_
 exact xe 8 (.tuple #[V0 0,V0 2]) ⟨rfl,a0⟩
def Jn(l:Bl):Nat→List Nat→List Nat
 | _,[]=>[]
 | k,w::r=>Xf l k w::Jn l (k+w) r
theorem Db(l:Bl):∀ (ws:List Nat) (k:Nat),(Jn l k ws).length=ws.length
 | [],k=>rfl
 | w::r,k=>by simp[Jn,Db l r]
theorem Pq(l:Bl)(w:Nat):∀ (ws:List Nat) (k:Nat),Jn l k (ws++[w])=Jn l k ws++[Xf l (k+ws.sum) w]
 | [],k=>by simp[Jn]
 | x::r,k=>by simp[Jn,Pq l w r,Nat.add_assoc]
theorem Cn(l:Bl):∀ (ws:List Nat) (k i:Nat),i<ws.length→(Jn l k ws).getD i 0=Xf l (k+(ws.take i).sum) (ws.getD i 0)
 | [],k,i,h=>by simp at h
 | w::r,k,0,h=>by simp[Jn]
 | w::r,k,i+1,h=>by
  have:=Cn l r (k+w) i (by simpa using h)
  simp only[List.getD_eq_getElem?_getD] at this ⊢
  simp[Jn,this,Nat.add_assoc]
theorem Gv{ws:List Nat}{i:Nat}(h:i<ws.length):ws.take (i+1)=ws.take i++[ws.getD i 0]:=by
 rw[List.take_succ_eq_append_getElem h];simp[List.getD,h]
theorem My{ws:List Nat}{i:Nat}(h:i<ws.length):(ws.take i).sum+ws.getD i 0≤ws.sum:=by
 have h1:=take_sum h;have h2:=take_le (L:=ws) (i+1);omega
def getV(l:Bl)(k w:Nat):Int:=if Xf l k w<9223372036854775808 then(Xf l k w:Int) else 0
def Zd0(l:Bl)(k w:Nat):Int:=if Xf l k w<9223372036854775808 then 0 else 2
theorem Zbk{l:Bl}{k w:Nat}(h:Zd0 l k w=0):Xf l k w<9223372036854775808:=by unfold Zd0 at h;split at h;assumption;cases h
theorem getE_two{l:Bl}{k w:Nat}(h:Zd0 l k w≠0):¬ Xf l k w<9223372036854775808∧Zd0 l k w=2:=by unfold Zd0 at h ⊢;split at h;exact absurd rfl h;rename_i h2;exact⟨h2,if_neg h2⟩
theorem Zc9{l:Bl}{k w:Nat}(h:Xf l k w<9223372036854775808):Zd0 l k w=0:=if_pos h
theorem Sz{l:Bl}{k w:Nat}(h:Xf l k w<9223372036854775808):getV l k w=(Xf l k w:Int):=if_pos h
theorem Zbx(a:O0)(c k w:Nat)(l:Bl)(W:World)(hw:w=1∨w=2∨w=4∨w=8)(hk:k+w≤l.length)(hl:l.length≤100000000)(h:Bys W (.slice a l.length c) l) :
 C0 131 #[.slice a l.length c,V0 (k:Int),V0 (w:Int)] W (Ret (.tuple #[V0 (getV l k w),V0 (Zd0 l k w)]) W):=by
 by_cases hq:Xf l k w<9223372036854775808
 ·rw[Sz hq,Zc9 hq];exact Zda a c k w l W hw hk hl h hq
 ·rw[getV,Zd0,if_neg hq,if_neg hq];exact Zb0 a c k w l W hw hk hl h hq
theorem En(a:O0)(c:Nat)(l:Bl)(aw:O0)(cw:Nat)(ws:List Nat)(W:World)(hk:∀ i,i<ws.length→ws.getD i 0=1∨ws.getD i 0=2∨ws.getD i 0=4∨ws.getD i 0=8)(hs:ws.sum≤l.length)(hl:l.length≤100000000)(hw:ws.length≤1000)(h:Bys W (.slice a l.length c) l)(hws:Sl W (.slice aw ws.length cw) ws.length (ws.map nv))(hq:∀ i,i<ws.length→(Jn l 0 ws).getD i 0<9223372036854775808) :
 C0 259 #[.slice a l.length c,.slice aw ws.length cw] W (Jl (fun w' r=>∃ p c,r=.tuple #[.slice p ws.length c,V0 0]∧w'.ownsRow W.heap.size 3 1 (.slice p ws.length c) ws.length ((Jn l 0 ws).map nv)) W):=by
 refine zin 37 Tryz.func259 ?_
 have hB:=Below.refl W.heap.size W
 refine zl 25 37 (fun zm b0 V=>∃ (i:Nat) (p:O0) (c2:Nat),b0=[(0,.slice a l.length c),(6,.slice p i c2),(7,V0 (↑(ws.take i).sum:Int)),(12,.slice aw ws.length cw),(13,V0 (ws.length:Int)),(14,V0 (i:Int))]∧zm=ws.length-((i:Int)).toNat∧B0 W V∧V.ownsRow W.heap.size 3 1 (.slice p i c2) i ((Jn l 0 (ws.take i)).map nv)∧i≤ws.length) ⟨0,_,_,rfl,rfl,hB,World.ownsRow_nil _ _ _ _,Nat.zero_le _⟩ ?_
 rintro _ _ W1 ⟨i,p,c2,rfl,rfl,a0,ho,hi⟩ J1 a9 r1
 have b5:i<ws.length→(ws.take i).sum+ws.getD i 0≤ws.sum:=My
 have a6:i<ws.length→(Jn l 0 ws).getD i 0=Xf l (ws.take i).sum (ws.getD i 0):=fun h=>by rw[Cn l ws 0 i h,Nat.zero_add]
 refine xid 6 ((i:Int)<(ws.length:Int)) (fun b1=>?_) (fun b1=>?_)
 ·refine xx 6 _ ws.length i 1 (Zw hws rfl (k:=i) (by omega)).1 ?_
  refine xl 0 ((Zw (hws.below a0) rfl (k:=i) (by omega)).2) ?_
  refine xr 8 (args:=#[.slice a l.length c,V0 (↑(ws.take i).sum:Int),V0 (↑(ws.getD i 0):Int)]) (Zbx a c (ws.take i).sum (ws.getD i 0) l _ (hk i (by omega)) (by omega) hl (h.below a0)) fun W3 a8=>?_
  refine xk 14 (show(((Zd0 l (ws.take i).sum (ws.getD i 0)) != (0:Int)):Bool)=false from by rw[Zc9 (by rw[←a6 (by omega)];exact hq i (by omega))];rfl) ?_
  refine xbs 6 1 [V0 (getV l (ws.take i).sum (ws.getD i 0))] 3 fun b4 W4 n4=>?_
  have a1:=bln a0 a8
  have g4:=n4.ge a1
  have a3:=Zb ho a8
  have a7:=Zz a3 n4
  have a4:=Zb a3 n4.below
  have a2:=bln a1 n4.below
  refine xbi 0 fun _ _ _ _ zJ zQ zo zx zy zK=>Xq (m:=1) (news:=[V0 (getV l (ws.take i).sum (ws.getD i 0))]) (V0 0) 1 8 (i+1) ((Jn l 0 (ws.take (i+1))).map nv) zo Tryz.underlying33 (by kernel_rfl) rfl (by decide) zx a4 zy (n4.blk.sl 1 1 (by decide) (by decide)) rfl (by simp[Value.oneCell']) (by unfold maxLen;omega) (by omega) a2.size (by rfl) (by rw[Gv (by omega),Pq,Nat.zero_add,List.map_append];simp only[List.map_cons,List.map_nil,nv];rw[Sz (by rw[←a6 (by omega)];exact hq i (by omega))]) fun b7 b3 W5 o5 b6 b2=>?_
  refine zK _ _ ?_
  refine xwm 6 ((↑(ws.take i).sum:Int)+(↑(ws.getD i 0):Int)) (↑((ws.take i).sum+(ws.getD i 0)):Int) ?_
  refine xwm 5 ((i:Int)+1) (↑(i+1):Int) ?_
  refine xv1 2 7 (show(V0 (↑((ws.take i).sum+(ws.getD i 0)):Int):Value)=V0 (↑(ws.take (i+1)).sum:Int) from by rw[Gv (by omega),List.sum_append];simp) ?_
  have a5:=a2.trans b2
  exact ze 0 (a9 _ _ _ ⟨i+1,_,_,rfl,rfl,a5,o5,by omega⟩ (by omega))
 refine xe 13 (.tuple #[.slice p i c2,V0 0]) ?_
 obtain rfl:i=ws.length:=by omega
 rw[List.take_length] at ho
 exact⟨_,rfl,a0,_,_,rfl,ho⟩
theorem Iu(a:O0)(c:Nat)(l:Bl)(aw:O0)(cw:Nat)(ws:List Nat)(W:World)(hk:∀ i,i<ws.length→ws.getD i 0=1∨ws.getD i 0=2∨ws.getD i 0=4∨ws.getD i 0=8)(hs:ws.sum≤l.length)(hl:l.length≤100000000)(hw:ws.length≤1000)(h:Bys W (.slice a l.length c) l)(hws:Sl W (.slice aw ws.length cw) ws.length (ws.map nv))(hq:¬ ∀ i,i<ws.length→(Jn l 0 ws).getD i 0<9223372036854775808) :
 C0 259 #[.slice a l.length c,.slice aw ws.length cw] W (Ret (.tuple #[S0,V0 2]) W):=by
 refine zin 37 Tryz.func259 ?_
 have hB:=Below.refl W.heap.size W
 refine zl 25 37 (fun zm b2 V=>∃ (i:Nat) (p:O0) (c2:Nat),b2=[(0,.slice a l.length c),(6,.slice p i c2),(7,V0 (↑(ws.take i).sum:Int)),(12,.slice aw ws.length cw),(13,V0 (ws.length:Int)),(14,V0 (i:Int))]∧zm=ws.length-((i:Int)).toNat∧B0 W V∧V.ownsRow W.heap.size 3 1 (.slice p i c2) i ((Jn l 0 (ws.take i)).map nv)∧i≤ws.length∧(∀ j,j<i→(Jn l 0 ws).getD j 0<9223372036854775808)) ⟨0,_,_,rfl,rfl,hB,World.ownsRow_nil _ _ _ _,Nat.zero_le _,?_⟩ ?_
 ·exact fun j hj=>absurd hj (by omega)
 rintro _ _ W1 ⟨i,p,c2,rfl,rfl,a0,ho,hi,a1⟩ J1 b4 r1
 have b9:i<ws.length→(ws.take i).sum+ws.getD i 0≤ws.sum:=My
 have b6:i<ws.length→(Jn l 0 ws).getD i 0=Xf l (ws.take i).sum (ws.getD i 0):=fun h=>by rw[Cn l ws 0 i h,Nat.zero_add]
 refine xid 6 ((i:Int)<(ws.length:Int)) (fun b3=>?_) (fun b3=>?_)
 ·refine xx 6 _ ws.length i 1 (Zw hws rfl (k:=i) (by omega)).1 ?_
  refine xl 0 ((Zw (hws.below a0) rfl (k:=i) (by omega)).2) ?_
  refine xr 8 (args:=#[.slice a l.length c,V0 (↑(ws.take i).sum:Int),V0 (↑(ws.getD i 0):Int)]) (Zbx a c (ws.take i).sum (ws.getD i 0) l _ (hk i (by omega)) (by omega) hl (h.below a0)) fun W3 b0=>?_
  refine xin 14 (Zd0 l (ws.take i).sum (ws.getD i 0)) (0:Int) (fun a8=>?_) (fun a8=>?_)
  ·have a5:=getE_two a8
   have a7:=bln a0 b0
   refine xe 14 (.tuple #[S0,V0 (Zd0 l (ws.take i).sum (ws.getD i 0))]) ?_
   rw[a5.2];exact⟨rfl,a7⟩
  have a5:=Zbk a8
  refine xbs 6 1 [V0 (getV l (ws.take i).sum (ws.getD i 0))] 3 fun b5 W5 n5=>?_
  have a3:=bln a0 b0
  have g5:=n5.ge a3
  have a4:=Zb ho b0
  have b1:=Zz a4 n5
  have a6:=Zb a4 n5.below
  have a2:=bln a3 n5.below
  refine xbi 0 fun _ _ _ _ zJ zQ zo zx zy zK=>Xq (m:=1) (news:=[V0 (getV l (ws.take i).sum (ws.getD i 0))]) (V0 0) 1 8 (i+1) ((Jn l 0 (ws.take (i+1))).map nv) zo Tryz.underlying33 (by kernel_rfl) rfl (by decide) zx a6 zy (n5.blk.sl 1 1 (by decide) (by decide)) rfl (by simp[Value.oneCell']) (by unfold maxLen;omega) (by omega) a2.size (by rfl) (by rw[Gv (by omega),Pq,Nat.zero_add,List.map_append];simp only[List.map_cons,List.map_nil,nv];rw[Sz a5]) fun b8 c1 W6 o6 c0 b7=>?_
  refine zK _ _ ?_
  refine xwm 6 ((↑(ws.take i).sum:Int)+(↑(ws.getD i 0):Int)) (↑((ws.take i).sum+(ws.getD i 0)):Int) ?_
  refine xwm 5 ((i:Int)+1) (↑(i+1):Int) ?_
  refine xv1 2 7 (show(V0 (↑((ws.take i).sum+(ws.getD i 0)):Int):Value)=V0 (↑(ws.take (i+1)).sum:Int) from by rw[Gv (by omega),List.sum_append];simp) ?_
  have a9:=a2.trans b7
  exact ze 0 (b4 _ _ _ ⟨i+1,_,_,rfl,rfl,a9,o6,by omega,fun j hj=>(Nat.lt_or_ge j i).elim (fun q=>a1 j q) (fun q=>by obtain rfl:j=i:=(by omega);rw[b6 (by omega)];exact a5)⟩ (by omega))
 refine xe 13 (.tuple #[.slice p i c2,V0 0]) ?_
 exact absurd (fun j hj=>a1 j (by omega)) hq
end Go.Proofs.YtegcamkgeacjfaaGreatDoor
namespace Go.Proofs.YtegcamkgeacjfaaGreatDoor
set_option maxHeartbeats 8000000
set_option maxRecDepth 100000
open Go.RowKit
set_option linter.unusedVariables false
theorem Zdr(bs:ByteArray)(i:Nat)(r:Bl):ByteArray.toList.loop bs i r=r.reverse++bs.data.toList.drop i:=by
 have hs:bs.data.toList.length=bs.size:=by rw[Array.length_toList];rfl
 rw[ByteArray.toList.loop]
 split
 ·rename_i h
  have h':i<bs.data.toList.length:=by omega
  rw[Zdr bs (i+1) _,List.drop_eq_getElem_cons h']
  have e:bs.get! i=bs.data.toList[i]:=by
   have h2:i<bs.data.size:=by rw[←Array.length_toList];exact h'
   show bs.data[i]! = _
   rw[getElem!_pos bs.data i h2];simp
  rw[e];simp
 ·rename_i h
  rw[List.drop_eq_nil_of_le (by omega)];simp
termination_by bs.size-i
theorem Am(a:Bl):(⟨a.toArray⟩:ByteArray).toList=a:=by
 unfold ByteArray.toList;rw[Zdr];simp
theorem str_beq(a b:Bl):((⟨a.toArray⟩:ByteArray).toList==(⟨b.toArray⟩:ByteArray).toList)=(a==b):=by rw[Am,Am]
end Go.Proofs.YtegcamkgeacjfaaGreatDoor
namespace Go.Proofs.YtegcamkgeacjfaaGreatDoor
set_option maxHeartbeats 8000000
set_option maxRecDepth 100000
open Go.RowKit Go.Extern.Stop Go.Stop Go.Extern
set_option linter.unusedVariables false
attribute [local irreducible] wpList wpAnyH Code.wp Oper.wp Go
theorem Cm{P:Program}{a:Act}{o:Oper}{src dst e:TypeId}{x:Operand}{b:O0}{n c:Nat}{l:Bl}{w:World}(ho:o.op=.convert src dst x)(hx:a.eval x=.slice b n c)(h:Bys w (.slice b n c) l)(hl:l.length=n)
 (hs:P.underlying src=some (.slice e)) (he:P.underlying e=some (.int .u8)) (hd:P.underlying dst=some .string):(execOp a.eval o).run P w=.ok (.value (.string ⟨l.toArray⟩)) w:=by
 have hr:(convert src dst (.slice b n c)).run P w=.ok (.string ⟨l.toArray⟩) w:=by
  subst hl
  rcases Sl.at h with hn|⟨g,a0,rfl,hc⟩
  ·obtain rfl:l=[]:=by simpa using hn
   cases b with
   | none=>rw[run_convert_bytes_string w src dst e none _ c hs he hd];rfl
   | some p=>exact run_convert_bytes_back w src dst e p c [] hs he hd (fun j hj=>by simp at hj)
  ·exact run_convert_bytes_back w src dst e _ c l hs he hd (fun j hj=>by rw[Addr.add_mid];exact hc j _ (by simp[List.getElem?_eq_getElem hj,bv]))
 simp only[execOp,ho,hx,Sem.run_bind,hr];rfl
theorem Bys.cap{w:World}{a:O0}{n c:Nat}{l:Bl}(h:Bys w (.slice a n c) l)(hl:l.length=n):n≤c:=by
 rcases h with ⟨a',c',h1,h2,_⟩|⟨b,a0,cap,h1,h2,_,_⟩
 ·omega
 ·simp only[Value.slice.injEq] at h1;omega
end Go.Proofs.YtegcamkgeacjfaaGreatDoor
namespace Go.Proofs.YtegcamkgeacjfaaGreatDoor
set_option maxHeartbeats 8000000
set_option maxRecDepth 100000
open Go.RowKit Go.Extern.Stop Go.Stop Go.Extern
set_option linter.unusedVariables false
attribute [local irreducible] wpList wpAnyH Code.wp Oper.wp Go
section
variable {P:Program} {a:Act}
theorem Jv{o:Oper}{t e:TypeId}{x y y2:Operand}{b:O0}{n k h c:Nat}{i j:Int}{ki kj:IntKind}(size:Nat)(ho:o.op=.slice t x (some y) (some y2) none)(hx:a.eval x=.slice b n c)(hy:a.eval y=.int ki i)(hi:i=(k:Int))(hy2:a.eval y2=.int kj j)(hj:j=(h:Int))(hk:k≤h)(hc:h≤c)
 (ht:P.underlying t=some (.slice e)) (hs:(P.info? e).map (·.size)=some size) (w:World):(execOp a.eval o).run P w=.ok (.value (.slice (Ba b k c size) (h-k) (c-k))) w:=by
 cases hq:P.info? e with
 | none=>simp[hq] at hs
 | some q =>
  have a0:q.size=size:=by simpa [hq] using hs
  subst hi hj
  have h1:(0:Int)≤(k:Int):=by omega
  have h2:(0:Int)≤(h:Int):=by omega
  have h3:(k:Int)≤(h:Int):=by omega
  have h4:(h:Int)≤(c:Int):=by omega
  by_cases h5:c=k
  ·simp_all [execOp,Instr.sliceAt,Instr.slice,Instr.sliceBounds,Instr.sliceBound,asIntOf,run_underlying ht,sizeOf,typeInfo,Ba]
  ·simp_all [execOp,Instr.sliceAt,Instr.slice,Instr.sliceBounds,Instr.sliceBound,asIntOf,run_underlying ht,sizeOf,typeInfo,Ba]
end
theorem Bys.cut{w:World}{b:O0}{n c:Nat}{l:Bl}(h:Bys w (.slice b n c) l)(hl:l.length=n)(k m:Nat)(hk:k≤m)(hm:m≤n):Bys w (.slice (Ba b k c 1) (m-k) (c-k)) ((l.drop k).take (m-k)):=by
 have a0:((l.drop k).take (m-k)).length=m-k:=by simp;omega
 have a2:=Bys.cap h hl
 rcases h with ⟨a',c',h1,h2,h3⟩|⟨g,a1,a3,h1,h2,h3,h4⟩
 ·obtain rfl:k=0:=by omega
  obtain rfl:m=0:=by omega
  refine .inl ⟨Ba b 0 c 1,c-0,?_,by simp,by simp⟩
  simp
 ·simp only[Value.slice.injEq] at h1
  obtain⟨rfl,_,rfl⟩:=h1
  by_cases hz:m-k=0
  ·refine .inl ⟨Ba (some ⟨g,a1,none⟩) k c 1,c-k,by rw[hz],by omega,?_⟩
   rw[hz];rfl
  ·refine .inr ⟨g,a1+k*1,c-k,?_,by omega,by omega,fun j x hj=>?_⟩
   ·rw[Ba,if_neg (by omega),a0];simp[Addr.add]
   ·rw[List.getElem?_map,List.getElem?_take] at hj
    split at hj
    ·rw[List.getElem?_drop] at hj
     have:=h4 (k+j) x (by rw[List.getElem?_map];exact hj)
     rwa [Nat.mul_one,Nat.add_assoc]
    ·cases hj
def Jj(l:Bl):Bool:=l.all (·==0)
theorem Oc{l:Bl}(h:∀ j,j<l.length→l.getD j 0=0):Jj l=true:=by
 unfold Jj
 rw[List.all_eq_true]
 intro x hx
 obtain⟨j,hj,rfl⟩:=List.mem_iff_getElem.1 hx
 have:=h j hj
 simpa [List.getD,hj] using this
theorem Sy{l:Bl}{j:Nat}(hj:j<l.length)(h:((l.getD j 0).toNat:Int)≠0):Jj l=false:=by
 unfold Jj
 rw[List.all_eq_false]
 refine⟨l[j],List.getElem_mem hj,?_⟩
 intro h2
 apply h
 have:l[j]=0:=by simpa using h2
 simp[List.getD,hj,this]
theorem Zbz{x:UInt8}(h:(x.toNat:Int)=0):x=0:=by
 have h1:x.toNat=0:=by omega
 exact UInt8.toNat_inj.1 (by rw[h1];rfl)
theorem zero_1(n:Int)(w:World) :
 C0 319 #[.int .u8 n] w (Ret (.bool (n != 0)) w):=by
 refine zin 5 Tryz.func319 ?_
 exact xe 13 (.bool (n != (0:Int))) ⟨rfl,(B3 w)⟩
theorem Zds(a:O0)(c:Nat)(l:Bl)(w:World)(hl:l.length≤100000000)(h:Bys w (.slice a l.length c) l) :
 C0 320 #[.slice a l.length c,.func (.func 319) #[] #[]] w (fun e w'=>(Jj l=true∧e=.returned (V0 (-1))∧B0 w w')∨(Jj l=false∧∃ i:Nat,e=.returned (V0 (i:Int))∧B0 w w')):=by
 refine zin 19 Tryz.func320 ?_
 have hB:=Below.refl w.heap.size w
 refine zl 14 19 (fun zm a6 V=>∃ (i:Nat),a6=[(0,.slice a l.length c),(1,.func (.func 319) #[] #[]),(7,V0 (l.length:Int)),(8,V0 (i:Int))]∧zm=l.length-((i:Int)).toNat∧B0 w V∧i≤l.length∧(∀ j,j<i→l.getD j 0=0)) ⟨0,rfl,rfl,hB,Nat.zero_le _,?_⟩ ?_
 ·exact fun j hj=>absurd hj (by omega)
 rintro _ _ W1 ⟨i,rfl,rfl,a0,hi,hz⟩ J1 a5 r1
 refine xid 6 ((i:Int)<(l.length:Int)) (fun a7=>?_) (fun a7=>?_)
 ·refine xx 15 _ l.length i 1 (Bys.elem h (k:=i) (by omega)).1 ?_
  refine xl 0 ((Bys.elem (h.below a0) (k:=i) (by omega)).2) ?_
  refine xr 0 (args:=#[.int .u8 (↑(l.getD i 0).toNat:Int)]) (zero_1 (↑(l.getD i 0).toNat:Int) _) fun W3 a3=>?_
  refine xin 2 (↑(l.getD i 0).toNat:Int) (0:Int) (fun a4=>?_) (fun a4=>?_)
  ·have a1:=bln a0 a3
   exact xe 12 (V0 (i:Int)) (.inr ⟨Sy (j:=i) (by omega) (by assumption),_,rfl,a1⟩)
  refine xwm 4 ((i:Int)+1) (↑(i+1):Int) ?_
  have a2:=bln a0 a3
  exact ze 2 (a5 _ _ _ ⟨i+1,rfl,rfl,a2,by omega,fun j hj=>(Nat.lt_or_ge j i).elim (hz j) (fun q=>by obtain rfl:j=i:=(by omega);exact Zbz (by assumption))⟩ (by omega))
 exact xe 11 (V0 (-1)) (.inl ⟨Oc (fun j hj=>hz j (by omega)),rfl,a0⟩)
theorem Rb(a:O0)(c:Nat)(l:Bl)(w:World)(hl:l.length≤100000000)(h:Bys w (.slice a l.length c) l) :
 C0 318 #[.slice a l.length c,.func (.func 319) #[] #[]] w (Ret (.bool (!Jj l)) w):=by
 refine zin 9 Tryz.func318 ?_
 refine xc 9 (args:=#[.slice a l.length c,.func (.func 319) #[] #[]]) (Zds a c l _ hl (h.below (B3 w))) ?_
 rintro e W1 a1
 rcases a1 with ⟨hz,rfl,a0⟩|⟨hz,i0,rfl,a0⟩
 ·refine xe 5 (.bool false) ?_
  rw[hz];exact⟨rfl,a0⟩
 refine xe 5 (.bool (decide ((i0:Int)≥(0:Int)))) ?_
 rw[hz,show decide ((i0:Int)≥(0:Int))=true from decide_eq_true (by omega)];exact⟨rfl,a0⟩
theorem Zcg(a:O0)(c:Nat)(l:Bl)(w:World)(hl:l.length≤100000000)(h:Bys w (.slice a l.length c) l) :
 C0 316 #[.slice a l.length c] w (Ret (.bool (Jj l)) w):=by
 refine zin 6 Tryz.func316 ?_
 refine xr 8 (args:=#[.slice a l.length c,.func (.func 319) #[] #[]]) (Rb a c l _ hl (h.below (B3 w))) fun W1 a0=>?_
 refine xe 5 (.bool (!(!Jj l))) ?_
 rw[Bool.not_not];exact⟨rfl,a0⟩
def Ns(kind no:Int):Bool:=decide (1≤kind∧kind≤4∧0≤no∧no<14400)
theorem Sc(kind no:Int)(w:World) :
 C0 133 #[V0 kind,V0 no] w (Ret (.bool (Ns kind no)) w):=by
 refine zin 19 Tryz.func133 ?_
 refine xg 10 [6,7] (decide (kind≥(1:Int))) (fun a1=>?_) (fun a1=>?_)
 ·have a1:=of_decide_eq_true a1
  refine xg 4 [9,10,11] (decide (kind≤(4:Int))) (fun a0=>?_) (fun a0=>?_)
  ·have a0:=of_decide_eq_true a0
   refine xg 4 [13,14,15] (decide (no≥(0:Int))) (fun a2=>?_) (fun a2=>?_)
   ·have a2:=of_decide_eq_true a2
    exact xe 7 (.bool (decide (no<(14400:Int)))) ⟨by rw[show Ns kind no=decide (no<14400) from decide_eq_decide.2 ⟨fun h=>h.2.2.2,fun h=>⟨by omega,by omega,by omega,h⟩⟩],(B3 w)⟩
   have a2:=of_decide_eq_false a2
   exact xe 7 (.bool false) ⟨by rw[show Ns kind no=false from decide_eq_false (by omega)],(B3 w)⟩
  have a0:=of_decide_eq_false a0
  exact xe 11 (.bool false) ⟨by rw[show Ns kind no=false from decide_eq_false (by omega)],(B3 w)⟩
 have a1:=of_decide_eq_false a1
 exact xe 15 (.bool false) ⟨by rw[show Ns kind no=false from decide_eq_false (by omega)],(B3 w)⟩
theorem Zcx(a:O0)(c k w:Nat)(l:Bl)(W:World)(hw:w=1∨w=2∨w=4)(hk:k+w≤l.length)(hl:l.length≤100000000)(h:Bys W (.slice a l.length c) l) :
 C0 66 #[.slice a l.length c,V0 (k:Int),V0 (w:Int)] W (Ret (V0 (Xf l k w:Int)) W):=by
 refine zin 17 Tryz.func66 ?_
 refine xr 10 (args:=#[.slice a l.length c,V0 (k:Int),V0 (w:Int)]) (Zda a c k w l _ (by omega) hk hl (h.below (B3 W)) (by have:=Vi l k w (by omega);omega)) fun W1 a0=>?_
 exact xe 14 (V0 (↑(Xf l k w):Int)) ⟨rfl,a0⟩
theorem Ho(a:O0)(n c k w:Nat)(ki wi:Int)(l:Bl)(W:World)(hn:l.length=n)(hki:ki=(k:Int))(hwi:wi=(w:Int))(hw:w=1∨w=2∨w=4)(hk:k+w≤n)(hl:n≤100000000)(h:Bys W (.slice a n c) l) :
 C0 66 #[.slice a n c,V0 ki,V0 wi] W (Ret (V0 (Xf l k w:Int)) W):=by
 subst hn hki hwi;exact Zcx a c k w l W hw hk hl h
def Dn(kind no:Int)(l:Bl):Nat→Bool
 | 0=>!Ns kind no
 | 1=>(l.length:Int) != 256
 | 2=>(Xf l 252 4:Int) != (sumB l kind:Int)
 | 3=>(Xf l 0 4:Int) != no
 | 4=>(Xf l 4 2:Int) != kind
 | _=>(Xf l 6 2:Int) != 0
def Qw(kind no:Int)(l:Bl):Int :=
 if Dn kind no l 0 then 1 else if Dn kind no l 1 then 7 else if Dn kind no l 2 then 4 else if Dn kind no l 3 then 5 else if Dn kind no l 4 then 6 else if Dn kind no l 5 then 7 else 0
theorem Zbg{kind no:Int}{l:Bl}(h:Dn kind no l 1=false):l.length=256:=by
 have:(l.length:Int)=256:=Yq h
 omega
theorem open_1(kind no:Int)(w:World)(l:Bl)(bk:Nat)(kk:Blk w bk [V0 kind] 3)(bn:Nat)(kn:Blk w bn [V0 no] 3) :
 C0 132 #[P0 bk,P0 bn] w (Ret (.bool (Dn kind no l 0)) w):=by
 refine zin 7 Tryz.func132 ?_
 refine xb 7 0 kk ?_
 refine xb 0 0 kn ?_
 refine xr 0 (args:=#[V0 kind,V0 no]) (Sc kind no _) fun W1 a0=>?_
 exact xe 5 (.bool (!(Ns kind no))) ⟨rfl,a0⟩
theorem open_2(kind no:Int)(w:World)(bb:Nat)(a:O0)(c:Nat)(l:Bl)(kb:Blk w bb [.slice a l.length c] 40) :
 C0 134 #[P0 bb] w (Ret (.bool (Dn kind no l 1)) w):=by
 refine zin 5 Tryz.func134 ?_
 refine xb 7 0 kb ?_
 exact xe 6 (.bool ((l.length:Int) != (256:Int))) ⟨rfl,(B3 w)⟩
theorem Zea(kind:Int)(a:O0)(c n:Nat)(l:Bl)(w:World)(hn:l.length=n)(h256:n=256)(hc:256≤c)(h:Bys w (.slice a n c) l) :
 C0 136 #[.slice a n c,V0 kind] w (Ret (V0 (sumB l kind:Int)) w):=by
 subst h256;exact seal_sum kind a c l w hn hc h
theorem open_3(kind no:Int)(w:World)(bb:Nat)(a:O0)(c:Nat)(l:Bl)(kb:Blk w bb [.slice a l.length c] 40)(bk:Nat)(kk:Blk w bk [V0 kind] 3)(hl:l.length=256)(hc:256≤c)(h:Bys w (.slice a l.length c) l) :
 C0 135 #[P0 bb,P0 bk] w (Ret (.bool (Dn kind no l 2)) w):=by
 refine zin 9 Tryz.func135 ?_
 refine xd 6 .z ?_
 have a1:=kb.below (Za w)
 refine xb (.e [] 0) 0 a1 ?_
 refine xb (.e [] 2) 0 a1 ?_
 have a3:=kk.below (Za w)
 refine xb (.e [] 3) 0 a3 ?_
 have hB:=(Za w)
 refine xr (.o [] 1) (args:=#[.slice a l.length c,V0 252,V0 4]) (Ho a l.length c 252 4 252 4 l _ rfl rfl rfl (by decide) (by omega) (by omega) (h.below hB)) fun W1 a5=>?_
 have a0:=bln hB a5
 refine xr (.o [] 4) (args:=#[.slice a l.length c,V0 kind]) (Zea kind a c l.length l _ rfl hl hc (h.below a0)) fun W2 a4=>?_
 have a2:=bln a0 a4
 exact xe (.r [5,6] 3) (.bool ((↑(Xf l 252 4):Int) != (↑(sumB l kind):Int))) ⟨rfl,a2⟩
theorem open_4(kind no:Int)(w:World)(bb:Nat)(a:O0)(c:Nat)(l:Bl)(kb:Blk w bb [.slice a l.length c] 40)(bn:Nat)(kn:Blk w bn [V0 no] 3)(hl:l.length=256)(hc:256≤c)(h:Bys w (.slice a l.length c) l) :
 C0 137 #[P0 bb,P0 bn] w (Ret (.bool (Dn kind no l 3)) w):=by
 refine zin 7 Tryz.func137 ?_
 refine xd 6 .z ?_
 have a1:=kb.below (Za w)
 refine xb (.e [] 0) 0 a1 ?_
 have a2:=kn.below (Za w)
 refine xb (.e [] 2) 0 a2 ?_
 have hB:=(Za w)
 refine xr (.o [] 1) (args:=#[.slice a l.length c,V0 0,V0 4]) (Ho a l.length c 0 4 0 4 l _ rfl rfl rfl (by decide) (by omega) (by omega) (h.below hB)) fun W1 a3=>?_
 have a0:=bln hB a3
 exact xe (.r [3,4] 3) (.bool ((↑(Xf l 0 4):Int) != no)) ⟨rfl,a0⟩
theorem open_5(kind no:Int)(w:World)(bb:Nat)(a:O0)(c:Nat)(l:Bl)(kb:Blk w bb [.slice a l.length c] 40)(bk:Nat)(kk:Blk w bk [V0 kind] 3)(hl:l.length=256)(hc:256≤c)(h:Bys w (.slice a l.length c) l) :
 C0 138 #[P0 bb,P0 bk] w (Ret (.bool (Dn kind no l 4)) w):=by
 refine zin 7 Tryz.func138 ?_
 refine xd 6 .z ?_
 have a1:=kb.below (Za w)
 refine xb (.e [] 0) 0 a1 ?_
 have a2:=kk.below (Za w)
 refine xb (.e [] 2) 0 a2 ?_
 have hB:=(Za w)
 refine xr (.o [] 1) (args:=#[.slice a l.length c,V0 4,V0 2]) (Ho a l.length c 4 2 4 2 l _ rfl rfl rfl (by decide) (by omega) (by omega) (h.below hB)) fun W1 a3=>?_
 have a0:=bln hB a3
 exact xe (.r [3,4] 3) (.bool ((↑(Xf l 4 2):Int) != kind)) ⟨rfl,a0⟩
theorem open_6(kind no:Int)(w:World)(bb:Nat)(a:O0)(c:Nat)(l:Bl)(kb:Blk w bb [.slice a l.length c] 40)(hl:l.length=256)(hc:256≤c)(h:Bys w (.slice a l.length c) l) :
 C0 139 #[P0 bb] w (Ret (.bool (Dn kind no l 5)) w):=by
 refine zin 5 Tryz.func139 ?_
 refine xb 7 0 kb ?_
 refine xr 0 (args:=#[.slice a l.length c,V0 6,V0 2]) (Ho a l.length c 6 2 6 2 l _ rfl rfl rfl (by decide) (by omega) (by omega) (h.below (B3 w))) fun W1 a0=>?_
 exact xe 5 (.bool ((↑(Xf l 6 2):Int) != (0:Int))) ⟨rfl,a0⟩
def OpenP(kind no:Int)(l:Bl)(w:World)(e:Ending)(w':World):Prop :=
 (Qw kind no l≠0∧e=.returned (.tuple #[S0,V0 (Qw kind no l)])∧B0 w w') ∨
 (Qw kind no l=0∧∃ p c,e=.returned (.tuple #[.slice p 244 c,V0 0])∧B0 w w'∧w'.ownsRow w.heap.size 5 1 (.slice p 244 c) 244 (((l.drop 8).take 244).map bv))
theorem Zcn(kind no:Int)(a:O0)(c:Nat)(l:Bl)(w:World)(h:Bys w (.slice a l.length c) l) :
 C0 67 #[.slice a l.length c,V0 kind,V0 no] w (OpenP kind no l w):=by
 have m4:=h.cap rfl
 refine zin 39 Tryz.func67 ?_
 refine xa 2 [.slice a l.length c] 40 fun b1 W1 n1=>?_
 refine xa 0 [V0 kind] 3 fun b2 W2 n2=>?_
 refine xa 0 [V0 no] 3 fun b3 W3 n3=>?_
 have l7:=n3.ne n2.blk
 refine xbs 18 6 [.func (.func 132) #[] #[P0 b2,P0 b3],V0 1,.func (.func 134) #[] #[P0 b1],V0 7,.func (.func 135) #[] #[P0 b1,P0 b2],V0 4,.func (.func 137) #[] #[P0 b1,P0 b3],V0 5,.func (.func 138) #[] #[P0 b1,P0 b2],V0 6,.func (.func 139) #[] #[P0 b1],V0 7] 240 fun b4 W4 n4=>?_
 refine xu 12 7 ?_
 refine xlv 14 (n4.blk.rpp 0 2) ?_
 refine xa 0 [.nilFunc,V0 0] 240 fun b5 W5 n5=>?_
 have i4:=n5.ne n4.blk
 refine xsv 0 n5.blk [.func (.func 132) #[] #[P0 b2,P0 b3],V0 1] fun W6 u6 k6=>?_
 have g5:=n5.ge (bln (bln (bln n1.below n2.below) n3.below) n4.below)
 refine xb 5 0 k6 ?_
 have h3:=u6.blkT (((n2.blk.below n3.below).below n4.below).below n5.below) n5.blk (by decide)
 have k3:=u6.blkT ((n3.blk.below n4.below).below n5.below) n5.blk (by decide)
 refine xr 0 (args:=#[P0 b2,P0 b3]) (open_1 kind no _ l b2 h3 b3 k3) fun W7 b6=>?_
 refine xi 2 (Dn kind no l 0) (fun j4=>?_) (fun j4=>?_)
 ·have c4:=j4
  refine xd 1 .z ?_
  have j3:=(k6.below b6).below (Za W7)
  refine xb (.e [0] 1) 1 j3 ?_
  have hB:=bln (bln (u6.below (bln (bln (bln (bln n1.below n2.below) n3.below) n4.below) n5.below) g5) b6) (Za W7)
  refine xe (.r [2,3] 8) (.tuple #[S0,V0 1]) ?_
  have he:Qw kind no l=1:=by simp[Qw,c4]
  exact .inl ⟨by rw[he];decide,by rw[he],hB⟩
 have c4:=j4
 have d9:=(u6.blk (n4.blk.below n5.below) (Ne.symm (Ne.symm i4))).below b6
 refine xlv 22 (d9.rpp 2 2) ?_
 refine xa 0 [.nilFunc,V0 0] 240 fun b9 W9 n9=>?_
 have i5:=n9.ne d9
 have g6:=k6.below b6
 have h9:=n9.ne g6
 refine xsv 0 n9.blk [.func (.func 134) #[] #[P0 b1],V0 7] fun n7 e6 k5=>?_
 have g9:=n9.ge (bln (u6.below (bln (bln (bln (bln n1.below n2.below) n3.below) n4.below) n5.below) g5) b6)
 refine xb 5 0 k5 ?_
 have k1:=e6.blkT (((u6.blkT ((((n1.blk.below n2.below).below n3.below).below n4.below).below n5.below) n5.blk (by decide)).below b6).below n9.below) n9.blk (by decide)
 refine xr 0 (args:=#[P0 b1]) (open_2 kind no _ b1 a c l k1) fun l4 a3=>?_
 refine xi 2 (Dn kind no l 1) (fun e0=>?_) (fun e0=>?_)
 ·have a4:=e0
  refine xd 1 .z ?_
  have i0:=(k5.below a3).below (Za l4)
  refine xb (.e [0] 1) 1 i0 ?_
  have hB:=bln (bln (e6.below (bln (bln (u6.below (bln (bln (bln (bln n1.below n2.below) n3.below) n4.below) n5.below) g5) b6) n9.below) g9) a3) (Za l4)
  refine xe (.r [2,3] 8) (.tuple #[S0,V0 7]) ?_
  have he:Qw kind no l=7:=by simp[Qw,c4,a4]
  exact .inl ⟨by rw[he];decide,by rw[he],hB⟩
 have a4:=e0
 have l6:=Zbg a4
 have d4:=(e6.blk (d9.below n9.below) (Ne.symm (Ne.symm i5))).below a3
 refine xlv 22 (d4.rpp 4 2) ?_
 refine xa 0 [.nilFunc,V0 0] 240 fun n0 m9 a7=>?_
 have d8:=a7.ne d4
 have g8:=(e6.blk (g6.below n9.below) (Ne.symm (Ne.symm h9))).below a3
 have e1:=a7.ne g8
 have d2:=k5.below a3
 have e2:=a7.ne d2
 have hB:=bln (e6.below (bln (bln (u6.below (bln (bln (bln (bln n1.below n2.below) n3.below) n4.below) n5.below) g5) b6) n9.below) g9) a3
 have m5:=a7.ge hB
 refine xsv 0 a7.blk [.func (.func 135) #[] #[P0 b1,P0 b2],V0 4] fun o0 f3 j7=>?_
 refine xb 5 0 j7 ?_
 have h1:=f3.blkT ((k1.below a3).below a7.below) a7.blk (by decide)
 have g1:=f3.blkT (((e6.blkT ((h3.below b6).below n9.below) n9.blk (by decide)).below a3).below a7.below) a7.blk (by decide)
 have f2:=f3.below (bln hB a7.below) m5
 refine xr 0 (args:=#[P0 b1,P0 b2]) (open_3 kind no _ b1 a c l h1 b2 g1 (Zbg a4) (by have:=Zbg a4;have:=h.cap rfl;omega) (h.below f2)) fun m1 a2=>?_
 refine xi 2 (Dn kind no l 2) (fun d7=>?_) (fun d7=>?_)
 ·have f6:=d7
  refine xd 1 .z ?_
  have f8:=(j7.below a2).below (Za m1)
  refine xb (.e [0] 1) 1 f8 ?_
  have l2:=bln (bln f2 a2) (Za m1)
  refine xe (.r [2,3] 8) (.tuple #[S0,V0 4]) ?_
  have he:Qw kind no l=4:=by simp[Qw,c4,a4,f6]
  exact .inl ⟨by rw[he];decide,by rw[he],l2⟩
 have f6:=d7
 have f4:=(f3.blk (d4.below a7.below) (Ne.symm (Ne.symm d8))).below a2
 refine xlv 22 (f4.rpp 6 2) ?_
 refine xa 0 [.nilFunc,V0 0] 240 fun o7 n8 a5=>?_
 have e7:=a5.ne f4
 have f7:=(f3.blk (g8.below a7.below) (Ne.symm (Ne.symm e1))).below a2
 have f5:=a5.ne f7
 have c6:=(f3.blk (d2.below a7.below) (Ne.symm (Ne.symm e2))).below a2
 have e3:=a5.ne c6
 have c2:=j7.below a2
 have c1:=a5.ne c2
 have h6:=bln f2 a2
 have m6:=a5.ge h6
 refine xsv 0 a5.blk [.func (.func 137) #[] #[P0 b1,P0 b3],V0 5] fun o2 c5 k8=>?_
 refine xb 5 0 k8 ?_
 have g0:=c5.blkT ((h1.below a2).below a5.below) a5.blk (by decide)
 have k9:=c5.blkT (((f3.blkT (((e6.blkT ((k3.below b6).below n9.below) n9.blk (by decide)).below a3).below a7.below) a7.blk (by decide)).below a2).below a5.below) a5.blk (by decide)
 have d6:=c5.below (bln h6 a5.below) m6
 refine xr 0 (args:=#[P0 b1,P0 b3]) (open_4 kind no _ b1 a c l g0 b3 k9 (Zbg a4) (by have:=Zbg a4;have:=h.cap rfl;omega) (h.below d6)) fun m0 a1=>?_
 refine xi 2 (Dn kind no l 3) (fun d5=>?_) (fun d5=>?_)
 ·have g7:=d5
  refine xd 1 .z ?_
  have h5:=(k8.below a1).below (Za m0)
  refine xb (.e [0] 1) 1 h5 ?_
  have l1:=bln (bln d6 a1) (Za m0)
  refine xe (.r [2,3] 8) (.tuple #[S0,V0 5]) ?_
  have he:Qw kind no l=5:=by simp[Qw,c4,a4,f6,g7]
  exact .inl ⟨by rw[he];decide,by rw[he],l1⟩
 have g7:=d5
 have f0:=(c5.blk (f4.below a5.below) (Ne.symm (Ne.symm e7))).below a1
 refine xlv 22 (f0.rpp 8 2) ?_
 refine xa 0 [.nilFunc,V0 0] 240 fun o1 m8 a6=>?_
 have e8:=a6.ne f0
 have i1:=(c5.blk (f7.below a5.below) (Ne.symm (Ne.symm f5))).below a1
 have d3:=a6.ne i1
 have d0:=(c5.blk (c6.below a5.below) (Ne.symm (Ne.symm e3))).below a1
 have e5:=a6.ne d0
 have c9:=(c5.blk (c2.below a5.below) (Ne.symm (Ne.symm c1))).below a1
 have b7:=a6.ne c9
 have c7:=k8.below a1
 have c0:=a6.ne c7
 have h4:=bln d6 a1
 have m7:=a6.ge h4
 refine xsv 0 a6.blk [.func (.func 138) #[] #[P0 b1,P0 b2],V0 6] fun o6 c8 k7=>?_
 refine xb 5 0 k7 ?_
 have h8:=c8.blkT ((g0.below a1).below a6.below) a6.blk (by decide)
 have k0:=c8.blkT (((c5.blkT ((g1.below a2).below a5.below) a5.blk (by decide)).below a1).below a6.below) a6.blk (by decide)
 have f1:=c8.below (bln h4 a6.below) m7
 refine xr 0 (args:=#[P0 b1,P0 b2]) (open_5 kind no _ b1 a c l h8 b2 k0 (Zbg a4) (by have:=Zbg a4;have:=h.cap rfl;omega) (h.below f1)) fun l9 a0=>?_
 refine xi 2 (Dn kind no l 4) (fun e9=>?_) (fun e9=>?_)
 ·have i8:=e9
  refine xd 1 .z ?_
  have h7:=(k7.below a0).below (Za l9)
  refine xb (.e [0] 1) 1 h7 ?_
  have j2:=bln (bln f1 a0) (Za l9)
  refine xe (.r [2,3] 8) (.tuple #[S0,V0 6]) ?_
  have he:Qw kind no l=6:=by simp[Qw,c4,a4,f6,g7,i8]
  exact .inl ⟨by rw[he];decide,by rw[he],j2⟩
 have i8:=e9
 have h2:=(c8.blk (f0.below a6.below) (Ne.symm (Ne.symm e8))).below a0
 refine xlv 22 (h2.rpp 10 2) ?_
 refine xa 0 [.nilFunc,V0 0] 240 fun n6 o4 b0=>?_
 have j9:=b0.ne h2
 have l0:=(c8.blk (i1.below a6.below) (Ne.symm (Ne.symm d3))).below a0
 have k4:=b0.ne l0
 have g3:=(c8.blk (d0.below a6.below) (Ne.symm (Ne.symm e5))).below a0
 have k2:=b0.ne g3
 have g4:=(c8.blk (c9.below a6.below) (Ne.symm (Ne.symm b7))).below a0
 have j1:=b0.ne g4
 have f9:=(c8.blk (c7.below a6.below) (Ne.symm (Ne.symm c0))).below a0
 have i9:=b0.ne f9
 have h0:=k7.below a0
 have j0:=b0.ne h0
 have i7:=bln f1 a0
 have m3:=b0.ge i7
 refine xsv 0 b0.blk [.func (.func 139) #[] #[P0 b1],V0 7] fun o5 l5 l8=>?_
 refine xb 5 0 l8 ?_
 have i6:=l5.blkT ((h8.below a0).below b0.below) b0.blk (by decide)
 have a8:=l5.below (bln i7 b0.below) m3
 refine xr 0 (args:=#[P0 b1]) (open_6 kind no _ b1 a c l i6  (Zbg a4) (by have:=Zbg a4;have:=h.cap rfl;omega) (h.below a8)) fun m2 a9=>?_
 refine xi 2 (Dn kind no l 5) (fun e4=>?_) (fun e4=>?_)
 ·have j5:=e4
  refine xd 1 .z ?_
  have i3:=(l8.below a9).below (Za m2)
  refine xb (.e [0] 1) 1 i3 ?_
  have g2:=bln (bln a8 a9) (Za m2)
  refine xe (.r [2,3] 8) (.tuple #[S0,V0 7]) ?_
  have he:Qw kind no l=7:=by simp[Qw,c4,a4,f6,g7,i8,j5]
  exact .inl ⟨by rw[he];decide,by rw[he],g2⟩
 have j5:=e4
 have l3:=i6.below a9
 refine xb 22 0 l3 ?_
 refine xsB 0 (fun _ _ _ _ _ zo zx zy zz V=>Jv (k:=8) (h:=252) (b:=a) (n:=l.length) (c:=c) (i:=8) (ki:=.i64) (j:=252) (kj:=.i64) 1 zo zx zy rfl zz rfl (by omega) (by omega) Tryz.underlying40 (by kernel_rfl) V) ?_
 have d1:=bln a8 a9
 refine xc 0 (args:=#[.slice (Ba a 8 c 1) 244 (c-8)]) (Qy (Ba a 8 c 1) 244 (c-8) ((l.drop 8).take 244) _ (by have:=Zbg a4;simp;omega) ((Bys.cut h rfl 8 252 (by decide) (by have:=Zbg a4;omega)).below d1) (by decide)) ?_
 rintro _ o3 ⟨_,rfl,j8,ho⟩
 have j6:=(bln a8 a9).size
 have b8:=Zh ho j6
 unfold Se at b8
 rw[show((l.drop 8).take 244).length=244 from by have:=Zbg a4;simp;omega] at b8
 obtain⟨p,c3,rfl⟩:=(Zi b8).slice
 have i2:=bln d1 j8
 exact xe 5 (.tuple #[.slice p 244 c3,V0 0]) (.inr ⟨by simp[Qw,c4,a4,f6,g7,i8,j5],_,_,rfl,i2,b8⟩)
end Go.Proofs.YtegcamkgeacjfaaGreatDoor
namespace Go.Proofs.YtegcamkgeacjfaaGreatDoor
set_option maxHeartbeats 8000000
set_option maxRecDepth 100000
open Go.RowKit Go.Extern.Stop Go.Stop Go.Extern
set_option linter.unusedVariables false
attribute [local irreducible] wpList wpAnyH Code.wp Oper.wp Go
theorem Sl.cap{w:World}{b:O0}{n c:Nat}{xs:List Value}(h:Sl w (.slice b n c) n xs):n≤c:=by
 rcases h with ⟨a',c',h1,h2,_⟩|⟨b',a0,cap,h1,h2,_,_⟩
 ·omega
 ·simp only[Value.slice.injEq] at h1;omega
theorem widN_bd(t:Int)(leaf:Bool):4≤widN t leaf∧widN t leaf≤24:=by
 unfold widN
 repeat' split
 all_goals decide
theorem fitN(t:Int)(leaf:Bool):12+maxN t leaf*8+maxN t leaf*widN t leaf≤244:=by
 unfold widN maxN
 repeat' split
 all_goals decide
def widG(t:Int)(leaf:Bool):Nat:=if 1≤t∧t≤5 then widN t leaf else 0
def maxG(t:Int)(leaf:Bool):Nat:=if 1≤t∧t≤5 then maxN t leaf else 0
theorem fitG(t:Int)(leaf:Bool):12+maxG t leaf*8+maxG t leaf*widG t leaf≤244:=by
 unfold maxG widG;split
 ·exact fitN t leaf
 ·decide
theorem maxG_le(t:Int)(leaf:Bool):maxG t leaf≤18:=by
 unfold maxG;split
 ·exact(maxN_pos t leaf).2
 ·decide
theorem widG_le(t:Int)(leaf:Bool):widG t leaf≤24:=by
 unfold widG;split
 ·exact(widN_bd t leaf).2
 ·decide
theorem Hr(t:Int)(leaf:Bool)(w:World)(h:¬ (1≤t∧t≤5)) :
 C0 272 #[V0 t,.bool leaf] w (Ret (V0 0) w):=by
 refine zin 31 Tryz.func272 ?_
 refine xg 17 [8,9] (decide (t<(1:Int))) (fun a0=>?_) (fun a0=>?_)
 ·have a0:=of_decide_eq_true a0
  exact xe 15 (V0 0) ⟨rfl,(B3 w)⟩
 have a0:=of_decide_eq_false a0
 refine xk 6 (show(decide (t>(5:Int)):Bool)=true from decide_eq_true (by omega)) ?_
 exact xe 8 (V0 0) ⟨rfl,(B3 w)⟩
theorem Gd(t:Int)(leaf:Bool)(w:World):C0 272 #[V0 t,.bool leaf] w (Ret (V0 (widG t leaf:Int)) w):=by
 unfold widG
 by_cases h:1≤t∧t≤5
 ·rw[if_pos h];exact Oi t leaf h.1 h.2 w
 ·rw[if_neg h];exact Hr t leaf w h
theorem Fg(t:Int)(leaf:Bool)(w:World)(h:¬ (1≤t∧t≤5)) :
 C0 269 #[V0 t,.bool leaf] w (Ret (V0 0) w):=by
 refine zin 16 Tryz.func269 ?_
 refine xr 9 (args:=#[V0 t,.bool leaf]) (Hr t leaf _ h) fun W1 a0=>?_
 exact xe 18 (V0 0) ⟨rfl,a0⟩
theorem Fz(t:Int)(leaf:Bool)(w:World):C0 269 #[V0 t,.bool leaf] w (Ret (V0 (maxG t leaf:Int)) w):=by
 unfold maxG
 by_cases h:1≤t∧t≤5
 ·rw[if_pos h];exact node_Max t leaf h.1 h.2 w
 ·rw[if_neg h];exact Fg t leaf w h
def Za6(L:List Int)(i:Nat)(k:Int):Int:=if k<0∨281474976710655<k then 2 else if 0<i∧k≤L.getD (i-1) 0 then 8 else 0
def Yo(l:Bl):Int:=(Xf l 1 1:Int)
def Xp(l:Bl):Bool:=(Xf l 0 1:Int)==(1:Int)
def Zr(l:Bl):Nat:=Xf l 2 2
def Qg(l:Bl):Nat:=widG (Yo l) (Xp l)
def Vb(l:Bl):Nat:=maxG (Yo l) (Xp l)
def Ra(l:Bl):Bool:=decide (Xf l 0 1≤1∧Qg l≠0∧Xf l 2 2≤Vb l∧Xf l 4 2=Qg l∧Xf l 6 2=Vb l∧Xf l 8 4=0∧(Xf l 0 1=1∨0<Xf l 2 2))
def ShapeP(l:Bl)(w:World)(e:Ending)(w':World):Prop :=
 (Ra l=false∧∃ a b c,e=.returned (.tuple #[.agg #[V0 a,.bool b,S0,S0],V0 c,.bool false])∧B0 w w') ∨
 (Ra l=true∧e=.returned (.tuple #[.agg #[V0 (Yo l),.bool (Xp l),S0,S0],V0 (Zr l:Int),.bool true])∧B0 w w')
theorem Uq(a:O0)(n c:Nat)(l:Bl)(aw:O0)(cw m:Nat)(ws:List Nat)(xs:List Nat)(W:World)(hn:l.length=n)(hm:ws.length=m)(hx:Jn l 0 ws=xs)(hk:∀ i,i<ws.length→ws.getD i 0=1∨ws.getD i 0=2∨ws.getD i 0=4∨ws.getD i 0=8)(hs:ws.sum≤n)(hl:n≤100000000)(hw:ws.length≤1000)(h:Bys W (.slice a n c) l)(hws:Sl W (.slice aw m cw) m (ws.map nv))(hq:∀ i,i<ws.length→(Jn l 0 ws).getD i 0<9223372036854775808) :
 C0 259 #[.slice a n c,.slice aw m cw] W (Jl (fun w' r=>∃ p c,r=.tuple #[.slice p m c,V0 0]∧w'.ownsRow W.heap.size 3 1 (.slice p m c) m (xs.map nv)) W):=by
 subst hn hm hx;exact En a c l aw cw ws W hk hs hl hw h hws hq
def Qj(l:Bl):List Nat:=[Xf l 0 1,Xf l 1 1,Xf l 2 2,Xf l 4 2,Xf l 6 2,Xf l 8 4]
theorem head6_bd(l:Bl)(i:Nat)(hi:i<6):(Jn l 0 [1,1,2,2,2,4]).getD i 0<9223372036854775808:=by
 have h1:=Vi l 0 1 (by decide)
 have h2:=Vi l 1 1 (by decide)
 have h3:=Vi l 2 2 (by decide)
 have h4:=Vi l 4 2 (by decide)
 have h5:=Vi l 6 2 (by decide)
 have h6:=Vi l 8 4 (by decide)
 obtain rfl|rfl|rfl|rfl|rfl|rfl:i=0∨i=1∨i=2∨i=3∨i=4∨i=5:=by omega
 all_goals simp[Jn]
 all_goals omega
theorem Zaf(a:O0)(c:Nat)(l:Bl)(w:World)(hl:l.length=244)(h:Bys w (.slice a 244 c) l) :
 C0 315 #[.slice a 244 c] w (ShapeP l w):=by
 refine zin 92 Tryz.func315 ?_
 refine xa 2 [V0 0,.bool false,S0,S0] 173 fun b1 W1 n1=>?_
 refine xbs 18 6 [V0 1,V0 1,V0 2,V0 2,V0 2,V0 4] 3 fun b2 W2 n2=>?_
 have hB:=bln n1.below n2.below
 refine xc 0 (args:=#[.slice a 244 c,.slice (S1 b2) 6 6]) (Uq a 244 c l (S1 b2) 6 6 [1,1,2,2,2,4] (Qj l) _ hl rfl rfl (by decide) (by decide) (by decide) (by decide) (h.below hB) (n2.blk.sl 6 6 (by decide) (by decide)) (head6_bd l)) ?_
 rintro _ W3 ⟨_,rfl,e9,p5,c5,rfl,h5⟩
 have g0:=(bln n1.below n2.below).size
 refine xd 8 (.t w.heap.size [173]) ?_
 have b0:=Zb (Zh h5 g0) (Za W3)
 refine xx (.e [0] 1) _ 6 1 1 (Zw (l:=Qj l) (Zi b0) rfl (k:=1) (by decide)).1 ?_
 refine xlt (.e [] 2) (.t w.heap.size [173]) (fun V hV=>(Zw (l:=Qj l) (Zi (Zf b0 hV.2 (by decide))) rfl (k:=1) (by decide)).2) ?_
 refine xx (.e [3] 4) _ 6 0 1 (Zw (l:=Qj l) (Zi b0) rfl (k:=0) (by decide)).1 ?_
 refine xlt (.e [] 5) (.t w.heap.size [173]) (fun V hV=>(Zw (l:=Qj l) (Zi (Zf b0 hV.2 (by decide))) rfl (k:=0) (by decide)).2) ?_
 refine xa (.o [6,7] 8) [V0 0,.bool false,S0,S0] 173 fun b4 W4 n4=>?_
 have k1:=((n1.blk.below n2.below).below e9).below (Za W3)
 have a3:=n4.ne k1
 have a5:=bln (bln hB e9) (Za W3)
 have g4:=n4.ge a5
 refine ysv (.o [] 9) n4.blk [V0 (↑(Xf l 1 1):Int),.bool ((↑(Xf l 0 1):Int)==(1:Int)),S0,S0] (.t w.heap.size [173]) fun W5 u5 k5=>⟨(Zt u5 n4.blk g4 (by decide)),?_⟩
 have b8:=u5.own2 (Zb b0 n4.below) n4.blk (by decide)
 refine xx 6 _ 6 0 1 (Zw (l:=Qj l) (Zi b8) rfl (k:=0) (by decide)).1 ?_
 refine xl 0 ((Zw (l:=Qj l) (Zi b8) rfl (k:=0) (by decide)).2) ?_
 refine xg 2 [32,33] (decide ((↑(Xf l 0 1):Int)>(1:Int))) (fun c1=>?_) (fun c1=>?_)
 ·have c1:=of_decide_eq_true c1
  have d9:=u5.blk (k1.below n4.below) (Ne.symm (Ne.symm a3))
  refine xsv 13 d9 [V0 0,.bool false,S0,S0] fun W7 u7 k7=>?_
  have g1:=n1.ge (B3 w)
  have e2:=u7.below (u5.below (bln a5 n4.below) g4) g1
  exact xec 6 k7 (.tuple #[.agg #[V0 0,.bool false,S0,S0],V0 0,.bool false]) (.inl ⟨decide_eq_false (by omega),_,_,_,rfl,e2⟩)
 have c1:=of_decide_eq_false c1
 refine xb 1 0 k5 ?_
 refine xb 1 1 k5 ?_
 refine xr 0 (args:=#[V0 (↑(Xf l 1 1):Int),.bool ((↑(Xf l 0 1):Int)==(1:Int))]) (Gd (Yo l) (Xp l) _) fun W8 a7=>?_
 refine xie 4 (↑(Qg l):Int) (0:Int) (fun g2=>?_) (fun g2=>?_)
 ·have e1:=(u5.blk (k1.below n4.below) (Ne.symm (Ne.symm a3))).below a7
  refine xsv 3 e1 [V0 0,.bool false,S0,S0] fun h1 f7 f8=>?_
  have g1:=n1.ge (B3 w)
  have d6:=f7.below (bln (u5.below (bln a5 n4.below) g4) a7) g1
  exact xec 6 f8 (.tuple #[.agg #[V0 0,.bool false,S0,S0],V0 0,.bool false]) (.inl ⟨decide_eq_false (by omega),_,_,_,rfl,d6⟩)
 refine xd 3 .z ?_
 have a6:=(k5.below a7).below (Za W8)
 refine xb (.e [0] 1) 0 a6 ?_
 refine xb (.e [2] 3) 1 a6 ?_
 refine xb (.e [5] 6) 0 a6 ?_
 refine xb (.e [7] 8) 1 a6 ?_
 refine xr (.o [] 4) (args:=#[V0 (↑(Xf l 1 1):Int),.bool ((↑(Xf l 0 1):Int)==(1:Int))]) (Gd (Yo l) (Xp l) _) fun h3 a0=>?_
 refine xr (.o [] 9) (args:=#[V0 (↑(Xf l 1 1):Int),.bool ((↑(Xf l 0 1):Int)==(1:Int))]) (Fz (Yo l) (Xp l) _) fun a4 a1=>?_
 have a2:=Zb (Zb (Zb (Zb b8 a7) (Za W8)) a0) a1
 refine xx (.r [10,11] 5) _ 6 2 1 (Zw (l:=Qj l) (Zi a2) rfl (k:=2) (by decide)).1 ?_
 refine xl 0 ((Zw (l:=Qj l) (Zi a2) rfl (k:=2) (by decide)).2) ?_
 refine xg 3 [56,57] (decide ((↑(Xf l 2 2):Int)≤(↑(Vb l):Int))) (fun a8=>?_) (fun a8=>?_)
 ·have a8:=of_decide_eq_true a8
  refine xx 1 _ 6 3 1 (Zw (l:=Qj l) (Zi a2) rfl (k:=3) (by decide)).1 ?_
  refine xl 0 ((Zw (l:=Qj l) (Zi a2) rfl (k:=3) (by decide)).2) ?_
  refine xg 4 [62,63,64] ((↑(Xf l 4 2):Int)==(↑(Qg l):Int)) (fun b3=>?_) (fun b3=>?_)
  ·have b3:=eq_of_beq b3
   refine xx 1 _ 6 4 1 (Zw (l:=Qj l) (Zi a2) rfl (k:=4) (by decide)).1 ?_
   refine xl 0 ((Zw (l:=Qj l) (Zi a2) rfl (k:=4) (by decide)).2) ?_
   refine xg 4 [69,70,71] ((↑(Xf l 6 2):Int)==(↑(Vb l):Int)) (fun a9=>?_) (fun a9=>?_)
   ·have a9:=eq_of_beq a9
    refine xx 1 _ 6 5 1 (Zw (l:=Qj l) (Zi a2) rfl (k:=5) (by decide)).1 ?_
    refine xl 0 ((Zw (l:=Qj l) (Zi a2) rfl (k:=5) (by decide)).2) ?_
    refine xg 3 [75,76,77] ((↑(Xf l 8 4):Int)==(0:Int)) (fun b5=>?_) (fun b5=>?_)
    ·have b5:=eq_of_beq b5
     have b7:=(a6.below a0).below a1
     refine xb 1 1 b7 ?_
     refine xg 1 [27,37,45,50,79,80] ((↑(Xf l 0 1):Int)==(1:Int)) (fun b6=>?_) (fun b6=>?_)
     ·have b6:=eq_of_beq b6
      refine xd 10 (.t w.heap.size [173]) ?_
      have d1:=Zb a2 (Za a4)
      refine xx (.e [1] 2) _ 6 2 1 (Zw (l:=Qj l) (Zi d1) rfl (k:=2) (by decide)).1 ?_
      refine xlt (.e [] 3) (.t w.heap.size [173]) (fun V hV=>(Zw (l:=Qj l) (Zi (Zf d1 hV.2 (by decide))) rfl (k:=2) (by decide)).2) ?_
      have d5:=b7.below (Za a4)
      refine xlv (.o [4] 0) d5.rp ?_
      have c3:=(((((u5.blk (k1.below n4.below) (Ne.symm (Ne.symm a3))).below a7).below (Za W8)).below a0).below a1).below (Za a4)
      have g1:=n1.ge (B3 w)
      refine ysv (.o [] 5) c3 [V0 (↑(Xf l 1 1):Int),.bool ((↑(Xf l 0 1):Int)==(1:Int)),S0,S0] (.t w.heap.size [173]) fun h7 f3 g7=>⟨(Zt f3 c3 g1 (by decide)),?_⟩
      have e0:=f3.below (bln (bln (bln (bln (bln (u5.below (bln a5 n4.below) g4) a7) (Za W8)) a0) a1) (Za a4)) g1
      exact xec (.r [6,7] 3) g7 (.tuple #[.agg #[V0 (↑(Xf l 1 1):Int),.bool ((↑(Xf l 0 1):Int)==(1:Int)),S0,S0],V0 (↑(Xf l 2 2):Int),.bool true]) (.inr ⟨decide_eq_true (by omega),rfl,e0⟩)
     have b6:=Xm b6
     refine xx 1 _ 6 2 1 (Zw (l:=Qj l) (Zi a2) rfl (k:=2) (by decide)).1 ?_
     refine xl 0 ((Zw (l:=Qj l) (Zi a2) rfl (k:=2) (by decide)).2) ?_
     refine xd 7 (.t w.heap.size [173]) ?_
     have d3:=Zb a2 (Za a4)
     refine xx (.e [1] 2) _ 6 2 1 (Zw (l:=Qj l) (Zi d3) rfl (k:=2) (by decide)).1 ?_
     refine xlt (.e [] 3) (.t w.heap.size [173]) (fun V hV=>(Zw (l:=Qj l) (Zi (Zf d3 hV.2 (by decide))) rfl (k:=2) (by decide)).2) ?_
     have e3:=b7.below (Za a4)
     refine xlv (.o [4] 0) e3.rp ?_
     have c6:=(((((u5.blk (k1.below n4.below) (Ne.symm (Ne.symm a3))).below a7).below (Za W8)).below a0).below a1).below (Za a4)
     have g1:=n1.ge (B3 w)
     refine ysv (.o [] 5) c6 [V0 (↑(Xf l 1 1):Int),.bool ((↑(Xf l 0 1):Int)==(1:Int)),S0,S0] (.t w.heap.size [173]) fun h2 f0 f9=>⟨(Zt f0 c6 g1 (by decide)),?_⟩
     have c4:=f0.below (bln (bln (bln (bln (bln (u5.below (bln a5 n4.below) g4) a7) (Za W8)) a0) a1) (Za a4)) g1
     refine xec (.r [6,7] 3) f9 (.tuple #[.agg #[V0 (↑(Xf l 1 1):Int),.bool ((↑(Xf l 0 1):Int)==(1:Int)),S0,S0],V0 (↑(Xf l 2 2):Int),.bool (decide ((↑(Xf l 2 2):Int)>(0:Int)))]) ?_
     rcases Bool.eq_false_or_eq_true (decide ((↑(Xf l 2 2):Int)>(0:Int))) with hq|hq
     ·have f6:=of_decide_eq_true hq
      rw[hq];exact .inr ⟨decide_eq_true (by omega),rfl,c4⟩
     ·have f6:=of_decide_eq_false hq
      rw[hq];exact .inl ⟨decide_eq_false (by omega),_,_,_,rfl,c4⟩
    have b5:=Xm b5
    refine xd 13 (.t w.heap.size [173]) ?_
    have c7:=Zb a2 (Za a4)
    refine xx (.e [1] 2) _ 6 2 1 (Zw (l:=Qj l) (Zi c7) rfl (k:=2) (by decide)).1 ?_
    refine xlt (.e [] 3) (.t w.heap.size [173]) (fun V hV=>(Zw (l:=Qj l) (Zi (Zf c7 hV.2 (by decide))) rfl (k:=2) (by decide)).2) ?_
    have e8:=((a6.below a0).below a1).below (Za a4)
    refine xlv (.o [4] 0) e8.rp ?_
    have d2:=(((((u5.blk (k1.below n4.below) (Ne.symm (Ne.symm a3))).below a7).below (Za W8)).below a0).below a1).below (Za a4)
    have g1:=n1.ge (B3 w)
    refine ysv (.o [] 5) d2 [V0 (↑(Xf l 1 1):Int),.bool ((↑(Xf l 0 1):Int)==(1:Int)),S0,S0] (.t w.heap.size [173]) fun h6 f5 g8=>⟨(Zt f5 d2 g1 (by decide)),?_⟩
    have e7:=f5.below (bln (bln (bln (bln (bln (u5.below (bln a5 n4.below) g4) a7) (Za W8)) a0) a1) (Za a4)) g1
    exact xec (.r [6,7] 3) g8 (.tuple #[.agg #[V0 (↑(Xf l 1 1):Int),.bool ((↑(Xf l 0 1):Int)==(1:Int)),S0,S0],V0 (↑(Xf l 2 2):Int),.bool false]) (.inl ⟨decide_eq_false (by omega),_,_,_,rfl,e7⟩)
   have a9:=Xm a9
   refine xd 19 (.t w.heap.size [173]) ?_
   have c9:=Zb a2 (Za a4)
   refine xx (.e [1] 2) _ 6 2 1 (Zw (l:=Qj l) (Zi c9) rfl (k:=2) (by decide)).1 ?_
   refine xlt (.e [] 3) (.t w.heap.size [173]) (fun V hV=>(Zw (l:=Qj l) (Zi (Zf c9 hV.2 (by decide))) rfl (k:=2) (by decide)).2) ?_
   have d4:=((a6.below a0).below a1).below (Za a4)
   refine xlv (.o [4] 0) d4.rp ?_
   have c2:=(((((u5.blk (k1.below n4.below) (Ne.symm (Ne.symm a3))).below a7).below (Za W8)).below a0).below a1).below (Za a4)
   have g1:=n1.ge (B3 w)
   refine ysv (.o [] 5) c2 [V0 (↑(Xf l 1 1):Int),.bool ((↑(Xf l 0 1):Int)==(1:Int)),S0,S0] (.t w.heap.size [173]) fun g9 f2 g5=>⟨(Zt f2 c2 g1 (by decide)),?_⟩
   have d7:=f2.below (bln (bln (bln (bln (bln (u5.below (bln a5 n4.below) g4) a7) (Za W8)) a0) a1) (Za a4)) g1
   exact xec (.r [6,7] 3) g5 (.tuple #[.agg #[V0 (↑(Xf l 1 1):Int),.bool ((↑(Xf l 0 1):Int)==(1:Int)),S0,S0],V0 (↑(Xf l 2 2):Int),.bool false]) (.inl ⟨decide_eq_false (by omega),_,_,_,rfl,d7⟩)
  have b3:=Xm b3
  refine xd 26 (.t w.heap.size [173]) ?_
  have c8:=Zb a2 (Za a4)
  refine xx (.e [1] 2) _ 6 2 1 (Zw (l:=Qj l) (Zi c8) rfl (k:=2) (by decide)).1 ?_
  refine xlt (.e [] 3) (.t w.heap.size [173]) (fun V hV=>(Zw (l:=Qj l) (Zi (Zf c8 hV.2 (by decide))) rfl (k:=2) (by decide)).2) ?_
  have e4:=((a6.below a0).below a1).below (Za a4)
  refine xlv (.o [4] 0) e4.rp ?_
  have b9:=(((((u5.blk (k1.below n4.below) (Ne.symm (Ne.symm a3))).below a7).below (Za W8)).below a0).below a1).below (Za a4)
  have g1:=n1.ge (B3 w)
  refine ysv (.o [] 5) b9 [V0 (↑(Xf l 1 1):Int),.bool ((↑(Xf l 0 1):Int)==(1:Int)),S0,S0] (.t w.heap.size [173]) fun h4 f4 g6=>⟨(Zt f4 b9 g1 (by decide)),?_⟩
  have d8:=f4.below (bln (bln (bln (bln (bln (u5.below (bln a5 n4.below) g4) a7) (Za W8)) a0) a1) (Za a4)) g1
  exact xec (.r [6,7] 3) g6 (.tuple #[.agg #[V0 (↑(Xf l 1 1):Int),.bool ((↑(Xf l 0 1):Int)==(1:Int)),S0,S0],V0 (↑(Xf l 2 2):Int),.bool false]) (.inl ⟨decide_eq_false (by omega),_,_,_,rfl,d8⟩)
 have a8:=of_decide_eq_false a8
 refine xd 33 (.t w.heap.size [173]) ?_
 have d0:=Zb a2 (Za a4)
 refine xx (.e [1] 2) _ 6 2 1 (Zw (l:=Qj l) (Zi d0) rfl (k:=2) (by decide)).1 ?_
 refine xlt (.e [] 3) (.t w.heap.size [173]) (fun V hV=>(Zw (l:=Qj l) (Zi (Zf d0 hV.2 (by decide))) rfl (k:=2) (by decide)).2) ?_
 have e5:=((a6.below a0).below a1).below (Za a4)
 refine xlv (.o [4] 0) e5.rp ?_
 have c0:=(((((u5.blk (k1.below n4.below) (Ne.symm (Ne.symm a3))).below a7).below (Za W8)).below a0).below a1).below (Za a4)
 have g1:=n1.ge (B3 w)
 refine ysv (.o [] 5) c0 [V0 (↑(Xf l 1 1):Int),.bool ((↑(Xf l 0 1):Int)==(1:Int)),S0,S0] (.t w.heap.size [173]) fun h0 f1 g3=>⟨(Zt f1 c0 g1 (by decide)),?_⟩
 have e6:=f1.below (bln (bln (bln (bln (bln (u5.below (bln a5 n4.below) g4) a7) (Za W8)) a0) a1) (Za a4)) g1
 exact xec (.r [6,7] 3) g3 (.tuple #[.agg #[V0 (↑(Xf l 1 1):Int),.bool ((↑(Xf l 0 1):Int)==(1:Int)),S0,S0],V0 (↑(Xf l 2 2):Int),.bool false]) (.inl ⟨decide_eq_false (by omega),_,_,_,rfl,e6⟩)
theorem Zci(a:O0)(i c:Nat)(L:List Int)(k:Int)(w:World)(hL:L.length=i)(h:Sl w (.slice a i c) i (L.map V0))(hi:i≤1000) :
 C0 314 #[.slice a i c,V0 k] w (Ret (V0 (Za6 L i k)) w):=by
 refine zin 26 Tryz.func314 ?_
 refine xg 12 [7,8] (decide (k<(0:Int))) (fun a1=>?_) (fun a1=>?_)
 ·have a1:=of_decide_eq_true a1
  exact xe 15 (V0 2) ⟨by rw[show Za6 L i k=2 from by unfold Za6;rw[if_pos (by omega)]],(B3 w)⟩
 have a1:=of_decide_eq_false a1
 refine xid 6 (k>(281474976710655:Int)) (fun a2=>?_) (fun a2=>?_)
 ·exact xe 8 (V0 2) ⟨by rw[show Za6 L i k=2 from by unfold Za6;rw[if_pos (by omega)]],(B3 w)⟩
 refine xg 6 [15,16] (decide ((i:Int)>(0:Int))) (fun a0=>?_) (fun a0=>?_)
 ·have a0:=of_decide_eq_true a0
  refine xwm 3 ((i:Int)-1) (↑(i-1):Int) ?_
  refine xx 0 _ i (i-1) 1 (IntsN.elem h hL (k:=(i-1)) (by omega)).1 ?_
  refine xl 0 ((IntsN.elem h hL (k:=(i-1)) (by omega)).2) ?_
  refine xid 6 ((L.getD (i-1) 0)≥k) (fun a3=>?_) (fun a3=>?_)
  ·exact xe 8 (V0 8) ⟨by rw[show Za6 L i k=8 from by unfold Za6;rw[if_neg (by omega),if_pos (by omega)]],(B3 w)⟩
  exact xe 9 (V0 0) ⟨by rw[show Za6 L i k=0 from by unfold Za6;rw[if_neg (by omega),if_neg (by omega)]],(B3 w)⟩
 have a0:=of_decide_eq_false a0
 exact xe 22 (V0 0) ⟨by rw[show Za6 L i k=0 from by unfold Za6;rw[if_neg (by omega),if_neg (by omega)]],(B3 w)⟩
def Rl(l:Bl)(i:Nat):Nat:=Xf l (12+i*8) 8
def Qo(l:Bl)(n:Nat):List Int:=(List.range n).map fun i=>(Rl l i:Int)
theorem Nu(l:Bl)(n:Nat):(Qo l n).length=n:=by simp[Qo]
theorem Ow(l:Bl)(n:Nat):Qo l (n+1)=Qo l n++[(Rl l n:Int)]:=by simp[Qo,List.range_succ]
theorem Zdg(l:Bl){n i:Nat}(h:i<n):(Qo l n).getD i 0=(Rl l i:Int):=by simp[Qo,List.getD,List.getElem?_range h]
def Zdh(l:Bl)(i:Nat):Bl:=(l.drop (12+Vb l*8+i*Qg l)).take (Qg l)
def Kw(l:Bl)(n:Nat):List Bl:=(List.range n).map (Zdh l)
theorem Zdn(l:Bl)(n:Nat):(Kw l n).length=n:=by simp[Kw]
theorem Bh(l:Bl)(n:Nat):Kw l (n+1)=Kw l n++[Zdh l n]:=by simp[Kw,List.range_succ]
theorem Zdw(l:Bl){n i:Nat}(h:i<n):(Kw l n).getD i []=Zdh l i:=by simp[Kw,List.getD,List.getElem?_range h]
def Eb(l:Bl)(i:Nat):Int:=if 281474976710655<Rl l i then 2 else if 0<i∧Rl l i≤Rl l (i-1) then 8 else 0
def Yg(l:Bl):Nat→Int
 | 0=>0
 | i+1=>if Yg l i≠0 then Yg l i else Eb l i
theorem Wa{l:Bl}{i:Nat}(h:Yg l i≠0):∀ n,i≤n→Yg l n=Yg l i
 | 0,h2=>by
  obtain rfl:i=0:=by omega
  rfl
 | n+1,h2=>by
   by_cases e:i=n+1
   ·rw[e]
   ·have ih:=Wa h n (by omega)
    rw[Yg,if_pos (by rw[ih];exact h),ih]
theorem Cg{l:Bl}{i n:Nat}(h:Yg l i=0)(he:Eb l i≠0)(hi:i<n):Yg l n=Eb l i:=by
 have e:Yg l (i+1)=Eb l i:=by rw[Yg,if_neg (by rw[h];decide)]
 rw[Wa (by rw[e];exact he) n hi,e]
theorem Wc{l:Bl}{i:Nat}(h:Yg l i=0)(he:Eb l i=0):Yg l (i+1)=0:=by rw[Yg,if_neg (by rw[h];decide),he]
theorem keyE_R{l:Bl}{i:Nat}:Za6 (Qo l i) i (Rl l i:Int)=Eb l i:=by
 unfold Za6 Eb
 by_cases h:281474976710655<Rl l i
 ·rw[if_pos (by omega),if_pos h]
 ·rw[if_neg (by omega),if_neg h]
  by_cases h2:0<i
  ·rw[Zdg l (show i-1<i by omega)]
   by_cases h3:Rl l i≤Rl l (i-1)
   ·rw[if_pos (by omega),if_pos (by omega)]
   ·rw[if_neg (by omega),if_neg (by omega)]
  ·rw[if_neg (by omega),if_neg (by omega)]
def Er(l:Bl):Nat:=12+Zr l*8
def Zck(l:Bl):Nat:=12+Vb l*8
def Et(l:Bl):Nat:=Zck l+Zr l*Qg l
def Zd3(l:Bl):Bool:=Jj ((l.drop (Er l)).take (Zck l-Er l))&&Jj ((l.drop (Et l)).take (244-Et l))
def Kb(l:Bl):Int:=if Ra l then(if Zd3 l then Yg l (Zr l) else 7) else 7
def NodeP(l:Bl)(w:World)(e:Ending)(w':World):Prop :=
 (Kb l≠0∧e=.returned (.tuple #[.agg #[V0 0,.bool false,S0,S0],V0 (Kb l)])∧B0 w w') ∨
 (Kb l=0∧∃ kp kc vp vc,e=.returned (.tuple #[.agg #[V0 (Yo l),.bool (Xp l),.slice kp (Zr l) kc,.slice vp (Zr l) vc],V0 0])∧B0 w w' ∧
  w'.ownsRow w.heap.size 3 1 (.slice kp (Zr l) kc) (Zr l) ((Qo l (Zr l)).map V0)∧w'.ownsRow w.heap.size 9 1 (.slice vp (Zr l) vc) (Zr l) ((Kw l (Zr l)).map sv))
theorem Ng{l:Bl}(h:Ra l=true):Zr l≤Vb l:=(of_decide_eq_true h).2.2.1
theorem Bo(a:O0)(n c:Nat)(l:Bl)(w:World)(hn:l.length=n)(hl:n≤100000000)(h:Bys w (.slice a n c) l):C0 316 #[.slice a n c] w (Ret (.bool (Jj l)) w):=by
 subst hn;exact Zcg a c l w hl h
theorem valN_bys{a:O0}{c i:Nat}{l:Bl}{w:World}(h:Bys w (.slice a 244 c) l)(hl:l.length=244)(hb:12+Vb l*8+(i+1)*Qg l≤244)(hi:(i+1)*Qg l=i*Qg l+Qg l) :
 Bys w (.slice (Ba a (12+Vb l*8+i*Qg l) c 1) (12+Vb l*8+(i+1)*Qg l-(12+Vb l*8+i*Qg l)) (c-(12+Vb l*8+i*Qg l))) (Zdh l i):=by
 have:=Bys.cut h hl (12+Vb l*8+i*Qg l) (12+Vb l*8+(i+1)*Qg l) (by omega) hb
 rw[show 12+Vb l*8+(i+1)*Qg l-(12+Vb l*8+i*Qg l)=Qg l by omega] at this ⊢
 exact this
theorem Zcb{i:Nat}{l:Bl}(hl:l.length=244)(hb:12+Vb l*8+(i+1)*Qg l≤244)(hi:(i+1)*Qg l=i*Qg l+Qg l):(Zdh l i).length=12+Vb l*8+(i+1)*Qg l-(12+Vb l*8+i*Qg l):=by
 unfold Zdh;simp only[List.length_take,List.length_drop];omega
def GetP(l:Bl)(k w:Nat)(W:World)(e:Ending)(w':World):Prop :=
 (Xf l k w<9223372036854775808∧e=.returned (.tuple #[V0 (Xf l k w:Int),V0 0])∧B0 W w')∨(¬ Xf l k w<9223372036854775808∧e=.returned (.tuple #[V0 0,V0 2])∧B0 W w')
theorem Get_P(a:O0)(n c k w:Nat)(l:Bl)(W:World)(hn:l.length=n)(hw:w=1∨w=2∨w=4∨w=8)(hk:k+w≤n)(hl:n≤100000000)(h:Bys W (.slice a n c) l)(wi:Int)(hwi:wi=(w:Int)) :
 C0 131 #[.slice a n c,V0 (k:Int),V0 wi] W (GetP l k w W):=by
 subst hn hwi
 by_cases hq:Xf l k w<9223372036854775808
 ·refine(Zda a c k w l W hw hk hl h hq).mono ?_
  rintro e V ⟨rfl,hb⟩;exact .inl ⟨hq,rfl,hb⟩
 ·refine(Zb0 a c k w l W hw hk hl h hq).mono ?_
  rintro e V ⟨rfl,hb⟩;exact .inr ⟨hq,rfl,hb⟩
theorem Zcz(l:Bl)(a:O0)(i c:Nat)(w:World)(h:Sl w (.slice a i c) i ((Qo l i).map V0))(hi:i≤1000) :
 C0 314 #[.slice a i c,V0 (↑(Rl l i):Int)] w (fun e w'=>(Eb l i=0∧e=.returned (V0 0)∧B0 w w')∨(Eb l i≠0∧e=.returned (V0 (Eb l i))∧B0 w w')):=by
 refine(Zci a i c (Qo l i) (Rl l i) w (Nu l i) h hi).mono ?_
 rintro e W ⟨rfl,hb⟩
 rw[keyE_R]
 by_cases hz:Eb l i=0
 ·exact .inl ⟨hz,by rw[hz],hb⟩
 ·exact .inr ⟨hz,rfl,hb⟩
theorem Zef(a:O0)(c:Nat)(l:Bl)(w:World)(hl:l.length=244)(h:Bys w (.slice a 244 c) l) :
 C0 304 #[.slice a 244 c] w (NodeP l w):=by
 have l4:=Bys.cap h hl
 refine zin 104 Tryz.func304 ?_
 refine xa 2 [V0 0,.bool false,S0,S0] 173 fun b1 W1 n1=>?_
 refine xc 6 (args:=#[.slice a 244 c]) (Zaf a c l _ hl (h.below n1.below)) ?_
 rintro e W2 l1
 rcases l1 with ⟨hs,t0,l0,c0,rfl,h1⟩|⟨hs,rfl,h1⟩
 ·refine xa 4 [V0 0,.bool false,S0,S0] 173 fun b3 W3 n3=>?_
  have k1:=n1.blk.below h1
  have e9:=n3.ne k1
  have g4:=bln n1.below h1
  have g3:=n3.ge g4
  refine xsv 0 n3.blk [V0 t0,.bool l0,S0,S0] fun W4 u4 k4=>?_
  have i3:=u4.blk (k1.below n3.below) (Ne.symm (Ne.symm e9))
  refine xsv 15 i3 [V0 0,.bool false,S0,S0] fun W5 u5 k5=>?_
  have g1:=n1.ge (B3 w)
  have j2:=u5.below (u4.below (bln g4 n3.below) g3) g1
  refine xec 5 k5 (.tuple #[.agg #[V0 0,.bool false,S0,S0],V0 7]) ?_
  have he:Kb l=7:=by unfold Kb;simp[hs]
  exact .inl ⟨by rw[he];decide,by rw[he],j2⟩
 have l6:=Ng hs
 have j1:=fitG (Yo l) (Xp l)
 have k2:=maxG_le (Yo l) (Xp l)
 have j6:=widG_le (Yo l) (Xp l)
 change 12+Vb l*8+Vb l*Qg l≤244 at j1
 change Vb l≤18 at k2
 change Qg l≤24 at j6
 have n8:Zr l*Qg l≤Vb l*Qg l:=Nat.mul_le_mul_right _ l6
 refine xa 4 [V0 0,.bool false,S0,S0] 173 fun b6 W6 n6=>?_
 have k1:=n1.blk.below h1
 have a3:=n6.ne k1
 have f5:=bln n1.below h1
 have g6:=n6.ge f5
 refine xsv 0 n6.blk [V0 (Yo l),.bool (Xp l),S0,S0] fun W7 u7 k7=>?_
 refine xd 15 .z ?_
 have c6:=k7.below (Za W7)
 refine xb (.e [0] 1) 0 c6 ?_
 refine xb (.e [2] 3) 1 c6 ?_
 refine xb (.e [5] 6) 0 c6 ?_
 refine xb (.e [7] 8) 1 c6 ?_
 refine xr (.o [] 4) (args:=#[V0 (Yo l),.bool (Xp l)]) (Gd (Yo l) (Xp l) _) fun W8 g7=>?_
 refine xr (.o [] 9) (args:=#[V0 (Yo l),.bool (Xp l)]) (Fz (Yo l) (Xp l) _) fun W9 f3=>?_
 refine xwm (.r [10,11] 5) ((↑(Vb l):Int)*8) (↑((Vb l)*8):Int) ?_
 refine xwm 0 (12+(↑((Vb l)*8):Int)) (↑(12+((Vb l)*8)):Int) ?_
 refine xwm 8 ((↑(Zr l):Int)*8) (↑((Zr l)*8):Int) ?_
 refine xwm 0 (12+(↑((Zr l)*8):Int)) (↑(12+((Zr l)*8)):Int) ?_
 refine xsB 1 (fun _ _ _ _ _ zo zx zy zz V=>Jv (k:=(12+((Zr l)*8))) (h:=(12+((Vb l)*8))) (b:=a) (n:=244) (c:=c) (i:=(↑(12+((Zr l)*8)):Int)) (ki:=.i64) (j:=(↑(12+((Vb l)*8)):Int)) (kj:=.i64) 1 zo zx zy rfl zz rfl (by omega) (by omega) Tryz.underlying40 (by kernel_rfl) V) ?_
 have e0:=bln (bln (bln (u7.below (bln f5 n6.below) g6) (Za W7)) g7) f3
 refine xr 0 (args:=#[.slice (Ba a (12+((Zr l)*8)) c 1) ((12+((Vb l)*8))-(12+((Zr l)*8))) (c-(12+((Zr l)*8)))]) (Bo (Ba a (12+((Zr l)*8)) c 1) ((12+((Vb l)*8))-(12+((Zr l)*8))) (c-(12+((Zr l)*8))) _ _ (by simp;omega) (by omega) ((Bys.cut h hl (12+((Zr l)*8)) (12+((Vb l)*8)) (by omega) (by omega)).below e0)) fun n5 b4=>?_
 refine xg 2 [42,43] (!(Jj ((l.drop (Er l)).take (Zck l-Er l)))) (fun d9=>?_) (fun d9=>?_)
 ·have h3:Jj ((l.drop (Er l)).take (Zck l-Er l))=false:=by simpa using d9
  have h8:=((((u7.blk (k1.below n6.below) (Ne.symm (Ne.symm a3))).below (Za W7)).below g7).below f3).below b4
  refine xsv 16 h8 [V0 0,.bool false,S0,S0] fun n7 m5 l9=>?_
  have g1:=n1.ge (B3 w)
  have i9:=m5.below (bln e0 b4) g1
  refine xec 5 l9 (.tuple #[.agg #[V0 0,.bool false,S0,S0],V0 7]) ?_
  have he:Kb l=7:=by unfold Kb;simp[hs,Zd3,h3]
  exact .inl ⟨by rw[he];decide,by rw[he],i9⟩
 have h3:Jj ((l.drop (Er l)).take (Zck l-Er l))=true:=by simpa using d9
 refine xwm 4 ((↑(Zr l):Int)*(↑(Qg l):Int)) (↑((Zr l)*(Qg l)):Int) ?_
 refine xwm 0 ((↑(12+((Vb l)*8)):Int)+(↑((Zr l)*(Qg l)):Int)) (↑((12+((Vb l)*8))+((Zr l)*(Qg l))):Int) ?_
 refine xsL 0 (fun _ _ _ _ zo zx zy V=>Sx (k:=((12+((Vb l)*8))+((Zr l)*(Qg l)))) (b:=a) (n:=244) (c:=c) (i:=(↑((12+((Vb l)*8))+((Zr l)*(Qg l))):Int)) (ki:=.i64) 1 zo zx zy rfl (by omega) Tryz.underlying40 (by kernel_rfl) V) ?_
 have e4:=bln e0 b4
 refine xr 0 (args:=#[.slice (Ba a ((12+((Vb l)*8))+((Zr l)*(Qg l))) c 1) (244-((12+((Vb l)*8))+((Zr l)*(Qg l)))) (c-((12+((Vb l)*8))+((Zr l)*(Qg l))))]) (Bo (Ba a ((12+((Vb l)*8))+((Zr l)*(Qg l))) c 1) (244-((12+((Vb l)*8))+((Zr l)*(Qg l)))) (c-((12+((Vb l)*8))+((Zr l)*(Qg l)))) _ _ (by simp;omega) (by omega) ((Bys.cut h hl (12+((Vb l)*8)+((Zr l)*(Qg l))) 244 (by omega) (by omega)).below e4)) fun n2 c5=>?_
 refine xi 4 (!(Jj ((l.drop (Et l)).take (244-Et l)))) (fun e3=>?_) (fun e3=>?_)
 ·have j0:Jj ((l.drop (Et l)).take (244-Et l))=false:=by simpa using e3
  have i7:=(((((u7.blk (k1.below n6.below) (Ne.symm (Ne.symm a3))).below (Za W7)).below g7).below f3).below b4).below c5
  refine xsv 3 i7 [V0 0,.bool false,S0,S0] fun p2 m4 l5=>?_
  have g1:=n1.ge (B3 w)
  have j4:=m4.below (bln e4 c5) g1
  refine xec 5 l5 (.tuple #[.agg #[V0 0,.bool false,S0,S0],V0 7]) ?_
  have he:Kb l=7:=by unfold Kb;simp[hs,Zd3,h3,j0]
  exact .inl ⟨by rw[he];decide,by rw[he],j4⟩
 have j0:Jj ((l.drop (Et l)).take (244-Et l))=true:=by simpa using e3
 have i8:Zd3 l=true:=by unfold Zd3;rw[h3,j0];rfl
 have h6:=bln e4 c5
 have j9:=(((((u7.blk (k1.below n6.below) (Ne.symm (Ne.symm a3))).below (Za W7)).below g7).below f3).below b4).below c5
 have h7:=(((c6.below g7).below f3).below b4).below c5
 refine zl 10 104 (fun zm m3 V=>∃ (i:Nat) (kp:O0) (kc:Nat) (vp:O0) (vc:Nat),m3=[(0,.slice a 244 c),(2,P0 b1),(4,P0 b6),(7,V0 (↑(Qg l):Int)),(9,V0 (↑(12+((Vb l)*8)):Int)),(55,V0 (↑(Zr l):Int)),(56,V0 (i:Int))]∧zm=Zr l-((i:Int)).toNat∧B0 w V∧Blk V b1 ([V0 0,.bool false,S0,S0]) 173∧Blk V b6 ([V0 (Yo l),.bool (Xp l),.slice kp i kc,.slice vp i vc]) 173∧V.ownsRow w.heap.size 3 1 (.slice kp i kc) i ((Qo l i).map V0)∧V.ownsRow w.heap.size 9 1 (.slice vp i vc) i ((Kw l i).map sv)∧i≤Zr l∧Yg l i=0) ⟨0,none,0,none,0,rfl,rfl,h6,j9,h7,World.ownsRow_nil _ _ _ _,World.ownsRow_nil _ _ _ _,Nat.zero_le _,rfl⟩ ?_
 rintro _ _ n4 ⟨i,kp,kc,vp,vc,rfl,rfl,a6,a0,b7,hK,hV,hi,hz⟩ n9 f8 o8
 have k6:(i+1)*Qg l=i*Qg l+Qg l:=Nat.succ_mul i (Qg l)
 have l8:i<Zr l→(i+1)*Qg l≤Vb l*Qg l:=fun hh=>Nat.mul_le_mul_right _ (by omega)
 refine xid 6 ((i:Int)<(↑(Zr l):Int)) (fun i4=>?_) (fun i4=>?_)
 ·refine xwm 14 ((i:Int)*8) (↑(i*8):Int) ?_
  refine xwm 0 (12+(↑(i*8):Int)) (↑(12+(i*8)):Int) ?_
  refine xc 0 (args:=#[.slice a 244 c,V0 (↑(12+(i*8)):Int),V0 8]) (Get_P a 244 c (12+(i*8)) 8 l _ hl (by decide) (by omega) (by decide) (h.below a6) 8 rfl) ?_
  rintro e o1 k0
  rcases k0 with ⟨m8,rfl,a2⟩|⟨m8,rfl,a2⟩
  ·have a7:=b7.below a2
   refine xb 17 2 a7 ?_
   have g9:=Zb hK a2
   refine xc 1 (args:=#[.slice kp i kc,V0 (↑(Rl l i):Int)]) (Zcz l kp i kc _ (Zi g9) (by omega)) ?_
   rintro e o6 h4
   rcases h4 with ⟨e6,rfl,a4⟩|⟨e6,rfl,a4⟩
   ·have a8:=a7.below a4
    refine xb 16 2 a8 ?_
    refine xbs 1 1 [V0 (↑(Rl l i):Int)] 3 fun o4 o0 c9=>?_
    have h0:=bln (bln a6 a2) a4
    have p3:=c9.ge h0
    have h2:=Zb g9 a4
    have i1:=Zz h2 c9
    have c2:=Zb h2 c9.below
    have d8:=bln h0 c9.below
    refine xbi 0 fun _ _ _ _ zJ zQ zo zx zy zK=>Xq (m:=1) (news:=[V0 (↑(Rl l i):Int)]) (V0 0) 1 8 (i+1) ((Qo l (i+1)).map V0) zo Tryz.underlying33 (by kernel_rfl) rfl (by decide) zx c2 zy (c9.blk.sl 1 1 (by decide) (by decide)) rfl (by simp[Value.oneCell']) (by unfold maxLen;omega) (by omega) d8.size (by rfl) (by rw[Ow,List.map_append];rfl) fun e1 e2 n0 k8 c7 j5=>?_
    refine zK _ _ ?_
    have a1:=(a8.below c9.below).grown c7 c2 (by decide)
    refine xs 1 a1 [V0 (Yo l),.bool (Xp l),.slice e1 (i+1) e2,.slice vp i vc] fun d6 e5 k3=>?_
    refine xd 2 (.t w.heap.size [9,173]) ?_
    refine xwm (.e [0,2,3,4,5] 6) ((i:Int)*(↑(Qg l):Int)) (↑(i*(Qg l)):Int) ?_
    refine xwm (.e [] 7) ((↑(12+((Vb l)*8)):Int)+(↑(i*(Qg l)):Int)) (↑((12+((Vb l)*8))+(i*(Qg l))):Int) ?_
    refine xwm (.e [8,9] 10) ((i:Int)+1) (↑(i+1):Int) ?_
    refine xwm (.e [11] 12) ((↑(i+1):Int)*(↑(Qg l):Int)) (↑((i+1)*(Qg l)):Int) ?_
    refine xwm (.e [] 13) ((↑(12+((Vb l)*8)):Int)+(↑((i+1)*(Qg l)):Int)) (↑((12+((Vb l)*8))+((i+1)*(Qg l))):Int) ?_
    refine xsB (.e [] 14) (fun _ _ _ _ _ zo zx zy zz V=>Jv (k:=((12+((Vb l)*8))+(i*(Qg l)))) (h:=((12+((Vb l)*8))+((i+1)*(Qg l)))) (b:=a) (n:=244) (c:=c) (i:=(↑((12+((Vb l)*8))+(i*(Qg l))):Int)) (ki:=.i64) (j:=(↑((12+((Vb l)*8))+((i+1)*(Qg l))):Int)) (kj:=.i64) 1 zo zx zy rfl zz rfl (by omega) (by omega) Tryz.underlying40 (by kernel_rfl) V) ?_
    have b2:=Zb (e5.own2 (Zp (Zb (Zb (Zb hV a2) a4) c9.below) c7 c2 (by decide)) a1 (by decide)) (Za d6)
    have a5:=bln (e5.below (d8.trans j5) g6) (Za d6)
    refine xcvt (.e [] 15) (.t w.heap.size [9,173]) (fun _ _ _ zo zx V b2=>Cm zo zx ((valN_bys h hl (by omega) k6).below (Ao a5 b2 (Nat.le_refl _))) (Zcb hl (by omega) k6) Tryz.underlying40 Tryz.underlying5 Tryz.underlying9) ?_
    refine xm2 0 1 16 ?_ ?_
    ·have d4:=k3.below (Za d6)
     refine xb 0 3 d4 ?_
     refine xbs (.o [] 16) 1 [.string ⟨(Zdh l i).toArray⟩] 9 fun p1 o3 d1=>?_
     have p8:=d1.ge a5
     have h9:=Zz b2 d1
     have c3:=Zb b2 d1.below
     have d7:=bln a5 d1.below
     refine ybi (.o [] 17) (.t w.heap.size [9,173]) fun _ _ _ _ zJ zQ zo zx zy zK=>Xq (m:=1) (news:=[.string ⟨(Zdh l i).toArray⟩]) (.string ⟨#[]⟩) 1 16 (i+1) ((Kw l (i+1)).map sv) zo Tryz.underlying96 (by kernel_rfl) rfl (by decide) zx c3 zy (d1.blk.sl 1 1 (by decide) (by decide)) rfl (by simp[Value.oneCell']) (by unfold maxLen;omega) (by omega) d7.size (by rfl) (by rw[Bh,List.map_append];rfl) fun i0 j3 p5 m9 c8 f6=>?_
     refine zK _ _ (Ql f6 c8 c3 (by decide)) ?_
     have a9:=(d4.below d1.below).grown c8 c3 (by decide)
     refine ys (.o [18] 19) a9 [V0 (Yo l),.bool (Xp l),.slice e1 (i+1) e2,.slice i0 (i+1) j3] (.t w.heap.size [9,173]) fun o7 f9 m7=>⟨(Zt f9 a9 g6 (by decide)),?_⟩
     refine xwm 4 ((i:Int)+1) (↑(i+1):Int) ?_
     have g0:=f9.below (d7.trans f6) g6
     have c1:=f9.blk ((((e5.blk ((((a0.below a2).below a4).below c9.below).grown c7 c2 (by decide)) (Ne.symm (Ne.symm a3))).below (Za d6)).below d1.below).grown c8 c3 (by decide)) (Ne.symm (Ne.symm a3))
     have g8:=f9.own2 (Zp (Zb (Zb (e5.own2 k8 a1 (by decide)) (Za d6)) d1.below) c8 c3 (by decide)) a9 (by decide)
     have f0:=f9.own2 m9 a9 (by decide)
     exact ze 2 (f8 _ _ _ ⟨i+1,_,_,_,_,rfl,rfl,g0,c1,m7,g8,f0,by omega,Wc hz e6⟩ (by omega))
    refine xbs 0 1 [.string ⟨(Zdh l i).toArray⟩] 9 fun o5 o9 d5=>?_
    have p7:=d5.ge a5
    have i5:=Zz b2 d5
    have d2:=(k3.below (Za d6)).below d5.below
    refine xb (.o [] 1) 3 d2 ?_
    have b5:=Zb b2 d5.below
    have d3:=bln a5 d5.below
    refine ybi (.o [] 17) (.t w.heap.size [9,173]) fun _ _ _ _ zJ zQ zo zx zy zK=>Xq (m:=1) (news:=[.string ⟨(Zdh l i).toArray⟩]) (.string ⟨#[]⟩) 1 16 (i+1) ((Kw l (i+1)).map sv) zo Tryz.underlying96 (by kernel_rfl) rfl (by decide) zx b5 zy (d5.blk.sl 1 1 (by decide) (by decide)) rfl (by simp[Value.oneCell']) (by unfold maxLen;omega) (by omega) d3.size (by rfl) (by rw[Bh,List.map_append];rfl) fun j7 j8 p6 l7 d0 f1=>?_
    refine zK _ _ (Ql f1 d0 b5 (by decide)) ?_
    have b0:=d2.grown d0 b5 (by decide)
    refine ys (.o [18] 19) b0 [V0 (Yo l),.bool (Xp l),.slice e1 (i+1) e2,.slice j7 (i+1) j8] (.t w.heap.size [9,173]) fun p4 g2 m2=>⟨(Zt g2 b0 g6 (by decide)),?_⟩
    refine xwm 4 ((i:Int)+1) (↑(i+1):Int) ?_
    have e8:=g2.below (d3.trans f1) g6
    have c4:=g2.blk ((((e5.blk ((((a0.below a2).below a4).below c9.below).grown c7 c2 (by decide)) (Ne.symm (Ne.symm a3))).below (Za d6)).below d5.below).grown d0 b5 (by decide)) (Ne.symm (Ne.symm a3))
    have f7:=g2.own2 (Zp (Zb (Zb (e5.own2 k8 a1 (by decide)) (Za d6)) d5.below) d0 b5 (by decide)) b0 (by decide)
    have e7:=g2.own2 l7 b0 (by decide)
    exact ze 2 (f8 _ _ _ ⟨i+1,_,_,_,_,rfl,rfl,e8,c4,m2,f7,e7,by omega,Wc hz e6⟩ (by omega))
   refine xk 10 (show(((Eb l i) != (0:Int)):Bool)=true from bne_iff_ne.2 e6) ?_
   have b8:=(a0.below a2).below a4
   refine xsv 4 b8 [V0 0,.bool false,S0,S0] fun o2 l2 m0=>?_
   have g1:=n1.ge (B3 w)
   have f4:=l2.below (bln (bln a6 a2) a4) g1
   refine xec 10 m0 (.tuple #[.agg #[V0 0,.bool false,S0,S0],V0 (Eb l i)]) ?_
   have he:Kb l=Eb l i:=by unfold Kb;rw[if_pos hs,if_pos i8,Cg hz e6 (by omega)]
   exact .inl ⟨by rw[he];exact e6,by rw[he],f4⟩
  have b9:=a0.below a2
  refine xsv 29 b9 [V0 0,.bool false,S0,S0] fun p0 m6 m1=>?_
  have g1:=n1.ge (B3 w)
  have f2:=m6.below (bln a6 a2) g1
  refine xec 10 m1 (.tuple #[.agg #[V0 0,.bool false,S0,S0],V0 2]) ?_
  have k9:Eb l i=2:=by unfold Eb;rw[if_pos (by unfold Rl;omega)]
  have he:Kb l=2:=by unfold Kb;rw[if_pos hs,if_pos i8,Cg hz (by rw[k9];decide) (by omega),k9]
  exact .inl ⟨by rw[he];decide,by rw[he],f2⟩
 refine xlv 7 b7.rp ?_
 refine xsv 0 a0 [V0 (Yo l),.bool (Xp l),.slice kp i kc,.slice vp i vc] fun p9 i2 l3=>?_
 have g1:=n1.ge (B3 w)
 have g5:=i2.below a6 g1
 have i6:=i2.own2 hK a0 (by decide)
 have h5:=i2.own2 hV a0 (by decide)
 refine xec 4 l3 (.tuple #[.agg #[V0 (Yo l),.bool (Xp l),.slice kp i kc,.slice vp i vc],V0 0]) ?_
 obtain rfl:i=Zr l:=by omega
 exact .inr ⟨by unfold Kb;rw[if_pos hs,if_pos i8,hz],_,_,_,_,rfl,g5,i6,h5⟩
theorem Hw{P:Program}{a:Act}{w:World}{K:Act→World→Prop}{Q:Exit→Act→World→Prop}{o:Oper}{src dst e:TypeId}{x:Operand}(l:Bl)(ho:o.op=.convert src dst x)(hx:a.eval x=.string ⟨l.toArray⟩)
 (hs:P.underlying src=some .string) (hd:P.underlying dst=some (.slice e)) (he:P.underlying e=some (.int .u8)) (hl:l.length≤1000000)
 (k:∀ b c W,B0 w W→Bys W (.slice (S1 b) l.length c) l→K (a.put o.dst (.slice (S1 b) l.length c)) W):o.wp P a w K Q:=by
 have hr:=run_bytes_of_string (P:=P) w src dst e ⟨l.toArray⟩ hs hd he
 have a2:(⟨l.toArray⟩:ByteArray).size=l.length:=by simp[ByteArray.size]
 rw[a2] at hr
 obtain⟨W1,a0⟩:∃ W1,W1=w.drew.alloc (.cells (bytesRow ⟨l.toArray⟩ (grownCap w l.length 0 e)) e ((bytesRow ⟨l.toArray⟩ (grownCap w l.length 0 e)).size,(bytesRow ⟨l.toArray⟩ (grownCap w l.length 0 e)).size+1)):=⟨_,rfl⟩
 rw[←a0] at hr
 have h2:(execOp a.eval o).run P w=.ok (.value (.slice (some ⟨w.heap.size,0,none⟩) l.length (grownCap w l.length 0 e))) W1:=by
  simp only[execOp,ho,hx,Sem.run_bind,hr];rfl
 refine Jh h2 (k _ _ _ (by rw[a0];exact(Za w).trans (show Below w.drew.heap.size w.drew _ from blx w.drew _)) (.inr ⟨w.heap.size,0,_,rfl,grownCap_ge w l.length 0 e,grownCap_le_maxLen w l.length 0 e (by unfold maxLen;omega),fun j y hj=>?_⟩))
 have a1:j<l.length:=by have:=(List.getElem?_eq_some_iff.1 hj).1;simpa using this
 have hb:=bytesRow_at ⟨l.toArray⟩ (grownCap w l.length 0 e) j (by simpa using a1)
 have hy:y=.int .u8 ((l.toArray[j]'(by simpa using a1)).toNat:Int):=by
  rw[List.getElem?_map,List.getElem?_eq_getElem a1] at hj
  simp only[Option.map_some,Option.some.injEq] at hj
  rw[←hj];rfl
 have hh:W1.heap[w.heap.size]? = some (.cells (bytesRow ⟨l.toArray⟩ (grownCap w l.length 0 e)) e ((bytesRow ⟨l.toArray⟩ (grownCap w l.length 0 e)).size,(bytesRow ⟨l.toArray⟩ (grownCap w l.length 0 e)).size+1)):=by rw[a0];exact heap_alloc_new w.drew _
 rw[hy]
 simp[World.cell?,hh,hb]
def Xk(s:Bl):Int:=if s.length=4 then(if 1≤Xf s 0 4∧Xf s 0 4≤14399 then 0 else 2) else 7
def Zo(s:Bl):Nat:=if Xk s=0 then Xf s 0 4 else 0
theorem Ii(bs:ByteArray)(i:Nat)(r:Bl)(h:i≤bs.size):(ByteArray.toList.loop bs i r).length=r.length+(bs.size-i):=by
 rw[ByteArray.toList.loop]
 split
 ·rename_i h2
  rw[Ii bs (i+1) _ (by omega)]
  simp;omega
 ·simp;omega
termination_by bs.size-i
theorem Bb(bs:ByteArray):bs.toList.length=bs.size:=by
 unfold ByteArray.toList;rw[Ii _ _ _ (Nat.zero_le _)];simp
theorem four_ne(n:Int):((⟨(leB n 4).toArray⟩:ByteArray).toList==(⟨#[]⟩:ByteArray).toList)=false:=by
 cases hq:((⟨(leB n 4).toArray⟩:ByteArray).toList==(⟨#[]⟩:ByteArray).toList) with
 | false=>rfl
 | true =>
  have e:=congrArg List.length (eq_of_beq hq)
  rw[Bb,Bb] at e
  simp[ByteArray.size,Vt] at e
theorem Si(w:World) :
 C0 204 #[] w (Jl (fun w' r=>∃ b,r=.slice (S1 b) 1 1∧w.heap.size≤b∧Blk w' b [V0 4,V0 1,V0 14399] 377) w):=by
 refine zin 3 Tryz.func204 ?_
 refine xbs 8 1 [V0 4,V0 1,V0 14399] 377 fun b1 W1 n1=>?_
 have g1:=n1.ge (B3 w)
 exact xe 4 (.slice (S1 b1) 1 1) ⟨_,rfl,n1.below,_,rfl,g1,n1.blk⟩
theorem Oh(gl:Nat)(an:O0)(cn:Nat)(n:Int)(w:World)(hl:Blk w gl [V0 4,V0 1,V0 14399] 377)(hn:Sl w (.slice an 1 cn) 1 [V0 n])(h1:1≤n)(h2:n≤14399) :
 C0 222 #[.slice (S1 gl) 1 1,.slice an 1 cn] w (Ret (.string ⟨(leB n 4).toArray⟩) w):=by
 have b6:=h1
 have b2:=h2
 clear h2
 refine zin 51 Tryz.func222 ?_
 refine xu 19 2 ?_
 refine xlv 15 hl.rp ?_
 refine xa 0 [V0 0,V0 0,V0 0] 377 fun b1 W1 n1=>?_
 have a6:=n1.ne hl
 refine xsv 1 n1.blk [V0 4,V0 1,V0 14399] fun W2 u2 k2=>?_
 have g1:=n1.ge (B3 w)
 refine xd 4 .z ?_
 refine xx (.e [0,1] 2) _ 1 0 1 (Ints.elem (l:=[n]) hn (k:=0) (by simp)).1 ?_
 have hB:=bln (u2.below n1.below g1) (Za W2)
 refine xl (.e [] 3) ((Ints.elem (l:=[n]) (hn.below hB) (k:=0) (by simp)).2) ?_
 have a1:=k2.below (Za W2)
 refine xb (.e [4] 5) 1 a1 ?_
 refine xgk (.b [6,7]) [23,24] (show(decide (n<(1:Int)):Bool)=false from decide_eq_false (by omega)) ?_
 refine xx (.e [8,9] 10) _ 1 0 1 (Ints.elem (l:=[n]) hn (k:=0) (by simp)).1 ?_
 refine xl (.e [] 11) ((Ints.elem (l:=[n]) (hn.below hB) (k:=0) (by simp)).2) ?_
 refine xb (.e [12] 13) 2 a1 ?_
 refine xk (.r [14,15] 2) (show(decide (n>(14399:Int)):Bool)=false from decide_eq_false (by omega)) ?_
 refine xd 3 .z ?_
 have a5:=a1.below (Za W2.drew)
 refine xb (.e [0] 1) 0 a5 ?_
 refine xx (.e [2,3] 4) _ 1 0 1 (Ints.elem (l:=[n]) hn (k:=0) (by simp)).1 ?_
 have a0:=bln hB (Za W2.drew)
 refine xl (.e [] 5) ((Ints.elem (l:=[n]) (hn.below a0) (k:=0) (by simp)).2) ?_
 refine xbs (.o [6] 7) 1 [V0 4,V0 n] 271 fun b4 W4 n4=>?_
 have g4:=n4.ge a0
 refine yc (.o [] 8) (args:=#[.slice (S1 b4) 1 1]) .z (Pack_4 b4 n (by omega) (by omega) _ n4.blk) ?_
 rintro _ W5 ⟨_,rfl,a7,p2,c2,rfl,h2⟩
 have a8:=(bln a0 n4.below).size
 refine⟨a7,?_⟩
 have o6:=World.ownsRow_nil W5 w.heap.size 5 1
 have a4:=Zh h2 a8
 have a2:=bln (bln a0 n4.below) a7
 refine xbi (.r [9,10,11,12,13] 5) fun _ _ _ _ zJ zQ zo zx zy zK=>Xq (m:=4) (news:=(leB n 4).map bv) (.int .u8 0) 1 1 (4) ((leB n 4).map bv) zo Tryz.underlying40 (by kernel_rfl) rfl (by decide) zx o6 zy (Zi a4) (by simp[Vt]) (Eh _) (by unfold maxLen;omega) (by omega) a2.size (by rfl) (by simp) fun b0 b3 W7 o7 b5 a9=>?_
 refine zK _ _ ?_
 refine xcv0 24 (fun _ _ _ zo zx=>Cm zo zx (Fk (Zi o7) (Vt _ _)) (Vt _ _) Tryz.underlying40 Tryz.underlying5 Tryz.underlying9) ?_
 have a3:=a2.trans a9
 exact xe 4 (.string ⟨(leB n 4).toArray⟩) ⟨rfl,a3⟩
theorem Ol(gl:Nat)(an:O0)(cn:Nat)(n:Int)(w:World)(hl:Blk w gl [V0 4,V0 1,V0 14399] 377)(hn:Sl w (.slice an 1 cn) 1 [V0 n])(h:¬ (1≤n∧n≤14399)) :
 C0 222 #[.slice (S1 gl) 1 1,.slice an 1 cn] w (Ret (.string ⟨#[]⟩) w):=by
 refine zin 51 Tryz.func222 ?_
 refine xu 19 2 ?_
 refine xlv 15 hl.rp ?_
 refine xa 0 [V0 0,V0 0,V0 0] 377 fun b1 W1 n1=>?_
 have a2:=n1.ne hl
 refine xsv 1 n1.blk [V0 4,V0 1,V0 14399] fun W2 u2 k2=>?_
 have g1:=n1.ge (B3 w)
 refine xd 4 .z ?_
 refine xx (.e [0,1] 2) _ 1 0 1 (Ints.elem (l:=[n]) hn (k:=0) (by simp)).1 ?_
 have hB:=bln (u2.below n1.below g1) (Za W2)
 refine xl (.e [] 3) ((Ints.elem (l:=[n]) (hn.below hB) (k:=0) (by simp)).2) ?_
 have a1:=k2.below (Za W2)
 refine xb (.e [4] 5) 1 a1 ?_
 refine xg (.b [6,7]) [23,24] (decide (n<(1:Int))) (fun a0=>?_) (fun a0=>?_)
 ·have a0:=of_decide_eq_true a0
  exact xe (.r [8,9,10,11,12,13,14,15] 15) (.string ⟨#[]⟩) ⟨rfl,hB⟩
 have a0:=of_decide_eq_false a0
 refine xx (.e [8,9] 10) _ 1 0 1 (Ints.elem (l:=[n]) hn (k:=0) (by simp)).1 ?_
 refine xl (.e [] 11) ((Ints.elem (l:=[n]) (hn.below hB) (k:=0) (by simp)).2) ?_
 refine xb (.e [12] 13) 2 a1 ?_
 refine xk (.r [14,15] 2) (show(decide (n>(14399:Int)):Bool)=true from decide_eq_true (by omega)) ?_
 exact xe 12 (.string ⟨#[]⟩) ⟨rfl,hB⟩
theorem Lp(gl:Nat)(s:Bl)(w:World)(hl:Blk w gl [V0 4,V0 1,V0 14399] 377)(hs:s.length≤1000)(h4:s.length≠4) :
 C0 202 #[.slice (S1 gl) 1 1,.string ⟨s.toArray⟩] w (Jl (fun w' r=>∃ p c,r=.tuple #[.slice p 1 c,V0 7]∧w'.ownsRow w.heap.size 3 1 (.slice p 1 c) 1 [V0 0]) w):=by
 refine zin 54 Tryz.func202 ?_
 refine xu 25 2 ?_
 refine xlv 14 hl.rp ?_
 refine xa 0 [V0 0,V0 0,V0 0] 377 fun b1 W1 n1=>?_
 have a4:=n1.ne hl
 refine xsv 0 n1.blk [V0 4,V0 1,V0 14399] fun W2 u2 k2=>?_
 have g1:=n1.ge (B3 w)
 refine xb 6 0 k2 ?_
 refine xbs 0 1 [V0 4] 3 fun b3 W3 n3=>?_
 have o4:=World.ownsRow_nil W3 w.heap.size 3 1
 have hB:=bln (u2.below n1.below g1) n3.below
 refine xbi 0 fun _ _ _ _ zJ zQ zo zx zy zK=>Xq (m:=1) (news:=[V0 4]) (V0 0) 1 8 (1) ([Value.int .i64 4]) zo Tryz.underlying33 (by kernel_rfl) rfl (by decide) zx o4 zy (n3.blk.sl 1 1 (by decide) (by decide)) rfl (by simp[Value.oneCell']) (by unfold maxLen;omega) (by omega) hB.size (by rfl) (by rfl) fun a8 a7 W5 o5 a5 a6=>?_
 refine zK _ _ ?_
 have a2:=(k2.below n3.below).grown a5 o4 (by decide)
 refine xb 6 0 a2 ?_
 refine xk 31 (show(((s.length:Int) != (4:Int)):Bool)=true from bne_iff_ne.2 (by omega)) ?_
 refine xmk 4 fun _ _ _ _ zJ zQ zo zx zy zK=>Py 1 (V0 0) 1 8 [Value.int .i64 0] zo zx zy Tryz.underlying33 (by kernel_rfl) rfl (by omega) (by omega) (rfl) fun b6 W6 n6=>?_
 have a0:=hB.trans a6
 have g6:=n6.ge a0
 have a3:=Zz o5 n6
 refine zK _ _ ?_
 have a1:=bln a0 n6.below
 have o6:=Qh (size:=1) (n:=1) n6.blk g6 (rfl) (by unfold maxLen;omega)
 exact xe 6 (.tuple #[.slice (S1 b6) 1 1,V0 7]) ⟨_,rfl,a1,_,_,rfl,o6⟩
theorem Cy(gl:Nat)(s:Bl)(w:World)(hl:Blk w gl [V0 4,V0 1,V0 14399] 377)(hs:s.length≤1000)(h4:s.length=4)(h1:1≤Xf s 0 4)(h2:Xf s 0 4≤14399) :
 C0 202 #[.slice (S1 gl) 1 1,.string ⟨s.toArray⟩] w (Jl (fun w' r=>∃ p c,r=.tuple #[.slice p 1 c,V0 0]∧w'.ownsRow w.heap.size 3 1 (.slice p 1 c) 1 [V0 (↑(Xf s 0 4):Int)]) w):=by
 refine zin 54 Tryz.func202 ?_
 refine xu 25 2 ?_
 refine xlv 14 hl.rp ?_
 refine xa 0 [V0 0,V0 0,V0 0] 377 fun b1 W1 n1=>?_
 have a1:=n1.ne hl
 refine xsv 0 n1.blk [V0 4,V0 1,V0 14399] fun W2 u2 k2=>?_
 have g1:=n1.ge (B3 w)
 refine xb 6 0 k2 ?_
 refine xbs 0 1 [V0 4] 3 fun b3 W3 n3=>?_
 have o4:=World.ownsRow_nil W3 w.heap.size 3 1
 have hB:=bln (u2.below n1.below g1) n3.below
 refine xbi 0 fun _ _ _ _ zJ zQ zo zx zy zK=>Xq (m:=1) (news:=[V0 4]) (V0 0) 1 8 (1) ([Value.int .i64 4]) zo Tryz.underlying33 (by kernel_rfl) rfl (by decide) zx o4 zy (n3.blk.sl 1 1 (by decide) (by decide)) rfl (by simp[Value.oneCell']) (by unfold maxLen;omega) (by omega) hB.size (by rfl) (by rfl) fun b4 a9 W5 o5 b2 b5=>?_
 refine zK _ _ ?_
 have a6:=(k2.below n3.below).grown b2 o4 (by decide)
 refine xb 6 0 a6 ?_
 refine xk 31 (show(((s.length:Int) != (4:Int)):Bool)=false from by rw[h4];rfl) ?_
 refine xcf 5 fun _ _ _ zJ zQ zo zx zK=>Hw s zo zx Tryz.underlying9 Tryz.underlying40 Tryz.underlying5 (by omega) ?_
 intro bz cz W6 a2 b7
 refine zK _ _ ?_
 have a7:=Zb o5 a2
 refine xc 1 (args:=#[.slice (S1 bz) s.length cz,.slice b4 1 a9]) (Uq (S1 bz) s.length cz s b4 a9 1 [4] [Xf s 0 4] _ rfl rfl rfl (by decide) (by simp;omega) (by omega) (by decide) b7 (Zi a7) (fun i hi=>by obtain rfl:i=0:=(by simpa using hi);have:=Vi s 0 4 (by decide);simp[Jn];omega)) ?_
 rintro _ W7 ⟨_,rfl,a8,p5,c5,rfl,h5⟩
 have b6:=(bln (hB.trans b5) a2).size
 have a3:=((((u2.blk (hl.below n1.below) (Ne.symm (Ne.symm a1))).below n3.below).grown b2 o4 (by decide)).below a2).below a8
 have a0:=Zh h5 b6
 refine xr 15 (args:=#[.slice (S1 gl) 1 1,.slice p5 1 c5]) (Oh gl p5 c5 (↑(Xf s 0 4):Int) _ a3 (Zi a0) (by omega) (by omega)) fun W8 b0=>?_
 refine xk 4 (show(((⟨(leB (↑(Xf s 0 4):Int) 4).toArray⟩:ByteArray).toList==(⟨#[]⟩:ByteArray).toList):Bool)=false from four_ne _) ?_
 have a4:=bln (bln (bln (hB.trans b5) a2) a8) b0
 have a5:=Zb a0 b0
 exact xe 10 (.tuple #[.slice p5 1 c5,V0 0]) ⟨_,rfl,a4,_,_,rfl,a5⟩
theorem Lm(gl:Nat)(s:Bl)(w:World)(hl:Blk w gl [V0 4,V0 1,V0 14399] 377)(hs:s.length≤1000)(h4:s.length=4)(h1:¬ (1≤(Xf s 0 4:Int)∧(Xf s 0 4:Int)≤14399)) :
 C0 202 #[.slice (S1 gl) 1 1,.string ⟨s.toArray⟩] w (Jl (fun w' r=>∃ p c,r=.tuple #[.slice p 1 c,V0 2]∧w'.ownsRow w.heap.size 3 1 (.slice p 1 c) 1 [V0 0]) w):=by
 refine zin 54 Tryz.func202 ?_
 refine xu 25 2 ?_
 refine xlv 14 hl.rp ?_
 refine xa 0 [V0 0,V0 0,V0 0] 377 fun b1 W1 n1=>?_
 have a3:=n1.ne hl
 refine xsv 0 n1.blk [V0 4,V0 1,V0 14399] fun W2 u2 k2=>?_
 have g1:=n1.ge (B3 w)
 refine xb 6 0 k2 ?_
 refine xbs 0 1 [V0 4] 3 fun b3 W3 n3=>?_
 have o4:=World.ownsRow_nil W3 w.heap.size 3 1
 have hB:=bln (u2.below n1.below g1) n3.below
 refine xbi 0 fun _ _ _ _ zJ zQ zo zx zy zK=>Xq (m:=1) (news:=[V0 4]) (V0 0) 1 8 (1) ([Value.int .i64 4]) zo Tryz.underlying33 (by kernel_rfl) rfl (by decide) zx o4 zy (n3.blk.sl 1 1 (by decide) (by decide)) rfl (by simp[Value.oneCell']) (by unfold maxLen;omega) (by omega) hB.size (by rfl) (by rfl) fun b8 b6 W5 o5 b4 c0=>?_
 refine zK _ _ ?_
 have b0:=(k2.below n3.below).grown b4 o4 (by decide)
 refine xb 6 0 b0 ?_
 refine xk 31 (show(((s.length:Int) != (4:Int)):Bool)=false from by rw[h4];rfl) ?_
 refine xcf 5 fun _ _ _ zJ zQ zo zx zK=>Hw s zo zx Tryz.underlying9 Tryz.underlying40 Tryz.underlying5 (by omega) ?_
 intro bz cz W6 a4 c2
 refine zK _ _ ?_
 have a2:=Zb o5 a4
 refine xc 1 (args:=#[.slice (S1 bz) s.length cz,.slice b8 1 b6]) (Uq (S1 bz) s.length cz s b8 b6 1 [4] [Xf s 0 4] _ rfl rfl rfl (by decide) (by simp;omega) (by omega) (by decide) c2 (Zi a2) (fun i hi=>by obtain rfl:i=0:=(by simpa using hi);have:=Vi s 0 4 (by decide);simp[Jn];omega)) ?_
 rintro _ W7 ⟨_,rfl,a7,p5,c5,rfl,h5⟩
 have c1:=(bln (hB.trans c0) a4).size
 have a5:=((((u2.blk (hl.below n1.below) (Ne.symm (Ne.symm a3))).below n3.below).grown b4 o4 (by decide)).below a4).below a7
 have a1:=Zh h5 c1
 refine xr 15 (args:=#[.slice (S1 gl) 1 1,.slice p5 1 c5]) (Ol gl p5 c5 (↑(Xf s 0 4):Int) _ a5 (Zi a1) (by omega)) fun W8 a8=>?_
 refine xmk 9 fun _ _ _ _ zJ zQ zo zx zy zK=>Py 1 (V0 0) 1 8 [Value.int .i64 0] zo zx zy Tryz.underlying33 (by kernel_rfl) rfl (by omega) (by omega) (rfl) fun b9 W9 n9=>?_
 have a0:=bln (bln (bln (hB.trans c0) a4) a7) a8
 have g9:=n9.ge a0
 have b2:=Zb (Zb a2 a7) a8
 have b7:=Zz b2 n9
 have a6:=Zb a1 a8
 have b5:=Zz a6 n9
 refine zK _ _ ?_
 have a9:=bln a0 n9.below
 have o9:=Qh (size:=1) (n:=1) n9.blk g9 (rfl) (by unfold maxLen;omega)
 exact xe 6 (.tuple #[.slice (S1 b9) 1 1,V0 2]) ⟨_,rfl,a9,_,_,rfl,o9⟩
theorem Sh(gl:Nat)(s:Bl)(w:World)(hl:Blk w gl [V0 4,V0 1,V0 14399] 377)(hs:s.length≤1000):C0 202 #[.slice (S1 gl) 1 1,.string ⟨s.toArray⟩] w (Jl (fun w' r=>∃ p c,r=.tuple #[.slice p 1 c,V0 (Xk s)]∧w'.ownsRow w.heap.size 3 1 (.slice p 1 c) 1 [V0 (Zo s:Int)]) w):=by
 by_cases h4:s.length=4
 ·by_cases h1:1≤Xf s 0 4∧Xf s 0 4≤14399
  ·have he:Xk s=0:=by unfold Xk;rw[if_pos h4,if_pos h1]
   rw[he,Zo,if_pos he]
   exact Cy gl s w hl hs h4 h1.1 h1.2
  ·have he:Xk s=2:=by unfold Xk;rw[if_pos h4,if_neg h1]
   rw[he,Zo,if_neg (by rw[he];decide)]
   exact Lm gl s w hl hs h4 (by omega)
 ·have he:Xk s=7:=by unfold Xk;rw[if_neg h4]
  rw[he,Zo,if_neg (by rw[he];decide)]
  exact Lp gl s w hl hs h4
theorem Qu(s:Bl)(w:World)(hs:s.length≤1000) :
 C0 111 #[.string ⟨s.toArray⟩] w (Ret (.tuple #[V0 (Zo s:Int),V0 (Xk s)]) w):=by
 refine zin 16 Tryz.func111 ?_
 refine xc 8 (args:=#[]) (Si _) ?_
 rintro _ W1 ⟨_,rfl,a1,gl,rfl,gg,kl⟩
 refine xc 1 (args:=#[.slice (S1 gl) 1 1,.string ⟨s.toArray⟩]) (Sh gl s _ kl hs) ?_
 rintro _ W2 ⟨_,rfl,a2,p5,c5,rfl,h5⟩
 have a0:=Zh h5 a1.size
 refine xx 10 _ 1 0 1 (Ints.elem (l:=[(Zo s:Int)]) (Zi a0) (k:=0) (by simp)).1 ?_
 refine xl 0 ((Ints.elem (l:=[(Zo s:Int)]) (Zi a0) (k:=0) (by simp)).2) ?_
 have hB:=bln a1 a2
 exact xe 6 (.tuple #[V0 (↑(Zo s):Int),V0 (Xk s)]) ⟨rfl,hB⟩
abbrev Ht:=Nat×Int×Int
def Zah(p:Ht):List Value:=[V0 (p.1:Int),V0 p.2.1,V0 p.2.2]
theorem Ko(p:Ht):(Zah p).length=3:=rfl
def Xv:Ht:=(4,0,0)
def Kv(ps:List Ht):Prop:=ps.length≤1000∧∀ i,i<ps.length→((ps.getD i Xv).1=4∨(ps.getD i Xv).1=8)∧0≤(ps.getD i Xv).2.1∧(ps.getD i Xv).2.2<9223372036854775808∧((ps.getD i Xv).1=4→(ps.getD i Xv).2.2<4294967296)
def inP (p:Ht)(n:Int):Bool:=decide (p.2.1≤n∧n≤p.2.2)
def Uw(ps:List Ht)(N:List Int)(k:Nat):Bool:=(List.range k).all fun i=>inP (ps.getD i Xv) (N.getD i 0)
theorem Zae(ps:List Ht)(N:List Int)(k:Nat):Uw ps N (k+1)=(Uw ps N k&&inP (ps.getD k Xv) (N.getD k 0)):=by simp[Uw,List.range_succ]
theorem Lv{ps:List Ht}{N:List Int}{i k:Nat}(hi:i<k)(h:inP (ps.getD i Xv) (N.getD i 0)=false):Uw ps N k=false:=by
 unfold Uw
 rw[List.all_eq_false]
 exact⟨i,List.mem_range.2 hi,by rw[h];decide⟩
def Zc0(ps:List Ht)(N:List Int)(k:Nat):Bl:=(List.range k).flatMap fun i=>leB (N.getD i 0) (ps.getD i Xv).1
theorem Nl(ps:List Ht)(N:List Int)(k:Nat):Zc0 ps N (k+1)=Zc0 ps N k++leB (N.getD k 0) (ps.getD k Xv).1:=by simp[Zc0,List.range_succ]
def Kz(ps:List Ht)(k:Nat):List Nat:=(List.range k).map fun i=>(ps.getD i Xv).1
theorem Qx(ps:List Ht)(k:Nat):Kz ps (k+1)=Kz ps k++[(ps.getD k Xv).1]:=by simp[Kz,List.range_succ]
theorem Gn(ps:List Ht)(k:Nat):(Kz ps k).length=k:=by simp[Kz]
theorem wids_get(ps:List Ht){k i:Nat}(h:i<k):(Kz ps k).getD i 0=(ps.getD i Xv).1:=by simp[Kz,List.getD,List.getElem?_range h]
theorem Az(ps:List Ht)(N:List Int)(k:Nat):(Zc0 ps N k).length=(Kz ps k).sum:=by
 induction k with
 | zero=>rfl
 | succ k ih=>rw[Nl,Qx,List.length_append,Vt,ih];simp
theorem Pack_48(g w:Nat)(n:Int)(W:World)(hw:w=4∨w=8)(h0:0≤n)(hb:w=4→n<4294967296)(hk:Blk W g [V0 (w:Int),V0 n] 271):C0 169 #[.slice (S1 g) 1 1] W (Jl (fun w' r=>∃ p c,r=.tuple #[.slice p w c,V0 0]∧w'.ownsRow W.heap.size 5 1 (.slice p w c) w ((leB n w).map bv)) W):=by
 rcases hw with rfl|rfl
 ·exact Pack_4 g n h0 (hb rfl) W hk
 ·exact Pack_8 g n h0 W hk
def ValPutP(ps:List Ht)(N:List Int)(w:World)(e:Ending)(w':World):Prop :=
 (Uw ps N ps.length=false∧e=.returned (.string ⟨#[]⟩)∧B0 w w')∨(Uw ps N ps.length=true∧e=.returned (.string ⟨(Zc0 ps N ps.length).toArray⟩)∧B0 w w')
theorem Zau(ps:List Ht)(N:List Int)(gl gn:O0)(cl cn:Nat)(w:World)(hps:Kv ps)(hNl:N.length=ps.length)(hP:Sts Zah w (.slice gl ps.length cl) ps)(hN:Sl w (.slice gn ps.length cn) ps.length (N.map V0)) :
 C0 222 #[.slice gl ps.length cl,.slice gn ps.length cn] w (ValPutP ps N w):=by
 have c0:=hps.1
 refine zin 51 Tryz.func222 ?_
 have hB:=Below.refl w.heap.size w
 refine zl 19 51 (fun zm b4 V=>∃ (i m:Nat) (q:O0) (d:Nat),b4=[(1,.slice gn ps.length cn),(5,.slice q m d),(10,.slice gl ps.length cl),(11,V0 (ps.length:Int)),(12,V0 (i:Int))]∧zm=ps.length-((i:Int)).toNat∧B0 w V∧V.ownsRow w.heap.size 5 1 (.slice q m d) m ((Zc0 ps N i).map bv)∧i≤ps.length∧m=(Kz ps i).sum∧m≤i*8∧Uw ps N i=true) ⟨0,0,_,_,rfl,rfl,hB,World.ownsRow_nil _ _ _ _,Nat.zero_le _,rfl,Nat.zero_le _,rfl⟩ ?_
 rintro _ _ W1 ⟨i,m,q,d,rfl,rfl,a2,ho,hi,hm,c5,a4⟩ J1 b6 r1
 refine xid 6 ((i:Int)<(ps.length:Int)) (fun b5=>?_) (fun b5=>?_)
 ·refine xx 7 _ ps.length i 3 (Sts.cell hP Ko Xv (k:=i) (i:=0) (by omega) rfl).1 ?_
  refine xlv 0 (Sts.rp (k:=i) (hP.below a2) Ko Xv (by omega) (by decide)) ?_
  refine xa 0 [V0 0,V0 0,V0 0] 377 fun b3 W3 n3=>?_
  have g3:=n3.ge a2
  refine xsv 1 n3.blk [V0 (↑(ps.getD i Xv).1:Int),V0 ((ps.getD i Xv).2.1),V0 ((ps.getD i Xv).2.2)] fun W4 u4 k4=>?_
  refine xd 4 .z ?_
  refine xx (.e [0,1] 2) _ ps.length i 1 (IntsN.elem hN hNl (k:=i) (by omega)).1 ?_
  have a0:=bln (u4.below (bln a2 n3.below) g3) (Za W4)
  refine xl (.e [] 3) ((IntsN.elem (hN.below a0) hNl (k:=i) (by omega)).2) ?_
  have a3:=k4.below (Za W4)
  refine xb (.e [4] 5) 1 a3 ?_
  refine xg (.b [6,7]) [23,24] (decide ((N.getD i 0)<(ps.getD i Xv).2.1)) (fun a6=>?_) (fun a6=>?_)
  ·have a6:=of_decide_eq_true a6
   exact xe (.r [8,9,10,11,12,13,14,15] 15) (.string ⟨#[]⟩) (.inl ⟨Lv (i:=i) (by omega) (decide_eq_false (by omega)),rfl,a0⟩)
  have a6:=of_decide_eq_false a6
  refine xx (.e [8,9] 10) _ ps.length i 1 (IntsN.elem hN hNl (k:=i) (by omega)).1 ?_
  refine xl (.e [] 11) ((IntsN.elem (hN.below a0) hNl (k:=i) (by omega)).2) ?_
  refine xb (.e [12] 13) 2 a3 ?_
  refine xid (.r [14,15] 2) ((N.getD i 0)>(ps.getD i Xv).2.2) (fun b2=>?_) (fun b2=>?_)
  ·exact xe 12 (.string ⟨#[]⟩) (.inl ⟨Lv (i:=i) (by omega) (decide_eq_false (by omega)),rfl,a0⟩)
  refine xd 3 .z ?_
  have a7:=a3.below (Za W4.drew)
  refine xb (.e [0] 1) 0 a7 ?_
  refine xx (.e [2,3] 4) _ ps.length i 1 (IntsN.elem hN hNl (k:=i) (by omega)).1 ?_
  have a1:=bln a0 (Za W4.drew)
  refine xl (.e [] 5) ((IntsN.elem (hN.below a1) hNl (k:=i) (by omega)).2) ?_
  refine xbs (.o [6] 7) 1 [V0 (↑(ps.getD i Xv).1:Int),V0 (N.getD i 0)] 271 fun b7 W7 n7=>?_
  have g7:=n7.ge a1
  refine yc (.o [] 8) (args:=#[.slice (S1 b7) 1 1]) .z (Pack_48 b7 (ps.getD i Xv).1 (N.getD i 0) _ (hps.2 i (by omega)).1 (by have:=(hps.2 i (by omega)).2.1;omega) (fun q=>by have:=(hps.2 i (by omega)).2.2.2 q;omega) n7.blk) ?_
  rintro _ W8 ⟨_,rfl,a8,p2,c2,rfl,h2⟩
  have b8:=(bln a1 n7.below).size
  refine⟨a8,?_⟩
  have b0:=Zb (Zb (Zb (Zb (u4.own2 (Zb ho n3.below) n3.blk (by decide)) (Za W4)) (Za W4.drew)) n7.below) a8
  have b1:=Zh h2 b8
  have a5:=bln (bln a1 n7.below) a8
  refine xbi (.r [9,10,11,12,13] 5) fun _ _ _ _ zJ zQ zo zx zy zK=>Xq (m:=(ps.getD i Xv).1) (news:=(leB (N.getD i 0) (ps.getD i Xv).1).map bv) (.int .u8 0) 1 1 ((m+(ps.getD i Xv).1)) (((Zc0 ps N (i+1)).map bv)) zo Tryz.underlying40 (by kernel_rfl) rfl (by decide) zx b0 zy (Zi b1) (by simp[Vt]) (Eh _) (by unfold maxLen;have:=(hps.2 i (by omega)).1;omega) (by have:=(hps.2 i (by omega)).1;omega) a5.size (by rfl) (by rw[Nl,List.map_append]) fun c3 c1 W9 o9 c4 b9=>?_
  refine zK _ _ ?_
  refine xwm 5 ((i:Int)+1) (↑(i+1):Int) ?_
  have a9:=a5.trans b9
  exact ze 2 (b6 _ _ _ ⟨i+1,_,_,_,rfl,rfl,a9,o9,by omega,by rw[Qx,hm];simp,by have:=(hps.2 i (by omega)).1;omega,by rw[Zae,a4];exact decide_eq_true ⟨by omega,by omega⟩⟩ (by omega))
 refine xcv0 8 (fun _ _ _ zo zx=>Cm zo zx (Fk (Zi ho) (by rw[Az];exact hm.symm)) (by rw[Az];exact hm.symm) Tryz.underlying40 Tryz.underlying5 Tryz.underlying9) ?_
 refine xe 4 (.string ⟨(Zc0 ps N i).toArray⟩) ?_
 obtain rfl:i=ps.length:=by omega
 exact .inr ⟨a4,rfl,a2⟩
def Gk(ps:List Ht)(s:Bl):List Nat:=Jn s 0 (Kz ps ps.length)
theorem Ma(ps:List Ht)(s:Bl):(Gk ps s).length=ps.length:=by rw[Gk,Db,Gn]
def Ud(ps:List Ht)(s:Bl):Bool:=Uw ps ((Gk ps s).map fun n:Nat=>(n:Int)) ps.length
def Xc(ps:List Ht)(s:Bl):Int:=if s.length=(Kz ps ps.length).sum then(if Ud ps s then 0 else 2) else 7
def Yp(ps:List Ht)(s:Bl):List Nat:=if Xc ps s=0 then Gk ps s else List.replicate ps.length 0
theorem Yk(ps:List Ht)(s:Bl):(Yp ps s).length=ps.length:=by
 unfold Yp;split
 ·exact Ma ps s
 ·simp
theorem Zdv{ps:List Ht}{s:Bl}(hp:Kv ps)(h:Ud ps s=true):∀ i,i<(Kz ps ps.length).length→(Jn s 0 (Kz ps ps.length)).getD i 0<9223372036854775808:=by
 intro i hi
 rw[Gn] at hi
 unfold Ud Uw at h
 rw[List.all_eq_true] at h
 have h1:=of_decide_eq_true (h i (List.mem_range.2 hi))
 have h2:=(hp.2 i hi).2.2.1
 rw[show((Gk ps s).map fun n:Nat=>(n:Int)).getD i 0=(((Gk ps s).getD i 0:Nat):Int) by simp[List.getD,show i<(Gk ps s).length by rw[Ma];exact hi]] at h1
 change (Gk ps s).getD i 0<_
 omega
theorem map_nv(l:List Nat):l.map nv=(l.map fun n:Nat=>(n:Int)).map V0:=by simp[nv]
theorem putL_ne{ps:List Ht}{N:List Int}(hp:Kv ps)(h0:0<ps.length):((⟨(Zc0 ps N ps.length).toArray⟩:ByteArray).toList==(⟨#[]⟩:ByteArray).toList)=false:=by
 rw[show(⟨#[]⟩:ByteArray)=⟨([]:Bl).toArray⟩ from rfl,str_beq]
 apply beq_false_of_ne
 intro q
 have h1:=congrArg List.length q
 obtain⟨k,hk⟩:∃ k,ps.length=k+1:=⟨ps.length-1,by omega⟩
 rw[hk,Nl,List.length_append,Vt] at h1
 rw[List.length_nil] at h1
 have:=(hp.2 k (by omega)).1
 omega
theorem Dk(n:Nat):Jk (Value.int .i64 0).cells.toList n=(List.replicate n 0).map nv:=by
 rw[show(Value.int .i64 0).cells.toList=[Value.int .i64 0] from rfl,Jk,List.map_replicate]
 induction n with
 | zero=>rfl
 | succ n ih=>rw[List.replicate_succ,List.flatten_cons,ih,List.replicate_succ];rfl
theorem Mm(ps:List Ht)(s:Bl)(gl:O0)(cl:Nat)(w:World)(hps:Kv ps)(h0:0<ps.length)(hs:s.length≤100000)(hP:Sts Zah w (.slice gl ps.length cl) ps)(hsl:s.length≠(Kz ps ps.length).sum) :
 C0 202 #[.slice gl ps.length cl,.string ⟨s.toArray⟩] w (Jl (fun w' r=>∃ p c,r=.tuple #[.slice p ps.length c,V0 (Xc ps s)]∧w'.ownsRow w.heap.size 3 1 (.slice p ps.length c) ps.length ((Yp ps s).map nv)) w):=by
 have b9:=hps.1
 refine zin 54 Tryz.func202 ?_
 have hB:=Below.refl w.heap.size w
 refine zl 25 54 (fun zm b0 V=>∃ (i:Nat) (q:O0) (d:Nat),b0=[(0,.slice gl ps.length cl),(1,.string ⟨s.toArray⟩),(4,S0),(5,V0 0),(6,.slice q i d),(7,V0 (↑(Kz ps i).sum:Int)),(12,.slice gl ps.length cl),(13,V0 (ps.length:Int)),(14,V0 (i:Int))]∧zm=ps.length-((i:Int)).toNat∧B0 w V∧V.ownsRow w.heap.size 3 1 (.slice q i d) i ((Kz ps i).map nv)∧i≤ps.length∧(Kz ps i).sum≤i*8) ⟨0,_,_,rfl,rfl,hB,World.ownsRow_nil _ _ _ _,Nat.zero_le _,Nat.zero_le _⟩ ?_
 rintro _ _ W1 ⟨i,q,d,rfl,rfl,a0,ho,hi,c1⟩ J1 b4 r1
 have b2:i<ps.length→(ps.getD i Xv).1≤8:=fun q=>by have:=(hps.2 i q).1;omega
 refine xid 6 ((i:Int)<(ps.length:Int)) (fun b1=>?_) (fun b1=>?_)
 ·refine xx 6 _ ps.length i 3 (Sts.cell hP Ko Xv (k:=i) (i:=0) (by omega) rfl).1 ?_
  refine xlv 0 (Sts.rp (k:=i) (hP.below a0) Ko Xv (by omega) (by decide)) ?_
  refine xa 0 [V0 0,V0 0,V0 0] 377 fun b3 W3 n3=>?_
  have g3:=n3.ge a0
  refine xsv 0 n3.blk [V0 (↑(ps.getD i Xv).1:Int),V0 ((ps.getD i Xv).2.1),V0 ((ps.getD i Xv).2.2)] fun W4 u4 k4=>?_
  refine xb 6 0 k4 ?_
  refine xbs 0 1 [V0 (↑(ps.getD i Xv).1:Int)] 3 fun b5 W5 n5=>?_
  have a2:=u4.below (bln a0 n3.below) g3
  have g5:=n5.ge a2
  have a4:=u4.own2 (Zb ho n3.below) n3.blk (by decide)
  have a8:=Zz a4 n5
  have a1:=Zb a4 n5.below
  have a3:=bln a2 n5.below
  refine xbi 0 fun _ _ _ _ zJ zQ zo zx zy zK=>Xq (m:=1) (news:=[V0 (↑(ps.getD i Xv).1:Int)]) (V0 0) 1 8 (i+1) (((Kz ps (i+1)).map nv)) zo Tryz.underlying33 (by kernel_rfl) rfl (by decide) zx a1 zy (n5.blk.sl 1 1 (by decide) (by decide)) rfl (by simp[Value.oneCell']) (by unfold maxLen;omega) (by omega) a3.size (by rfl) (by rw[Qx,List.map_append];rfl) fun c0 c2 W6 o6 b8 b6=>?_
  refine zK _ _ ?_
  have a5:=(k4.below n5.below).grown b8 a1 (by decide)
  refine xb 6 0 a5 ?_
  refine xwm 0 ((↑(Kz ps i).sum:Int)+(↑(ps.getD i Xv).1:Int)) (↑((Kz ps i).sum+((ps.getD i Xv).1)):Int) ?_
  refine xwm 5 ((i:Int)+1) (↑(i+1):Int) ?_
  refine xv1 2 7 (show(V0 (↑((Kz ps i).sum+((ps.getD i Xv).1)):Int):Value)=V0 (↑(Kz ps (i+1)).sum:Int) from by rw[Qx];simp) ?_
  have a6:=a3.trans b6
  exact ze 0 (b4 _ _ _ ⟨i+1,_,_,rfl,rfl,a6,o6,by omega,by rw[Qx,List.sum_append,List.sum_cons,List.sum_nil];have:=b2 (by omega);omega⟩ (by omega))
 refine xk 14 (show(((s.length:Int) != (↑(Kz ps i).sum:Int)):Bool)=true from bne_iff_ne.2 (by rw[show i=ps.length by omega];omega)) ?_
 refine xmk 4 fun _ _ _ _ zJ zQ zo zx zy zK=>Py ps.length (V0 0) 1 8 ((List.replicate ps.length 0).map nv) zo zx zy Tryz.underlying33 (by kernel_rfl) rfl (by omega) (by omega) (Dk _) fun b7 W7 n7=>?_
 have g7:=n7.ge a0
 have a9:=Zz ho n7
 refine zK _ _ ?_
 have a7:=bln a0 n7.below
 have o7:=Qh (size:=1) (n:=ps.length) n7.blk g7 (by simp) (by unfold maxLen;omega)
 refine xe 6 (.tuple #[.slice (S1 b7) ps.length ps.length,V0 7]) ?_
 have he:Xc ps s=7:=if_neg hsl
 exact⟨_,rfl,a7,_,_,by rw[he],by rw[Yp,if_neg (by rw[he];decide)];exact o7⟩
def UnpP(s:Bl)(ws:List Nat)(n:Nat)(W:World)(e:Ending)(w':World):Prop :=
 ((¬ ∀ i,i<ws.length→(Jn s 0 ws).getD i 0<9223372036854775808)∧e=.returned (.tuple #[S0,V0 2])∧B0 W w') ∨
 ((∀ i,i<ws.length→(Jn s 0 ws).getD i 0<9223372036854775808)∧∃ p c,e=.returned (.tuple #[.slice p n c,V0 0])∧B0 W w'∧w'.ownsRow W.heap.size 3 1 (.slice p n c) n ((Jn s 0 ws).map nv))
theorem Unpack_P(a:O0)(n c m:Nat)(s:Bl)(aw:O0)(cw:Nat)(ws:List Nat)(W:World)(hn:s.length=n)(hm:ws.length=m)(hk:∀ i,i<ws.length→ws.getD i 0=1∨ws.getD i 0=2∨ws.getD i 0=4∨ws.getD i 0=8)(hs:ws.sum≤n)(hl:n≤100000000)(hw:m≤1000)(h:Bys W (.slice a n c) s)(hws:Sl W (.slice aw m cw) m (ws.map nv)) :
 C0 259 #[.slice a n c,.slice aw m cw] W (UnpP s ws m W):=by
 subst hn hm
 by_cases hq:∀ i,i<ws.length→(Jn s 0 ws).getD i 0<9223372036854775808
 ·refine(En a c s aw cw ws W hk hs hl hw h hws hq).mono ?_
  rintro e V ⟨_,rfl,hb,p,c2,rfl,ho⟩
  exact .inr ⟨hq,p,c2,rfl,hb,ho⟩
 ·refine(Iu a c s aw cw ws W hk hs hl hw h hws hq).mono ?_
  rintro e V ⟨rfl,hb⟩
  exact .inl ⟨hq,rfl,hb⟩
theorem Zce(ps:List Ht)(s:Bl)(k:Nat):((Jn s 0 (Kz ps k)).map fun n:Nat=>(n:Int)).length=k:=by rw[List.length_map,Db,Gn]
theorem Sd(ps:List Ht)(N:List Int)(gl gn:O0)(cl cn n:Nat)(w:World)(hps:Kv ps)(hn:n=ps.length)(hNl:N.length=n)(hP:Sts Zah w (.slice gl ps.length cl) ps)(hN:Sl w (.slice gn n cn) n (N.map V0)) :
 C0 222 #[.slice gl ps.length cl,.slice gn n cn] w (fun e w'=>(Uw ps N n=false∧e=.returned (.string ⟨#[]⟩)∧B0 w w')∨(Uw ps N n=true∧e=.returned (.string ⟨(Zc0 ps N ps.length).toArray⟩)∧B0 w w')):=by
 subst hn;exact Zau ps N gl gn cl cn w hps hNl hP hN
theorem Lg(ps:List Ht)(s:Bl)(gl:O0)(cl:Nat)(w:World)(hps:Kv ps)(h0:0<ps.length)(hs:s.length≤100000)(hP:Sts Zah w (.slice gl ps.length cl) ps)(hsl:s.length=(Kz ps ps.length).sum) :
 C0 202 #[.slice gl ps.length cl,.string ⟨s.toArray⟩] w (Jl (fun w' r=>∃ p c,r=.tuple #[.slice p ps.length c,V0 (Xc ps s)]∧w'.ownsRow w.heap.size 3 1 (.slice p ps.length c) ps.length ((Yp ps s).map nv)) w):=by
 have e9:=hps.1
 refine zin 54 Tryz.func202 ?_
 have hB:=Below.refl w.heap.size w
 refine zl 25 54 (fun zm d6 V=>∃ (i:Nat) (q:O0) (d:Nat),d6=[(0,.slice gl ps.length cl),(1,.string ⟨s.toArray⟩),(4,S0),(5,V0 0),(6,.slice q i d),(7,V0 (↑(Kz ps i).sum:Int)),(12,.slice gl ps.length cl),(13,V0 (ps.length:Int)),(14,V0 (i:Int))]∧zm=ps.length-((i:Int)).toNat∧B0 w V∧V.ownsRow w.heap.size 3 1 (.slice q i d) i ((Kz ps i).map nv)∧i≤ps.length∧(Kz ps i).sum≤i*8) ⟨0,_,_,rfl,rfl,hB,World.ownsRow_nil _ _ _ _,Nat.zero_le _,Nat.zero_le _⟩ ?_
 rintro _ _ W1 ⟨i,q,d,rfl,rfl,a0,ho,hi,f3⟩ J1 e0 r1
 have d9:i<ps.length→(ps.getD i Xv).1≤8:=fun q=>by have:=(hps.2 i q).1;omega
 refine xid 6 ((i:Int)<(ps.length:Int)) (fun d8=>?_) (fun d8=>?_)
 ·refine xx 6 _ ps.length i 3 (Sts.cell hP Ko Xv (k:=i) (i:=0) (by omega) rfl).1 ?_
  refine xlv 0 (Sts.rp (k:=i) (hP.below a0) Ko Xv (by omega) (by decide)) ?_
  refine xa 0 [V0 0,V0 0,V0 0] 377 fun b3 W3 n3=>?_
  have g3:=n3.ge a0
  refine xsv 0 n3.blk [V0 (↑(ps.getD i Xv).1:Int),V0 ((ps.getD i Xv).2.1),V0 ((ps.getD i Xv).2.2)] fun W4 u4 k4=>?_
  refine xb 6 0 k4 ?_
  refine xbs 0 1 [V0 (↑(ps.getD i Xv).1:Int)] 3 fun b5 W5 n5=>?_
  have a8:=u4.below (bln a0 n3.below) g3
  have g5:=n5.ge a8
  have b2:=u4.own2 (Zb ho n3.below) n3.blk (by decide)
  have d4:=Zz b2 n5
  have a6:=Zb b2 n5.below
  have b1:=bln a8 n5.below
  refine xbi 0 fun _ _ _ _ zJ zQ zo zx zy zK=>Xq (m:=1) (news:=[V0 (↑(ps.getD i Xv).1:Int)]) (V0 0) 1 8 (i+1) (((Kz ps (i+1)).map nv)) zo Tryz.underlying33 (by kernel_rfl) rfl (by decide) zx a6 zy (n5.blk.sl 1 1 (by decide) (by decide)) rfl (by simp[Value.oneCell']) (by unfold maxLen;omega) (by omega) b1.size (by rfl) (by rw[Qx,List.map_append];rfl) fun f0 f4 W6 o6 e7 e3=>?_
  refine zK _ _ ?_
  have b7:=(k4.below n5.below).grown e7 a6 (by decide)
  refine xb 6 0 b7 ?_
  refine xwm 0 ((↑(Kz ps i).sum:Int)+(↑(ps.getD i Xv).1:Int)) (↑((Kz ps i).sum+((ps.getD i Xv).1)):Int) ?_
  refine xwm 5 ((i:Int)+1) (↑(i+1):Int) ?_
  refine xv1 2 7 (show(V0 (↑((Kz ps i).sum+((ps.getD i Xv).1)):Int):Value)=V0 (↑(Kz ps (i+1)).sum:Int) from by rw[Qx];simp) ?_
  have b8:=b1.trans e3
  exact ze 0 (e0 _ _ _ ⟨i+1,_,_,rfl,rfl,b8,o6,by omega,by rw[Qx,List.sum_append,List.sum_cons,List.sum_nil];have:=d9 (by omega);omega⟩ (by omega))
 refine xk 14 (show(((s.length:Int) != (↑(Kz ps i).sum:Int)):Bool)=false from by rw[show i=ps.length by omega,hsl];simp) ?_
 refine xcf 5 fun _ _ _ zJ zQ zo zx zK=>Hw s zo zx Tryz.underlying9 Tryz.underlying40 Tryz.underlying5 (by omega) ?_
 intro bz cz W7 b6 e5
 refine zK _ _ ?_
 have a2:=Zb ho b6
 refine xc 1 (args:=#[.slice (S1 bz) s.length cz,.slice q i d]) (Unpack_P (S1 bz) s.length cz i s q d (Kz ps i) _ rfl (Gn ps i) (fun j hj=>by rw[Gn] at hj;rw[wids_get ps hj];have:=(hps.2 j (by omega)).1;omega) (by rw[show i=ps.length by omega];omega) (by omega) (by omega) e5 (Zi a2)) ?_
 rintro e W8 d7
 rcases d7 with ⟨hq,rfl,a9⟩|⟨hq,p5,c5,rfl,a9,h5⟩
 ·have a5:i=ps.length:=by omega
  have c6:Ud ps s=false:=by rw[←Bool.not_eq_true];intro q;exact hq (by rw[a5];exact Zdv hps q)
  refine xmk 25 fun _ _ _ _ zJ zQ zo zx zy zK=>Py ps.length (V0 0) 1 8 ((List.replicate ps.length 0).map nv) zo zx zy Tryz.underlying33 (by kernel_rfl) rfl (by omega) (by omega) (Dk _) fun b9 W9 n9=>?_
  have b0:=bln (bln a0 b6) a9
  have g9:=n9.ge b0
  have c4:=Zb a2 a9
  have d5:=Zz c4 n9
  refine zK _ _ ?_
  have c3:=bln b0 n9.below
  have o9:=Qh (size:=1) (n:=ps.length) n9.blk g9 (by simp) (by unfold maxLen;omega)
  refine xe 6 (.tuple #[.slice (S1 b9) ps.length ps.length,V0 2]) ?_
  have he:Xc ps s=2:=by unfold Xc;rw[if_pos hsl,if_neg (by rw[c6];decide)]
  exact⟨_,rfl,c3,_,_,by rw[he],by rw[Yp,if_neg (by rw[he];decide)];exact o9⟩
 have e1:=(bln a0 b6).size
 have a5:i=ps.length:=by omega
 have a3:=Zh h5 e1
 have e2:Sl (W8) (.slice p5 i c5) i (((Jn s 0 (Kz ps i)).map fun n:Nat=>(n:Int)).map V0):=by have q:=Zi a3;rw[map_nv] at q;exact q
 have a4:=bln (bln a0 b6) a9
 refine xc 15 (args:=#[.slice gl ps.length cl,.slice p5 i c5]) (Sd ps ((Jn s 0 (Kz ps i)).map fun n:Nat=>(n:Int)) gl p5 cl c5 i _ hps a5 (Zce ps s i) (hP.below a4) e2) ?_
 rintro e f1 c7
 rcases c7 with ⟨d2,rfl,a1⟩|⟨d2,rfl,a1⟩
 ·have c6:Ud ps s=false:=by unfold Ud Gk;rw[←a5];exact d2
  refine xmk 9 fun _ _ _ _ zJ zQ zo zx zy zK=>Py ps.length (V0 0) 1 8 ((List.replicate ps.length 0).map nv) zo zx zy Tryz.underlying33 (by kernel_rfl) rfl (by omega) (by omega) (Dk _) fun e4 f2 b4=>?_
  have a7:=bln a4 a1
  have e6:=b4.ge a7
  have c9:=Zb (Zb a2 a9) a1
  have c8:=Zz c9 b4
  have c2:=Zb a3 a1
  have d0:=Zz c2 b4
  refine zK _ _ ?_
  have c1:=bln a7 b4.below
  have e8:=Qh (size:=1) (n:=ps.length) b4.blk e6 (by simp) (by unfold maxLen;omega)
  refine xe 6 (.tuple #[.slice (S1 e4) ps.length ps.length,V0 2]) ?_
  have he:Xc ps s=2:=by unfold Xc;rw[if_pos hsl,if_neg (by rw[c6];decide)]
  exact⟨_,rfl,c1,_,_,by rw[he],by rw[Yp,if_neg (by rw[he];decide)];exact e8⟩
 have c0:Ud ps s=true:=by unfold Ud Gk;rw[←a5];exact d2
 refine xk 4 (show(((⟨(Zc0 ps ((Jn s 0 (Kz ps i)).map fun n:Nat=>(n:Int)) ps.length).toArray⟩:ByteArray).toList==(⟨#[]⟩:ByteArray).toList):Bool)=false from putL_ne hps h0) ?_
 have d1:=bln a4 a1
 have d3:=Zb a3 a1
 refine xe 10 (.tuple #[.slice p5 i c5,V0 0]) ?_
 have he:Xc ps s=0:=by unfold Xc;rw[if_pos hsl,if_pos c0]
 subst a5
 exact⟨_,rfl,d1,_,_,by rw[he],by rw[Yp,if_pos he];exact d3⟩
theorem Nm(ps:List Ht)(s:Bl)(gl:O0)(cl:Nat)(w:World)(hps:Kv ps)(h0:0<ps.length)(hs:s.length≤100000)(hP:Sts Zah w (.slice gl ps.length cl) ps) :
 C0 202 #[.slice gl ps.length cl,.string ⟨s.toArray⟩] w (Jl (fun w' r=>∃ p c,r=.tuple #[.slice p ps.length c,V0 (Xc ps s)]∧w'.ownsRow w.heap.size 3 1 (.slice p ps.length c) ps.length ((Yp ps s).map nv)) w):=by
 by_cases h:s.length=(Kz ps ps.length).sum
 ·exact Lg ps s gl cl w hps h0 hs hP h
 ·exact Mm ps s gl cl w hps h0 hs hP h
def Vy:List Ht:=[(8,0,1099511627775)]
theorem mapP_ok:Kv Vy:=by
 refine⟨by decide,fun i hi=>?_⟩
 have a0:i<1:=hi
 obtain rfl:i=0:=by omega
 simp[Vy,List.getD]
def Vd:List Ht:=[(8,0,16384),(8,0,2147483647),(4,0,16777215),(4,0,16777215)]
theorem detP_ok:Kv Vd:=by
 refine⟨by decide,fun i hi=>?_⟩
 have a0:i<4:=hi
 obtain rfl|rfl|rfl|rfl:i=0∨i=1∨i=2∨i=3:=by omega
 all_goals simp[Vd,List.getD]
abbrev Mp:=Int×Int×Int
def Kh(m:Mp):List Value:=[V0 m.1,V0 m.2.1,V0 m.2.2]
theorem Ph(m:Mp):(Kh m).length=3:=rfl
abbrev Dv:=(Int×Int×Int×Int)×List Mp
def Pn(L:List Dv):Nat:=(L.map fun d=>d.2.length).sum
def mapN(v:Bl):Nat:=(Yp Vy v).getD 0 0
def Ug(v:Bl):Nat:=mapN v/16777216
def Lc(v:Bl):Nat:=mapN v%16777216
theorem mapN_bd(v:Bl):mapN v≤1099511627775:=by
 unfold mapN Yp
 by_cases h:Xc Vy v=0
 ·rw[if_pos h]
  unfold Xc at h
  split at h
  ·split at h
   ·rename_i h1 h2
    unfold Ud Uw at h2
    rw[List.all_eq_true] at h2
    have h3:=of_decide_eq_true (h2 0 (List.mem_range.2 (by decide)))
    rw[show((Gk Vy v).map fun n:Nat=>(n:Int)).getD 0 0=(((Gk Vy v).getD 0 0:Nat):Int) by simp[List.getD,show 0<(Gk Vy v).length by rw[Ma];decide]] at h3
    have h4:(((Gk Vy v).getD 0 0:Nat):Int)≤1099511627775:=h3.2
    omega
   ·simp at h
  ·simp at h
 ·rw[if_neg h];decide
def Qn(data:Int)(v:Bl):Int:=if Xc Vy v≠0 then Xc Vy v else if data≤(Ug v:Int) then 2 else 0
def Xh(v:Bl)(i:Nat):Nat:=(Yp Vd v).getD i 0
def mpD:Mp:=(0,0,0)
end Go.Proofs.YtegcamkgeacjfaaGreatDoor
namespace Go.Proofs.YtegcamkgeacjfaaGreatDoor
set_option maxHeartbeats 8000000
set_option maxRecDepth 100000
open Go.RowKit
theorem Blk.ty{w:World}{b:Nat}{cs cs':List Value}{t t':TypeId}(k:Blk w b cs t)(q:Blk w b cs' t'):t=t':=by
 have h1:w.heap[b]? = some (.cells cs.toArray t (0,0)):=k
 have h2:w.heap[b]? = some (.cells cs'.toArray t' (0,0)):=q
 rw[h1] at h2
 simp only[Option.some.injEq,Obj.cells.injEq] at h2
 exact h2.2.1
theorem Yu.upd{w W:World}{b:Nat}{cs:List Value}{t:TypeId}{l:List (Option Int)}{c:Option Int}{v:Value}(h:Yu w l c v)(u:Upd w b W)(k:Blk w b cs t)(hne:t≠188):Yu W l c v :=
 h.kept fun _ _ q=>u.blk q (by rintro rfl;exact hne (k.ty q))
theorem Yu.grown{w W:World}{e:TypeId}{base size n:Nat}{s:Value}{xs:List Value}{l:List (Option Int)}{c:Option Int}{v:Value}(h:Yu w l c v)(hg:w.grownBy W s.ownBlock)(hown:w.ownsRow base e size s n xs)(hne:e≠188):Yu W l c v :=
 h.kept fun _ _ q=>q.grown hg hown hne
theorem Yu.only{T:List TypeId}{w W:World}{l:List (Option Int)}{c:Option Int}{v:Value}(h:Yu w l c v)(k:Ze T w W)(hne:T.contains 188=false):Yu W l c v:=h.kept fun _ _ q=>q.only k hne
end Go.Proofs.YtegcamkgeacjfaaGreatDoor
namespace Go.Proofs.YtegcamkgeacjfaaGreatDoor
set_option maxHeartbeats 8000000
set_option maxRecDepth 100000
open Go.RowKit Go.Extern.Stop Go.Stop Go.Extern
set_option linter.unusedVariables false
attribute [local irreducible] wpList wpAnyH Code.wp Oper.wp Go
structure ImgR(B b:Nat)(p:Option Addr)(n c:Nat)(l:List UInt8)(w:World):Prop where
 blk:Blk w b [.slice p n c] 95
 row:w.ownsRow B 5 1 (.slice p n c) n (l.map bv)
 hn:n≤3686400
theorem ImgR.below{B b:Nat}{p:O0}{n c:Nat}{l:Bl}{w W:World}(h:ImgR B b p n c l w)(hb:B0 w W):ImgR B b p n c l W:=⟨h.blk.below hb,Zb h.row hb,h.hn⟩
theorem ImgR.only{B b:Nat}{p:O0}{n c:Nat}{l:Bl}{w W:World}{T:List TypeId}(h:ImgR B b p n c l w)(hO:Ze T w W)(hT:T.contains 95=false∧T.contains 5=false):ImgR B b p n c l W:=⟨h.blk.only hO hT.1,Zf h.row hO hT.2,h.hn⟩
theorem ImgR.len{B b:Nat}{p:O0}{n c:Nat}{l:Bl}{w:World}(h:ImgR B b p n c l w):l.length=n:=by have:=h.row.1;simpa using this
theorem ImgR.base{B b:Nat}{p:O0}{n c:Nat}{l:Bl}{w:World}(h:ImgR B b p n c l w)(hn:0<n):∃ g,p=some ⟨g,0,none⟩∧n≤c:=by
 rcases h.row.2 with ⟨_,h0⟩|⟨g,a1,a0,hv,_,_,hc,_⟩
 ·omega
 ·simp only[Value.slice.injEq] at hv
  obtain⟨rfl,_,rfl⟩:=hv
  exact⟨g,rfl,hc⟩
def Cq(l:Bl)(j:Nat):Bl:=(l.drop (j*256)).take 256
theorem Dx{l:Bl}{j:Nat}(h:j<l.length/256):(Cq l j).length=256:=by simp[Cq];omega
theorem Bys.mid{w:World}{g off n c:Nat}{l:Bl}(h:Bys w (.slice (some ⟨g,off,none⟩) n c) l)(hl:l.length=n)(k m:Nat)(hm:0<m)(hk:k+m≤n):Bys w (.slice (some ⟨g,off+k,none⟩) m m) ((l.drop k).take m):=by
 have a0:((l.drop k).take m).length=m:=by simp;omega
 rcases h with ⟨a',c',h1,h2,h3⟩|⟨g',a1,a2,h1,h2,h3,h4⟩
 ·omega
 ·simp only[Value.slice.injEq,Option.some.injEq,Addr.mk.injEq] at h1
  obtain⟨⟨rfl,rfl,_⟩,_,rfl⟩:=h1
  refine .inr ⟨g,off+k,m,by rw[a0],by omega,by omega,fun j x hj=>?_⟩
  rw[List.getElem?_map,List.getElem?_take] at hj
  split at hj
  ·rw[List.getElem?_drop] at hj
   have:=h4 (k+j) x (by rw[List.getElem?_map];exact hj)
   rwa [←Nat.add_assoc] at this
  ·cases hj
theorem ImgR.part{B b g:Nat}{n c:Nat}{l:Bl}{w:World}(h:ImgR B b (S1 g) n c l w){j:Nat}(hj:j<n/256):Bys w (.slice (some ⟨g,j*256,none⟩) 256 256) (Cq l j):=by
 have:=Bys.mid (Fk (Zi h.row) h.len) h.len (j*256) 256 (by decide) (by omega)
 rwa [Nat.zero_add] at this
def ReadP(n:Nat)(l:Bl)(k:Int)(w:World)(e:Ending)(w':World):Prop :=
 (¬ (0≤k∧k<(n/256:Nat))∧∃ v,e=.returned (.tuple #[v,V0 3])∧B0 w w') ∨
 (∃ j:Nat,k=(j:Int)∧j<n/256∧∃ p c,e=.returned (.tuple #[.slice p 256 c,V0 0])∧B0 w w'∧w'.ownsRow w.heap.size 5 1 (.slice p 256 c) 256 ((Cq l j).map bv))
theorem Mx(b:Nat)(p:O0)(n c:Nat)(k:Int)(w:World)(hk:Blk w b [.slice p n c] 95)(hn:n≤100000000)(ho:¬ (0≤k∧k<(n/256:Nat))) :
 C0 65 #[P0 b,V0 k] w (Ret (.tuple #[S0,V0 3]) w):=by
 refine zin 33 Tryz.func65 ?_
 refine xg 21 [13,14] (decide (k<(0:Int))) (fun a0=>?_) (fun a0=>?_)
 ·have a0:=of_decide_eq_true a0
  exact xe 18 (.tuple #[S0,V0 3]) ⟨rfl,(B3 w)⟩
 have a0:=of_decide_eq_false a0
 refine xr 2 (args:=#[P0 b]) (Ws b _ n c _ (hk.below (B3 w)) hn) fun W2 a1=>?_
 refine xk 5 (show(decide (k≥(↑(n/256):Int)):Bool)=true from decide_eq_true (by omega)) ?_
 exact xe 9 (.tuple #[S0,V0 3]) ⟨rfl,a1⟩
theorem Ll(B b:Nat)(p:O0)(n c:Nat)(l:Bl)(k:Int)(w:World)(hI:ImgR B b p n c l w)(ho:¬ (0≤k∧k<(n/256:Nat))) :
 C0 26 #[P0 b,V0 k] w (Jl (fun _ r=>∃ v,r=.tuple #[v,V0 3]) w):=by
 refine zin 17 Tryz.func26 ?_
 refine xr 10 (args:=#[P0 b,V0 k]) (Mx b p n c k _ (hI.below (B3 w)).blk (by have:=hI.hn;omega) ho) fun W1 a0=>?_
 refine xc 10 (args:=#[S0]) (Ej 0 _) ?_
 rintro _ W2 ⟨v2,rfl,a1,_⟩
 have hB:=bln a0 a1
 exact xe 6 (.tuple #[v2,V0 3]) ⟨_,rfl,hB,_,rfl⟩
theorem Du(B b g:Nat)(n c:Nat)(l:Bl)(j:Nat)(w:World)(hI:ImgR B b (S1 g) n c l w)(hj:j<n/256)(hc:n≤c) :
 C0 26 #[P0 b,V0 (j:Int)] w (Jl (fun w' r=>∃ p2 c3,r=.tuple #[.slice p2 256 c3,V0 0]∧w'.ownsRow w.heap.size 5 1 (.slice p2 256 c3) 256 ((Cq l j).map bv)) w):=by
 have a3:=Dx (l:=l) (j:=j) (by rw[hI.len];exact hj)
 refine zin 17 Tryz.func26 ?_
 refine xr 10 (args:=#[P0 b,V0 (j:Int)]) (Ru b g n c j _ (hI.below (B3 w)).blk (by have:=hI.hn;omega) hc hj) fun W1 a2=>?_
 refine xc 10 (args:=#[.slice (some ⟨g,(j*256),none⟩) 256 256]) (Qy (some ⟨g,(j*256),none⟩) 256 256 (Cq l j) _ a3 ((hI.below a2).part hj) (by decide)) ?_
 rintro _ W2 ⟨_,rfl,a4,ho⟩
 have a0:=Zh ho a2.size
 unfold Se at a0
 rw[a3] at a0
 obtain⟨p2,c3,rfl⟩:=(Zi a0).slice
 have a1:=bln a2 a4
 exact xe 6 (.tuple #[.slice p2 256 c3,V0 0]) ⟨_,rfl,a1,_,_,rfl,a0⟩
theorem Iz(B b:Nat)(p:O0)(n c:Nat)(l:Bl)(k:Int)(w:World)(hI:ImgR B b p n c l w) :
 C0 26 #[P0 b,V0 k] w (ReadP n l k w):=by
 by_cases h:0≤k∧k<(n/256:Nat)
 ·obtain⟨g,rfl,hc⟩:=hI.base (by omega)
  obtain⟨j,rfl⟩:∃ j:Nat,k=j:=⟨k.toNat,by omega⟩
  refine(Du B b g n c l j w hI (by omega) hc).mono ?_
  rintro e W ⟨_,rfl,hb,p2,c3,rfl,ho⟩
  exact .inr ⟨j,rfl,by omega,_,_,rfl,hb,ho⟩
 ·refine(Ll B b p n c l k w hI h).mono ?_
  rintro e W ⟨_,rfl,hb,v,rfl⟩
  exact .inl ⟨h,_,rfl,hb⟩
def inE (l:Bl)(kind no:Int):Int:=if 0≤no∧no<(l.length/256:Nat) then Qw kind no (Cq l no.toNat) else 3
def inB (l:Bl)(no:Int):Bl:=((Cq l no.toNat).drop 8).take 244
theorem Zem{l:Bl}{kind no:Int}{n:Nat}(hl:l.length=n)(h:¬ (0≤no∧no<(n/256:Nat))):inE l kind no=3:=by subst hl;exact if_neg h
theorem inE_in{l:Bl}{kind no:Int}{n j:Nat}(hl:l.length=n)(hk:no=(j:Int))(h:j<n/256):inE l kind no=Qw kind no (Cq l j):=by
 subst hl hk;rw[inE,if_pos ⟨by omega,by omega⟩];rfl
theorem inB_in{l:Bl}{no:Int}{j:Nat}(hk:no=(j:Int)):inB l no=((Cq l j).drop 8).take 244:=by subst hk;rfl
theorem inB_len{l:Bl}{no:Int}{n j:Nat}(hl:l.length=n)(hk:no=(j:Int))(h:j<n/256):(inB l no).length=244:=by
 subst hl hk;have:=Dx h;simp[inB,this]
theorem BysM.elem{w:World}{a:O0}{n c:Nat}{l:Bl}(h:Bys w (.slice a n c) l)(hl:l.length=n){k:Nat}(hk:k<n):a.isSome=true∧w.cell? (Xa a (k*1))=some (.int .u8 (↑(l.getD k 0).toNat:Int)):=by
 subst hl;exact Bys.elem h hk
end Go.Proofs.YtegcamkgeacjfaaGreatDoor
namespace Go.Proofs.YtegcamkgeacjfaaGreatDoor
set_option maxHeartbeats 8000000
set_option maxRecDepth 100000
open Go.RowKit
set_option linter.unusedVariables false
def Zdj(lo hi k:Int):Bool:=decide (lo≤k∧k<hi)
def Jg(lo hi:Int):Bool:=decide (0≤lo∧lo≤hi∧hi≤281474976710656)
def Vv(l:List Int):Prop:=∀ k,k<l.length→1≤k→l[k-1]?.getD 0<l[k]?.getD 0
instance (l:List Int):Decidable (Vv l):=by unfold Vv;infer_instance
def Qq(lo hi:Int)(l:List Int):Int :=
 if Jg lo hi then if Vv l then if ∀ k∈l,lo≤k∧k<hi then 0 else 9 else 8 else 1
@[go_sem] def spanV (lo hi:Int):Value:=.agg #[V0 lo,V0 hi]
theorem Vv.lt{l:List Int}(h:Vv l):∀ (j i:Nat),i<j→j<l.length→l[i]?.getD 0<l[j]?.getD 0:=by
 intro j
 induction j with
 | zero=>intro i h1;omega
 | succ j ih =>
  intro i h1 h2
  have h3:=h (j+1) h2 (by omega)
  simp only[Nat.add_sub_cancel] at h3
  by_cases hij:i=j
  ·subst hij;exact h3
  ·exact Int.lt_trans (ih i (by omega) (by omega)) h3
theorem Vv.one(l:List Int):Vv (l.take 1):=by
 intro k h1 h2;simp at h1;omega
theorem Vv.succ{l:List Int}{k:Nat}{x y:Int}(h:Vv (l.take k))(hx:l[k-1]? = some x)(hy:l[k]? = some y)(hxy:x<y):Vv (l.take (k+1)):=by
 intro j h1 h2
 have a0:j<k+1:=by simp at h1;omega
 rw[List.getElem?_take,List.getElem?_take,if_pos (by omega),if_pos a0]
 by_cases hj:j=k
 ·subst hj;rw[hx,hy];exact hxy
 ·have:=h j (by simp at h1 ⊢;omega) h2
  rw[List.getElem?_take,List.getElem?_take,if_pos (by omega),if_pos (by omega)] at this
  exact this
theorem Zaj{lo hi:Int}{l:List Int}(h:Jg lo hi=false):Qq lo hi l=1:=by simp[Qq,h]
theorem Ov{lo hi:Int}{l:List Int}{k:Nat}{x y:Int}(h:Jg lo hi=true)(hk:1≤k)(hx:l[k-1]? = some x)(hy:l[k]? = some y)(hxy:y≤x):Qq lo hi l=8:=by
 have hn:¬ Vv l:=fun hs=>by
  have a0:k<l.length:=by rcases List.getElem?_eq_some_iff.1 hy with ⟨h,_⟩;exact h
  have:=hs k a0 hk
  rw[hx,hy] at this
  simp at this;omega
 simp[Qq,h,hn]
theorem Tk{lo hi:Int}(h:Jg lo hi=true):Qq lo hi []=0:=by
 have hs:Vv []:=fun k h1=>by simp at h1
 simp[Qq,h,hs]
theorem Vv.all{l:List Int}{k:Nat}(h:Vv (l.take k))(hk:l.length≤k):Vv l:=by rwa [List.take_of_length_le hk] at h
theorem Ap{lo hi k:Int}:Zdj lo hi k=true↔lo≤k∧k<hi:=by simp[Zdj]
theorem fits_in{lo hi:Int}{l:List Int}{x y:Int}(h:Jg lo hi=true)(hs:Vv l)(hx:l[0]? = some x)(hy:l[l.length-1]? = some y)(ha:Zdj lo hi x=true)(hb:Zdj lo hi y=true):Qq lo hi l=0:=by
 have a0:∀ k∈l,lo≤k∧k<hi:=by
  intro k hk
  obtain⟨i,a1,rfl⟩:=List.mem_iff_getElem.1 hk
  rw[Ap] at ha hb
  have e:l[i]? = some l[i]:=by simp
  have h1:x≤l[i]:=by
   by_cases h0:i=0
   ·subst h0;rw[hx] at e;injection e with e;omega
   ·have:=hs.lt i 0 (by omega) a1
    rw[hx,e] at this;simp at this;omega
  have h2:l[i]≤y:=by
   by_cases h0:i=l.length-1
   ·subst h0;rw[hy] at e;injection e with e;omega
   ·have:=hs.lt (l.length-1) i (by omega) (by omega)
    rw[hy,e] at this;simp at this;omega
  omega
 simp only[Qq,h,if_true,hs]
 rw[if_pos a0]
theorem Ts{lo hi:Int}{l:List Int}{i:Nat}{x:Int}(h:Jg lo hi=true)(hs:Vv l)(hx:l[i]? = some x)(ha:Zdj lo hi x=false):Qq lo hi l=9:=by
 have hn:¬ ∀ k∈l,lo≤k∧k<hi:=fun a0=>by
  have:=Ap.2 (a0 x (List.mem_of_getElem? hx))
  rw[ha] at this;cases this
 simp only[Qq,h,if_true,hs]
 rw[if_neg hn]
theorem Tq(w:World):C0 201 #[] w (Ret (spanV 0 281474976710656) w):=by
 go_enter Tryz.func201,Tryz.ntmps201
 go_wp2
 exact bodyPost_ret (v:=spanV 0 281474976710656) (by simp[results,Tryz.results201,go_sem,spanV]) rfl ⟨rfl,blx _ _⟩
theorem Cr(lo hi k:Int)(w:World):C0 306 #[spanV lo hi,V0 k] w (Ret (.bool (Zdj lo hi k)) w):=by
 unfold spanV
 go_enter Tryz.func306,Tryz.ntmps306
 go_wp2
 all_goals go_ret
 all_goals refine⟨?_,blx _ _⟩
 all_goals (unfold Zdj;congr 2;simp;omega)
theorem Ul(lo hi:Int)(w:World):C0 305 #[spanV lo hi] w (Ret (.bool (Jg lo hi)) w):=by
 unfold spanV
 go_enter Tryz.func305,Tryz.ntmps305
 go_wp2_with fail
 refine(Tq _).mono ?_
 rintro e w' ⟨rfl,hb⟩
 have hz:w.heap.size<w'.heap.size:=ltB hb (by simp)
 have h0:=Uk hb (p:=⟨w.heap.size,0,none⟩) (v:=V0 lo) (by simp[go_sem])
 have h1:=Uk hb (p:=⟨w.heap.size,1,none⟩) (v:=V0 hi) (by simp[go_sem])
 unfold spanV
 go_wp2_with fail
 all_goals go_ret
 all_goals refine⟨?_,bln (bln (blx w _) hb) (blx _ _)⟩
 all_goals (unfold Jg;congr 2;simp[*];try omega)
theorem Mb(lo hi:Int)(v:Value)(l:List Int)(w:World)(hl:Ints w v l) :
 C0 281 #[spanV lo hi,v] w (Ret (V0 (Qq lo hi l)) w):=by
 by_cases hr:Jg lo hi=true
 case neg =>
  have b1:Jg lo hi=false:=by simpa using hr
  unfold spanV
  rcases hl with ⟨a0,c0,rfl,a8,hl⟩|⟨b,a5,a7,rfl,a4,a2,hc⟩
  all_goals
   go_enter Tryz.func281,Tryz.ntmps281
   go_wp2_with fail
   refine(Ul _ _ _).mono ?_
   rintro e w' ⟨rfl,hb⟩
   go_wp2_with fail
   go_ret
   exact⟨by rw[Zaj b1];rfl,bln (blx w _) hb⟩
 rcases hl with ⟨a0,c0,rfl,a8,hl⟩|⟨b,a5,a7,rfl,a4,a2,hc⟩
 ·obtain rfl:l=[]:=by simpa using hl
  unfold spanV
  go_enter Tryz.func281,Tryz.ntmps281
  go_wp2_with fail
  refine(Ul _ _ _).mono ?_
  rintro e w' ⟨rfl,hb⟩
  go_wp2_with fail
  go_loop [5] (fun i=>i=V0 1) (fun _=>0)
  case atStart=>exact rfl
  case round =>
   obtain rfl:=hrel
   go_wp2_with fail
   refine Vn (by kernel_rfl) (by kernel_rfl) ?_
   repeat (go_big_quiet_step (fail))
   refine wpQuiet_nil ?_
   intro wx
   go_wp2_with fail
   go_ret
   exact⟨by rw[Tk hr];rfl,bln (bln (blx w _) hb) wx.below⟩
 ·unfold maxLen at a2
  unfold spanV
  go_enter Tryz.func281,Tryz.ntmps281
  go_wp2_with fail
  refine(Ul _ _ _).mono ?_
  rintro e w' ⟨rfl,hb⟩
  have hz:w.heap.size<w'.heap.size:=ltB hb (by simp)
  have h0:=Uk hb (p:=⟨w.heap.size,0,none⟩) (v:=V0 lo) (by simp[go_sem])
  have h1:=Uk hb (p:=⟨w.heap.size,1,none⟩) (v:=V0 hi) (by simp[go_sem])
  have hB:=bln (blx w _) hb
  have HC:=Lib.hid (fun j x (hj:l[j]? = some x)=>Uk hb (getA _ (hc j (V0 x) (by simp[hj]))))
  clear hc hb
  go_wp2_with fail
  go_loopw [5] (fun i wr=>∃ k:Nat,1≤k∧i=V0 k∧Vv (l.take k)∧Below w'.heap.size w' wr) (fun i _=>l.length-(intOf i).toNat)
  case atStart=>exact⟨1,by omega,rfl,Vv.one l,Below.refl _ _⟩
  case round =>
   obtain⟨k,a9,rfl,hs,a1⟩:=hrel
   have HS:=Lib.hid hs;clear hs
   by_cases hlt:k<l.length
   ·obtain⟨x,hx⟩:∃ x,l[k-1]? = some x:=⟨l[k-1],by simp⟩
    obtain⟨y,hy⟩:∃ y,l[k]? = some y:=⟨l[k],by simp⟩
    have b3:=Uk a1 (HC.out _ _ hx)
    have b2:=Uk a1 (HC.out _ _ hy)
    have HX:=Lib.hid hx;clear hx
    have HY:=Lib.hid hy;clear hy
    go_wp2_with fail
    go_quiet (fail)
    go_wp2_with fail
    ·go_ret
     exact⟨by rw[Ov hr a9 HX.out HY.out (by assumption)];rfl,bln hB (blD a1 _)⟩
    ·go_roundw
     case rel=>exact⟨k+1,by omega,by go_num,HS.out.succ HX.out HY.out (by assumption),blD a1 _⟩
     case measure=>simp[intOf];omega
   ·have a6:l.length≤k:=by omega
    by_cases h0l:l.length=0
    ·obtain rfl:l=[]:=List.length_eq_zero_iff.mp h0l
     clear h0l
     go_wp2_with fail
     go_quiet (fail)
     go_wp2_with fail
     go_ret
     exact⟨by rw[Tk hr];rfl,bln hB (blD a1 _)⟩
    ·obtain⟨x,hx⟩:∃ x,l[0]? = some x:=⟨l[0],by simp⟩
     obtain⟨y,hy⟩:∃ y,l[l.length-1]? = some y:=⟨l[l.length-1],by simp⟩
     have b0:0<l.length:=by omega
     have e0:∀ z:Ext wr,z.val.cell? ⟨w.heap.size,0,none⟩=some (V0 lo):=fun z=>z.get (Uk a1 h0)
     have e1:∀ z:Ext wr,z.val.cell? ⟨w.heap.size,1,none⟩=some (V0 hi):=fun z=>z.get (Uk a1 h1)
     have e2:∀ z:Ext wr,z.val.cell? ⟨b,a5,none⟩=some (V0 x):=fun z=>z.get (Uk a1 (HC.out 0 _ hx))
     have e3:∀ z:Ext wr,z.val.cell? ⟨b,a5+(l.length-1),none⟩=some (V0 y):=fun z=>z.get (Uk a1 (HC.out _ _ hy))
     have HX:=Lib.hid hx;clear hx
     have HY:=Lib.hid hy;clear hy
     by_cases ha:Zdj lo hi x=true
     ·by_cases a3:Zdj lo hi y=true
      ·go_wp2_with fail
       refine Vn (by kernel_rfl) (by kernel_rfl) ?_
       repeat (go_big_quiet_step (exact Ret.ext (Cr _ _ _ _)))
       refine wpQuiet_nil ?_
       intro wx
       go_wp2_with fail
       go_ret
       exact⟨by rw[fits_in hr (HS.out.all a6) HX.out HY.out ha a3];rfl,bln (bln hB a1) wx.below⟩
      ·have a3:Zdj lo hi y=false:=by simpa using a3
       go_wp2_with fail
       refine Vn (by kernel_rfl) (by kernel_rfl) ?_
       repeat (go_big_quiet_step (exact Ret.ext (Cr _ _ _ _)))
       refine wpQuiet_nil ?_
       intro wx
       go_wp2_with fail
       go_ret
       exact⟨by rw[Ts hr (HS.out.all a6) HY.out a3];rfl,bln (bln hB a1) wx.below⟩
     ·have ha:Zdj lo hi x=false:=by simpa using ha
      go_wp2_with fail
      refine Vn (by kernel_rfl) (by kernel_rfl) ?_
      repeat (go_big_quiet_step (exact Ret.ext (Cr _ _ _ _)))
      refine wpQuiet_nil ?_
      intro wx
      go_wp2_with fail
      go_ret
      exact⟨by rw[Ts hr (HS.out.all a6) HX.out ha];rfl,bln (bln hB a1) wx.below⟩
end Go.Proofs.YtegcamkgeacjfaaGreatDoor
namespace Go.Proofs.YtegcamkgeacjfaaGreatDoor
set_option maxHeartbeats 8000000
set_option maxRecDepth 100000
open Go.RowKit
set_option linter.unusedVariables false
attribute [local go_sem] Oper.semAt_some
def Xr(hi:Int)(l:List Int)(i:Nat):Int×Int:=(l[i]?.getD 0,l[i+1]?.getD hi)
def qOf {n:Nat}(j:Fin n):Nat:=n-1-j.val
def encE(hi:Int)(l:List Int)(j:Fin l.length):Array Value:=#[V0 (qOf j:Int),spanV (Xr hi l (qOf j)).1 (Xr hi l (qOf j)).2]
theorem Vl{n k:Nat}(h:k<n):(List.finRange n).take (k+1)=(List.finRange n).take k++[⟨k,h⟩]:=by
 rw[List.take_succ_eq_append_getElem (by simpa using h)];simp
theorem Wp(n:Nat):(List.finRange n).take n=List.finRange n:=List.take_of_length_le (by simp)
theorem Jo{n k:Nat}(h:k≤n):((List.finRange n).take k).length=k:=by simp[h]
theorem each1_in(l Bs Bk:Nat)(p:Nat→Prop)(hi:Int)(b off cap:Nat)(zs:List Int)(hlen:zs.length≤9223372036854775807)(hb':zs.length=0∨p b)(hBk:p Bk)(J Jx:List (Fin zs.length)→World→Prop)
  (hY:∀ pre x W,J pre W→pre.length<zs.length→YieldAt Fence.wide 2 Tryz.prog l (encE hi zs x) W fun e W' =>
   (e=.returned (.bool true)∧J (pre++[x]) W'∧Keeps p W W')∨(e=.returned (.bool false)∧Jx (pre++[x]) W'))
  (W:World) (hc1:W.cell? ⟨Bs,1,none⟩=some (V0 hi)) (hck:W.cell? ⟨Bk,0,none⟩=some (.slice (some ⟨b,off,none⟩) zs.length cap))
  (hc:∀ j x,zs[j]? = some x→W.cell? ⟨b,off+j,none⟩=some (V0 x)) (h0:J [] W) :
  CallsIn Fence.wide 3 Tryz.prog 307 #[.func (.yield l) #[] #[],P0 Bs,P0 Bk] W fun e W'=>(∃ v,e=.returned v) ∧
   ((∃ ys,ys=List.finRange zs.length∧J ys W')∨(∃ pre,(∃ k,k≤zs.length∧pre=(List.finRange zs.length).take k)∧Jx pre W')):=by
 refine callsIn_of_wp Tryz.func307 rfl trivial ?_ rfl
 simp only[Tryz.ntmps307,List.size_toArray,List.length_cons,List.length_nil,Nat.reduceAdd,Nat.reduceSub,Array.replicate_succ,Array.replicate_zero,List.push_toArray,List.append_toArray,List.nil_append,List.cons_append]
 gi_wp2
 gi_loopw [4,5] (fun h i wr=>∃ k:Nat,k≤zs.length∧i=V0 ((zs.length:Int)-1-k)∧h=V0 (zs[zs.length-k]?.getD hi)∧J ((List.finRange zs.length).take k) wr∧Keeps p W wr)
  (fun _ i _=>((intOf i)+1).toNat)
 case atStart=>exact⟨0,Nat.zero_le _,by simp,by simp,h0,Keeps.refl _ _⟩
 case round =>
  obtain⟨k,hk,rfl,rfl,a1,a3⟩:=hrel
  generalize hhv:zs[zs.length-k]?.getD hi=hv
  by_cases hlt:k<zs.length
  ·have hb:p b:=hb'.resolve_left (by omega)
   obtain⟨x,hx⟩:∃ x,zs[zs.length-1-k]? = some x:=⟨zs[zs.length-1-k],by simp⟩
   have a5:=(a3.cell (a:=⟨Bk,0,none⟩) hBk).trans hck
   have a8:=(a3.cell (a:=⟨b,off+(zs.length-1-k),none⟩) hb).trans (hc _ _ hx)
   obtain⟨q,hq⟩:∃ q:Nat,q=zs.length-1-k:=⟨_,rfl⟩
   have a4:((zs.length:Int)-1-k)=(q:Int):=by omega
   have b4:q<zs.length:=by omega
   obtain⟨fn,b1,a7,b3,hy,hR⟩:=hY _ ⟨k,hlt⟩ wr a1 (by rw[Jo hk];exact hlt)
   have hE:encE hi zs ⟨k,hlt⟩=#[V0 (q:Int),.agg #[V0 x,V0 hv]]:=by
    have e0:zs[q]? = some x:=by rw[hq];exact hx
    have e1:q+1=zs.length-k:=by omega
    have e2:qOf (⟨k,hlt⟩:Fin zs.length)=q:=hq.symm
    simp only[encE,Xr,spanV,e2,e0,e1,hhv,Option.getD_some]
   rw[hE] at hy
   rw[←hq] at a8
   rw[a4]
   have HQ:=Lib.hid hq;clear hq
   have HI:=Lib.hid a4;clear a4
   have HX:=Lib.hid hx;clear hx
   have HV:=Lib.hid hhv;clear hhv
   have HE:=Lib.hid hE;clear hE
   gi_wp2
   refine hR.mono ?_
   rintro e W3 (⟨rfl,a9,a2⟩|⟨rfl,a6⟩)
   ·have b0:=(a2.cell (a:=⟨Bk,0,none⟩) hBk).trans a5
    have b2:=(a2.cell (a:=⟨b,off+q,none⟩) hb).trans a8
    gi_wp2
    go_roundw
    case rel =>
     refine⟨k+1,by omega,?_,?_,by rw[Vl hlt];exact a9,a3.trans a2⟩
     ·exact congrArg V0 (by have:=HI.out;omega)
     ·have h1:zs.length-(k+1)=q:=by have:=HQ.out;omega
      have:=HX.out
      rw[←HQ.out] at this
      rw[h1,this];rfl
    case measure=>simp[intOf]
   ·gi_wp2
    refine bodyPost_ret (results_none rfl _ _ _) rfl ?_
    exact⟨⟨_,rfl⟩,.inr ⟨_,⟨k+1,by omega,by rw[Vl hlt]⟩,a6⟩⟩
  ·obtain rfl:k=zs.length:=by omega
   have a0:((zs.length:Int)-1-zs.length) = -1:=by omega
   rw[a0]
   clear a0 hhv
   rw[Wp] at a1
   have HJ:=Lib.hid a1;clear a1
   gi_wp2
   go_end0
   exact⟨⟨_,rfl⟩,.inl ⟨_,rfl,HJ.out⟩⟩
theorem Re{α:Type}(l Bs Bk:Nat)(hi:Int)(J:List α→World→Prop)(W:World)(hc1:W.cell? ⟨Bs,1,none⟩=some (V0 hi)){a0:O0}{c0:Nat}(hck:W.cell? ⟨Bk,0,none⟩=some (.slice a0 0 c0))(h0:J [] W) :
 CallsIn Fence.wide 3 Tryz.prog 307 #[.func (.yield l) #[] #[],P0 Bs,P0 Bk] W fun e W'=>(∃ v,e=.returned v)∧J [] W':=by
 refine callsIn_of_wp Tryz.func307 rfl trivial ?_ rfl
 simp only[Tryz.ntmps307,List.size_toArray,List.length_cons,List.length_nil,Nat.reduceAdd,Nat.reduceSub,Array.replicate_succ,Array.replicate_zero,List.push_toArray,List.append_toArray,List.nil_append,List.cons_append]
 gi_wp2
 gi_loopw [4,5] (fun _ i wr=>i=V0 (-1)∧J [] wr) (fun _ _ _=>0)
 case atStart=>exact⟨rfl,h0⟩
 case round =>
  obtain⟨rfl,a1⟩:=hrel
  gi_wp2
  go_end0
  exact⟨⟨_,rfl⟩,a1⟩
theorem Za0(Bs Bk:Nat)(p:Nat→Prop)(hi:Int)(v:Value)(zs:List Int)(w:World)(hp:∀ b,p b→b<w.heap.size)(hk:p Bk)(hs:p Bs)(hlen:zs.length≤9223372036854775807)(hv:Ints w v zs)
  (hvp:zs.length≠0→∀ b off n cap,v=.slice (some ⟨b,off,none⟩) n cap→p b)
  (hc1:w.cell? ⟨Bs,1,none⟩=some (V0 hi)) (hck:w.cell? ⟨Bk,0,none⟩=some v) :
  SeqStopsK Fence.wide 3 Tryz.prog 307 #[P0 Bs,P0 Bk] (encE hi zs) (Keeps p)
   (fun ys=>ys=List.finRange zs.length) (fun pre=>∃ k,k≤zs.length∧pre=(List.finRange zs.length).take k) zs.length w:=fun l J Jx W hW _ _ hY h0=>by
 have a1:=Uk hW hc1
 have a2:=Uk hW hck
 rcases hv with ⟨a0,c0,rfl,h1,h2⟩|⟨b,off,cap,rfl,a3,a5,a4⟩
 ·obtain rfl:zs=[]:=by simpa using h2
  exact(Re l Bs Bk hi J W a1 a2 h0).mono fun e W' ⟨he,hj⟩=>⟨he,.inl ⟨_,rfl,hj⟩⟩
 ·refine each1_in l Bs Bk p hi b off cap zs hlen ?_ hk J Jx hY W a1 a2 (fun j x hj=>Uk hW (a4 j _ (by simp[hj]))) h0
  by_cases h:zs.length=0
  ·exact .inl h
  ·exact .inr (hvp h _ _ _ _ rfl)
theorem Zdx(lo hi:Int)(a:O0)(n c:Nat)(w:World):C0 282 #[spanV lo hi,.slice a n c] w fun e w' =>
 e=.returned (.func (.func 307) #[] #[.pointer (some ⟨w.heap.size,0,none⟩),.pointer (some ⟨w.heap.size+1,0,none⟩)]) ∧
 w'=(w.alloc (.cells #[V0 lo,V0 hi] 214)).alloc (.cells #[.slice a n c] 33):=by
 unfold spanV
 go_enter Tryz.func282,Tryz.ntmps282
 go_wp2
 go_ret
 exact⟨rfl,rfl⟩
def encB(l:List Int)(j:Fin l.length):Array Value:=#[V0 (qOf j:Int),V0 (l[qOf j]?.getD 0)]
theorem back1_in(l Bk:Nat)(p:Nat→Prop)(b off cap:Nat)(zs:List Int)(hlen:zs.length≤9223372036854775807)(hb':zs.length=0∨p b)(hBk:p Bk)(J Jx:List (Fin zs.length)→World→Prop)
  (hY:∀ pre x W,J pre W→pre.length<zs.length→YieldAt Fence.wide 2 Tryz.prog l (encB zs x) W fun e W' =>
   (e=.returned (.bool true)∧J (pre++[x]) W'∧Keeps p W W')∨(e=.returned (.bool false)∧Jx (pre++[x]) W'))
  (W:World) (hck:W.cell? ⟨Bk,0,none⟩=some (.slice (some ⟨b,off,none⟩) zs.length cap))
  (hc:∀ j x,zs[j]? = some x→W.cell? ⟨b,off+j,none⟩=some (V0 x)) (h0:J [] W) :
  CallsIn Fence.wide 3 Tryz.prog 300 #[.func (.yield l) #[] #[],P0 Bk] W fun e W'=>(∃ v,e=.returned v) ∧
   ((∃ ys,ys=List.finRange zs.length∧J ys W')∨(∃ pre,(∃ k,k≤zs.length∧pre=(List.finRange zs.length).take k)∧Jx pre W')):=by
 refine callsIn_of_wp Tryz.func300 rfl trivial ?_ rfl
 simp only[Tryz.ntmps300,List.size_toArray,List.length_cons,List.length_nil,Nat.reduceAdd,Nat.reduceSub,Array.replicate_succ,Array.replicate_zero,List.push_toArray,List.append_toArray,List.nil_append,List.cons_append]
 gi_wp2
 gi_loopw [3] (fun i wr=>∃ k:Nat,k≤zs.length∧i=V0 ((zs.length:Int)-1-k)∧J ((List.finRange zs.length).take k) wr∧Keeps p W wr)
  (fun i _=>((intOf i)+1).toNat)
 case atStart=>exact⟨0,Nat.zero_le _,by simp,h0,Keeps.refl _ _⟩
 case round =>
  obtain⟨k,hk,rfl,a1,a2⟩:=hrel
  by_cases hlt:k<zs.length
  ·have hb:p b:=hb'.resolve_left (by omega)
   obtain⟨x,hx⟩:∃ x,zs[zs.length-1-k]? = some x:=⟨zs[zs.length-1-k],by simp⟩
   have a9:=(a2.cell (a:=⟨Bk,0,none⟩) hBk).trans hck
   have b0:=(a2.cell (a:=⟨b,off+(zs.length-1-k),none⟩) hb).trans (hc _ _ hx)
   obtain⟨q,hq⟩:∃ q:Nat,q=zs.length-1-k:=⟨_,rfl⟩
   have a3:((zs.length:Int)-1-k)=(q:Int):=by omega
   have b2:q<zs.length:=by omega
   obtain⟨fn,a7,a5,b1,hy,hR⟩:=hY _ ⟨k,hlt⟩ wr a1 (by rw[Jo hk];exact hlt)
   have hE:encB zs ⟨k,hlt⟩=#[V0 (q:Int),V0 x]:=by
    have e0:zs[q]? = some x:=by rw[hq];exact hx
    have e2:qOf (⟨k,hlt⟩:Fin zs.length)=q:=hq.symm
    simp only[encB,e2,e0,Option.getD_some]
   rw[hE] at hy
   rw[←hq] at b0
   rw[a3]
   have HQ:=Lib.hid hq;clear hq
   have HI:=Lib.hid a3;clear a3
   have HX:=Lib.hid hx;clear hx
   have HE:=Lib.hid hE;clear hE
   gi_wp2
   refine hR.mono ?_
   rintro e W3 (⟨rfl,a6,a8⟩|⟨rfl,a4⟩)
   ·gi_wp2
    go_roundw
    case rel =>
     refine⟨k+1,by omega,?_,by rw[Vl hlt];exact a6,a2.trans a8⟩
     exact congrArg V0 (by have:=HI.out;omega)
    case measure=>simp[intOf]
   ·gi_wp2
    refine bodyPost_ret (results_none rfl _ _ _) rfl ?_
    exact⟨⟨_,rfl⟩,.inr ⟨_,⟨k+1,by omega,by rw[Vl hlt]⟩,a4⟩⟩
  ·obtain rfl:k=zs.length:=by omega
   have a0:((zs.length:Int)-1-zs.length) = -1:=by omega
   rw[a0]
   clear a0
   rw[Wp] at a1
   have HJ:=Lib.hid a1;clear a1
   gi_wp2
   go_end0
   exact⟨⟨_,rfl⟩,.inl ⟨_,rfl,HJ.out⟩⟩
theorem Ee{α:Type}(l Bk:Nat)(J:List α→World→Prop)(W:World){a0:O0}{c0:Nat}(hck:W.cell? ⟨Bk,0,none⟩=some (.slice a0 0 c0))(h0:J [] W) :
 CallsIn Fence.wide 3 Tryz.prog 300 #[.func (.yield l) #[] #[],P0 Bk] W fun e W'=>(∃ v,e=.returned v)∧J [] W':=by
 refine callsIn_of_wp Tryz.func300 rfl trivial ?_ rfl
 simp only[Tryz.ntmps300,List.size_toArray,List.length_cons,List.length_nil,Nat.reduceAdd,Nat.reduceSub,Array.replicate_succ,Array.replicate_zero,List.push_toArray,List.append_toArray,List.nil_append,List.cons_append]
 gi_wp2
 gi_loopw [3] (fun i wr=>i=V0 (-1)∧J [] wr) (fun _ _=>0)
 case atStart=>exact⟨rfl,h0⟩
 case round =>
  obtain⟨rfl,a1⟩:=hrel
  gi_wp2
  go_end0
  exact⟨⟨_,rfl⟩,a1⟩
theorem Zai(Bk:Nat)(p:Nat→Prop)(v:Value)(zs:List Int)(w:World)(hp:∀ b,p b→b<w.heap.size)(hk:p Bk)(hlen:zs.length≤9223372036854775807)(hv:Ints w v zs)
  (hvp:zs.length≠0→∀ b off n cap,v=.slice (some ⟨b,off,none⟩) n cap→p b) (hck:w.cell? ⟨Bk,0,none⟩=some v) :
  SeqStopsK Fence.wide 3 Tryz.prog 300 #[P0 Bk] (encB zs) (Keeps p)
   (fun ys=>ys=List.finRange zs.length) (fun pre=>∃ k,k≤zs.length∧pre=(List.finRange zs.length).take k) zs.length w:=fun l J Jx W hW _ _ hY h0=>by
 have a1:=Uk hW hck
 rcases hv with ⟨a0,c0,rfl,h1,h2⟩|⟨b,off,cap,rfl,a2,a4,a3⟩
 ·obtain rfl:zs=[]:=by simpa using h2
  exact(Ee l Bk J W a1 h0).mono fun e W' ⟨he,hj⟩=>⟨he,.inl ⟨_,rfl,hj⟩⟩
 ·refine back1_in l Bk p b off cap zs hlen ?_ hk J Jx hY W a1 (fun j x hj=>Uk hW (a3 j _ (by simp[hj]))) h0
  by_cases h:zs.length=0
  ·exact .inl h
  ·exact .inr (hvp h _ _ _ _ rfl)
end Go.Proofs.YtegcamkgeacjfaaGreatDoor
namespace Go.Proofs.YtegcamkgeacjfaaGreatDoor
set_option maxHeartbeats 8000000
set_option maxRecDepth 100000
open Go.RowKit Go.Extern.Stop Go.Stop Go.Extern
set_option linter.unusedVariables false
attribute [local irreducible] wpList wpAnyH Code.wp Oper.wp Go
theorem Ot(kind no:Int)(a:O0)(n c:Nat)(l:Bl)(w:World)(hn:l.length=n)(h:Bys w (.slice a n c) l):C0 67 #[.slice a n c,V0 kind,V0 no] w (OpenP kind no l w):=by
 subst hn;exact Zcn kind no a c l w h
def Qc(l:Bl)(tree:Int):Int:=if Kb l=0 then(if tree=0∨Yo l=tree then 0 else 6) else Kb l
def Xn(l:Bl)(no tree:Int):Int:=if inE l 2 no=0 then Qc (inB l no) tree else inE l 2 no
def Node1P(l:Bl)(tree:Int)(w:World)(e:Ending)(w':World):Prop :=
 (Qc l tree≠0∧∃ a b kp n1 kc vp n2 vc,e=.returned (.tuple #[.agg #[V0 a,.bool b,.slice kp n1 kc,.slice vp n2 vc],V0 (Qc l tree)])∧B0 w w') ∨
 (Qc l tree=0∧∃ kp kc vp vc,e=.returned (.tuple #[.agg #[V0 (Yo l),.bool (Xp l),.slice kp (Zr l) kc,.slice vp (Zr l) vc],V0 0])∧B0 w w' ∧
  w'.ownsRow w.heap.size 3 1 (.slice kp (Zr l) kc) (Zr l) ((Qo l (Zr l)).map V0)∧w'.ownsRow w.heap.size 9 1 (.slice vp (Zr l) vc) (Zr l) ((Kw l (Zr l)).map sv))
def Ac(l:Bl)(no tree:Int)(w:World)(e:Ending)(w':World):Prop :=
 (Xn l no tree≠0∧∃ b,e=.returned (.tuple #[.agg #[V0 0,.bool false,S0,S0],.iface 185 (P0 b)])∧B0 w w'∧Yu w' [some no] (some (Xn l no tree)) (.iface 185 (P0 b))) ∨
 (Xn l no tree=0∧∃ kp kc vp vc,e=.returned (.tuple #[.agg #[V0 (Yo (inB l no)),.bool (Xp (inB l no)),.slice kp (Zr (inB l no)) kc,.slice vp (Zr (inB l no)) vc],.nilIface])∧B0 w w' ∧
  w'.ownsRow w.heap.size 3 1 (.slice kp (Zr (inB l no)) kc) (Zr (inB l no)) ((Qo (inB l no) (Zr (inB l no))).map V0)∧w'.ownsRow w.heap.size 9 1 (.slice vp (Zr (inB l no)) vc) (Zr (inB l no)) ((Kw (inB l no) (Zr (inB l no))).map sv))
theorem node_1(tree:Int)(bt:Nat)(a:O0)(c:Nat)(l:Bl)(w:World)(kt:Blk w bt [V0 tree] 3)(hl:l.length=244)(h:Bys w (.slice a 244 c) l) :
 C0 303 #[.slice a 244 c,P0 bt] w (Node1P l tree w):=by
 refine zin 27 Tryz.func303 ?_
 refine xa 2 [V0 0,.bool false,S0,S0] 173 fun b1 W1 n1=>?_
 refine xc 6 (args:=#[.slice a 244 c]) (Zef a c l _ hl (h.below n1.below)) ?_
 rintro e W2 c6
 rcases c6 with ⟨hz,rfl,a4⟩|⟨hz,kp,kc,vp,vc,rfl,a4,hk,c5⟩
 ·refine xa 3 [V0 0,.bool false,S0,S0] 173 fun b3 W3 n3=>?_
  have k1:=n1.blk.below a4
  have a9:=n3.ne k1
  have a5:=bln n1.below a4
  have g3:=n3.ge a5
  refine xsv 0 n3.blk [V0 0,.bool false,S0,S0] fun W4 u4 k4=>?_
  refine xgk 9 [13,14] (show(((Kb l)==(0:Int)):Bool)=false from beq_false_of_ne hz) ?_
  refine xlv 16 k4.rp ?_
  have b6:=u4.blk (k1.below n3.below) (Ne.symm (Ne.symm a9))
  refine xsv 1 b6 [V0 0,.bool false,S0,S0] fun W6 u6 k6=>?_
  have g1:=n1.ge (B3 w)
  have c2:=u6.below (u4.below (bln a5 n3.below) g3) g1
  exact xec 4 k6 (.tuple #[.agg #[V0 0,.bool false,S0,S0],V0 (Kb l)]) (.inl ⟨by unfold Qc;rw[if_neg hz];exact hz,_,_,_,_,_,_,_,_,by unfold Qc;rw[if_neg hz],c2⟩)
 refine xa 3 [V0 0,.bool false,S0,S0] 173 fun b7 W7 n7=>?_
 have k1:=n1.blk.below a4
 have a0:=n7.ne k1
 have a1:=bln n1.below a4
 have g7:=n7.ge a1
 refine xsv 0 n7.blk [V0 (Yo l),.bool (Xp l),.slice kp (Zr l) kc,.slice vp (Zr l) vc] fun W8 u8 k8=>?_
 have a6:=u8.blkT (((kt.below n1.below).below a4).below n7.below) n7.blk (by decide)
 refine xb 9 0 a6 ?_
 refine xg 3 [16,17,18] (tree != (0:Int)) (fun a8=>?_) (fun a8=>?_)
 ·have a8:=Gz a8
  refine xb 1 0 k8 ?_
  refine xb 0 0 a6 ?_
  refine xin 4 (Yo l) tree (fun c4=>?_) (fun c4=>?_)
  ·refine xlv 2 k8.rp ?_
   have c0:=u8.blk (k1.below n7.below) (Ne.symm (Ne.symm a0))
   refine xsv 0 c0 [V0 (Yo l),.bool (Xp l),.slice kp (Zr l) kc,.slice vp (Zr l) vc] fun d3 c9 c7=>?_
   have g1:=n1.ge (B3 w)
   have b8:=c9.below (u8.below (bln a1 n7.below) g7) g1
   exact xec 5 c7 (.tuple #[.agg #[V0 (Yo l),.bool (Xp l),.slice kp (Zr l) kc,.slice vp (Zr l) vc],V0 6]) (.inl ⟨by unfold Qc;rw[if_pos hz,if_neg (by omega)];decide,_,_,_,_,_,_,_,_,by unfold Qc;rw[if_pos hz,if_neg (by omega)],b8⟩)
  refine xlv 4 k8.rp ?_
  have a2:=u8.blk (k1.below n7.below) (Ne.symm (Ne.symm a0))
  refine xsv 1 a2 [V0 (Yo l),.bool (Xp l),.slice kp (Zr l) kc,.slice vp (Zr l) vc] fun d2 b4 c8=>?_
  have g1:=n1.ge (B3 w)
  have b9:=b4.below (u8.below (bln a1 n7.below) g7) g1
  have b2:=b4.own2 (u8.own2 (Zb (Zh hk n1.below.size) n7.below) n7.blk (by decide)) a2 (by decide)
  have a7:=b4.own2 (u8.own2 (Zb (Zh c5 n1.below.size) n7.below) n7.blk (by decide)) a2 (by decide)
  exact xec 4 c8 (.tuple #[.agg #[V0 (Yo l),.bool (Xp l),.slice kp (Zr l) kc,.slice vp (Zr l) vc],V0 0]) (.inr ⟨by unfold Qc;rw[if_pos hz,if_pos (by omega)],_,_,_,_,rfl,b9,b2,a7⟩)
 have a8:=Yq a8
 refine xlv 12 k8.rp ?_
 have a3:=u8.blk (k1.below n7.below) (Ne.symm (Ne.symm a0))
 refine xsv 1 a3 [V0 (Yo l),.bool (Xp l),.slice kp (Zr l) kc,.slice vp (Zr l) vc] fun d1 c1 d0=>?_
 have g1:=n1.ge (B3 w)
 have c3:=c1.below (u8.below (bln a1 n7.below) g7) g1
 have b5:=c1.own2 (u8.own2 (Zb (Zh hk n1.below.size) n7.below) n7.blk (by decide)) a3 (by decide)
 have b0:=c1.own2 (u8.own2 (Zb (Zh c5 n1.below.size) n7.below) n7.blk (by decide)) a3 (by decide)
 exact xec 4 d0 (.tuple #[.agg #[V0 (Yo l),.bool (Xp l),.slice kp (Zr l) kc,.slice vp (Zr l) vc],V0 0]) (.inr ⟨by unfold Qc;rw[if_pos hz,if_pos (by omega)],_,_,_,_,rfl,c3,b5,b0⟩)
theorem readNode(B b:Nat)(p:O0)(n c:Nat)(l:Bl)(no tree:Int)(w:World)(hI:ImgR B b p n c l w)(bt:Nat)(kt:Blk w bt [V0 tree] 3) :
 C0 302 #[P0 b,V0 no,V0 2,.func (.func 303) #[] #[P0 bt]] w (Ac l no tree w):=by
 refine zin 56 Tryz.func302 ?_
 refine xa 2 [V0 0,.bool false,S0,S0] 173 fun b1 W1 n1=>?_
 refine xa 5 [V0 0,.bool false,S0,S0] 173 fun b2 W2 n2=>?_
 have i0:=n2.ne n1.blk
 have hB:=bln n1.below n2.below
 refine xc 6 (args:=#[P0 b,V0 no]) (Iz B b p n c l no _ (hI.below hB)) ?_
 rintro e W3 k0
 rcases k0 with ⟨ho,vr,rfl,a0⟩|⟨j,hk,hj,p2,c2,rfl,a0,ho⟩
 ·refine xd 16 (.t w.heap.size [173]) ?_
  refine xm2 (.b [1,2,3]) 0 4 ?_ ?_
  ·have k2:=(n2.blk.below a0).below (Za W3)
   refine xlv 0 k2.rp ?_
   refine yc (.o [] 4) (args:=#[V0 no,.iface 63 (V0 3)]) (.t w.heap.size [173]) (Qs no 3 _) ?_
   rintro _ W4 ⟨_,rfl,h4,f2⟩
   refine⟨(SF.of_below _ h4),?_⟩
   rw[if_neg (by decide),if_neg (by decide)] at f2
   have i9:=f2
   obtain⟨i3,m6,rfl,_,_⟩:=i9
   have b8:=(((n1.blk.below n2.below).below a0).below (Za W3)).below h4
   have g1:=n1.ge (B3 w)
   refine ysv (.o [] 5) b8 [V0 0,.bool false,S0,S0] (.t w.heap.size [173]) fun W5 u5 k5=>⟨(Zt u5 b8 g1 (by decide)),?_⟩
   have h1:=u5.below (bln (bln (bln hB a0) (Za W3)) h4) g1
   have d8:=f2.upd u5 b8 (by decide)
   refine xec (.r [6] 4) k5 (.tuple #[.agg #[V0 0,.bool false,S0,S0],.iface 185 (P0 i3)]) ?_
   have he:Xn l no tree=3:=by unfold Xn;rw[Zem hI.len ho];rfl
   exact .inl ⟨by rw[he];decide,_,rfl,h1,by rw[he];exact d8⟩
  refine yc 0 (args:=#[V0 no,.iface 63 (V0 3)]) (.t w.heap.size [173]) (Qs no 3 _) ?_
  rintro _ W6 ⟨_,rfl,e6,g6⟩
  refine⟨(SF.of_below _ e6),?_⟩
  rw[if_neg (by decide),if_neg (by decide)] at g6
  have i2:=g6
  obtain⟨j6,m4,rfl,_,_⟩:=i2
  have k2:=((n2.blk.below a0).below (Za W3)).below e6
  refine xlv (.o [] 0) k2.rp ?_
  have b3:=(((n1.blk.below n2.below).below a0).below (Za W3)).below e6
  have g1:=n1.ge (B3 w)
  refine ysv (.o [] 5) b3 [V0 0,.bool false,S0,S0] (.t w.heap.size [173]) fun W7 u7 k7=>⟨(Zt u7 b3 g1 (by decide)),?_⟩
  have g8:=u7.below (bln (bln (bln hB a0) (Za W3)) e6) g1
  have d9:=g6.upd u7 b3 (by decide)
  refine xec (.r [6] 4) k7 (.tuple #[.agg #[V0 0,.bool false,S0,S0],.iface 185 (P0 j6)]) ?_
  have he:Xn l no tree=3:=by unfold Xn;rw[Zem hI.len ho];rfl
  exact .inl ⟨by rw[he];decide,_,rfl,g8,by rw[he];exact d9⟩
 have k1:=(bln n1.below n2.below).size
 have j5:j<l.length/256:=by rw[hI.len];exact hj
 have h8:=Dx j5
 have e2:=inE_in (l:=l) (kind:=2) hI.len hk hj
 have g0:=Zh ho k1
 refine xc 22 (args:=#[.slice p2 256 c2,V0 2,V0 no]) (Ot 2 no p2 256 c2 (Cq l j) _ h8 (Fk (Zi g0) h8)) ?_
 rintro e W8 j7
 rcases j7 with ⟨hs,rfl,a2⟩|⟨hs,p3,c3,rfl,a2,h3⟩
 ·refine xk 14 (show(((Qw 2 no (Cq l j)) != (0:Int)):Bool)=true from bne_iff_ne.2 hs) ?_
  refine xd 1 (.t w.heap.size [173]) ?_
  refine xm2 (.b [1,2,3]) 0 4 ?_ ?_
  ·have k2:=((n2.blk.below a0).below a2).below (Za W8)
   refine xlv 0 k2.rp ?_
   refine yc (.o [] 4) (args:=#[V0 no,.iface 63 (V0 (Qw 2 no (Cq l j)))]) (.t w.heap.size [173]) (Qs no (Qw 2 no (Cq l j)) _) ?_
   rintro _ W9 ⟨_,rfl,f7,e7⟩
   refine⟨(SF.of_below _ f7),?_⟩
   rw[if_neg hs,if_neg hs] at e7
   have i1:=e7
   obtain⟨i8,l7,rfl,_,_⟩:=i1
   have c7:=((((n1.blk.below n2.below).below a0).below a2).below (Za W8)).below f7
   have g1:=n1.ge (B3 w)
   refine ysv (.o [] 5) c7 [V0 0,.bool false,S0,S0] (.t w.heap.size [173]) fun l3 g5 j0=>⟨(Zt g5 c7 g1 (by decide)),?_⟩
   have g4:=g5.below (bln (bln (bln (bln hB a0) a2) (Za W8)) f7) g1
   have d6:=e7.upd g5 c7 (by decide)
   refine xec (.r [6] 4) j0 (.tuple #[.agg #[V0 0,.bool false,S0,S0],.iface 185 (P0 i8)]) ?_
   have he:Xn l no tree=Qw 2 no (Cq l j):=by unfold Xn;rw[e2,if_neg hs]
   exact .inl ⟨by rw[he];exact hs,_,rfl,g4,by rw[he];exact d6⟩
  refine yc 0 (args:=#[V0 no,.iface 63 (V0 (Qw 2 no (Cq l j)))]) (.t w.heap.size [173]) (Qs no (Qw 2 no (Cq l j)) _) ?_
  rintro _ k9 ⟨_,rfl,a8,b0⟩
  refine⟨(SF.of_below _ a8),?_⟩
  rw[if_neg hs,if_neg hs] at b0
  have g3:=b0
  obtain⟨h5,i6,rfl,_,_⟩:=g3
  have k2:=(((n2.blk.below a0).below a2).below (Za W8)).below a8
  refine xlv (.o [] 0) k2.rp ?_
  have d0:=((((n1.blk.below n2.below).below a0).below a2).below (Za W8)).below a8
  have g1:=n1.ge (B3 w)
  refine ysv (.o [] 5) d0 [V0 0,.bool false,S0,S0] (.t w.heap.size [173]) fun l4 g9 j1=>⟨(Zt g9 d0 g1 (by decide)),?_⟩
  have e9:=g9.below (bln (bln (bln (bln hB a0) a2) (Za W8)) a8) g1
  have b9:=b0.upd g9 d0 (by decide)
  refine xec (.r [6] 4) j1 (.tuple #[.agg #[V0 0,.bool false,S0,S0],.iface 185 (P0 h5)]) ?_
  have he:Xn l no tree=Qw 2 no (Cq l j):=by unfold Xn;rw[e2,if_neg hs]
  exact .inl ⟨by rw[he];exact hs,_,rfl,e9,by rw[he];exact b9⟩
 have i4:=(bln hB a0).size
 have d7:=Zh h3 i4
 have j2:((Cq l j).drop 8).take 244=inB l no:=(inB_in hk).symm
 have h7:=inB_len hI.len hk hj
 rw[j2] at d7
 have c8:=bln (bln hB a0) a2
 refine xc 21 (args:=#[.slice p3 244 c3,P0 bt]) (node_1 tree bt p3 c3 (inB l no) _ (kt.below c8) h7 (Fk (Zi d7) h7)) ?_
 rintro e k8 f5
 rcases f5 with ⟨hz,a5,b5,kp,m1,kc,vp,m2,vc,rfl,a1⟩|⟨hz,kp,kc,vp,vc,rfl,a1,hk,j4⟩
 ·refine xa 3 [V0 0,.bool false,S0,S0] 173 fun l0 l6 a6=>?_
  have d1:=(((n1.blk.below n2.below).below a0).below a2).below a1
  have a3:=a6.ne d1
  have k2:=((n2.blk.below a0).below a2).below a1
  have a4:=a6.ne k2
  have c5:=bln c8 a1
  have h9:=a6.ge c5
  refine xsv 0 a6.blk [V0 a5,.bool b5,.slice kp m1 kc,.slice vp m2 vc] fun d4 d3 l2=>?_
  refine xk 10 (show(((Qc (inB l no) tree) != (0:Int)):Bool)=true from bne_iff_ne.2 hz) ?_
  refine xd 1 (.t w.heap.size [173]) ?_
  refine xm2 (.b [1,2,3]) 0 4 ?_ ?_
  ·have f8:=(d3.blk (k2.below a6.below) (Ne.symm (Ne.symm a4))).below (Za d4)
   refine xlv 0 f8.rp ?_
   refine yc (.o [] 4) (args:=#[V0 no,.iface 63 (V0 (Qc (inB l no) tree))]) (.t w.heap.size [173]) (Qs no (Qc (inB l no) tree) _) ?_
   rintro _ l1 ⟨_,rfl,c0,c1⟩
   refine⟨(SF.of_below _ c0),?_⟩
   rw[if_neg hz,if_neg hz] at c1
   have f3:=c1
   obtain⟨g7,k4,rfl,_,_⟩:=f3
   have c9:=((d3.blk (d1.below a6.below) (Ne.symm (Ne.symm a3))).below (Za d4)).below c0
   have g1:=n1.ge (B3 w)
   refine ysv (.o [] 5) c9 [V0 0,.bool false,S0,S0] (.t w.heap.size [173]) fun l5 h2 j9=>⟨(Zt h2 c9 g1 (by decide)),?_⟩
   have h0:=h2.below (bln (bln (d3.below (bln c5 a6.below) h9) (Za d4)) c0) g1
   have c4:=c1.upd h2 c9 (by decide)
   refine xec (.r [6] 4) j9 (.tuple #[.agg #[V0 0,.bool false,S0,S0],.iface 185 (P0 g7)]) ?_
   have he:Xn l no tree=Qc (inB l no) tree:=by unfold Xn;rw[e2,if_pos hs]
   exact .inl ⟨by rw[he];exact hz,_,rfl,h0,by rw[he];exact c4⟩
  refine yc 0 (args:=#[V0 no,.iface 63 (V0 (Qc (inB l no) tree))]) (.t w.heap.size [173]) (Qs no (Qc (inB l no) tree) _) ?_
  rintro _ l9 ⟨_,rfl,a9,c6⟩
  refine⟨(SF.of_below _ a9),?_⟩
  rw[if_neg hz,if_neg hz] at c6
  have h6:=c6
  obtain⟨f0,i7,rfl,_,_⟩:=h6
  have f1:=((d3.blk (k2.below a6.below) (Ne.symm (Ne.symm a4))).below (Za d4)).below a9
  refine xlv (.o [] 0) f1.rp ?_
  have b4:=((d3.blk (d1.below a6.below) (Ne.symm (Ne.symm a3))).below (Za d4)).below a9
  have g1:=n1.ge (B3 w)
  refine ysv (.o [] 5) b4 [V0 0,.bool false,S0,S0] (.t w.heap.size [173]) fun m3 g2 i5=>⟨(Zt g2 b4 g1 (by decide)),?_⟩
  have e8:=g2.below (bln (bln (d3.below (bln c5 a6.below) h9) (Za d4)) a9) g1
  have b7:=c6.upd g2 b4 (by decide)
  refine xec (.r [6] 4) i5 (.tuple #[.agg #[V0 0,.bool false,S0,S0],.iface 185 (P0 f0)]) ?_
  have he:Xn l no tree=Qc (inB l no) tree:=by unfold Xn;rw[e2,if_pos hs]
  exact .inl ⟨by rw[he];exact hz,_,rfl,e8,by rw[he];exact b7⟩
 have e3:=(bln (bln hB a0) a2).size
 refine xa 3 [V0 0,.bool false,S0,S0] 173 fun m0 l8 a7=>?_
 have d5:=(((n1.blk.below n2.below).below a0).below a2).below a1
 have b6:=a7.ne d5
 have k2:=((n2.blk.below a0).below a2).below a1
 have f6:=a7.ne k2
 have e1:=bln c8 a1
 have j8:=a7.ge e1
 refine xsv 0 a7.blk [V0 (Yo (inB l no)),.bool (Xp (inB l no)),.slice kp (Zr (inB l no)) kc,.slice vp (Zr (inB l no)) vc] fun k6 e5 k3=>?_
 refine xlv 15 k3.rp ?_
 have d2:=e5.blk (d5.below a7.below) (Ne.symm (Ne.symm b6))
 refine xsv 0 d2 [V0 (Yo (inB l no)),.bool (Xp (inB l no)),.slice kp (Zr (inB l no)) kc,.slice vp (Zr (inB l no)) vc] fun m5 f9 j3=>?_
 have g1:=n1.ge (B3 w)
 have e4:=f9.below (e5.below (bln e1 a7.below) j8) g1
 have f4:=f9.own2 (e5.own2 (Zb (Zh hk e3) a7.below) a7.blk (by decide)) d2 (by decide)
 have e0:=f9.own2 (e5.own2 (Zb (Zh j4 e3) a7.below) a7.blk (by decide)) d2 (by decide)
 exact xec 4 j3 (.tuple #[.agg #[V0 (Yo (inB l no)),.bool (Xp (inB l no)),.slice kp (Zr (inB l no)) kc,.slice vp (Zr (inB l no)) vc],.nilIface]) (.inr ⟨by unfold Xn;rw[e2,if_pos hs,hz],_,_,_,_,rfl,e4,f4,e0⟩)
theorem Cd(B b:Nat)(p:O0)(n c:Nat)(l:Bl)(no tree:Int)(w:World)(hI:ImgR B b p n c l w) :
 C0 280 #[P0 b,V0 no,V0 tree] w (Ac l no tree w):=by
 refine zin 14 Tryz.func280 ?_
 refine xa 2 [V0 tree] 3 fun b1 W1 n1=>?_
 refine xa 0 [V0 0,.bool false,S0,S0] 173 fun b2 W2 n2=>?_
 have hB:=bln n1.below n2.below
 have k1:=n1.blk.below n2.below
 refine xc 8 (args:=#[P0 b,V0 no,V0 2,.func (.func 303) #[] #[P0 b1]]) (readNode B b p n c l no tree _ (hI.below hB) b1 k1) ?_
 rintro e W3 a7
 rcases a7 with ⟨he,bf,rfl,a1,hv⟩|⟨he,kp,kc,vp,vc,rfl,a1,hk,a8⟩
 ·have k2:=n2.blk.below a1
  refine xsv 2 k2 [V0 0,.bool false,S0,S0] fun W4 u4 k4=>?_
  have g2:=n2.ge n1.below
  have a2:=u4.below (bln hB a1) g2
  have a4:=hv.upd u4 k2 (by decide)
  exact xec 4 k4 (.tuple #[.agg #[V0 0,.bool false,S0,S0],.iface 185 (P0 bf)]) (.inl ⟨he,_,rfl,a2,a4⟩)
 have a6:=(bln n1.below n2.below).size
 have k2:=n2.blk.below a1
 refine xsv 2 k2 [V0 (Yo (inB l no)),.bool (Xp (inB l no)),.slice kp (Zr (inB l no)) kc,.slice vp (Zr (inB l no)) vc] fun W5 u5 k5=>?_
 have g2:=n2.ge n1.below
 have a5:=u5.below (bln hB a1) g2
 have a3:=u5.own2 (Zh hk a6) k2 (by decide)
 have a0:=u5.own2 (Zh a8 a6) k2 (by decide)
 exact xec 4 k5 (.tuple #[.agg #[V0 (Yo (inB l no)),.bool (Xp (inB l no)),.slice kp (Zr (inB l no)) kc,.slice vp (Zr (inB l no)) vc],.nilIface]) (.inr ⟨he,_,_,_,_,rfl,a5,a3,a0⟩)
abbrev Ent:=Int×Bl×Int
def Zg:Ent:=(0,[],0)
def Hp(x:Ent):List Value:=[V0 x.1,.string ⟨x.2.1.toArray⟩,V0 x.2.2]
theorem Xt(x:Ent):(Hp x).length=3:=rfl
theorem Mu(p:O0)(n c:Nat)(w:World) :
 C0 278 #[.slice p n c] w (fun e w'=>∃ b,e=.returned (.func (.func 300) #[] #[P0 b])∧B0 w w'∧w.heap.size≤b∧Blk w' b [.slice p n c] 33):=by
 refine zin 4 Tryz.func278 ?_
 refine xa 2 [.slice p n c] 33 fun b1 W1 n1=>?_
 have g1:=n1.ge (B3 w)
 exact xe 10 (.func (.func 300) #[] #[P0 b1]) ⟨_,rfl,n1.below,g1,n1.blk⟩
end Go.Proofs.YtegcamkgeacjfaaGreatDoor
namespace Go.Proofs.YtegcamkgeacjfaaGreatDoor
set_option maxHeartbeats 8000000
set_option maxRecDepth 100000
open Go.RowKit Go.Extern.Stop Go.Stop Go.Extern
set_option linter.unusedVariables false
attribute [local irreducible] wpList wpAnyH Code.wp Oper.wp Go
attribute [local go_sem] Oper.semAt_some
theorem Upd.of_put(w:World)(D:Nat)(o:Obj):Upd w D (w.putObj D o):=⟨rfl,rfl,rfl,by simp[World.putObj],fun k hk=>World.putObj_heap_other hk⟩
def Dfr (D:Nat)(w:World):Prop:=w.heap[D]? = some (.deferred (some []))
theorem Dfr.below{D:Nat}{w W:World}(h:Dfr D w)(hb:B0 w W):Dfr D W:=(hb.block D (Array.getElem?_eq_some_iff.1 h).1).trans h
theorem Dfr.ne{D b:Nat}{w:World}{cs:List Value}{t:TypeId}(h:Dfr D w)(k:Blk w b cs t):b≠D:=by
 rintro rfl
 have h':w.heap[b]? = _:=h
 rw[show w.heap[b]? = _ from k] at h'
 cases h'
theorem Dfr.upd{D b:Nat}{w W:World}{cs:List Value}{t:TypeId}(h:Dfr D w)(u:Upd w b W)(k:Blk w b cs t):Dfr D W:=(u.block D fun e=>h.ne k e.symm).trans h
theorem Dfr.row{D:Nat}{w:World}{base e size n:Nat}{v:Value}{xs:List Value}(h:Dfr D w)(k:w.ownsRow base e size v n xs):∀ g,v.ownBlock=some g→g≠D:=by
 rintro g hg rfl
 rcases k.2 with ⟨rfl,_⟩|⟨g',a1,a0,rfl,_,hh,_⟩
 ·cases hg
 ·simp only[Value.ownBlock,Option.some.injEq] at hg
  subst hg
  rw[show w.heap[g']? = _ from h] at hh
  cases hh
theorem Dfr.grown{D:Nat}{w W:World}{base e size n:Nat}{v:Value}{xs:List Value}(h:Dfr D w)(hg:w.grownBy W v.ownBlock)(k:w.ownsRow base e size v n xs):Dfr D W :=
 (hg.block D (Array.getElem?_eq_some_iff.1 h).1 fun q=>h.row k D q.symm rfl).trans h
theorem Zcw{P:Program}{fn:Func}{R:Ending→World→Prop}{a:Act}{w:World}{D:Nat}(hK:Dfr D w)(v:Value)(hd:a.defers=[{ target:=.collected D,args:=#[] }])(hr:(results fn a.tmps).run P (w.putObj D (.deferred none))=.ok v (w.putObj D (.deferred none)))(h:R (.returned v) (w.putObj D (.deferred none))):bodyPostM Fence.wide 4 P fn R .normal a w :=
 by
 show LeavesInM _ _ _ _ a.tmps R a.defers .returning w
 rw[hd]
 exact⟨by simp,.inl ⟨_,_,rfl,run_takeDeferred hK,_,hr,h⟩⟩
def noPan(Q:Exit→Act→World→Prop):Exit→Act→World→Prop
 | .normal,a,w=>Q .normal a w
 | .ret,a,w=>Q .ret a w
 | _,_,_=>False
theorem g_nopan{P:Program}{c:Code}{Q:Exit→Act→World→Prop}{a:Act}{w:World}(h:c.wp P (noPan Q) a w):c.wp P Q a w:=wp_mono h fun e a w q=>by cases e<;>first|exact q|exact q.elim
theorem Xb{w:World}{base size n b:Nat}{e t:TypeId}{v:Value}{xs cs:List Value}(k:w.ownsRow base e size v n xs)(q:Blk w b cs t)(hne:e≠t):∀ g,v.ownBlock=some g→g≠b:=by
 rintro g hg rfl
 rcases k.2 with ⟨rfl,_⟩|⟨g',a1,a0,rfl,_,hh,_⟩
 ·cases hg
 ·simp only[Value.ownBlock,Option.some.injEq] at hg
  subst hg
  rw[show w.heap[g']? = _ from q] at hh
  simp only[Option.some.injEq,Obj.cells.injEq] at hh
  exact hne hh.2.1.symm
theorem Wk{w W:World}(h:B0 w W):KeepsOthers w W:=⟨h.size,fun b o hb _=>(h.block b (Array.getElem?_eq_some_iff.1 hb).1).trans hb⟩
theorem Zaa{w W:World}{b:Nat}{cs:List Value}{t:TypeId}(u:Upd w b W)(k:Blk w b cs t):KeepsOthers w W:=⟨Nat.le_of_eq u.size.symm,fun d o hd ho=>(u.block d (by rintro rfl;rw[show w.heap[d]? = _ from k] at hd;cases hd;cases ho)).trans hd⟩
theorem Dfr.only_new{T:List TypeId}{a w W:World}{b:Nat}(h:Ze T a w)(hbb:BelowBut w b W)(hb:a.heap.size≤b):Ze T a W:=fun k cs t fr hk ht=>by
 have h0:=(Array.getElem?_eq_some_iff.1 hk).1
 have h1:=h k cs t fr hk ht
 rw[hbb.block k (Array.getElem?_eq_some_iff.1 h1).1 (by omega)];exact h1
theorem BelowBut.own3{w W:World}{b base size n:Nat}{e:TypeId}{v:Value}{xs:List Value}(h:BelowBut w b W)(k:w.ownsRow base e size v n xs)(hs:∀ j,v.ownBlock=some j→j≠b):W.ownsRow base e size v n xs:=by
 obtain⟨h1,h2⟩:=k
 refine⟨h1,?_⟩
 rcases h2 with h2|⟨g,a1,a0,rfl,hg,hh,r⟩
 ·exact Or.inl h2
 ·exact Or.inr ⟨g,a1,a0,rfl,hg,by rw[h.block g (Array.getElem?_eq_some_iff.1 hh).1 (hs g rfl)];exact hh,r⟩
theorem Rs{β:Type}{w:World}{b B:Nat}(hB:w.heap.size≤B):OwnFrom B (fun(_:β) W=>BelowBut w b W):=fun _ W W' a1 hs hg hr =>
 ⟨hg.os.trans hs.os,hg.tape.trans hs.tape,hg.output.trans hs.output,Nat.le_trans hs.size hg.size,fun k hk a0=>(hg.block k (Nat.lt_of_lt_of_le hk hs.size) (fun e=>by have:=(hr k e.symm).1;omega)).trans (hs.block k hk a0)⟩
theorem Yu.turn{A B:World}{row:Option Nat}{l:List (Option Int)}{c:Option Int}{v:Value}(h:Yu A l c v)(hg:A.grownBy B row)(hr:∀ r,row=some r→∃ o:Obj,A.heap[r]? = some o∧o.isCells=false):Yu B l c v:=h.kept fun _ _ k=>k.turn hg hr
def atW (way:List Int)(pre:List (Fin way.length))(bs:List Int):List Int:=(pre.map fun j=>way[qOf j]?.getD 0).reverse++bs
theorem atW_snoc(way:List Int)(pre:List (Fin way.length))(x:Fin way.length)(bs:List Int):atW way (pre++[x]) bs=(way[qOf x]?.getD 0)::atW way pre bs:=by simp[atW]
theorem atW_all(way bs:List Int):atW way (List.finRange way.length) bs=way++bs:=by
 unfold atW
 congr 1
 apply List.ext_getElem
 ·simp
 ·intro i h1 h2
  simp only[List.length_reverse,List.length_map,List.length_finRange] at h1
  rw[List.getElem_reverse,List.getElem_map]
  simp only[List.length_map,List.length_finRange,List.getElem_finRange,qOf]
  have e:way.length-1-(way.length-1-i)=i:=by omega
  simp[e,h2]
theorem Yu.one{w:World}{l:List (Option Int)}{c:Option Int}{v:Value}(h:Yu w l c v):v.oneCell'=true:=by
 rcases h.nil_or with ⟨_,rfl⟩|⟨_,t,x,rfl⟩<;>rfl
theorem Yu.iface{w:World}{l:List (Option Int)}{c:Int}{v:Value}(h:Yu w l (some c) v):∃ t x,v=.iface t x:=by
 rcases h.nil_or with ⟨q,_⟩|⟨_,q⟩
 ·simp[Ga] at q
 ·exact q
theorem Yw{b c:Int}{l:List (Option Int)}:atL b l (some c)=some b::l:=by simp[atL,Ga]
theorem So{v:Value}(h:v.oneCell'=true):∀ u∈[v],u.oneCell'=true:=by simpa using h
def NoteP(B bw:Nat)(c0 c1 c2 c3 c5 c6 c7 c8 c9:Value)(nf:Nat)(fs:List Value)(l:List Int)(ec:Int)(w:World)(e:Ending)(w':World):Prop :=
 ∃ u p c ty x,e=.returned u∧Below B w w'∧Ze [315,29] w w'∧Blk w' bw [c0,c1,c2,c3,.slice p (nf+1) c,c5,c6,c7,c8,c9] 315∧w'.ownsRow B 29 1 (.slice p (nf+1) c) (nf+1) (fs++[.iface ty x])∧Yu w' (l.map some) (some ec) (.iface ty x)
theorem Hz(B bw:Nat)(c0 c1 c2 c3 c5 c6 c7 c9:Value)(pf:O0)(nf cf:Nat)(fs:List Value)(pw:O0)(cw:Nat)(way bs:List Int)(ec:Int)(ty:TypeId)(ev:Value)(w:World)(hBb:B≤bw)(hBw:B≤w.heap.size)(kW:Blk w bw [c0,c1,c2,c3,.slice pf nf cf,c5,c6,c7,.slice pw way.length cw,c9] 315)(hF:w.ownsRow B 29 1 (.slice pf nf cf) nf fs)(hway:w.ownsRow B 3 1 (.slice pw way.length cw) way.length (way.map V0))(hE:Yu w (bs.map some) (some ec) (.iface ty ev))(hwl:way.length≤1000000)(hnf:nf≤1000000) :
 C0 254 #[P0 bw,.iface ty ev] w (NoteP B bw c0 c1 c2 c3 c5 c6 c7 (.slice pw way.length cw) c9 nf fs (way++bs) ec w):=by
 refine Kf Tryz.func254 rfl ?_
 refine g_fr ⟨#[P0 bw,.iface ty ev,undef,undef,undef,undef,undef,undef,undef,undef,undef,undef,undef,undef,undef,undef,undef,undef,undef,undef,undef,undef,undef,undef,undef,undef,undef,undef],[]⟩ (by kernel_rfl) ?_
 refine wp_seq ?_
 refine wp_region_lit ?_
 refine Yb (by kernel_rfl) (Cj [.iface ty ev] rfl (by kernel_rfl) ?_)
 intro b1 W1 n1
 have d1_bw:=n1.ne kW
 have g1:=n1.ge0 (Below.refl B _)
 have r1_hF:=Zz hF n1
 have hO:Ze [315,29] w _:=(Ze.of_below n1.below)
 have hB:=blB (Below.refl B w) hBw n1.below
 replace kW:=kW.below n1.below
 replace hF:=Zb hF n1.below
 replace hway:=Zb hway n1.below
 replace hE:=hE.below n1.below
 have k1:=n1.blk
 refine wpList_nil ?_
 refine wp_seq ?_
 refine wp_seq ?_
 refine wp_region_lit ?_
 refine Kj 3 [(6,P0 bw),(7,P0 bw),(8,.pointer (some ⟨bw,8,none⟩))] (by kernel_rfl) ?_
 refine Yb (by kernel_rfl) (Yc ⟨bw,8,none⟩ (.slice pw way.length cw) rfl (by kernel_rfl) (by kernel_rfl) (kW.cell (i:=8) rfl) ?_)
 have lt2_bw:=kW.lt
 have lt2_b1:=k1.lt
 have hs2:w.heap.size≤(W1).heap.size:=hB.size
 refine Yb (by kernel_rfl) (Yh (lb:=#[]) 278 #[.slice pw way.length cw] rfl (by kernel_rfl) (fun _ _=>by kernel_rfl) (by kernel_rfl) ((Mu pw way.length cw _).mono ?_))
 rintro e W2 ⟨bk2,rfl,hb2,hg2,kk2⟩
 refine⟨_,rfl,?_⟩
 replace hO:=hO.trans (Ze.of_below hb2)
 replace hB:=blB hB hBw hb2
 replace kW:=kW.below hb2
 replace k1:=k1.below hb2
 replace hF:=Zb hF hb2
 replace hway:=Zb hway hb2
 replace hE:=hE.below hb2
 have gb2:w.heap.size≤bk2:=Nat.le_trans hs2 hg2
 have nb2_bw:bk2≠bw:=by omega
 have nb2_b1:bk2≠b1:=by omega
 refine wpList_nil ?_
 refine wp_block ?_
 have hzk:=kk2.lt
 have hz3:=k1.lt
 have hst:=Zai bk2 (fun b=>b<W2.heap.size∧b≠b1) (.slice pw way.length cw) way W2 (fun b h=>h.1) ⟨hzk,nb2_b1⟩ (by omega) (Zi hway) (fun _ b off n cap q=>by cases q;exact⟨(hway.lt b rfl).2,Xb hway k1 (by decide) b rfl⟩) (kk2.cell (i:=0) rfl)
 refine g_fr ⟨#[P0 bw,.iface ty ev,undef,P0 b1,undef,undef,P0 bw,P0 bw,.pointer (some ⟨bw,8,none⟩),.slice pw way.length cw,.func (.func 300) #[] #[P0 bk2],undef,undef,undef,undef,undef,undef,undef,undef,undef,undef,undef,undef,undef,undef,undef,undef,undef],[]⟩ (by kernel_rfl) ?_
 refine Im (g:=.tmp 10) (gf:=300) (lb:=#[P0 bk2]) rfl (enters_of Tryz.func300 (by kernel_rfl) rfl) _ (fun b h=>h.1) hst (fun _=>rfl)
  (fun pre W=>(∃ v',Blk W b1 [v'] 29∧Yu W ((atW way pre bs).map some) (some ec) v')∧BelowBut W2 b1 W)
  (fun _ _ _=>False) ?own (fun _ _ _ _ _ h _ _=>h) ⟨⟨_,k1,hE⟩,(Below.refl _ _).but _⟩
  (fun x a' _=>a'={ tmps:=#[P0 bw,.iface ty ev,undef,P0 b1,undef,V0 (way[qOf x]?.getD 0),P0 bw,P0 bw,.pointer (some ⟨bw,8,none⟩),.slice pw way.length cw,.func (.func 300) #[] #[P0 bk2],V0 (qOf x:Int),V0 (way[qOf x]?.getD 0),undef,undef,undef,undef,undef,undef,undef,undef,undef,undef,undef,undef,undef,undef,undef],defers:=[] }) (fun _ _ _ _ _ _ h _ _=>h) ?assign ?body ?done (fun _ _ _ _ _ _ h _=>h.elim)
 case own=>exact OwnFrom.and (Own.from (fun s A B row hs hg hr=>by obtain⟨v',h1,h2⟩:=hs;exact⟨v',h1.turn hg hr,h2.turn hg hr⟩) _) (Rs (Nat.le_refl _))
 case assign =>
  rintro lr pre x W K hI hK
  unfold encB
  gi_wp2
  exact hK _ _ (KeepsFrom.refl _ _) (Keeps.refl _ _) hI rfl
 case body =>
  rintro lr pre x a' W hlr ⟨⟨v',m3,hv'⟩,hbb⟩ rfl hlt
  have mc:=m3.cell (i:=0) rfl
  gi_wp2_with (refine⟨trivial,?_⟩;gi_at_call 127;refine(CallsIn.inRound lr (callsIn_wide.2 (Yj _ _ _ _ _ hv'))).mono ?_;rintro e w2 ⟨r2,rfl,hb2,hE2⟩;obtain⟨t2,x2,rfl⟩:=hE2.iface;have m4:=m3.below hb2;have mg:=m4.frozen 0;have md:=m4.cell (i:=0) rfl)
  have hb2s:=hb2.size
  have u2:=Upd.setCell w2 b1 0 (.iface t2 x2)
  exact⟨((Wk hb2).trans (KeepsOthers.setCell _ _ _)).from _,Keeps.setCell (Keeps.of_below hb2 (fun b hb=>by have:=hbb.size;have:=hb.1;omega)) (fun hb=>hb.2 rfl) _,⟨_,m4.set 0 _,by rw[atW_snoc,List.map_cons,←Yw (c:=ec)];exact(hE2.upd u2 m4 (by decide))⟩,(hbb.next hb2).upd u2⟩
 case done =>
 rintro D xs W hD rfl ⟨⟨v',m3,hv'⟩,hbb⟩ hK0
 rw[atW_all] at hv'
 have hK:Dfr D W:=hK0;clear hK0
 refine g_nopan ?_
 refine g_fr ⟨#[P0 bw,.iface ty ev,undef,P0 b1,undef,undef,P0 bw,P0 bw,.pointer (some ⟨bw,8,none⟩),.slice pw way.length cw,.func (.func 300) #[] #[P0 bk2],undef,undef,undef,undef,undef,undef,undef,undef,undef,undef,undef,undef,undef,undef,undef,undef,undef],[{ target:=.collected D,args:=#[] }]⟩ (by kernel_rfl) ?_
 have hv1:=hv'.one
 obtain⟨ty',x',rfl⟩:=hv'.iface
 have hDB:w.heap.size≤D:=Nat.le_trans (Nat.le_trans (by have:=hz3;have:=g1;omega) (Nat.le_refl _)) hD
 replace kW:=hbb.blk kW (Ne.symm (Ne.symm d1_bw))
 replace kk2:=hbb.blk kk2 nb2_b1
 replace hF:=hbb.own3 hF r1_hF
 replace hway:=hbb.own2 hway k1 (by decide)
 have hB0:=hB
 replace hB:=hbb.below hB (Nat.le_trans hBw g1) (Nat.le_trans hBw hB0.size)
 replace hO:=Dfr.only_new hO hbb g1
 replace k1:=m3
 replace hO:=hO.trans (Ze.of_below (Za W))
 replace hB:=blB hB hBw (Za W)
 replace kW:=kW.below (Za W)
 replace k1:=k1.below (Za W)
 replace kk2:=kk2.below (Za W)
 replace hF:=Zb hF (Za W)
 replace hway:=Zb hway (Za W)
 replace hv':=hv'.below (Za W)
 replace hK:=hK.below (Za W)
 refine h_reg (Below B (W.drew)) 13 rfl #[false,false,false,false,false,false,false,false,false,false,false,false,false] rfl (by kernel_rfl) (Below.refl _ _) ?_
 intro hS3
 have hBd5:=hB
 have kd5_bw:=kW
 have kd5_b1:=k1
 have kd5_bk2:=kk2
 have hOd5:=hO
 refine Ag [0,1,2,3,4] 8 rfl #[true,true,true,true,true,false,false,false,false,false,false,false,false] [(16,P0 bw),(17,P0 bw),(18,P0 bw),(19,P0 bw),(20,.pointer (some ⟨bw,4,none⟩))] (by kernel_rfl) (fun _ _ _ _ _ h=>h) (by kernel_rfl) hS3 ?_
 refine h_two 5 6 7 rfl (by kernel_rfl) rfl rfl (by kernel_rfl) (by kernel_rfl) ?_ ?_
 ·refine Yc ⟨bw,4,none⟩ (.slice pf nf cf) rfl (by kernel_rfl) (by kernel_rfl) (kW.cell (i:=4) rfl) ?_
  have hS6:Below B (W.drew) (W.drew):=hS3
  refine⟨hS6,?_⟩
  refine Ku 6 6 rfl (by kernel_rfl) rfl (by kernel_rfl) (Yc ⟨b1,0,none⟩ (.iface ty' x') rfl (by kernel_rfl) (by kernel_rfl) (k1.cell (i:=0) rfl) ?_)
  have hS7:Below B (W.drew) (W.drew):=hS6
  refine⟨hS7,?_⟩
  refine Ku 7 5 rfl (by kernel_rfl) rfl (by kernel_rfl) (Yi 29 [.iface ty' x'] rfl (by kernel_rfl) ?_)
  intro b8 W8 n8
  have d8_bw:=n8.ne kW
  have d8_b1:=n8.ne k1
  have d8_bk2:=n8.ne kk2
  have g8:=n8.ge0 hB
  have r8_hF:=Zz hF n8
  replace hO:=hO.trans (Ze.of_below n8.below)
  replace hB:=blB hB hBw n8.below
  replace kW:=kW.below n8.below
  replace k1:=k1.below n8.below
  replace kk2:=kk2.below n8.below
  replace hF:=Zb hF n8.below
  replace hway:=Zb hway n8.below
  replace hv':=hv'.below n8.below
  replace hK:=hK.below n8.below
  have k8:=n8.blk
  have hS9:Below B (W.drew) (W8):=blB hS7 (Nat.le_trans hBw hBd5.size) n8.below
  refine⟨hS9,?_⟩
  refine Ku 8 4 rfl (by kernel_rfl) rfl (by kernel_rfl) (Xq (e:=29) (n:=nf) (xs:=fs) (m:=1) (news:=[.iface ty' x']) (.nilIface) 1 16 (nf+1) (fs++[.iface ty' x']) rfl Tryz.underlying128 (by kernel_rfl) rfl (by decide) (by kernel_rfl) hF (by kernel_rfl) (k8.sl 1 1 (by decide) (by decide)) rfl (So hv1) (by unfold maxLen;omega) (by omega) (Nat.le_trans hBw hB.size) (by simp) (by simp) ?_)
  intro p10 c10 W10 o10 hg10 hb10
  replace hO:=hO.trans (Ze.of_grown hg10 hF (by decide))
  replace kW:=kW.grown hg10 hF (by decide)
  replace k1:=k1.grown3 hg10 r1_hF
  replace kk2:=kk2.grown hg10 hF (by decide)
  replace hway:=Zp hway hg10 hF (by decide)
  replace hv':=hv'.grown hg10 hF (by decide)
  replace hK:=hK.grown hg10 hF
  replace hB:=hB.trans hb10
  have hS11:Below B (W.drew) (W10):=hS9.trans hb10
  refine⟨hS11,?_⟩
  refine Ag [9,10,11] 1 rfl #[true,true,true,true,true,true,true,true,true,true,true,true,false] [(25,P0 bw),(26,P0 bw),(27,.pointer (some ⟨bw,4,none⟩))] (by kernel_rfl) (fun _ _ _ _ _ h=>h) (by kernel_rfl) hS11 ?_
  refine Ku 12 0 rfl (by kernel_rfl) rfl (by kernel_rfl) (Xg (v:=.slice p10 (nf+1) c10) (b:=bw) (off:=4) rfl (by kernel_rfl) (by kernel_rfl) (by kernel_rfl) rfl kW (by first|decide|simp) ?_)
  intro W12 u12 k12
  change Blk _ _ [c0,c1,c2,c3,.slice p10 (nf+1) c10,c5,c6,c7,.slice pw way.length cw,c9] _ at k12
  replace hO:=hO.trans (Ze.of_upd u12 kW (by decide))
  replace hB:=u12.below hB hBb
  replace k1:=u12.blk k1 (Ne.symm d1_bw)
  replace kk2:=u12.blk kk2 nb2_bw
  replace hway:=u12.own2 hway kW (by decide)
  replace hv':=hv'.upd u12 kW (by decide)
  replace hK:=hK.upd u12 kW
  replace o10:=u12.own2 o10 kW (by decide)
  have hS13:Below B (W.drew) (W12):=u12.below hS11 hBb
  refine⟨hS13,?_⟩
  refine Wf _ (by kernel_rfl) ?_
  exact Zcw hK (.tuple #[]) (by kernel_rfl) (by kernel_rfl) ⟨_,_,_,_,_,rfl,(Upd.of_put _ _ _).below hB (Nat.le_trans hBw hDB),Ze.upd_new hO (Upd.of_put _ _ _) hDB,(Upd.of_put _ _ _).blk k12 (hK.ne k12),(Upd.of_put _ _ _).own3 o10 (hK.row o10),hv'.kept fun _ _ q=>(Upd.of_put _ _ _).blk q (hK.ne q)⟩
 ·refine Yc ⟨b1,0,none⟩ (.iface ty' x') rfl (by kernel_rfl) (by kernel_rfl) (k1.cell (i:=0) rfl) ?_
  have hS14:Below B (W.drew) (W.drew):=hS3
  refine⟨hS14,?_⟩
  refine h_two 5 7 6 rfl (by kernel_rfl) rfl rfl (by kernel_rfl) (by kernel_rfl) ?_ ?_
  ·refine Yc ⟨bw,4,none⟩ (.slice pf nf cf) rfl (by kernel_rfl) (by kernel_rfl) (kW.cell (i:=4) rfl) ?_
   have hS15:Below B (W.drew) (W.drew):=hS14
   refine⟨hS15,?_⟩
   refine Ku 7 5 rfl (by kernel_rfl) rfl (by kernel_rfl) (Yi 29 [.iface ty' x'] rfl (by kernel_rfl) ?_)
   intro b16 W16 n16
   have d16_bw:=n16.ne kW
   have d16_b1:=n16.ne k1
   have d16_bk2:=n16.ne kk2
   have g16:=n16.ge0 hB
   have r16_hF:=Zz hF n16
   replace hO:=hO.trans (Ze.of_below n16.below)
   replace hB:=blB hB hBw n16.below
   replace kW:=kW.below n16.below
   replace k1:=k1.below n16.below
   replace kk2:=kk2.below n16.below
   replace hF:=Zb hF n16.below
   replace hway:=Zb hway n16.below
   replace hv':=hv'.below n16.below
   replace hK:=hK.below n16.below
   have k16:=n16.blk
   have hS17:Below B (W.drew) (W16):=blB hS15 (Nat.le_trans hBw hBd5.size) n16.below
   refine⟨hS17,?_⟩
   refine Ku 8 4 rfl (by kernel_rfl) rfl (by kernel_rfl) (Xq (e:=29) (n:=nf) (xs:=fs) (m:=1) (news:=[.iface ty' x']) (.nilIface) 1 16 (nf+1) (fs++[.iface ty' x']) rfl Tryz.underlying128 (by kernel_rfl) rfl (by decide) (by kernel_rfl) hF (by kernel_rfl) (k16.sl 1 1 (by decide) (by decide)) rfl (So hv1) (by unfold maxLen;omega) (by omega) (Nat.le_trans hBw hB.size) (by simp) (by simp) ?_)
   intro p18 c18 W18 o18 hg18 hb18
   replace hO:=hO.trans (Ze.of_grown hg18 hF (by decide))
   replace kW:=kW.grown hg18 hF (by decide)
   replace k1:=k1.grown3 hg18 r1_hF
   replace kk2:=kk2.grown hg18 hF (by decide)
   replace hway:=Zp hway hg18 hF (by decide)
   replace hv':=hv'.grown hg18 hF (by decide)
   replace hK:=hK.grown hg18 hF
   replace hB:=hB.trans hb18
   have hS19:Below B (W.drew) (W18):=hS17.trans hb18
   refine⟨hS19,?_⟩
   refine Ag [9,10,11] 1 rfl #[true,true,true,true,true,true,true,true,true,true,true,true,false] [(25,P0 bw),(26,P0 bw),(27,.pointer (some ⟨bw,4,none⟩))] (by kernel_rfl) (fun _ _ _ _ _ h=>h) (by kernel_rfl) hS19 ?_
   refine Ku 12 0 rfl (by kernel_rfl) rfl (by kernel_rfl) (Xg (v:=.slice p18 (nf+1) c18) (b:=bw) (off:=4) rfl (by kernel_rfl) (by kernel_rfl) (by kernel_rfl) rfl kW (by first|decide|simp) ?_)
   intro W20 u20 k20
   change Blk _ _ [c0,c1,c2,c3,.slice p18 (nf+1) c18,c5,c6,c7,.slice pw way.length cw,c9] _ at k20
   replace hO:=hO.trans (Ze.of_upd u20 kW (by decide))
   replace hB:=u20.below hB hBb
   replace k1:=u20.blk k1 (Ne.symm d1_bw)
   replace kk2:=u20.blk kk2 nb2_bw
   replace hway:=u20.own2 hway kW (by decide)
   replace hv':=hv'.upd u20 kW (by decide)
   replace hK:=hK.upd u20 kW
   replace o18:=u20.own2 o18 kW (by decide)
   have hS21:Below B (W.drew) (W20):=u20.below hS19 hBb
   refine⟨hS21,?_⟩
   refine Wf _ (by kernel_rfl) ?_
   exact Zcw hK (.tuple #[]) (by kernel_rfl) (by kernel_rfl) ⟨_,_,_,_,_,rfl,(Upd.of_put _ _ _).below hB (Nat.le_trans hBw hDB),Ze.upd_new hO (Upd.of_put _ _ _) hDB,(Upd.of_put _ _ _).blk k20 (hK.ne k20),(Upd.of_put _ _ _).own3 o18 (hK.row o18),hv'.kept fun _ _ q=>(Upd.of_put _ _ _).blk q (hK.ne q)⟩
  ·refine Yi 29 [.iface ty' x'] rfl (by kernel_rfl) ?_
   intro b22 W22 n22
   have d22_bw:=n22.ne kW
   have d22_b1:=n22.ne k1
   have d22_bk2:=n22.ne kk2
   have g22:=n22.ge0 hB
   have r22_hF:=Zz hF n22
   replace hO:=hO.trans (Ze.of_below n22.below)
   replace hB:=blB hB hBw n22.below
   replace kW:=kW.below n22.below
   replace k1:=k1.below n22.below
   replace kk2:=kk2.below n22.below
   replace hF:=Zb hF n22.below
   replace hway:=Zb hway n22.below
   replace hv':=hv'.below n22.below
   replace hK:=hK.below n22.below
   have k22:=n22.blk
   have hS23:Below B (W.drew) (W22):=blB hS14 (Nat.le_trans hBw hBd5.size) n22.below
   refine⟨hS23,?_⟩
   refine Ku 5 5 rfl (by kernel_rfl) rfl (by kernel_rfl) (Yc ⟨bw,4,none⟩ (.slice pf nf cf) rfl (by kernel_rfl) (by kernel_rfl) (kW.cell (i:=4) rfl) ?_)
   have hS24:Below B (W.drew) (W22):=hS23
   refine⟨hS24,?_⟩
   refine Ku 8 4 rfl (by kernel_rfl) rfl (by kernel_rfl) (Xq (e:=29) (n:=nf) (xs:=fs) (m:=1) (news:=[.iface ty' x']) (.nilIface) 1 16 (nf+1) (fs++[.iface ty' x']) rfl Tryz.underlying128 (by kernel_rfl) rfl (by decide) (by kernel_rfl) hF (by kernel_rfl) (k22.sl 1 1 (by decide) (by decide)) rfl (So hv1) (by unfold maxLen;omega) (by omega) (Nat.le_trans hBw hB.size) (by simp) (by simp) ?_)
   intro p25 c25 W25 o25 hg25 hb25
   replace hO:=hO.trans (Ze.of_grown hg25 hF (by decide))
   replace kW:=kW.grown hg25 hF (by decide)
   replace k1:=k1.grown3 hg25 r1_hF
   replace kk2:=kk2.grown hg25 hF (by decide)
   replace hway:=Zp hway hg25 hF (by decide)
   replace hv':=hv'.grown hg25 hF (by decide)
   replace hK:=hK.grown hg25 hF
   replace hB:=hB.trans hb25
   have hS26:Below B (W.drew) (W25):=hS24.trans hb25
   refine⟨hS26,?_⟩
   refine Ag [9,10,11] 1 rfl #[true,true,true,true,true,true,true,true,true,true,true,true,false] [(25,P0 bw),(26,P0 bw),(27,.pointer (some ⟨bw,4,none⟩))] (by kernel_rfl) (fun _ _ _ _ _ h=>h) (by kernel_rfl) hS26 ?_
   refine Ku 12 0 rfl (by kernel_rfl) rfl (by kernel_rfl) (Xg (v:=.slice p25 (nf+1) c25) (b:=bw) (off:=4) rfl (by kernel_rfl) (by kernel_rfl) (by kernel_rfl) rfl kW (by first|decide|simp) ?_)
   intro W27 u27 k27
   change Blk _ _ [c0,c1,c2,c3,.slice p25 (nf+1) c25,c5,c6,c7,.slice pw way.length cw,c9] _ at k27
   replace hO:=hO.trans (Ze.of_upd u27 kW (by decide))
   replace hB:=u27.below hB hBb
   replace k1:=u27.blk k1 (Ne.symm d1_bw)
   replace kk2:=u27.blk kk2 nb2_bw
   replace hway:=u27.own2 hway kW (by decide)
   replace hv':=hv'.upd u27 kW (by decide)
   replace hK:=hK.upd u27 kW
   replace o25:=u27.own2 o25 kW (by decide)
   have hS28:Below B (W.drew) (W27):=u27.below hS26 hBb
   refine⟨hS28,?_⟩
   refine Wf _ (by kernel_rfl) ?_
   exact Zcw hK (.tuple #[]) (by kernel_rfl) (by kernel_rfl) ⟨_,_,_,_,_,rfl,(Upd.of_put _ _ _).below hB (Nat.le_trans hBw hDB),Ze.upd_new hO (Upd.of_put _ _ _) hDB,(Upd.of_put _ _ _).blk k27 (hK.ne k27),(Upd.of_put _ _ _).own3 o25 (hK.row o25),hv'.kept fun _ _ q=>(Upd.of_put _ _ _).blk q (hK.ne q)⟩
end Go.Proofs.YtegcamkgeacjfaaGreatDoor
namespace Go.Proofs.YtegcamkgeacjfaaGreatDoor
set_option maxHeartbeats 8000000
set_option maxRecDepth 100000
open Go.RowKit Go.Extern.Stop Go.Stop Go.Extern
set_option linter.unusedVariables false
attribute [local irreducible] wpList wpAnyH Code.wp Oper.wp Go
def Yt(l:List Int)(x:Int):Bool:=l.any fun y=>decide (x=y)
theorem Zbq{l:List Int}{x:Int}{i:Nat}(hi:i<l.length)(h:x=l.getD i 0):Yt l x=true:=by
 unfold Yt
 rw[List.any_eq_true]
 exact⟨l[i],List.getElem_mem _,by rw[decide_eq_true_iff,h];simp[hi]⟩
theorem Oy{l:List Int}{x:Int}(h:∀ j,j<l.length→x≠l.getD j 0):Yt l x=false:=by
 unfold Yt
 rw[List.any_eq_false]
 intro y hy
 obtain⟨j,hj,rfl⟩:=List.getElem_of_mem hy
 have:=h j hj
 simpa [hj] using this
theorem indexI(a:O0)(c:Nat)(l:List Int)(x:Int)(w:World)(h:Ints w (.slice a l.length c) l)(hln:l.length≤1000000) :
 C0 301 #[.slice a l.length c,V0 x] w (fun e w'=>(Yt l x=false∧e=.returned (V0 (-1))∧B0 w w')∨(Yt l x=true∧∃ i:Nat,e=.returned (V0 (i:Int))∧B0 w w')):=by
 refine zin 19 Tryz.func301 ?_
 have hB:=Below.refl w.heap.size w
 refine zl 14 19 (fun zm a3 V=>∃ (i:Nat),a3=[(0,.slice a l.length c),(1,V0 x),(7,V0 (l.length:Int)),(8,V0 (i:Int))]∧zm=l.length-((i:Int)).toNat∧B0 w V∧i≤l.length∧(∀ j,j<i→x≠l.getD j 0)) ⟨0,rfl,rfl,hB,Nat.zero_le _,?_⟩ ?_
 ·exact fun j hj=>absurd hj (by omega)
 rintro _ _ W1 ⟨i,rfl,rfl,a0,hi,hz⟩ J1 a2 r1
 refine xid 6 ((i:Int)<(l.length:Int)) (fun a4=>?_) (fun a4=>?_)
 ·refine xx 15 _ l.length i 1 (Ints.elem h (k:=i) (by omega)).1 ?_
  refine xl 0 ((Ints.elem (h.below a0) (k:=i) (by omega)).2) ?_
  refine xie 3 x (l.getD i 0) (fun a1=>?_) (fun a1=>?_)
  ·exact xe 12 (V0 (i:Int)) (.inr ⟨Zbq (i:=i) (by omega) (by omega),_,rfl,a0⟩)
  refine xwm 4 ((i:Int)+1) (↑(i+1):Int) ?_
  exact ze 2 (a2 _ _ _ ⟨i+1,rfl,rfl,a0,by omega,fun j hj=>(Nat.lt_or_ge j i).elim (hz j) (fun q=>by obtain rfl:j=i:=(by omega);omega)⟩ (by omega))
 exact xe 11 (V0 (-1)) (.inl ⟨Oy (fun j hj=>hz j (by omega)),rfl,a0⟩)
theorem Zcj(a:O0)(c:Nat)(l:List Int)(x:Int)(w:World)(h:Ints w (.slice a l.length c) l)(hln:l.length≤1000000) :
 C0 279 #[.slice a l.length c,V0 x] w (Ret (.bool (Yt l x)) w):=by
 refine zin 9 Tryz.func279 ?_
 refine xc 9 (args:=#[.slice a l.length c,V0 x]) (indexI a c l x _ (h.below (B3 w)) hln) ?_
 rintro e W1 a1
 rcases a1 with ⟨hz,rfl,a0⟩|⟨hz,i0,rfl,a0⟩
 ·refine xe 5 (.bool false) ?_
  rw[hz];exact⟨rfl,a0⟩
 refine xe 5 (.bool (decide ((i0:Int)≥(0:Int)))) ?_
 rw[hz,show decide ((i0:Int)≥(0:Int))=true from decide_eq_true (by omega)];exact⟨rfl,a0⟩
end Go.Proofs.YtegcamkgeacjfaaGreatDoor
namespace Go.Proofs.YtegcamkgeacjfaaGreatDoor
set_option maxHeartbeats 8000000
set_option maxRecDepth 100000
open Go.RowKit
set_option linter.unusedVariables false
attribute [local go_sem] Oper.semAt_some
def Yn(hi:Int)(l:List Int):List (Int×Int):=(List.range l.length).map (Xr hi l)
def Vr(hi:Int)(l:List Int)(cs:List Value)(x:Fin l.length):List Value :=
 (cs.set (qOf x*2) (V0 (Xr hi l (qOf x)).1)).set (qOf x*2+1) (V0 (Xr hi l (qOf x)).2)
def outC(hi:Int)(l:List Int)(pre:List (Fin l.length)):List Value:=pre.foldl (Vr hi l) (Jk [V0 0,V0 0] l.length)
theorem Zbm(hi:Int)(l:List Int)(pre:List (Fin l.length))(x:Fin l.length):outC hi l (pre++[x])=Vr hi l (outC hi l pre) x:=by simp[outC]
theorem Hs(hi:Int)(l:List Int):∀ (pre:List (Fin l.length)) (cs:List Value),(pre.foldl (Vr hi l) cs).length=cs.length
 | [],_=>rfl
 | x::pre,cs=>by rw[List.foldl_cons,Hs hi l pre];simp[Vr]
theorem Nw(hi:Int)(l:List Int)(pre:List (Fin l.length)):(outC hi l pre).length=l.length*2:=by
 rw[outC,Hs,Wn];rfl
theorem Mf(hi:Int)(l:List Int)(q:Nat)(hq:q<l.length):∀ (pre:List (Fin l.length)) (cs:List Value),cs.length=l.length*2 →
  ((∃ x∈pre,qOf x=q)∨(cs[q*2]? = some (V0 (Xr hi l q).1)∧cs[q*2+1]? = some (V0 (Xr hi l q).2))) →
  (pre.foldl (Vr hi l) cs)[q*2]? = some (V0 (Xr hi l q).1)∧(pre.foldl (Vr hi l) cs)[q*2+1]? = some (V0 (Xr hi l q).2)
 | [],cs,hl,h=>by
  rcases h with ⟨x,hx,_⟩|h
  ·cases hx
  ·exact h
 | x::pre,cs,hl,h=>by
  rw[List.foldl_cons]
  refine Mf hi l q hq pre _ (by simp[Vr,hl]) ?_
  by_cases hx:qOf x=q
  ·subst hx
   refine .inr ⟨?_,?_⟩
   ·simp only[Vr];rw[List.getElem?_set_ne (by omega),List.getElem?_set_self (by omega)]
   ·simp only[Vr];rw[List.getElem?_set_self (by simp;omega)]
  ·rcases h with ⟨y,hy,a0⟩|h
   ·rcases List.mem_cons.1 hy with rfl|hy
    ·exact absurd a0 hx
    ·exact .inl ⟨y,hy,a0⟩
   ·refine .inr ⟨?_,?_⟩
    ·simp only[Vr];rw[List.getElem?_set_ne (by omega),List.getElem?_set_ne (by omega)];exact h.1
    ·simp only[Vr];rw[List.getElem?_set_ne (by omega),List.getElem?_set_ne (by omega)];exact h.2
theorem outC_all(hi:Int)(l:List Int):outC hi l (List.finRange l.length)=Hb (Yn hi l):=by
 have hs:(Yn hi l).length=l.length:=by simp[Yn]
 have hg:∀ q,q<l.length→(Yn hi l)[q]? = some (Xr hi l q):=fun q hq=>by simp[Yn,hq]
 apply List.ext_getElem?
 intro j
 by_cases hj:j<l.length*2
 ·have hq:j/2<l.length:=by omega
  have h:=Mf hi l (j/2) hq (List.finRange l.length) (Jk [V0 0,V0 0] l.length) (by rw[Wn];rfl)
   (.inl ⟨⟨l.length-1-j/2,by omega⟩,by simp,by simp only[qOf];omega⟩)
  by_cases h2:j%2=0
  ·have e:j=j/2*2:=by omega
   rw[e,Us,hg _ hq];exact h.1
  ·have e:j=j/2*2+1:=by omega
   rw[e,Fy,hg _ hq];exact h.2
 ·rw[List.getElem?_eq_none (by rw[Nw];omega),List.getElem?_eq_none (by rw[Wr,hs];omega)]
def Fw(lo hi:Int)(l:List Int):List (Int×Int):=if Qq lo hi l=0 then Yn hi l else []
theorem Tryz.info214:(Tryz.prog.info? 214).map (fun i=>(i.zero,i.size,i.bytes))=some (some (.agg #[V0 0,V0 0]),2,16):=by kernel_rfl
theorem Ro(lo hi:Int)(v:Value)(l:List Int)(w:World)(hlen:l.length≤1000000)(hl:Ints w v l) :
 C0 257 #[spanV lo hi,v] w (Jl (fun w' r=>Pairs w' r (Fw lo hi l)∧(Qq lo hi l=0→∃ g,r=.slice (S1 g) l.length l.length∧w.heap.size≤g∧Blk w' g (Hb (Yn hi l)) 214)) w):=by
 obtain⟨i0,b1,a8,a9,b0⟩:=info_parts Tryz.info214
 have c3:=fun w=>Ly (P:=Tryz.prog) (t:=373) (e:=214) (i:=i0) [V0 0,V0 0] Tryz.underlying373 b1 a8 rfl a9 b0 l.length (by omega) (by omega) w
 clear b1 a8 a9 b0
 unfold spanV
 refine Kf Tryz.func257 rfl ?_
 simp only[Tryz.ntmps257,List.size_toArray,List.length_cons,List.length_nil,Nat.reduceAdd,Nat.reduceSub,Array.replicate_succ,Array.replicate_zero,List.push_toArray,List.append_toArray,List.nil_append,List.cons_append]
 go_wp2_with fail
 refine(Mb lo hi v l _ (hl.below (blx _ _))).mono ?_
 rintro e w' ⟨rfl,hb⟩
 have k0:=Blk.below (Blk.new w [V0 lo,V0 hi] 214) hb
 have hB:B0 w w':=bln (blx _ _) hb
 have a6:=hl.below hB
 have HB:l.length≠0→∀ {b b3 n b4:Nat},v=.slice (some ⟨b,b3,none⟩) n b4→b<w.heap.size:=fun h _ _ _ _ e=>hl.blk h e
 clear hb hl
 obtain⟨a,c,rfl⟩:=a6.slice
 have z0:=k0.lt
 have c7:=k0.cell (i:=0) rfl
 have d0:=k0.cell (i:=1) rfl
 by_cases hf:Qq lo hi l=0
 case neg =>
  have c0:(Qq lo hi l != 0)=true:=by simpa using hf
  have HF:=Lib.hid hf;clear hf
  go_wp2_with fail
  refine⟨_,results_tmp rfl _ _ _,?_⟩
  have e:Fw lo hi l=[]:=by simp[Fw,HF.out]
  rw[e]
  exact⟨_,rfl,hB,.inl ⟨_,_,rfl,rfl,rfl⟩,fun q=>absurd q HF.out⟩
 have c0:(Qq lo hi l != 0)=false:=by simpa using hf
 have HF:=Lib.hid hf;clear hf
 go_wp2_with fail
 refine(Zdx lo hi a l.length c _).mono ?_
 rintro e W1 ⟨rfl,a0⟩
 have hz:w'.heap.size+4=W1.heap.size:=by rw[a0];simp
 have a5:Below w'.heap.size w' W1:=by rw[a0];exact bln (bln (bln (blx _ _) (blx _ _)) (blx _ _)) (blx _ _)
 have s1:W1.cell? ⟨w'.heap.size+1+1,1,none⟩=some (V0 hi):=by rw[a0];simp[go_sem]
 have s2:W1.cell? ⟨w'.heap.size+1+1+1,0,none⟩=some (.slice a l.length c):=by rw[a0];simp[go_sem]
 have m1:Blk W1 w'.heap.size (Jk [V0 0,V0 0] l.length) 214:=by rw[a0];exact(((Blk.new w' _ _).alloc _).alloc _).alloc _
 have m2:Blk W1 (w'.heap.size+1) [.slice (some ⟨w'.heap.size,0,none⟩) l.length l.length] 373:=by
  rw[a0];have:=((Blk.new (w'.alloc (.cells (Jk [V0 0,V0 0] l.length).toArray 214)) [.slice (some ⟨w'.heap.size,0,none⟩) l.length l.length] 373).alloc (.cells #[V0 lo,V0 hi] 214)).alloc (.cells #[.slice a l.length c] 33)
  simpa using this
 have a3:=bln hB a5
 have b9:=a6.below a5
 have b7:=Za0 (w'.heap.size+1+1) (w'.heap.size+1+1+1) (fun b=>b<W1.heap.size∧b≠w'.heap.size) hi (.slice a l.length c) l W1 (fun b h=>h.1) (by omega) (by omega) (by omega) b9 ?hvp s1 s2
 case hvp=>exact fun h b b3 n' b4 e=>by have:=HB h e;have:=a3.size;exact⟨by omega,by omega⟩
 clear a0 s1 s2 c3
 go_wp2_with fail
 refine Im (g:=.tmp 17) (gf:=307) (lb:=#[.pointer (some ⟨w'.heap.size+1+1,0,none⟩),.pointer (some ⟨w'.heap.size+1+1+1,0,none⟩)]) rfl (enters_of Tryz.func307 (by kernel_rfl) rfl) _ (fun b h=>h.1) b7 (fun _=>rfl)
  (fun a1 W=>(Blk W w'.heap.size (outC hi l a1) 214∧Blk W (w'.heap.size+1) [.slice (some ⟨w'.heap.size,0,none⟩) l.length l.length] 373)∧(B0 w W∧W1.heap.size≤W.heap.size))
  (fun _ _ _=>False) ?own (fun _ _ _ _ _ h _ _=>h) ⟨⟨m1,m2⟩,a3,Nat.le_refl _⟩
  (fun x a' W=>∃ Bx,W1.heap.size≤Bx∧Blk W Bx [V0 (Xr hi l (qOf x)).1,V0 (Xr hi l (qOf x)).2] 214 ∧
   a'={ tmps:=#[.agg #[V0 lo,V0 hi],.slice a l.length c,.pointer (some ⟨w.heap.size,0,none⟩),undef,S0,.pointer (some ⟨w'.heap.size+1,0,none⟩),V0 (qOf x:Int),P0 Bx,.agg #[V0 lo,V0 hi],.slice a l.length c,V0 (Qq lo hi l),.bool false,.slice a l.length c,V0 l.length,.slice (some ⟨w'.heap.size,0,none⟩) l.length l.length,.agg #[V0 lo,V0 hi],.slice a l.length c,.func (.func 307) #[] #[.pointer (some ⟨w'.heap.size+1+1,0,none⟩),.pointer (some ⟨w'.heap.size+1+1+1,0,none⟩)],V0 (qOf x:Int),spanV (Xr hi l (qOf x)).1 (Xr hi l (qOf x)).2,undef,undef,undef,undef,undef],defers:=[] }) ?ownax ?assign ?body ?done ?stop
 case own=>exact OwnFrom.and (Own.from (fun s A B c2 hs hg hr=>⟨hs.1.turn hg hr,hs.2.turn hg hr⟩) _) (OwnFrom.and (ownFrom_below (Nat.le_refl _) a3.size) Fv)
 case ownax=>exact fun x a'=>Own.from (fun s A B c2 hs hg hr=>by obtain⟨Bx,h1,h2,h3⟩:=hs;exact⟨Bx,h1,h2.turn hg hr,h3⟩) _
 case assign =>
  rintro lr a1 x W K ⟨⟨h1,h2⟩,a2,a4⟩ hK
  unfold encE
  gi_wp2
  exact hK _ _ ((KeepsOthers.alloc _ _).from _) (Keeps.of_below (blx W _) (fun b hb=>by have:=hb.1;omega)) ⟨⟨h1.alloc _,h2.alloc _⟩,bln a2 (blx _ _),by simp;omega⟩ ⟨W.heap.size,a4,Blk.new W _ _,rfl⟩
 case body =>
  rintro lr a1 x a' W d3 ⟨⟨h1,h2⟩,a2,a4⟩ ⟨Bx,c8,hx,rfl⟩ b2
  have c6:=hx.cell (i:=0) rfl
  have c9:=hx.cell (i:=1) rfl
  have ci:=h2.cell (i:=0) rfl
  have hq:qOf x<l.length:=by have:=x.2;simp only[qOf];omega
  have b6:=Nw hi l a1
  obtain⟨u0,b5⟩:∃ u0,(outC hi l a1)[qOf x*2]? = some u0:=⟨_,List.getElem?_eq_getElem (by omega)⟩
  obtain⟨u1,a7⟩:∃ u1,(outC hi l a1)[qOf x*2+1]? = some u1:=⟨_,List.getElem?_eq_getElem (by omega)⟩
  have c5:=h1.cell b5
  have c4:=h1.cell a7
  have d2:=h1.frozen (qOf x*2)
  have d1:=h1.frozen (qOf x*2+1)
  clear b5 a7 b6
  gi_wp2
  refine⟨((KeepsOthers.setCell _ _ _).trans (KeepsOthers.setCell _ _ _)).from _,((Keeps.refl _ W).setCell (by simp) _).setCell (by simp) _,⟨by rw[Zbm];exact(h1.set _ _).set _ _,(h2.other (by simp) _).other (by simp) _⟩,(a2.setCell (Nat.le_of_lt z0) _).setCell (Nat.le_of_lt z0) _,by simpa [World.setCell] using a4⟩
 case done =>
  rintro D xs W hD rfl ⟨⟨h1,h2⟩,a2,a4⟩ hK
  have ci:=h2.cell (i:=0) rfl
  have b2:D<W.heap.size:=(Array.getElem?_eq_some_iff.1 hK).1
  rw[outC_all] at h1
  have hs:(Yn hi l).length=l.length:=by simp[Yn]
  have hR:Pairs (W.putObj D (.deferred none)) (.slice (some ⟨w'.heap.size,0,none⟩) l.length l.length) (Yn hi l):=by
   have c1:=h1.put hK rfl (.deferred none)
   exact .inr ⟨_,0,l.length,by rw[hs],by omega,by unfold maxLen;omega,fun j x hj=>by rw[Nat.zero_add];exact c1.cell hj⟩
  have HR:=Lib.hid hR
  have b8:=Lib.hid (h1.put hK rfl (.deferred none))
  clear hR h1 hs
  go_wp2_with fail
  refine⟨by simp,.inl ⟨_,_,rfl,run_takeDeferred hK,_,results_tmp rfl _ _ _,?_⟩⟩
  have e:Fw lo hi l=Yn hi l:=by simp[Fw,HF.out]
  rw[e]
  exact⟨_,rfl,Zbt a2 (by have:=a3.size;omega) b2 _,HR.out,fun _=>⟨_,rfl,hB.size,b8.out⟩⟩
 case stop=>exact fun _ _ _ _ _ _ h _=>h.elim
end Go.Proofs.YtegcamkgeacjfaaGreatDoor
