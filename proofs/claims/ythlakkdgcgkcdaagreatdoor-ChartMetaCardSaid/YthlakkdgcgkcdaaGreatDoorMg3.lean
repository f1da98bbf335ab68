/- bits.Read. -/
import Derived.Laws.IdiomStrings
import Derived.Test.YthlakkdgcgkcdaaGreatDoorMg2
namespace Go.Proofs.YthlakkdgcgkcdaaGreatDoor
set_option maxHeartbeats 8000000
set_option maxRecDepth 100000
open Go.RowKit Go.Extern.Stop Go.Stop Go.Extern
set_option linter.unusedVariables false
attribute [local irreducible] wpList wpAnyH Code.wp Oper.wp Go
section
variable {P:Program} {a:Act}
theorem run_shrU8{o:Oper}{t t2:TypeId}{x y:Operand}{n s:Nat}{j:Int}{kj:IntKind}(ho:o.op=.binOp .shr t x y t2)(hx:a.eval x=.int .u8 (n:Int))(hy:a.eval y=.int kj j)(hj:j=(s:Int))(hs:s≤8)(w:World):(execOp a.eval o).run P w=.ok (.value (.int .u8 ((n/2 ^ s:Nat):Int))) w:=by
 subst hj
 have e:=shift_shr_u8 kj (n:Int) (s:Int) (Int.natCast_nonneg s) (by omega)
 simp only[execOp,ho,hx,hy,eqGuard_shr,binOp_shr,e]
 simp
end
theorem Get_okN(a:Option Addr)(n c k w:Nat)(ki wi:Int)(l:List UInt8)(W:World)(hn:l.length=n)(hki:ki=(k:Int))(hwi:wi=(w:Int))(hw:w=1∨w=2∨w=4)(hk:k+w≤n)(hl:n≤100000000)(h:Bys W (.slice a n c) l) :
 Calls Tryz.prog 115 #[.slice a n c,.int .i64 ki,.int .i64 wi] W (Ret (.tuple #[.int .i64 (Zh l k w:Int),.int .i64 0]) W):=by
 subst hn hki hwi;exact Zha a c k w l W (by omega) hk hl h (by have:=Qj l k w (by omega);omega)
def Sv(l:List UInt8)(i:Nat):Nat:=(l.getD (4+i/4) 0).toNat/2 ^ (i%4*2)%4
theorem i64_and3{n:Nat}(h:n<9223372036854775808):IntKind.i64.wrap (↑(BitVec.ofInt 64 (n:Int) &&& BitVec.ofInt 64 (3:Int)).toNat:Int)=((n%4:Nat):Int):=by
 rw[show(3:Int)=((3:Nat):Int) from rfl,BitVec.ofInt_natCast,BitVec.ofInt_natCast,BitVec.toNat_and,BitVec.toNat_ofNat,BitVec.toNat_ofNat,Nat.mod_eq_of_lt (by omega),Nat.mod_eq_of_lt (by omega)]
 rw[show n &&& 3=n%4 from Nat.and_two_pow_sub_one_eq_mod n 2]
 exact Jr (by omega)
theorem Gw(n k:Nat)(hn:n<9223372036854775808)(hk:0<k):IntKind.i64.wrap (Int.tdiv (n:Int) (k:Int))=((n/k:Nat):Int):=by
 rw[Int.tdiv_eq_ediv_of_nonneg (Int.natCast_nonneg _),←Int.natCast_ediv]
 exact Jr (Nat.lt_of_le_of_lt (Nat.div_le_self _ _) hn)
theorem Uu(n k:Nat):Int.tmod (n:Int) (k:Int)=((n%k:Nat):Int):=by
 rw[Int.tmod_eq_emod_of_nonneg (Int.natCast_nonneg _),←Int.natCast_emod]
theorem shr_lt(l:List UInt8)(k s:Nat):(l.getD k 0).toNat/2 ^ s<256:=Nat.lt_of_le_of_lt (Nat.div_le_self _ _) (l.getD k 0).toNat_lt
def Ea(l:List UInt8)(n:Nat):List Nat:=(List.range n).map (Sv l)
theorem Aa(l:List UInt8)(n:Nat):Ea l (n+1)=Ea l n++[Sv l n]:=by simp[Ea,List.range_succ]
def Zg5(l:List UInt8):Prop:=l.length=244∧Zh l 0 4≤960∧∀ i,i<960→Zh l 0 4≤i→Sv l i=0
def BitsP(l:List UInt8)(w:World)(e:Ending)(w':World):Prop :=
 (¬ Zg5 l∧e=.returned (.tuple #[.slice none 0 0,.int .i64 7])∧Below w.heap.size w w') ∨
 (Zg5 l∧∃ p c,e=.returned (.tuple #[.slice p (Zh l 0 4) c,.int .i64 0])∧Below w.heap.size w w'∧w'.ownsRow w.heap.size 3 1 (.slice p (Zh l 0 4) c) (Zh l 0 4) ((Ea l (Zh l 0 4)).map nv))
theorem bits_Read(a:Option Addr)(c:Nat)(l:List UInt8)(w:World)(hl:l.length≤100000000)(h:Bys w (.slice a l.length c) l) :
 Calls Tryz.prog 145 #[.slice a l.length c] w (BitsP l w):=by
 refine zin 47 Tryz.func145 ?_
 refine xin 14 (↑l.length:Int) (244:Int) (fun hc1=>?_) (fun hc1=>?_)
 ·exact xe 8 (.tuple #[.slice none 0 0,.int .i64 7]) (.inl ⟨fun h=>by have:=h.1;omega,rfl,(Below.refl w.heap.size _)⟩)
 refine xr 5 (args:=#[.slice a l.length c,.int .i64 0,.int .i64 4]) (Get_okN a l.length c 0 4 0 4 l _ rfl rfl rfl (by decide) (by omega) hl (h.below (Below.refl w.heap.size _))) fun W2 hb2=>?_
 refine xid 14 ((↑(Zh l 0 4):Int)>(960:Int)) (fun hc3=>?_) (fun hc3=>?_)
 ·exact xe 8 (.tuple #[.slice none 0 0,.int .i64 7]) (.inl ⟨fun h=>by have:=h.2.1;omega,rfl,hb2⟩)
 refine zl 14 47 (fun zm zkv V=>∃ (i m:Nat) (p:Option Addr) (c2:Nat),zkv=[(0,.slice a l.length c),(4,.int .i64 (↑(Zh l 0 4):Int)),(6,.slice p m c2),(19,.int .i64 (↑i:Int))]∧zm=960-((↑i:Int)).toNat∧Below w.heap.size w V∧V.ownsRow w.heap.size 3 1 (.slice p m c2) m ((Ea l m).map nv)∧i≤960∧m=min i (Zh l 0 4)∧(∀ j,j<i→Zh l 0 4≤j→Sv l j=0)) ⟨0,0,_,_,rfl,rfl,hb2,World.ownsRow_nil _ _ _ _,Nat.zero_le _,by omega,?_⟩ ?_
 ·exact fun j hj=>absurd hj (by omega)
 rintro _ _ W4 ⟨i,m,p,c2,rfl,rfl,hB_4,ho,hi,hm,hz⟩ J4 hJ4 r4
 refine xid 6 ((↑i:Int)<(960:Int)) (fun hc5=>?_) (fun hc5=>?_)
 ·refine xq 14 (congrArg (Value.int .i64) (show(IntKind.i64.wrap (Int.tdiv (↑i:Int) 4):Int)=(↑(i/4):Int) from Gw i 4 (by omega) (by decide))) ?_
  refine xwm 0 (4+(↑(i/4):Int)) (↑(4+(i/4)):Int) ?_
  refine xx 0 _ l.length (4+(i/4)) 1 (Bys.elem h (k:=(4+(i/4))) (by omega)).1 ?_
  refine xl 0 ((Bys.elem (h.below hB_4) (k:=(4+(i/4))) (by omega)).2) ?_
  refine xq 1 (congrArg (Value.int .i64) (show(Int.tmod (↑i:Int) 4:Int)=(↑(i%4):Int) from Uu i 4)) ?_
  refine xwm 0 ((↑(i%4):Int)*2) (↑((i%4)*2):Int) ?_
  refine xbo 0 (t:=5) (t2:=3) (fun _ _ _ _ zo zx zy V hV=>run_shrU8 (n:=((l.getD (4+(i/4)) 0).toNat)) (s:=((i%4)*2)) (kj:=.i64) (j:=(↑((i%4)*2):Int)) zo zx zy rfl (by omega) V) ?_
  refine xq 0 (congrArg (Value.int .i64) (show(IntKind.i64.wrap (↑((l.getD (4+(i/4)) 0).toNat/2 ^ ((i%4)*2)):Int):Int)=(↑((l.getD (4+(i/4)) 0).toNat/2 ^ ((i%4)*2)):Int) from Jr (by have:=shr_lt l (4+i/4) (i%4*2);omega))) ?_
  refine xq 0 (congrArg (Value.int .i64) (show(IntKind.i64.wrap (↑(BitVec.ofInt 64 (↑((l.getD (4+(i/4)) 0).toNat/2 ^ ((i%4)*2)):Int) &&& BitVec.ofInt 64 (3:Int)).toNat:Int):Int)=(↑(Sv l i):Int) from i64_and3 (by have:=shr_lt l (4+i/4) (i%4*2);omega))) ?_
  refine xid 12 ((↑i:Int)<(↑(Zh l 0 4):Int)) (fun hc6=>?_) (fun hc6=>?_)
  ·refine xbs 3 1 [.int .i64 (↑(Sv l i):Int)] 3 fun b7 W7 n7=>?_
   have g7:=n7.ge hB_4
   have r7_ho:=Zu ho n7
   have ho'1:=Zb ho n7.below
   have hB'1:=bln hB_4 n7.below
   refine xbi 0 fun _ _ _ _ zJ zQ zo zx zy zK=>Zp (m:=1) (news:=[.int .i64 (↑(Sv l i):Int)]) (.int .i64 0) 1 8 (m+1) ((Ea l (m+1)).map nv) zo Tryz.underlying30 (by kernel_rfl) rfl (by decide) zx ho'1 zy (n7.blk.sl 1 1 (by decide) (by decide)) rfl (by simp[Value.oneCell']) (by unfold maxLen;omega) (by omega) hB'1.size (by rfl) (by rw[Aa,List.map_append,show m=i by omega];rfl) fun px8 cx8 W8 o8 hg8 hb8=>?_
   refine zK _ _ ?_
   refine xwm 6 ((↑i:Int)+1) (↑(i+1):Int) ?_
   have hB'2:=hB'1.trans hb8
   exact ze 2 (hJ4 _ _ _ ⟨i+1,m+1,_,_,rfl,rfl,hB'2,o8,by omega,by omega,fun j hj hc=>(Nat.lt_or_ge j i).elim (fun q=>hz j q hc) (fun q=>by obtain rfl:j=i:=(by omega);omega)⟩ (by omega))
  refine xin 7 (↑(Sv l i):Int) (0:Int) (fun hc9=>?_) (fun hc9=>?_)
  ·exact xe 13 (.tuple #[.slice none 0 0,.int .i64 7]) (.inl ⟨fun h=>by have:=h.2.2 i (by omega) (by omega);omega,rfl,hB_4⟩)
  refine xwm 5 ((↑i:Int)+1) (↑(i+1):Int) ?_
  exact ze 2 (hJ4 _ _ _ ⟨i+1,m,_,_,rfl,rfl,hB_4,ho,by omega,by omega,fun j hj hc=>(Nat.lt_or_ge j i).elim (fun q=>hz j q hc) (fun q=>by obtain rfl:j=i:=(by omega);omega)⟩ (by omega))
 refine xe 13 (.tuple #[.slice p m c2,.int .i64 0]) ?_
 obtain rfl:m=Zh l 0 4:=by omega
 exact .inr ⟨⟨by omega,by omega,fun j hj hc=>hz j (by omega) hc⟩,_,_,rfl,hB_4,ho⟩
end Go.Proofs.YthlakkdgcgkcdaaGreatDoor
namespace Go.Proofs.YthlakkdgcgkcdaaGreatDoor
set_option maxHeartbeats 8000000
set_option maxRecDepth 100000
open Go.RowKit
theorem Blk.ty{w:World}{b:Nat}{cs cs':List Value}{t t':TypeId}(k:Blk w b cs t)(q:Blk w b cs' t'):t=t':=by
 have h1:w.heap[b]? = some (.cells cs.toArray t (0,0)):=k
 have h2:w.heap[b]? = some (.cells cs'.toArray t' (0,0)):=q
 rw[h1] at h2
 simp only[Option.some.injEq,Obj.cells.injEq] at h2
 exact h2.2.1
theorem Ja.upd{w W:World}{b:Nat}{cs:List Value}{t:TypeId}{l:List (Option Int)}{c:Option Int}{v:Value}(h:Ja w l c v)(u:Upd w b W)(k:Blk w b cs t)(hne:t≠125):Ja W l c v :=
 h.kept fun _ _ q=>u.blk q (by rintro rfl;exact hne (k.ty q))
theorem Ja.grown{w W:World}{e:TypeId}{base size n:Nat}{s:Value}{xs:List Value}{l:List (Option Int)}{c:Option Int}{v:Value}(h:Ja w l c v)(hg:w.grownBy W s.ownBlock)(hown:w.ownsRow base e size s n xs)(hne:e≠125):Ja W l c v :=
 h.kept fun _ _ q=>q.grown hg hown hne
theorem Ja.only{T:List TypeId}{w W:World}{l:List (Option Int)}{c:Option Int}{v:Value}(h:Ja w l c v)(k:Ze T w W)(hne:T.contains 125=false):Ja W l c v:=h.kept fun _ _ q=>q.only k hne
end Go.Proofs.YthlakkdgcgkcdaaGreatDoor
namespace Go.Proofs.YthlakkdgcgkcdaaGreatDoor
set_option maxHeartbeats 8000000
set_option maxRecDepth 100000
open Go.RowKit Go.Extern.Stop Go.Stop Go.Extern
set_option linter.unusedVariables false
attribute [local irreducible] wpList wpAnyH Code.wp Oper.wp Go
structure ImgR(B b:Nat)(p:Option Addr)(n c:Nat)(l:List UInt8)(w:World):Prop where
 blk:Blk w b [.slice p n c] 56
 row:w.ownsRow B 5 1 (.slice p n c) n (l.map bv)
 hn:n≤3686400
theorem ImgR.below{B b:Nat}{p:Option Addr}{n c:Nat}{l:List UInt8}{w W:World}(h:ImgR B b p n c l w)(hb:Below w.heap.size w W):ImgR B b p n c l W:=⟨h.blk.below hb,Zb h.row hb,h.hn⟩
theorem ImgR.only{B b:Nat}{p:Option Addr}{n c:Nat}{l:List UInt8}{w W:World}{T:List TypeId}(h:ImgR B b p n c l w)(hO:Ze T w W)(hT:T.contains 56=false∧T.contains 5=false):ImgR B b p n c l W:=⟨h.blk.only hO hT.1,Zl h.row hO hT.2,h.hn⟩
theorem ImgR.len{B b:Nat}{p:Option Addr}{n c:Nat}{l:List UInt8}{w:World}(h:ImgR B b p n c l w):l.length=n:=by have:=h.row.1;simpa using this
theorem ImgR.base{B b:Nat}{p:Option Addr}{n c:Nat}{l:List UInt8}{w:World}(h:ImgR B b p n c l w)(hn:0<n):∃ g,p=some ⟨g,0,none⟩∧n≤c:=by
 rcases h.row.2 with ⟨_,h0⟩|⟨g,cap,cur,hv,_,_,hc,_⟩
 ·omega
 ·simp only[Value.slice.injEq] at hv
  obtain⟨rfl,_,rfl⟩:=hv
  exact⟨g,rfl,hc⟩
def Vy(l:List UInt8)(j:Nat):List UInt8:=(l.drop (j*256)).take 256
theorem Vw{l:List UInt8}{j:Nat}(h:j<l.length/256):(Vy l j).length=256:=by simp[Vy];omega
theorem Bys.mid{w:World}{g off n c:Nat}{l:List UInt8}(h:Bys w (.slice (some ⟨g,off,none⟩) n c) l)(hl:l.length=n)(k m:Nat)(hm:0<m)(hk:k+m≤n):Bys w (.slice (some ⟨g,off+k,none⟩) m m) ((l.drop k).take m):=by
 have hlen:((l.drop k).take m).length=m:=by simp;omega
 rcases h with ⟨a',c',h1,h2,h3⟩|⟨g',off',cap,h1,h2,h3,h4⟩
 ·omega
 ·simp only[Value.slice.injEq,Option.some.injEq,Addr.mk.injEq] at h1
  obtain⟨⟨rfl,rfl,_⟩,_,rfl⟩:=h1
  refine .inr ⟨g,off+k,m,by rw[hlen],by omega,by omega,fun j x hj=>?_⟩
  rw[List.getElem?_map,List.getElem?_take] at hj
  split at hj
  ·rw[List.getElem?_drop] at hj
   have:=h4 (k+j) x (by rw[List.getElem?_map];exact hj)
   rwa [←Nat.add_assoc] at this
  ·cases hj
theorem ImgR.part{B b g:Nat}{n c:Nat}{l:List UInt8}{w:World}(h:ImgR B b (some ⟨g,0,none⟩) n c l w){j:Nat}(hj:j<n/256):Bys w (.slice (some ⟨g,j*256,none⟩) 256 256) (Vy l j):=by
 have:=Bys.mid (Qk (Zf h.row) h.len) h.len (j*256) 256 (by decide) (by omega)
 rwa [Nat.zero_add] at this
def ReadP(n:Nat)(l:List UInt8)(k:Int)(w:World)(e:Ending)(w':World):Prop :=
 (¬ (0≤k∧k<(n/256:Nat))∧∃ v,e=.returned (.tuple #[v,.int .i64 3])∧Below w.heap.size w w') ∨
 (∃ j:Nat,k=(j:Int)∧j<n/256∧∃ p c,e=.returned (.tuple #[.slice p 256 c,.int .i64 0])∧Below w.heap.size w w'∧w'.ownsRow w.heap.size 5 1 (.slice p 256 c) 256 ((Vy l j).map bv))
theorem Fw(b:Nat)(p:Option Addr)(n c:Nat)(k:Int)(w:World)(hk:Blk w b [.slice p n c] 56)(hn:n≤100000000)(ho:¬ (0≤k∧k<(n/256:Nat))) :
 Calls Tryz.prog 157 #[.pointer (some ⟨b,0,none⟩),.int .i64 k] w (Ret (.tuple #[.slice none 0 0,.int .i64 3]) w):=by
 refine zin 33 Tryz.func157 ?_
 refine xg 21 [13,14] (decide (k<(0:Int))) (fun hc1=>?_) (fun hc1=>?_)
 ·have hc1:=of_decide_eq_true hc1
  exact xe 18 (.tuple #[.slice none 0 0,.int .i64 3]) ⟨rfl,(Below.refl w.heap.size _)⟩
 have hc1:=of_decide_eq_false hc1
 refine xr 2 (args:=#[.pointer (some ⟨b,0,none⟩)]) (Gy b _ n c _ (hk.below (Below.refl w.heap.size _)) hn) fun W2 hb2=>?_
 refine xk 5 (show(decide (k≥(↑(n/256):Int)):Bool)=true from decide_eq_true (by omega)) ?_
 exact xe 9 (.tuple #[.slice none 0 0,.int .i64 3]) ⟨rfl,hb2⟩
theorem Tj(B b:Nat)(p:Option Addr)(n c:Nat)(l:List UInt8)(k:Int)(w:World)(hI:ImgR B b p n c l w)(ho:¬ (0≤k∧k<(n/256:Nat))) :
 Calls Tryz.prog 112 #[.pointer (some ⟨b,0,none⟩),.int .i64 k] w (Vn (fun _ r=>∃ v,r=.tuple #[v,.int .i64 3]) w):=by
 refine zin 17 Tryz.func112 ?_
 refine xr 10 (args:=#[.pointer (some ⟨b,0,none⟩),.int .i64 k]) (Fw b p n c k _ (hI.below (Below.refl w.heap.size _)).blk (by have:=hI.hn;omega) ho) fun W1 hb1=>?_
 refine xc 10 (args:=#[.slice none 0 0]) (Za6 0 _) ?_
 rintro _ W2 ⟨v2,rfl,hb2,_⟩
 have hB:=bln hb1 hb2
 exact xe 6 (.tuple #[v2,.int .i64 3]) ⟨_,rfl,hB,_,rfl⟩
theorem Zaq(B b g:Nat)(n c:Nat)(l:List UInt8)(j:Nat)(w:World)(hI:ImgR B b (some ⟨g,0,none⟩) n c l w)(hj:j<n/256)(hc:n≤c) :
 Calls Tryz.prog 112 #[.pointer (some ⟨b,0,none⟩),.int .i64 (↑j:Int)] w (Vn (fun w' r=>∃ p2 c3,r=.tuple #[.slice p2 256 c3,.int .i64 0]∧w'.ownsRow w.heap.size 5 1 (.slice p2 256 c3) 256 ((Vy l j).map bv)) w):=by
 have hlj:=Vw (l:=l) (j:=j) (by rw[hI.len];exact hj)
 refine zin 17 Tryz.func112 ?_
 refine xr 10 (args:=#[.pointer (some ⟨b,0,none⟩),.int .i64 (↑j:Int)]) (Rx b g n c j _ (hI.below (Below.refl w.heap.size _)).blk (by have:=hI.hn;omega) hc hj) fun W1 hb1=>?_
 refine xc 10 (args:=#[.slice (some ⟨g,(j*256),none⟩) 256 256]) (Vl (some ⟨g,(j*256),none⟩) 256 256 (Vy l j) _ hlj ((hI.below hb1).part hj) (by decide)) ?_
 rintro _ W2 ⟨_,rfl,hb2,ho⟩
 have ho'1:=Zd ho hb1.size
 unfold Mf at ho'1
 rw[hlj] at ho'1
 obtain⟨p2,c3,rfl⟩:=(Zf ho'1).slice
 have hB'1:=bln hb1 hb2
 exact xe 6 (.tuple #[.slice p2 256 c3,.int .i64 0]) ⟨_,rfl,hB'1,_,_,rfl,ho'1⟩
theorem Bv(B b:Nat)(p:Option Addr)(n c:Nat)(l:List UInt8)(k:Int)(w:World)(hI:ImgR B b p n c l w) :
 Calls Tryz.prog 112 #[.pointer (some ⟨b,0,none⟩),.int .i64 k] w (ReadP n l k w):=by
 by_cases h:0≤k∧k<(n/256:Nat)
 ·obtain⟨g,rfl,hc⟩:=hI.base (by omega)
  obtain⟨j,rfl⟩:∃ j:Nat,k=j:=⟨k.toNat,by omega⟩
  refine(Zaq B b g n c l j w hI (by omega) hc).mono ?_
  rintro e W ⟨_,rfl,hb,p2,c3,rfl,ho⟩
  exact .inr ⟨j,rfl,by omega,_,_,rfl,hb,ho⟩
 ·refine(Tj B b p n c l k w hI h).mono ?_
  rintro e W ⟨_,rfl,hb,v,rfl⟩
  exact .inl ⟨h,_,rfl,hb⟩
def inE (l:List UInt8)(kind no:Int):Int:=if 0≤no∧no<(l.length/256:Nat) then Ye kind no (Vy l no.toNat) else 3
def inB (l:List UInt8)(no:Int):List UInt8:=((Vy l no.toNat).drop 8).take 244
theorem Sb{l:List UInt8}{kind no:Int}{n:Nat}(hl:l.length=n)(h:¬ (0≤no∧no<(n/256:Nat))):inE l kind no=3:=by subst hl;exact if_neg h
theorem Of{l:List UInt8}{kind no:Int}{n j:Nat}(hl:l.length=n)(hk:no=(j:Int))(h:j<n/256):inE l kind no=Ye kind no (Vy l j):=by
 subst hl hk;rw[inE,if_pos ⟨by omega,by omega⟩];rfl
theorem Iz{l:List UInt8}{no:Int}{j:Nat}(hk:no=(j:Int)):inB l no=((Vy l j).drop 8).take 244:=by subst hk;rfl
theorem Zeu{l:List UInt8}{no:Int}{n j:Nat}(hl:l.length=n)(hk:no=(j:Int))(h:j<n/256):(inB l no).length=244:=by
 subst hl hk;have:=Vw h;simp[inB,this]
theorem Ak(kind no:Int)(a:Option Addr)(n c:Nat)(l:List UInt8)(w:World)(hn:l.length=n)(h:Bys w (.slice a n c) l):Calls Tryz.prog 114 #[.slice a n c,.int .i64 kind,.int .i64 no] w (OpenP kind no l w):=by
 subst hn;exact Za5 kind no a c l w h
def Qp(l:List UInt8)(tree:Int):Int:=if Yv l=0 then(if tree=0∨Xr l=tree then 0 else 6) else Yv l
def Xc(l:List UInt8)(no tree:Int):Int:=if inE l 2 no=0 then Qp (inB l no) tree else inE l 2 no
def Node1P(l:List UInt8)(tree:Int)(w:World)(e:Ending)(w':World):Prop :=
 (Qp l tree≠0∧∃ a b kp n1 kc vp n2 vc,e=.returned (.tuple #[.agg #[.int .i64 a,.bool b,.slice kp n1 kc,.slice vp n2 vc],.int .i64 (Qp l tree)])∧Below w.heap.size w w') ∨
 (Qp l tree=0∧∃ kp kc vp vc,e=.returned (.tuple #[.agg #[.int .i64 (Xr l),.bool (Xl l),.slice kp (Zn l) kc,.slice vp (Zn l) vc],.int .i64 0])∧Below w.heap.size w w' ∧
  w'.ownsRow w.heap.size 3 1 (.slice kp (Zn l) kc) (Zn l) ((Yx l (Zn l)).map (Value.int .i64))∧w'.ownsRow w.heap.size 9 1 (.slice vp (Zn l) vc) (Zn l) ((Kw l (Zn l)).map sv))
def Zgr(l:List UInt8)(no tree:Int)(w:World)(e:Ending)(w':World):Prop :=
 (Xc l no tree≠0∧∃ b,e=.returned (.tuple #[.agg #[.int .i64 0,.bool false,.slice none 0 0,.slice none 0 0],.iface 123 (.pointer (some ⟨b,0,none⟩))])∧Below w.heap.size w w'∧Ja w' [some no] (some (Xc l no tree)) (.iface 123 (.pointer (some ⟨b,0,none⟩)))) ∨
 (Xc l no tree=0∧∃ kp kc vp vc,e=.returned (.tuple #[.agg #[.int .i64 (Xr (inB l no)),.bool (Xl (inB l no)),.slice kp (Zn (inB l no)) kc,.slice vp (Zn (inB l no)) vc],.nilIface])∧Below w.heap.size w w' ∧
  w'.ownsRow w.heap.size 3 1 (.slice kp (Zn (inB l no)) kc) (Zn (inB l no)) ((Yx (inB l no) (Zn (inB l no))).map (Value.int .i64))∧w'.ownsRow w.heap.size 9 1 (.slice vp (Zn (inB l no)) vc) (Zn (inB l no)) ((Kw (inB l no) (Zn (inB l no))).map sv))
theorem node_1(tree:Int)(bt:Nat)(a:Option Addr)(c:Nat)(l:List UInt8)(w:World)(kt:Blk w bt [.int .i64 tree] 3)(hl:l.length=244)(h:Bys w (.slice a 244 c) l) :
 Calls Tryz.prog 206 #[.slice a 244 c,.pointer (some ⟨bt,0,none⟩)] w (Node1P l tree w):=by
 refine zin 27 Tryz.func206 ?_
 refine xa 2 [.int .i64 0,.bool false,.slice none 0 0,.slice none 0 0] 188 fun b1 W1 n1=>?_
 refine xc 6 (args:=#[.slice a 244 c]) (node_Read a c l _ hl (h.below n1.below)) ?_
 rintro e W2 hq2
 rcases hq2 with ⟨hz,rfl,hb2⟩|⟨hz,kp,kc,vp,vc,rfl,hb2,hk,hv_⟩
 ·refine xa 3 [.int .i64 0,.bool false,.slice none 0 0,.slice none 0 0] 188 fun b3 W3 n3=>?_
  have k1:=n1.blk.below hb2
  have d3_b1:=n3.ne k1
  have hB'1:=bln n1.below hb2
  have g3:=n3.ge hB'1
  refine xsv 0 n3.blk [.int .i64 0,.bool false,.slice none 0 0,.slice none 0 0] fun W4 u4 k4=>?_
  refine xgk 9 [13,14] (show(((Yv l)==(0:Int)):Bool)=false from beq_false_of_ne hz) ?_
  refine xlv 16 k4.rp ?_
  have k1'1:=u4.blk (k1.below n3.below) (Ne.symm (Ne.symm d3_b1))
  refine xsv 1 k1'1 [.int .i64 0,.bool false,.slice none 0 0,.slice none 0 0] fun W6 u6 k6=>?_
  have g1:=n1.ge (Below.refl w.heap.size _)
  have hB'2:=u6.below (u4.below (bln hB'1 n3.below) g3) g1
  exact xec 4 k6 (.tuple #[.agg #[.int .i64 0,.bool false,.slice none 0 0,.slice none 0 0],.int .i64 (Yv l)]) (.inl ⟨by unfold Qp;rw[if_neg hz];exact hz,_,_,_,_,_,_,_,_,by unfold Qp;rw[if_neg hz],hB'2⟩)
 refine xa 3 [.int .i64 0,.bool false,.slice none 0 0,.slice none 0 0] 188 fun b7 W7 n7=>?_
 have k1:=n1.blk.below hb2
 have d7_b1:=n7.ne k1
 have hB'3:=bln n1.below hb2
 have g7:=n7.ge hB'3
 refine xsv 0 n7.blk [.int .i64 (Xr l),.bool (Xl l),.slice kp (Zn l) kc,.slice vp (Zn l) vc] fun W8 u8 k8=>?_
 have kt'1:=u8.blkT (((kt.below n1.below).below hb2).below n7.below) n7.blk (by decide)
 refine xb 9 0 kt'1 ?_
 refine xg 3 [16,17,18] (tree != (0:Int)) (fun hc9=>?_) (fun hc9=>?_)
 ·have hc9:=Qx hc9
  refine xb 1 0 k8 ?_
  refine xb 0 0 kt'1 ?_
  refine xin 4 (Xr l) tree (fun hc10=>?_) (fun hc10=>?_)
  ·refine xlv 2 k8.rp ?_
   have k1'2:=u8.blk (k1.below n7.below) (Ne.symm (Ne.symm d7_b1))
   refine xsv 0 k1'2 [.int .i64 (Xr l),.bool (Xl l),.slice kp (Zn l) kc,.slice vp (Zn l) vc] fun W11 u11 k11=>?_
   have g1:=n1.ge (Below.refl w.heap.size _)
   have hB'4:=u11.below (u8.below (bln hB'3 n7.below) g7) g1
   exact xec 5 k11 (.tuple #[.agg #[.int .i64 (Xr l),.bool (Xl l),.slice kp (Zn l) kc,.slice vp (Zn l) vc],.int .i64 6]) (.inl ⟨by unfold Qp;rw[if_pos hz,if_neg (by omega)];decide,_,_,_,_,_,_,_,_,by unfold Qp;rw[if_pos hz,if_neg (by omega)],hB'4⟩)
  refine xlv 4 k8.rp ?_
  have k1'3:=u8.blk (k1.below n7.below) (Ne.symm (Ne.symm d7_b1))
  refine xsv 1 k1'3 [.int .i64 (Xr l),.bool (Xl l),.slice kp (Zn l) kc,.slice vp (Zn l) vc] fun W12 u12 k12=>?_
  have g1:=n1.ge (Below.refl w.heap.size _)
  have hB'5:=u12.below (u8.below (bln hB'3 n7.below) g7) g1
  have hk'1:=u12.own2 (u8.own2 (Zb (Zd hk n1.below.size) n7.below) n7.blk (by decide)) k1'3 (by decide)
  have hv_'1:=u12.own2 (u8.own2 (Zb (Zd hv_ n1.below.size) n7.below) n7.blk (by decide)) k1'3 (by decide)
  exact xec 4 k12 (.tuple #[.agg #[.int .i64 (Xr l),.bool (Xl l),.slice kp (Zn l) kc,.slice vp (Zn l) vc],.int .i64 0]) (.inr ⟨by unfold Qp;rw[if_pos hz,if_pos (by omega)],_,_,_,_,rfl,hB'5,hk'1,hv_'1⟩)
 have hc9:=Xk hc9
 refine xlv 12 k8.rp ?_
 have k1'4:=u8.blk (k1.below n7.below) (Ne.symm (Ne.symm d7_b1))
 refine xsv 1 k1'4 [.int .i64 (Xr l),.bool (Xl l),.slice kp (Zn l) kc,.slice vp (Zn l) vc] fun W13 u13 k13=>?_
 have g1:=n1.ge (Below.refl w.heap.size _)
 have hB'6:=u13.below (u8.below (bln hB'3 n7.below) g7) g1
 have hk'2:=u13.own2 (u8.own2 (Zb (Zd hk n1.below.size) n7.below) n7.blk (by decide)) k1'4 (by decide)
 have hv_'2:=u13.own2 (u8.own2 (Zb (Zd hv_ n1.below.size) n7.below) n7.blk (by decide)) k1'4 (by decide)
 exact xec 4 k13 (.tuple #[.agg #[.int .i64 (Xr l),.bool (Xl l),.slice kp (Zn l) kc,.slice vp (Zn l) vc],.int .i64 0]) (.inr ⟨by unfold Qp;rw[if_pos hz,if_pos (by omega)],_,_,_,_,rfl,hB'6,hk'2,hv_'2⟩)
theorem readNode(B b:Nat)(p:Option Addr)(n c:Nat)(l:List UInt8)(no tree:Int)(w:World)(hI:ImgR B b p n c l w)(bt:Nat)(kt:Blk w bt [.int .i64 tree] 3) :
 Calls Tryz.prog 205 #[.pointer (some ⟨b,0,none⟩),.int .i64 no,.int .i64 2,.func (.func 206) #[] #[.pointer (some ⟨bt,0,none⟩)]] w (Zgr l no tree w):=by
 refine zin 56 Tryz.func205 ?_
 refine xa 2 [.int .i64 0,.bool false,.slice none 0 0,.slice none 0 0] 188 fun b1 W1 n1=>?_
 refine xa 5 [.int .i64 0,.bool false,.slice none 0 0,.slice none 0 0] 188 fun b2 W2 n2=>?_
 have d2_b1:=n2.ne n1.blk
 have hB:=bln n1.below n2.below
 refine xc 6 (args:=#[.pointer (some ⟨b,0,none⟩),.int .i64 no]) (Bv B b p n c l no _ (hI.below hB)) ?_
 rintro e W3 hq3
 rcases hq3 with ⟨ho,vr,rfl,hb3⟩|⟨j,hk,hj,p2,c2,rfl,hb3,ho⟩
 ·refine xd 16 (.t w.heap.size [188]) ?_
  refine xm2 (.b [1,2,3]) 0 4 ?_ ?_
  ·have k2:=(n2.blk.below hb3).below (Za W3)
   refine xlv 0 k2.rp ?_
   refine yc (.o [] 4) (args:=#[.int .i64 no,.iface 51 (.int .i64 3)]) (.t w.heap.size [188]) (Yo no 3 _) ?_
   rintro _ W4 ⟨_,rfl,hb4,hv4⟩
   refine⟨(SF.of_below _ hb4),?_⟩
   rw[if_neg (by decide),if_neg (by decide)] at hv4
   have hq4:=hv4
   obtain⟨bf4,vf4,rfl,_,_⟩:=hq4
   have k1'1:=(((n1.blk.below n2.below).below hb3).below (Za W3)).below hb4
   have g1:=n1.ge (Below.refl w.heap.size _)
   refine ysv (.o [] 5) k1'1 [.int .i64 0,.bool false,.slice none 0 0,.slice none 0 0] (.t w.heap.size [188]) fun W5 u5 k5=>⟨(Zi u5 k1'1 g1 (by decide)),?_⟩
   have hB'1:=u5.below (bln (bln (bln hB hb3) (Za W3)) hb4) g1
   have hv4'1:=hv4.upd u5 k1'1 (by decide)
   refine xec (.r [6] 4) k5 (.tuple #[.agg #[.int .i64 0,.bool false,.slice none 0 0,.slice none 0 0],.iface 123 (.pointer (some ⟨bf4,0,none⟩))]) ?_
   have he:Xc l no tree=3:=by unfold Xc;rw[Sb hI.len ho];rfl
   exact .inl ⟨by rw[he];decide,_,rfl,hB'1,by rw[he];exact hv4'1⟩
  refine yc 0 (args:=#[.int .i64 no,.iface 51 (.int .i64 3)]) (.t w.heap.size [188]) (Yo no 3 _) ?_
  rintro _ W6 ⟨_,rfl,hb6,hv6⟩
  refine⟨(SF.of_below _ hb6),?_⟩
  rw[if_neg (by decide),if_neg (by decide)] at hv6
  have hq6:=hv6
  obtain⟨bf6,vf6,rfl,_,_⟩:=hq6
  have k2:=((n2.blk.below hb3).below (Za W3)).below hb6
  refine xlv (.o [] 0) k2.rp ?_
  have k1'2:=(((n1.blk.below n2.below).below hb3).below (Za W3)).below hb6
  have g1:=n1.ge (Below.refl w.heap.size _)
  refine ysv (.o [] 5) k1'2 [.int .i64 0,.bool false,.slice none 0 0,.slice none 0 0] (.t w.heap.size [188]) fun W7 u7 k7=>⟨(Zi u7 k1'2 g1 (by decide)),?_⟩
  have hB'2:=u7.below (bln (bln (bln hB hb3) (Za W3)) hb6) g1
  have hv6'1:=hv6.upd u7 k1'2 (by decide)
  refine xec (.r [6] 4) k7 (.tuple #[.agg #[.int .i64 0,.bool false,.slice none 0 0,.slice none 0 0],.iface 123 (.pointer (some ⟨bf6,0,none⟩))]) ?_
  have he:Xc l no tree=3:=by unfold Xc;rw[Sb hI.len ho];rfl
  exact .inl ⟨by rw[he];decide,_,rfl,hB'2,by rw[he];exact hv6'1⟩
 have hs3:=(bln n1.below n2.below).size
 have hj2:j<l.length/256:=by rw[hI.len];exact hj
 have hlj:=Vw hj2
 have he2:=Of (l:=l) (kind:=2) hI.len hk hj
 have ho'1:=Zd ho hs3
 refine xc 22 (args:=#[.slice p2 256 c2,.int .i64 2,.int .i64 no]) (Ak 2 no p2 256 c2 (Vy l j) _ hlj (Qk (Zf ho'1) hlj)) ?_
 rintro e W8 hq8
 rcases hq8 with ⟨hs,rfl,hb8⟩|⟨hs,p3,c3,rfl,hb8,h3⟩
 ·refine xk 14 (show(((Ye 2 no (Vy l j)) != (0:Int)):Bool)=true from bne_iff_ne.2 hs) ?_
  refine xd 1 (.t w.heap.size [188]) ?_
  refine xm2 (.b [1,2,3]) 0 4 ?_ ?_
  ·have k2:=((n2.blk.below hb3).below hb8).below (Za W8)
   refine xlv 0 k2.rp ?_
   refine yc (.o [] 4) (args:=#[.int .i64 no,.iface 51 (.int .i64 (Ye 2 no (Vy l j)))]) (.t w.heap.size [188]) (Yo no (Ye 2 no (Vy l j)) _) ?_
   rintro _ W9 ⟨_,rfl,hb9,hv9⟩
   refine⟨(SF.of_below _ hb9),?_⟩
   rw[if_neg hs,if_neg hs] at hv9
   have hq9:=hv9
   obtain⟨bf9,vf9,rfl,_,_⟩:=hq9
   have k1'3:=((((n1.blk.below n2.below).below hb3).below hb8).below (Za W8)).below hb9
   have g1:=n1.ge (Below.refl w.heap.size _)
   refine ysv (.o [] 5) k1'3 [.int .i64 0,.bool false,.slice none 0 0,.slice none 0 0] (.t w.heap.size [188]) fun W10 u10 k10=>⟨(Zi u10 k1'3 g1 (by decide)),?_⟩
   have hB'3:=u10.below (bln (bln (bln (bln hB hb3) hb8) (Za W8)) hb9) g1
   have hv9'1:=hv9.upd u10 k1'3 (by decide)
   refine xec (.r [6] 4) k10 (.tuple #[.agg #[.int .i64 0,.bool false,.slice none 0 0,.slice none 0 0],.iface 123 (.pointer (some ⟨bf9,0,none⟩))]) ?_
   have he:Xc l no tree=Ye 2 no (Vy l j):=by unfold Xc;rw[he2,if_neg hs]
   exact .inl ⟨by rw[he];exact hs,_,rfl,hB'3,by rw[he];exact hv9'1⟩
  refine yc 0 (args:=#[.int .i64 no,.iface 51 (.int .i64 (Ye 2 no (Vy l j)))]) (.t w.heap.size [188]) (Yo no (Ye 2 no (Vy l j)) _) ?_
  rintro _ W11 ⟨_,rfl,hb11,hv11⟩
  refine⟨(SF.of_below _ hb11),?_⟩
  rw[if_neg hs,if_neg hs] at hv11
  have hq11:=hv11
  obtain⟨bf11,vf11,rfl,_,_⟩:=hq11
  have k2:=(((n2.blk.below hb3).below hb8).below (Za W8)).below hb11
  refine xlv (.o [] 0) k2.rp ?_
  have k1'4:=((((n1.blk.below n2.below).below hb3).below hb8).below (Za W8)).below hb11
  have g1:=n1.ge (Below.refl w.heap.size _)
  refine ysv (.o [] 5) k1'4 [.int .i64 0,.bool false,.slice none 0 0,.slice none 0 0] (.t w.heap.size [188]) fun W12 u12 k12=>⟨(Zi u12 k1'4 g1 (by decide)),?_⟩
  have hB'4:=u12.below (bln (bln (bln (bln hB hb3) hb8) (Za W8)) hb11) g1
  have hv11'1:=hv11.upd u12 k1'4 (by decide)
  refine xec (.r [6] 4) k12 (.tuple #[.agg #[.int .i64 0,.bool false,.slice none 0 0,.slice none 0 0],.iface 123 (.pointer (some ⟨bf11,0,none⟩))]) ?_
  have he:Xc l no tree=Ye 2 no (Vy l j):=by unfold Xc;rw[he2,if_neg hs]
  exact .inl ⟨by rw[he];exact hs,_,rfl,hB'4,by rw[he];exact hv11'1⟩
 have hs8:=(bln hB hb3).size
 have h3'1:=Zd h3 hs8
 have hin:((Vy l j).drop 8).take 244=inB l no:=(Iz hk).symm
 have hil:=Zeu hI.len hk hj
 rw[hin] at h3'1
 have hB'5:=bln (bln hB hb3) hb8
 refine xc 21 (args:=#[.slice p3 244 c3,.pointer (some ⟨bt,0,none⟩)]) (node_1 tree bt p3 c3 (inB l no) _ (kt.below hB'5) hil (Qk (Zf h3'1) hil)) ?_
 rintro e W13 hq13
 rcases hq13 with ⟨hz,a5,b5,kp,m1,kc,vp,m2,vc,rfl,hb13⟩|⟨hz,kp,kc,vp,vc,rfl,hb13,hk,hv_⟩
 ·refine xa 3 [.int .i64 0,.bool false,.slice none 0 0,.slice none 0 0] 188 fun b14 W14 n14=>?_
  have k1'5:=(((n1.blk.below n2.below).below hb3).below hb8).below hb13
  have d14_b1:=n14.ne k1'5
  have k2:=((n2.blk.below hb3).below hb8).below hb13
  have d14_b2:=n14.ne k2
  have hB'6:=bln hB'5 hb13
  have g14:=n14.ge hB'6
  refine xsv 0 n14.blk [.int .i64 a5,.bool b5,.slice kp m1 kc,.slice vp m2 vc] fun W15 u15 k15=>?_
  refine xk 10 (show(((Qp (inB l no) tree) != (0:Int)):Bool)=true from bne_iff_ne.2 hz) ?_
  refine xd 1 (.t w.heap.size [188]) ?_
  refine xm2 (.b [1,2,3]) 0 4 ?_ ?_
  ·have k2'1:=(u15.blk (k2.below n14.below) (Ne.symm (Ne.symm d14_b2))).below (Za W15)
   refine xlv 0 k2'1.rp ?_
   refine yc (.o [] 4) (args:=#[.int .i64 no,.iface 51 (.int .i64 (Qp (inB l no) tree))]) (.t w.heap.size [188]) (Yo no (Qp (inB l no) tree) _) ?_
   rintro _ W16 ⟨_,rfl,hb16,hv16⟩
   refine⟨(SF.of_below _ hb16),?_⟩
   rw[if_neg hz,if_neg hz] at hv16
   have hq16:=hv16
   obtain⟨bf16,vf16,rfl,_,_⟩:=hq16
   have k1'6:=((u15.blk (k1'5.below n14.below) (Ne.symm (Ne.symm d14_b1))).below (Za W15)).below hb16
   have g1:=n1.ge (Below.refl w.heap.size _)
   refine ysv (.o [] 5) k1'6 [.int .i64 0,.bool false,.slice none 0 0,.slice none 0 0] (.t w.heap.size [188]) fun W17 u17 k17=>⟨(Zi u17 k1'6 g1 (by decide)),?_⟩
   have hB'7:=u17.below (bln (bln (u15.below (bln hB'6 n14.below) g14) (Za W15)) hb16) g1
   have hv16'1:=hv16.upd u17 k1'6 (by decide)
   refine xec (.r [6] 4) k17 (.tuple #[.agg #[.int .i64 0,.bool false,.slice none 0 0,.slice none 0 0],.iface 123 (.pointer (some ⟨bf16,0,none⟩))]) ?_
   have he:Xc l no tree=Qp (inB l no) tree:=by unfold Xc;rw[he2,if_pos hs]
   exact .inl ⟨by rw[he];exact hz,_,rfl,hB'7,by rw[he];exact hv16'1⟩
  refine yc 0 (args:=#[.int .i64 no,.iface 51 (.int .i64 (Qp (inB l no) tree))]) (.t w.heap.size [188]) (Yo no (Qp (inB l no) tree) _) ?_
  rintro _ W18 ⟨_,rfl,hb18,hv18⟩
  refine⟨(SF.of_below _ hb18),?_⟩
  rw[if_neg hz,if_neg hz] at hv18
  have hq18:=hv18
  obtain⟨bf18,vf18,rfl,_,_⟩:=hq18
  have k2'2:=((u15.blk (k2.below n14.below) (Ne.symm (Ne.symm d14_b2))).below (Za W15)).below hb18
  refine xlv (.o [] 0) k2'2.rp ?_
  have k1'7:=((u15.blk (k1'5.below n14.below) (Ne.symm (Ne.symm d14_b1))).below (Za W15)).below hb18
  have g1:=n1.ge (Below.refl w.heap.size _)
  refine ysv (.o [] 5) k1'7 [.int .i64 0,.bool false,.slice none 0 0,.slice none 0 0] (.t w.heap.size [188]) fun W19 u19 k19=>⟨(Zi u19 k1'7 g1 (by decide)),?_⟩
  have hB'8:=u19.below (bln (bln (u15.below (bln hB'6 n14.below) g14) (Za W15)) hb18) g1
  have hv18'1:=hv18.upd u19 k1'7 (by decide)
  refine xec (.r [6] 4) k19 (.tuple #[.agg #[.int .i64 0,.bool false,.slice none 0 0,.slice none 0 0],.iface 123 (.pointer (some ⟨bf18,0,none⟩))]) ?_
  have he:Xc l no tree=Qp (inB l no) tree:=by unfold Xc;rw[he2,if_pos hs]
  exact .inl ⟨by rw[he];exact hz,_,rfl,hB'8,by rw[he];exact hv18'1⟩
 have hs13:=(bln (bln hB hb3) hb8).size
 refine xa 3 [.int .i64 0,.bool false,.slice none 0 0,.slice none 0 0] 188 fun b20 W20 n20=>?_
 have k1'8:=(((n1.blk.below n2.below).below hb3).below hb8).below hb13
 have d20_b1:=n20.ne k1'8
 have k2:=((n2.blk.below hb3).below hb8).below hb13
 have d20_b2:=n20.ne k2
 have hB'9:=bln hB'5 hb13
 have g20:=n20.ge hB'9
 refine xsv 0 n20.blk [.int .i64 (Xr (inB l no)),.bool (Xl (inB l no)),.slice kp (Zn (inB l no)) kc,.slice vp (Zn (inB l no)) vc] fun W21 u21 k21=>?_
 refine xlv 15 k21.rp ?_
 have k1'9:=u21.blk (k1'8.below n20.below) (Ne.symm (Ne.symm d20_b1))
 refine xsv 0 k1'9 [.int .i64 (Xr (inB l no)),.bool (Xl (inB l no)),.slice kp (Zn (inB l no)) kc,.slice vp (Zn (inB l no)) vc] fun W22 u22 k22=>?_
 have g1:=n1.ge (Below.refl w.heap.size _)
 have hB'10:=u22.below (u21.below (bln hB'9 n20.below) g20) g1
 have hk'1:=u22.own2 (u21.own2 (Zb (Zd hk hs13) n20.below) n20.blk (by decide)) k1'9 (by decide)
 have hv_'1:=u22.own2 (u21.own2 (Zb (Zd hv_ hs13) n20.below) n20.blk (by decide)) k1'9 (by decide)
 exact xec 4 k22 (.tuple #[.agg #[.int .i64 (Xr (inB l no)),.bool (Xl (inB l no)),.slice kp (Zn (inB l no)) kc,.slice vp (Zn (inB l no)) vc],.nilIface]) (.inr ⟨by unfold Xc;rw[he2,if_pos hs,hz],_,_,_,_,rfl,hB'10,hk'1,hv_'1⟩)
theorem Im(B b:Nat)(p:Option Addr)(n c:Nat)(l:List UInt8)(no tree:Int)(w:World)(hI:ImgR B b p n c l w) :
 Calls Tryz.prog 188 #[.pointer (some ⟨b,0,none⟩),.int .i64 no,.int .i64 tree] w (Zgr l no tree w):=by
 refine zin 14 Tryz.func188 ?_
 refine xa 2 [.int .i64 tree] 3 fun b1 W1 n1=>?_
 refine xa 0 [.int .i64 0,.bool false,.slice none 0 0,.slice none 0 0] 188 fun b2 W2 n2=>?_
 have hB:=bln n1.below n2.below
 have k1:=n1.blk.below n2.below
 refine xc 8 (args:=#[.pointer (some ⟨b,0,none⟩),.int .i64 no,.int .i64 2,.func (.func 206) #[] #[.pointer (some ⟨b1,0,none⟩)]]) (readNode B b p n c l no tree _ (hI.below hB) b1 k1) ?_
 rintro e W3 hq3
 rcases hq3 with ⟨he,bf,rfl,hb3,hv⟩|⟨he,kp,kc,vp,vc,rfl,hb3,hk,hv_⟩
 ·have k2:=n2.blk.below hb3
  refine xsv 2 k2 [.int .i64 0,.bool false,.slice none 0 0,.slice none 0 0] fun W4 u4 k4=>?_
  have g2:=n2.ge n1.below
  have hB'1:=u4.below (bln hB hb3) g2
  have hv'1:=hv.upd u4 k2 (by decide)
  exact xec 4 k4 (.tuple #[.agg #[.int .i64 0,.bool false,.slice none 0 0,.slice none 0 0],.iface 123 (.pointer (some ⟨bf,0,none⟩))]) (.inl ⟨he,_,rfl,hB'1,hv'1⟩)
 have hs3:=(bln n1.below n2.below).size
 have k2:=n2.blk.below hb3
 refine xsv 2 k2 [.int .i64 (Xr (inB l no)),.bool (Xl (inB l no)),.slice kp (Zn (inB l no)) kc,.slice vp (Zn (inB l no)) vc] fun W5 u5 k5=>?_
 have g2:=n2.ge n1.below
 have hB'2:=u5.below (bln hB hb3) g2
 have hk'1:=u5.own2 (Zd hk hs3) k2 (by decide)
 have hv_'1:=u5.own2 (Zd hv_ hs3) k2 (by decide)
 exact xec 4 k5 (.tuple #[.agg #[.int .i64 (Xr (inB l no)),.bool (Xl (inB l no)),.slice kp (Zn (inB l no)) kc,.slice vp (Zn (inB l no)) vc],.nilIface]) (.inr ⟨he,_,_,_,_,rfl,hB'2,hk'1,hv_'1⟩)
theorem Ff(p:Option Addr)(n c:Nat)(w:World) :
 Calls Tryz.prog 186 #[.slice p n c] w (fun e w'=>∃ b,e=.returned (.func (.func 203) #[] #[.pointer (some ⟨b,0,none⟩)])∧Below w.heap.size w w'∧w.heap.size≤b∧Blk w' b [.slice p n c] 30):=by
 refine zin 4 Tryz.func186 ?_
 refine xa 2 [.slice p n c] 30 fun b1 W1 n1=>?_
 have g1:=n1.ge (Below.refl w.heap.size _)
 exact xe 10 (.func (.func 203) #[] #[.pointer (some ⟨b1,0,none⟩)]) ⟨_,rfl,n1.below,g1,n1.blk⟩
end Go.Proofs.YthlakkdgcgkcdaaGreatDoor
namespace Go.Proofs.YthlakkdgcgkcdaaGreatDoor
set_option maxHeartbeats 8000000
set_option maxRecDepth 100000
open Go.RowKit Go.Extern.Stop Go.Stop Go.Extern
set_option linter.unusedVariables false
attribute [local irreducible] wpList wpAnyH Code.wp Oper.wp Go
attribute [local go_sem] Oper.semAt_some
theorem Upd.of_put(w:World)(D:Nat)(o:Obj):Upd w D (w.putObj D o):=⟨rfl,rfl,rfl,by simp[World.putObj],fun k hk=>World.putObj_heap_other hk⟩
def Dfr (D:Nat)(w:World):Prop:=w.heap[D]? = some (.deferred (some []))
theorem Dfr.below{D:Nat}{w W:World}(h:Dfr D w)(hb:Below w.heap.size w W):Dfr D W:=(hb.block D (Array.getElem?_eq_some_iff.1 h).1).trans h
theorem Dfr.ne{D b:Nat}{w:World}{cs:List Value}{t:TypeId}(h:Dfr D w)(k:Blk w b cs t):b≠D:=by
 rintro rfl
 have h':w.heap[b]? = _:=h
 rw[show w.heap[b]? = _ from k] at h'
 cases h'
theorem Dfr.upd{D b:Nat}{w W:World}{cs:List Value}{t:TypeId}(h:Dfr D w)(u:Upd w b W)(k:Blk w b cs t):Dfr D W:=(u.block D fun e=>h.ne k e.symm).trans h
theorem Dfr.row{D:Nat}{w:World}{base e size n:Nat}{v:Value}{xs:List Value}(h:Dfr D w)(k:w.ownsRow base e size v n xs):∀ g,v.ownBlock=some g→g≠D:=by
 rintro g hg rfl
 rcases k.2 with ⟨rfl,_⟩|⟨g',cap,cur,rfl,_,hh,_⟩
 ·cases hg
 ·simp only[Value.ownBlock,Option.some.injEq] at hg
  subst hg
  rw[show w.heap[g']? = _ from h] at hh
  cases hh
theorem Dfr.grown{D:Nat}{w W:World}{base e size n:Nat}{v:Value}{xs:List Value}(h:Dfr D w)(hg:w.grownBy W v.ownBlock)(k:w.ownsRow base e size v n xs):Dfr D W :=
 (hg.block D (Array.getElem?_eq_some_iff.1 h).1 fun q=>h.row k D q.symm rfl).trans h
theorem Zg6{P:Program}{fn:Func}{R:Ending→World→Prop}{a:Act}{w:World}{D:Nat}(hK:Dfr D w)(v:Value)(hd:a.defers=[{ target:=.collected D,args:=#[] }])(hr:(results fn a.tmps).run P (w.putObj D (.deferred none))=.ok v (w.putObj D (.deferred none)))(h:R (.returned v) (w.putObj D (.deferred none))):bodyPostM Fence.wide 4 P fn R .normal a w :=
 by
 show LeavesInM _ _ _ _ a.tmps R a.defers .returning w
 rw[hd]
 exact⟨by simp,.inl ⟨_,_,rfl,run_takeDeferred hK,_,hr,h⟩⟩
def noPan(Q:Exit→Act→World→Prop):Exit→Act→World→Prop
 | .normal,a,w=>Q .normal a w
 | .ret,a,w=>Q .ret a w
 | _,_,_=>False
theorem g_nopan{P:Program}{c:Code}{Q:Exit→Act→World→Prop}{a:Act}{w:World}(h:c.wp P (noPan Q) a w):c.wp P Q a w:=wp_mono h fun e a w q=>by cases e<;>first|exact q|exact q.elim
theorem Mt{w:World}{base size n b:Nat}{e t:TypeId}{v:Value}{xs cs:List Value}(k:w.ownsRow base e size v n xs)(q:Blk w b cs t)(hne:e≠t):∀ g,v.ownBlock=some g→g≠b:=by
 rintro g hg rfl
 rcases k.2 with ⟨rfl,_⟩|⟨g',cap,cur,rfl,_,hh,_⟩
 ·cases hg
 ·simp only[Value.ownBlock,Option.some.injEq] at hg
  subst hg
  rw[show w.heap[g']? = _ from q] at hh
  simp only[Option.some.injEq,Obj.cells.injEq] at hh
  exact hne hh.2.1.symm
theorem Cv{w W:World}(h:Below w.heap.size w W):KeepsOthers w W:=⟨h.size,fun b o hb _=>(h.block b (Array.getElem?_eq_some_iff.1 hb).1).trans hb⟩
theorem keepsO_upd{w W:World}{b:Nat}{cs:List Value}{t:TypeId}(u:Upd w b W)(k:Blk w b cs t):KeepsOthers w W:=⟨Nat.le_of_eq u.size.symm,fun d o hd ho=>(u.block d (by rintro rfl;rw[show w.heap[d]? = _ from k] at hd;cases hd;cases ho)).trans hd⟩
theorem Dfr.only_new{T:List TypeId}{a w W:World}{b:Nat}(h:Ze T a w)(hbb:BelowBut w b W)(hb:a.heap.size≤b):Ze T a W:=fun k cs t fr hk ht=>by
 have h0:=(Array.getElem?_eq_some_iff.1 hk).1
 have h1:=h k cs t fr hk ht
 rw[hbb.block k (Array.getElem?_eq_some_iff.1 h1).1 (by omega)];exact h1
theorem BelowBut.own3{w W:World}{b base size n:Nat}{e:TypeId}{v:Value}{xs:List Value}(h:BelowBut w b W)(k:w.ownsRow base e size v n xs)(hs:∀ j,v.ownBlock=some j→j≠b):W.ownsRow base e size v n xs:=by
 obtain⟨h1,h2⟩:=k
 refine⟨h1,?_⟩
 rcases h2 with h2|⟨g,cap,cur,rfl,hg,hh,r⟩
 ·exact Or.inl h2
 ·exact Or.inr ⟨g,cap,cur,rfl,hg,by rw[h.block g (Array.getElem?_eq_some_iff.1 hh).1 (hs g rfl)];exact hh,r⟩
theorem Fe{β:Type}{w:World}{b B:Nat}(hB:w.heap.size≤B):OwnFrom B (fun(_:β) W=>BelowBut w b W):=fun _ W W' row hs hg hr =>
 ⟨hg.os.trans hs.os,hg.tape.trans hs.tape,hg.output.trans hs.output,Nat.le_trans hs.size hg.size,fun k hk hne=>(hg.block k (Nat.lt_of_lt_of_le hk hs.size) (fun e=>by have:=(hr k e.symm).1;omega)).trans (hs.block k hk hne)⟩
theorem Ja.turn{A B:World}{row:Option Nat}{l:List (Option Int)}{c:Option Int}{v:Value}(h:Ja A l c v)(hg:A.grownBy B row)(hr:∀ r,row=some r→∃ o:Obj,A.heap[r]? = some o∧o.isCells=false):Ja B l c v:=h.kept fun _ _ k=>k.turn hg hr
def atW (way:List Int)(pre:List (Fin way.length))(bs:List Int):List Int:=(pre.map fun j=>way[qOf j]?.getD 0).reverse++bs
theorem atW_snoc(way:List Int)(pre:List (Fin way.length))(x:Fin way.length)(bs:List Int):atW way (pre++[x]) bs=(way[qOf x]?.getD 0)::atW way pre bs:=by simp[atW]
theorem atW_all(way bs:List Int):atW way (List.finRange way.length) bs=way++bs:=by
 unfold atW
 congr 1
 apply List.ext_getElem
 ·simp
 ·intro i h1 h2
  simp only[List.length_reverse,List.length_map,List.length_finRange] at h1
  rw[List.getElem_reverse,List.getElem_map]
  simp only[List.length_map,List.length_finRange,List.getElem_finRange,qOf]
  have e:way.length-1-(way.length-1-i)=i:=by omega
  simp[e,h2]
theorem Ja.one{w:World}{l:List (Option Int)}{c:Option Int}{v:Value}(h:Ja w l c v):v.oneCell'=true:=by
 rcases h.nil_or with ⟨_,rfl⟩|⟨_,t,x,rfl⟩<;>rfl
theorem Ja.iface{w:World}{l:List (Option Int)}{c:Int}{v:Value}(h:Ja w l (some c) v):∃ t x,v=.iface t x:=by
 rcases h.nil_or with ⟨q,_⟩|⟨_,q⟩
 ·simp[Nw] at q
 ·exact q
theorem Vr{b c:Int}{l:List (Option Int)}:atL b l (some c)=some b::l:=by simp[atL,Nw]
theorem Zd5{v:Value}(h:v.oneCell'=true):∀ u∈[v],u.oneCell'=true:=by simpa using h
def NoteP(B bw:Nat)(c0 c1 c2 c3 c5 c6 c7 c8 c9:Value)(nf:Nat)(fs:List Value)(l:List Int)(ec:Int)(w:World)(e:Ending)(w':World):Prop :=
 ∃ u p c ty x,e=.returned u∧Below B w w'∧Ze [170,39] w w'∧Blk w' bw [c0,c1,c2,c3,.slice p (nf+1) c,c5,c6,c7,c8,c9] 170∧w'.ownsRow B 39 1 (.slice p (nf+1) c) (nf+1) (fs++[.iface ty x])∧Ja w' (l.map some) (some ec) (.iface ty x)
theorem Ma(B bw:Nat)(c0 c1 c2 c3 c5 c6 c7 c9:Value)(pf:Option Addr)(nf cf:Nat)(fs:List Value)(pw:Option Addr)(cw:Nat)(way bs:List Int)(ec:Int)(ty:TypeId)(ev:Value)(w:World)(hBb:B≤bw)(hBw:B≤w.heap.size)(kW:Blk w bw [c0,c1,c2,c3,.slice pf nf cf,c5,c6,c7,.slice pw way.length cw,c9] 170)(hF:w.ownsRow B 39 1 (.slice pf nf cf) nf fs)(hway:w.ownsRow B 3 1 (.slice pw way.length cw) way.length (way.map (Value.int .i64)))(hE:Ja w (bs.map some) (some ec) (.iface ty ev))(hwl:way.length≤1000000)(hnf:nf≤1000000) :
 Calls Tryz.prog 139 #[.pointer (some ⟨bw,0,none⟩),.iface ty ev] w (NoteP B bw c0 c1 c2 c3 c5 c6 c7 (.slice pw way.length cw) c9 nf fs (way++bs) ec w):=by
 refine Ug Tryz.func139 rfl ?_
 refine g_fr ⟨#[.pointer (some ⟨bw,0,none⟩),.iface ty ev,undef,undef,undef,undef,undef,undef,undef,undef,undef,undef,undef,undef,undef,undef,undef,undef,undef,undef,undef,undef,undef,undef,undef,undef,undef,undef],[]⟩ (by kernel_rfl) ?_
 refine wp_seq ?_
 refine wp_region_lit ?_
 refine Zdh (by kernel_rfl) (op_box [.iface ty ev] rfl (by kernel_rfl) ?_)
 intro b1 W1 n1
 have d1_bw:=n1.ne kW
 have g1:=n1.ge0 (Below.refl B _)
 have r1_hF:=Zu hF n1
 have hO:Ze [170,39] w _:=(Ze.of_below n1.below)
 have hB:=blB (Below.refl B w) hBw n1.below
 replace kW:=kW.below n1.below
 replace hF:=Zb hF n1.below
 replace hway:=Zb hway n1.below
 replace hE:=hE.below n1.below
 have k1:=n1.blk
 refine wpList_nil ?_
 refine wp_seq ?_
 refine wp_seq ?_
 refine wp_region_lit ?_
 refine Eu 3 [(6,.pointer (some ⟨bw,0,none⟩)),(7,.pointer (some ⟨bw,0,none⟩)),(8,.pointer (some ⟨bw,8,none⟩))] (by kernel_rfl) ?_
 refine Zdh (by kernel_rfl) (Gh ⟨bw,8,none⟩ (.slice pw way.length cw) rfl (by kernel_rfl) (by kernel_rfl) (kW.cell (i:=8) rfl) ?_)
 have lt2_bw:=kW.lt
 have lt2_b1:=k1.lt
 have hs2:w.heap.size≤(W1).heap.size:=hB.size
 refine Zdh (by kernel_rfl) (Bq (lb:=#[]) 186 #[.slice pw way.length cw] rfl (by kernel_rfl) (fun _ _=>by kernel_rfl) (by kernel_rfl) ((Ff pw way.length cw _).mono ?_))
 rintro e W2 ⟨bk2,rfl,hb2,hg2,kk2⟩
 refine⟨_,rfl,?_⟩
 replace hO:=hO.trans (Ze.of_below hb2)
 replace hB:=blB hB hBw hb2
 replace kW:=kW.below hb2
 replace k1:=k1.below hb2
 replace hF:=Zb hF hb2
 replace hway:=Zb hway hb2
 replace hE:=hE.below hb2
 have gb2:w.heap.size≤bk2:=Nat.le_trans hs2 hg2
 have nb2_bw:bk2≠bw:=by omega
 have nb2_b1:bk2≠b1:=by omega
 refine wpList_nil ?_
 refine wp_block ?_
 have hzk:=kk2.lt
 have hz3:=k1.lt
 have hst:=back_stops bk2 (fun b=>b<W2.heap.size∧b≠b1) (.slice pw way.length cw) way W2 (fun b h=>h.1) ⟨hzk,nb2_b1⟩ (by omega) (Zf hway) (fun _ b off n cap q=>by cases q;exact⟨(hway.lt b rfl).2,Mt hway k1 (by decide) b rfl⟩) (kk2.cell (i:=0) rfl)
 refine g_fr ⟨#[.pointer (some ⟨bw,0,none⟩),.iface ty ev,undef,.pointer (some ⟨b1,0,none⟩),undef,undef,.pointer (some ⟨bw,0,none⟩),.pointer (some ⟨bw,0,none⟩),.pointer (some ⟨bw,8,none⟩),.slice pw way.length cw,.func (.func 203) #[] #[.pointer (some ⟨bk2,0,none⟩)],undef,undef,undef,undef,undef,undef,undef,undef,undef,undef,undef,undef,undef,undef,undef,undef,undef],[]⟩ (by kernel_rfl) ?_
 refine Ov (g:=.tmp 10) (gf:=203) (lb:=#[.pointer (some ⟨bk2,0,none⟩)]) rfl (enters_of Tryz.func203 (by kernel_rfl) rfl) _ (fun b h=>h.1) hst (fun _=>rfl)
  (fun pre W=>(∃ v',Blk W b1 [v'] 39∧Ja W ((atW way pre bs).map some) (some ec) v')∧BelowBut W2 b1 W)
  (fun _ _ _=>False) ?own (fun _ _ _ _ _ h _ _=>h) ⟨⟨_,k1,hE⟩,(Below.refl _ _).but _⟩
  (fun x a' _=>a'={ tmps:=#[.pointer (some ⟨bw,0,none⟩),.iface ty ev,undef,.pointer (some ⟨b1,0,none⟩),undef,.int .i64 (way[qOf x]?.getD 0),.pointer (some ⟨bw,0,none⟩),.pointer (some ⟨bw,0,none⟩),.pointer (some ⟨bw,8,none⟩),.slice pw way.length cw,.func (.func 203) #[] #[.pointer (some ⟨bk2,0,none⟩)],.int .i64 (qOf x:Int),.int .i64 (way[qOf x]?.getD 0),undef,undef,undef,undef,undef,undef,undef,undef,undef,undef,undef,undef,undef,undef,undef],defers:=[] }) (fun _ _ _ _ _ _ h _ _=>h) ?assign ?body ?done (fun _ _ _ _ _ _ h _=>h.elim)
 case own=>exact OwnFrom.and (Own.from (fun s A B row hs hg hr=>by obtain⟨v',h1,h2⟩:=hs;exact⟨v',h1.turn hg hr,h2.turn hg hr⟩) _) (Fe (Nat.le_refl _))
 case assign =>
  rintro lr pre x W K hI hK
  unfold encB
  gi_wp2
  exact hK _ _ (KeepsFrom.refl _ _) (Keeps.refl _ _) hI rfl
 case body =>
  rintro lr pre x a' W hlr ⟨⟨v',m3,hv'⟩,hbb⟩ rfl hlt
  have mc:=m3.cell (i:=0) rfl
  gi_wp2_with (refine⟨trivial,?_⟩;gi_at_call 31;refine(CallsIn.inRound lr (callsIn_wide.2 (Qv _ _ _ _ _ hv'))).mono ?_;rintro e w2 ⟨r2,rfl,hb2,hE2⟩;obtain⟨t2,x2,rfl⟩:=hE2.iface;have m4:=m3.below hb2;have mg:=m4.frozen 0;have md:=m4.cell (i:=0) rfl)
  have hb2s:=hb2.size
  have u2:=Upd.setCell w2 b1 0 (.iface t2 x2)
  exact⟨((Cv hb2).trans (KeepsOthers.setCell _ _ _)).from _,Keeps.setCell (Keeps.of_below hb2 (fun b hb=>by have:=hbb.size;have:=hb.1;omega)) (fun hb=>hb.2 rfl) _,⟨_,m4.set 0 _,by rw[atW_snoc,List.map_cons,←Vr (c:=ec)];exact(hE2.upd u2 m4 (by decide))⟩,(hbb.next hb2).upd u2⟩
 case done =>
 rintro D xs W hD rfl ⟨⟨v',m3,hv'⟩,hbb⟩ hK0
 rw[atW_all] at hv'
 have hK:Dfr D W:=hK0;clear hK0
 refine g_nopan ?_
 refine g_fr ⟨#[.pointer (some ⟨bw,0,none⟩),.iface ty ev,undef,.pointer (some ⟨b1,0,none⟩),undef,undef,.pointer (some ⟨bw,0,none⟩),.pointer (some ⟨bw,0,none⟩),.pointer (some ⟨bw,8,none⟩),.slice pw way.length cw,.func (.func 203) #[] #[.pointer (some ⟨bk2,0,none⟩)],undef,undef,undef,undef,undef,undef,undef,undef,undef,undef,undef,undef,undef,undef,undef,undef,undef],[{ target:=.collected D,args:=#[] }]⟩ (by kernel_rfl) ?_
 have hv1:=hv'.one
 obtain⟨ty',x',rfl⟩:=hv'.iface
 have hDB:w.heap.size≤D:=Nat.le_trans (Nat.le_trans (by have:=hz3;have:=g1;omega) (Nat.le_refl _)) hD
 replace kW:=hbb.blk kW (Ne.symm (Ne.symm d1_bw))
 replace kk2:=hbb.blk kk2 nb2_b1
 replace hF:=hbb.own3 hF r1_hF
 replace hway:=hbb.own2 hway k1 (by decide)
 have hB0:=hB
 replace hB:=hbb.below hB (Nat.le_trans hBw g1) (Nat.le_trans hBw hB0.size)
 replace hO:=Dfr.only_new hO hbb g1
 replace k1:=m3
 replace hO:=hO.trans (Ze.of_below (Za W))
 replace hB:=blB hB hBw (Za W)
 replace kW:=kW.below (Za W)
 replace k1:=k1.below (Za W)
 replace kk2:=kk2.below (Za W)
 replace hF:=Zb hF (Za W)
 replace hway:=Zb hway (Za W)
 replace hv':=hv'.below (Za W)
 replace hK:=hK.below (Za W)
 refine h_reg (Below B (W.drew)) 13 rfl #[false,false,false,false,false,false,false,false,false,false,false,false,false] rfl (by kernel_rfl) (Below.refl _ _) ?_
 intro hS3
 have hBd5:=hB
 have kd5_bw:=kW
 have kd5_b1:=k1
 have kd5_bk2:=kk2
 have hOd5:=hO
 refine h_pv [0,1,2,3,4] 8 rfl #[true,true,true,true,true,false,false,false,false,false,false,false,false] [(16,.pointer (some ⟨bw,0,none⟩)),(17,.pointer (some ⟨bw,0,none⟩)),(18,.pointer (some ⟨bw,0,none⟩)),(19,.pointer (some ⟨bw,0,none⟩)),(20,.pointer (some ⟨bw,4,none⟩))] (by kernel_rfl) (fun _ _ _ _ _ h=>h) (by kernel_rfl) hS3 ?_
 refine h_two 5 6 7 rfl (by kernel_rfl) rfl rfl (by kernel_rfl) (by kernel_rfl) ?_ ?_
 ·refine Gh ⟨bw,4,none⟩ (.slice pf nf cf) rfl (by kernel_rfl) (by kernel_rfl) (kW.cell (i:=4) rfl) ?_
  have hS6:Below B (W.drew) (W.drew):=hS3
  refine⟨hS6,?_⟩
  refine Uy 6 6 rfl (by kernel_rfl) rfl (by kernel_rfl) (Gh ⟨b1,0,none⟩ (.iface ty' x') rfl (by kernel_rfl) (by kernel_rfl) (k1.cell (i:=0) rfl) ?_)
  have hS7:Below B (W.drew) (W.drew):=hS6
  refine⟨hS7,?_⟩
  refine Uy 7 5 rfl (by kernel_rfl) rfl (by kernel_rfl) (Yi 39 [.iface ty' x'] rfl (by kernel_rfl) ?_)
  intro b8 W8 n8
  have d8_bw:=n8.ne kW
  have d8_b1:=n8.ne k1
  have d8_bk2:=n8.ne kk2
  have g8:=n8.ge0 hB
  have r8_hF:=Zu hF n8
  replace hO:=hO.trans (Ze.of_below n8.below)
  replace hB:=blB hB hBw n8.below
  replace kW:=kW.below n8.below
  replace k1:=k1.below n8.below
  replace kk2:=kk2.below n8.below
  replace hF:=Zb hF n8.below
  replace hway:=Zb hway n8.below
  replace hv':=hv'.below n8.below
  replace hK:=hK.below n8.below
  have k8:=n8.blk
  have hS9:Below B (W.drew) (W8):=blB hS7 (Nat.le_trans hBw hBd5.size) n8.below
  refine⟨hS9,?_⟩
  refine Uy 8 4 rfl (by kernel_rfl) rfl (by kernel_rfl) (Zp (e:=39) (n:=nf) (xs:=fs) (m:=1) (news:=[.iface ty' x']) (.nilIface) 1 16 (nf+1) (fs++[.iface ty' x']) rfl Tryz.underlying68 (by kernel_rfl) rfl (by decide) (by kernel_rfl) hF (by kernel_rfl) (k8.sl 1 1 (by decide) (by decide)) rfl (Zd5 hv1) (by unfold maxLen;omega) (by omega) (Nat.le_trans hBw hB.size) (by simp) (by simp) ?_)
  intro p10 c10 W10 o10 hg10 hb10
  replace hO:=hO.trans (Ze.of_grown hg10 hF (by decide))
  replace kW:=kW.grown hg10 hF (by decide)
  replace k1:=k1.grown3 hg10 r1_hF
  replace kk2:=kk2.grown hg10 hF (by decide)
  replace hway:=Zg hway hg10 hF (by decide)
  replace hv':=hv'.grown hg10 hF (by decide)
  replace hK:=hK.grown hg10 hF
  replace hB:=hB.trans hb10
  have hS11:Below B (W.drew) (W10):=hS9.trans hb10
  refine⟨hS11,?_⟩
  refine h_pv [9,10,11] 1 rfl #[true,true,true,true,true,true,true,true,true,true,true,true,false] [(25,.pointer (some ⟨bw,0,none⟩)),(26,.pointer (some ⟨bw,0,none⟩)),(27,.pointer (some ⟨bw,4,none⟩))] (by kernel_rfl) (fun _ _ _ _ _ h=>h) (by kernel_rfl) hS11 ?_
  refine Uy 12 0 rfl (by kernel_rfl) rfl (by kernel_rfl) (Ua (v:=.slice p10 (nf+1) c10) (b:=bw) (off:=4) rfl (by kernel_rfl) (by kernel_rfl) (by kernel_rfl) rfl kW (by first|decide|simp) ?_)
  intro W12 u12 k12
  change Blk _ _ [c0,c1,c2,c3,.slice p10 (nf+1) c10,c5,c6,c7,.slice pw way.length cw,c9] _ at k12
  replace hO:=hO.trans (Ze.of_upd u12 kW (by decide))
  replace hB:=u12.below hB hBb
  replace k1:=u12.blk k1 (Ne.symm d1_bw)
  replace kk2:=u12.blk kk2 nb2_bw
  replace hway:=u12.own2 hway kW (by decide)
  replace hv':=hv'.upd u12 kW (by decide)
  replace hK:=hK.upd u12 kW
  replace o10:=u12.own2 o10 kW (by decide)
  have hS13:Below B (W.drew) (W12):=u12.below hS11 hBb
  refine⟨hS13,?_⟩
  refine Tv _ (by kernel_rfl) ?_
  exact Zg6 hK (.tuple #[]) (by kernel_rfl) (by kernel_rfl) ⟨_,_,_,_,_,rfl,(Upd.of_put _ _ _).below hB (Nat.le_trans hBw hDB),Ze.upd_new hO (Upd.of_put _ _ _) hDB,(Upd.of_put _ _ _).blk k12 (hK.ne k12),(Upd.of_put _ _ _).own3 o10 (hK.row o10),hv'.kept fun _ _ q=>(Upd.of_put _ _ _).blk q (hK.ne q)⟩
 ·refine Gh ⟨b1,0,none⟩ (.iface ty' x') rfl (by kernel_rfl) (by kernel_rfl) (k1.cell (i:=0) rfl) ?_
  have hS14:Below B (W.drew) (W.drew):=hS3
  refine⟨hS14,?_⟩
  refine h_two 5 7 6 rfl (by kernel_rfl) rfl rfl (by kernel_rfl) (by kernel_rfl) ?_ ?_
  ·refine Gh ⟨bw,4,none⟩ (.slice pf nf cf) rfl (by kernel_rfl) (by kernel_rfl) (kW.cell (i:=4) rfl) ?_
   have hS15:Below B (W.drew) (W.drew):=hS14
   refine⟨hS15,?_⟩
   refine Uy 7 5 rfl (by kernel_rfl) rfl (by kernel_rfl) (Yi 39 [.iface ty' x'] rfl (by kernel_rfl) ?_)
   intro b16 W16 n16
   have d16_bw:=n16.ne kW
   have d16_b1:=n16.ne k1
   have d16_bk2:=n16.ne kk2
   have g16:=n16.ge0 hB
   have r16_hF:=Zu hF n16
   replace hO:=hO.trans (Ze.of_below n16.below)
   replace hB:=blB hB hBw n16.below
   replace kW:=kW.below n16.below
   replace k1:=k1.below n16.below
   replace kk2:=kk2.below n16.below
   replace hF:=Zb hF n16.below
   replace hway:=Zb hway n16.below
   replace hv':=hv'.below n16.below
   replace hK:=hK.below n16.below
   have k16:=n16.blk
   have hS17:Below B (W.drew) (W16):=blB hS15 (Nat.le_trans hBw hBd5.size) n16.below
   refine⟨hS17,?_⟩
   refine Uy 8 4 rfl (by kernel_rfl) rfl (by kernel_rfl) (Zp (e:=39) (n:=nf) (xs:=fs) (m:=1) (news:=[.iface ty' x']) (.nilIface) 1 16 (nf+1) (fs++[.iface ty' x']) rfl Tryz.underlying68 (by kernel_rfl) rfl (by decide) (by kernel_rfl) hF (by kernel_rfl) (k16.sl 1 1 (by decide) (by decide)) rfl (Zd5 hv1) (by unfold maxLen;omega) (by omega) (Nat.le_trans hBw hB.size) (by simp) (by simp) ?_)
   intro p18 c18 W18 o18 hg18 hb18
   replace hO:=hO.trans (Ze.of_grown hg18 hF (by decide))
   replace kW:=kW.grown hg18 hF (by decide)
   replace k1:=k1.grown3 hg18 r1_hF
   replace kk2:=kk2.grown hg18 hF (by decide)
   replace hway:=Zg hway hg18 hF (by decide)
   replace hv':=hv'.grown hg18 hF (by decide)
   replace hK:=hK.grown hg18 hF
   replace hB:=hB.trans hb18
   have hS19:Below B (W.drew) (W18):=hS17.trans hb18
   refine⟨hS19,?_⟩
   refine h_pv [9,10,11] 1 rfl #[true,true,true,true,true,true,true,true,true,true,true,true,false] [(25,.pointer (some ⟨bw,0,none⟩)),(26,.pointer (some ⟨bw,0,none⟩)),(27,.pointer (some ⟨bw,4,none⟩))] (by kernel_rfl) (fun _ _ _ _ _ h=>h) (by kernel_rfl) hS19 ?_
   refine Uy 12 0 rfl (by kernel_rfl) rfl (by kernel_rfl) (Ua (v:=.slice p18 (nf+1) c18) (b:=bw) (off:=4) rfl (by kernel_rfl) (by kernel_rfl) (by kernel_rfl) rfl kW (by first|decide|simp) ?_)
   intro W20 u20 k20
   change Blk _ _ [c0,c1,c2,c3,.slice p18 (nf+1) c18,c5,c6,c7,.slice pw way.length cw,c9] _ at k20
   replace hO:=hO.trans (Ze.of_upd u20 kW (by decide))
   replace hB:=u20.below hB hBb
   replace k1:=u20.blk k1 (Ne.symm d1_bw)
   replace kk2:=u20.blk kk2 nb2_bw
   replace hway:=u20.own2 hway kW (by decide)
   replace hv':=hv'.upd u20 kW (by decide)
   replace hK:=hK.upd u20 kW
   replace o18:=u20.own2 o18 kW (by decide)
   have hS21:Below B (W.drew) (W20):=u20.below hS19 hBb
   refine⟨hS21,?_⟩
   refine Tv _ (by kernel_rfl) ?_
   exact Zg6 hK (.tuple #[]) (by kernel_rfl) (by kernel_rfl) ⟨_,_,_,_,_,rfl,(Upd.of_put _ _ _).below hB (Nat.le_trans hBw hDB),Ze.upd_new hO (Upd.of_put _ _ _) hDB,(Upd.of_put _ _ _).blk k20 (hK.ne k20),(Upd.of_put _ _ _).own3 o18 (hK.row o18),hv'.kept fun _ _ q=>(Upd.of_put _ _ _).blk q (hK.ne q)⟩
  ·refine Yi 39 [.iface ty' x'] rfl (by kernel_rfl) ?_
   intro b22 W22 n22
   have d22_bw:=n22.ne kW
   have d22_b1:=n22.ne k1
   have d22_bk2:=n22.ne kk2
   have g22:=n22.ge0 hB
   have r22_hF:=Zu hF n22
   replace hO:=hO.trans (Ze.of_below n22.below)
   replace hB:=blB hB hBw n22.below
   replace kW:=kW.below n22.below
   replace k1:=k1.below n22.below
   replace kk2:=kk2.below n22.below
   replace hF:=Zb hF n22.below
   replace hway:=Zb hway n22.below
   replace hv':=hv'.below n22.below
   replace hK:=hK.below n22.below
   have k22:=n22.blk
   have hS23:Below B (W.drew) (W22):=blB hS14 (Nat.le_trans hBw hBd5.size) n22.below
   refine⟨hS23,?_⟩
   refine Uy 5 5 rfl (by kernel_rfl) rfl (by kernel_rfl) (Gh ⟨bw,4,none⟩ (.slice pf nf cf) rfl (by kernel_rfl) (by kernel_rfl) (kW.cell (i:=4) rfl) ?_)
   have hS24:Below B (W.drew) (W22):=hS23
   refine⟨hS24,?_⟩
   refine Uy 8 4 rfl (by kernel_rfl) rfl (by kernel_rfl) (Zp (e:=39) (n:=nf) (xs:=fs) (m:=1) (news:=[.iface ty' x']) (.nilIface) 1 16 (nf+1) (fs++[.iface ty' x']) rfl Tryz.underlying68 (by kernel_rfl) rfl (by decide) (by kernel_rfl) hF (by kernel_rfl) (k22.sl 1 1 (by decide) (by decide)) rfl (Zd5 hv1) (by unfold maxLen;omega) (by omega) (Nat.le_trans hBw hB.size) (by simp) (by simp) ?_)
   intro p25 c25 W25 o25 hg25 hb25
   replace hO:=hO.trans (Ze.of_grown hg25 hF (by decide))
   replace kW:=kW.grown hg25 hF (by decide)
   replace k1:=k1.grown3 hg25 r1_hF
   replace kk2:=kk2.grown hg25 hF (by decide)
   replace hway:=Zg hway hg25 hF (by decide)
   replace hv':=hv'.grown hg25 hF (by decide)
   replace hK:=hK.grown hg25 hF
   replace hB:=hB.trans hb25
   have hS26:Below B (W.drew) (W25):=hS24.trans hb25
   refine⟨hS26,?_⟩
   refine h_pv [9,10,11] 1 rfl #[true,true,true,true,true,true,true,true,true,true,true,true,false] [(25,.pointer (some ⟨bw,0,none⟩)),(26,.pointer (some ⟨bw,0,none⟩)),(27,.pointer (some ⟨bw,4,none⟩))] (by kernel_rfl) (fun _ _ _ _ _ h=>h) (by kernel_rfl) hS26 ?_
   refine Uy 12 0 rfl (by kernel_rfl) rfl (by kernel_rfl) (Ua (v:=.slice p25 (nf+1) c25) (b:=bw) (off:=4) rfl (by kernel_rfl) (by kernel_rfl) (by kernel_rfl) rfl kW (by first|decide|simp) ?_)
   intro W27 u27 k27
   change Blk _ _ [c0,c1,c2,c3,.slice p25 (nf+1) c25,c5,c6,c7,.slice pw way.length cw,c9] _ at k27
   replace hO:=hO.trans (Ze.of_upd u27 kW (by decide))
   replace hB:=u27.below hB hBb
   replace k1:=u27.blk k1 (Ne.symm d1_bw)
   replace kk2:=u27.blk kk2 nb2_bw
   replace hway:=u27.own2 hway kW (by decide)
   replace hv':=hv'.upd u27 kW (by decide)
   replace hK:=hK.upd u27 kW
   replace o25:=u27.own2 o25 kW (by decide)
   have hS28:Below B (W.drew) (W27):=u27.below hS26 hBb
   refine⟨hS28,?_⟩
   refine Tv _ (by kernel_rfl) ?_
   exact Zg6 hK (.tuple #[]) (by kernel_rfl) (by kernel_rfl) ⟨_,_,_,_,_,rfl,(Upd.of_put _ _ _).below hB (Nat.le_trans hBw hDB),Ze.upd_new hO (Upd.of_put _ _ _) hDB,(Upd.of_put _ _ _).blk k27 (hK.ne k27),(Upd.of_put _ _ _).own3 o25 (hK.row o25),hv'.kept fun _ _ q=>(Upd.of_put _ _ _).blk q (hK.ne q)⟩
end Go.Proofs.YthlakkdgcgkcdaaGreatDoor
namespace Go.Proofs.YthlakkdgcgkcdaaGreatDoor
set_option maxHeartbeats 8000000
set_option maxRecDepth 100000
open Go.RowKit
set_option linter.unusedVariables false
theorem Zfg{A B:World}{row:Option Nat}{base size n:Nat}{e:TypeId}{v:Value}{xs:List Value}(k:A.ownsRow base e size v n xs)(hg:A.grownBy B row)(hr:∀ r,row=some r→∃ o:Obj,A.heap[r]? = some o∧o.isCells=false):B.ownsRow base e size v n xs:=by
 obtain⟨h1,h2⟩:=k
 refine⟨h1,?_⟩
 rcases h2 with h2|⟨g,cap,cur,hv,hb,hh,r⟩
 ·exact Or.inl h2
 ·refine Or.inr ⟨g,cap,cur,hv,hb,?_,r⟩
  rw[hg.block g (Array.getElem?_eq_some_iff.1 hh).1 (fun q=>by
   obtain⟨o,ho,hc⟩:=hr g q.symm
   rw[hh] at ho
   cases ho
   cases hc)]
  exact hh
theorem Lists.turn{A B:World}{row:Option Nat}{base:Nat}{v:Value}{gs:List (Nat×Nat)}{L:List (List Int)}(h:Lists A base v gs L)(hg:A.grownBy B row)(hr:∀ r,row=some r→∃ o:Obj,A.heap[r]? = some o∧o.isCells=false):Lists B base v gs L:=⟨Zfg h.row hg hr,fun i hi=>Zfg (h.each i hi) hg hr⟩
structure RdZ(w0:World)(b:Nat)(W V:World):Prop where
 bb:BelowBut w0 b V
 ko:KeepsOthers W V
 fr:∀ k,k<w0.heap.size→k≠b→V.heap[k]? = W.heap[k]?
 le:W.heap.size≤V.heap.size
theorem RdZ.refl{w0 W:World}{b:Nat}(h:BelowBut w0 b W):RdZ w0 b W W:=⟨h,⟨Nat.le_refl _,fun _ _ h _=>h⟩,fun _ _ _=>rfl,Nat.le_refl _⟩
theorem RdZ.below{w0 W V U:World}{b:Nat}(h:RdZ w0 b W V)(hb:Below V.heap.size V U):RdZ w0 b W U :=
 ⟨h.bb.next hb,h.ko.trans (Cv hb),fun k hk hn=>(hb.block k (Nat.lt_of_lt_of_le hk h.bb.size)).trans (h.fr k hk hn),Nat.le_trans h.le hb.size⟩
theorem RdZ.upd{w0 W V U:World}{b:Nat}{cs:List Value}{t:TypeId}(h:RdZ w0 b W V)(u:Upd V b U)(k:Blk V b cs t):RdZ w0 b W U :=
 ⟨h.bb.upd u,h.ko.trans (keepsO_upd u k),fun k hk hn=>(u.block k hn).trans (h.fr k hk hn),Nat.le_trans h.le (Nat.le_of_eq u.size.symm)⟩
theorem RdZ.grown{w0 W V U:World}{b size n:Nat}{e:TypeId}{v:Value}{xs:List Value}(h:RdZ w0 b W V)(hg:V.grownBy U v.ownBlock)(k:V.ownsRow w0.heap.size e size v n xs):RdZ w0 b W U :=
 ⟨⟨hg.os.trans h.bb.os,hg.tape.trans h.bb.tape,hg.output.trans h.bb.output,Nat.le_trans h.bb.size hg.size,fun i hi hn=>(hg.block i (Nat.lt_of_lt_of_le hi h.bb.size) (fun e=>by have:=(k.lt i e.symm).1;omega)).trans (h.bb.block i hi hn)⟩,
  ⟨Nat.le_trans h.ko.size hg.size,fun i o hi ho=>by
   have h1:=h.ko.same i o hi ho
   rw[hg.block i (Array.getElem?_eq_some_iff.1 h1).1 (fun q=>by
    rcases k.2 with ⟨rfl,_⟩|⟨g,cap,cur,rfl,_,hh,_⟩
    ·cases q
    ·simp only[Value.ownBlock,Option.some.injEq] at q
     subst q
     rw[hh] at h1
     cases h1
     cases ho)]
   exact h1⟩,
  fun i hi hn=>(hg.block i (Nat.lt_of_lt_of_le hi h.bb.size) (fun e=>by have:=(k.lt i e.symm).1;omega)).trans (h.fr i hi hn),Nat.le_trans h.le hg.size⟩
theorem row_or{w:World}{base e n c:Nat}{p:Option Addr}{xs:List Value}(k:w.ownsRow base e 1 (.slice p n c) n xs):∃ g,(n=0∧∃ a c',Value.slice p n c=.slice a 0 c')∨Value.slice p n c=.slice (some ⟨g,0,none⟩) n c∧n≤c:=by
 rcases k.2 with ⟨h,_⟩|⟨g,cap,cur,hv,_,_,hc,_⟩
 ·simp only[Value.slice.injEq] at h
  exact⟨0,.inl ⟨h.2.1,none,0,by rw[h.1,h.2.1,h.2.2]⟩⟩
 ·simp only[Value.slice.injEq] at hv
  obtain⟨rfl,_,rfl⟩:=hv
  exact⟨g,.inr ⟨rfl,hc⟩⟩
def Each(w:World)(base:Nat)(gs:List (Nat×Nat))(L:List (List Int)):Prop:=∀ i,i<L.length→w.ownsRow base 3 1 (Bt gs L i) (L.getD i []).length ((L.getD i []).map (Value.int .i64))
theorem Each.below{w W:World}{base:Nat}{gs:List (Nat×Nat)}{L:List (List Int)}(h:Each w base gs L)(hb:Below w.heap.size w W):Each W base gs L:=fun i hi=>Zb (h i hi) hb
theorem Each.only{T:List TypeId}{w W:World}{base:Nat}{gs:List (Nat×Nat)}{L:List (List Int)}(h:Each w base gs L)(hO:Ze T w W)(hT:T.contains 3=false):Each W base gs L:=fun i hi=>Zl (h i hi) hO hT
theorem Ek{gs:List (Nat×Nat)}{L:List (List Int)}{g c i:Nat}{ch:List Int}(hg:gs.length=L.length)(hi:i<L.length):Bt (gs++[(g,c)]) (L++[ch]) i=Bt gs L i:=by
 unfold Bt
 simp[List.getD,List.getElem?_append_left,hi,hg]
theorem Ep{gs:List (Nat×Nat)}{L:List (List Int)}{g c:Nat}{ch:List Int}(hg:gs.length=L.length):Bt (gs++[(g,c)]) (L++[ch]) L.length=.slice (some ⟨g,0,none⟩) ch.length c:=by
 unfold Bt
 rw[show(gs++[(g,c)]).getD L.length (0,0)=(g,c) from by rw[←hg];simp[List.getD],show(L++[ch]).getD L.length []=ch from by simp[List.getD]]
theorem Lists.snoc{w:World}{base g c n:Nat}{v:Value}{gs:List (Nat×Nat)}{L:List (List Int)}{ch:List Int}(hn:n=L.length+1)(hrow:w.ownsRow base 30 1 v n ((List.range L.length).map (Bt gs L)++[.slice (some ⟨g,0,none⟩) ch.length c]))(he:Each w base gs L)(hnew:w.ownsRow base 3 1 (.slice (some ⟨g,0,none⟩) ch.length c) ch.length (ch.map (Value.int .i64)))(hg:gs.length=L.length):Lists w base v (gs++[(g,c)]) (L++[ch]):=by
 subst hn
 refine⟨?_,fun i hi=>?_⟩
 ·rw[show(L++[ch]).length=L.length+1 from by simp,List.range_succ,List.map_append]
  rw[show(List.range L.length).map (Bt (gs++[(g,c)]) (L++[ch]))=(List.range L.length).map (Bt gs L) from List.map_congr_left fun i hi=>Ek hg (List.mem_range.1 hi),List.map_singleton,Ep hg]
  exact hrow
 ·by_cases h:i<L.length
  ·rw[Ek hg h,show(L++[ch]).getD i []=L.getD i [] from by simp[List.getD,List.getElem?_append_left,h]]
   exact he i h
  ·obtain rfl:i=L.length:=by simp at hi;omega
   rw[Ep hg,show(L++[ch]).getD L.length []=ch from by simp[List.getD]]
   exact hnew
theorem Sl.midI{w:World}{g n c:Nat}{xs:List Value}(h:Sl w (.slice (some ⟨g,0,none⟩) n c) n xs)(hl:xs.length=n)(k m:Nat)(hm:0<m)(hk:k+m≤n):Sl w (.slice (some ⟨g,0+k,none⟩) m m) m ((xs.drop k).take m):=by
 rcases h with ⟨a',c',h1,h2,h3⟩|⟨g',off',cap,h1,h2,h3,h4⟩
 ·omega
 ·simp only[Value.slice.injEq,Option.some.injEq,Addr.mk.injEq] at h1
  obtain⟨⟨rfl,rfl,_⟩,_,rfl⟩:=h1
  refine .inr ⟨g,0+k,m,rfl,Nat.le_refl _,by omega,fun j x hj=>?_⟩
  have hjm:j<m:=by
   rcases Nat.lt_or_ge j m with q|q
   ·exact q
   ·rw[List.getElem?_eq_none (by simp;omega)] at hj;cases hj
  rw[List.getElem?_take_of_lt hjm,List.getElem?_drop] at hj
  have:=h4 (k+j) x hj
  rw[show 0+k+j=0+(k+j) from by omega]
  exact this
end Go.Proofs.YthlakkdgcgkcdaaGreatDoor
namespace Go.Proofs.YthlakkdgcgkcdaaGreatDoor
set_option maxHeartbeats 8000000
set_option maxRecDepth 100000
open Go.RowKit Go.Extern.Stop Go.Stop Go.Extern
set_option linter.unusedVariables false
attribute [local irreducible] wpList wpAnyH Code.wp Oper.wp Go
theorem Ss(w:World) :
 Calls Tryz.prog 125 #[] w (Vn (fun w' r=>∃ b,r=.slice (some ⟨b,0,none⟩) 1 1∧w.heap.size≤b∧Blk w' b [.int .i64 4,.int .i64 3,.int .i64 2147483647] 176) w):=by
 refine zin 3 Tryz.func125 ?_
 refine xbs 8 1 [.int .i64 4,.int .i64 3,.int .i64 2147483647] 176 fun b1 W1 n1=>?_
 have g1:=n1.ge (Below.refl w.heap.size _)
 exact xe 4 (.slice (some ⟨b1,0,none⟩) 1 1) ⟨_,rfl,n1.below,_,rfl,g1,n1.blk⟩
theorem Ry(gl gn:Nat)(n:Int)(h1:3≤n)(h2:n≤2147483647)(w:World)(hl:Blk w gl [.int .i64 4,.int .i64 3,.int .i64 2147483647] 176)(hn:Blk w gn [.int .i64 n] 3) :
 Calls Tryz.prog 87 #[.slice (some ⟨gl,0,none⟩) 1 1,.slice (some ⟨gn,0,none⟩) 1 1] w (Ret (.string ⟨(leB n 4).toArray⟩) w):=by
 refine zin 51 Tryz.func87 ?_
 refine xu 19 2 ?_
 refine xlv 15 hl.rp ?_
 refine xa 0 [.int .i64 0,.int .i64 0,.int .i64 0] 176 fun b1 W1 n1=>?_
 have d1_gl:=n1.ne hl
 refine xsv 1 n1.blk [.int .i64 4,.int .i64 3,.int .i64 2147483647] fun W2 u2 k2=>?_
 have g1:=n1.ge (Below.refl w.heap.size _)
 refine xd 4 .z ?_
 have hn'1:=(u2.blkT (hn.below n1.below) n1.blk (by decide)).below (Za W2)
 refine xb (.e [0,1,2] 3) 0 hn'1 ?_
 have k2'1:=k2.below (Za W2)
 refine xb (.e [4] 5) 1 k2'1 ?_
 refine xgk (.b [6,7]) [23,24] (show(decide (n<(3:Int)):Bool)=false from decide_eq_false (by omega)) ?_
 refine xb (.e [8,9,10] 11) 0 hn'1 ?_
 refine xb (.e [12] 13) 2 k2'1 ?_
 refine xk (.r [14,15] 2) (show(decide (n>(2147483647:Int)):Bool)=false from decide_eq_false (by omega)) ?_
 refine xd 3 .z ?_
 have k2'2:=k2'1.below (Za W2.drew)
 refine xb (.e [0] 1) 0 k2'2 ?_
 have hn'2:=hn'1.below (Za W2.drew)
 refine xb (.e [2,3,4] 5) 0 hn'2 ?_
 refine xbs (.o [6] 7) 1 [.int .i64 4,.int .i64 n] 236 fun b4 W4 n4=>?_
 refine yc (.o [] 8) (args:=#[.slice (some ⟨b4,0,none⟩) 1 1]) .z (So b4 n (by omega) (by omega) _ n4.blk) ?_
 rintro _ W5 ⟨_,rfl,hb5,p2_0,c2_0,rfl,h2_0⟩
 have hs5:=(bln (bln (bln (u2.below n1.below g1) (Za W2)) (Za W2.drew)) n4.below).size
 refine⟨hb5,?_⟩
 have o6:=World.ownsRow_nil W5 w.heap.size 5 1
 have h2_0'1:=Zd h2_0 hs5
 have hB:=bln (bln (bln (bln (u2.below n1.below g1) (Za W2)) (Za W2.drew)) n4.below) hb5
 refine xbi (.r [9,10,11,12,13] 5) fun _ _ _ _ zJ zQ zo zx zy zK=>Zp (m:=4) (news:=(leB n 4).map bv) (.int .u8 0) 1 1 (4) ((leB n 4).map bv) zo Tryz.underlying22 (by kernel_rfl) rfl (by decide) zx o6 zy (Zf h2_0'1) (by simp[Zo]) (Vd _) (by unfold maxLen;omega) (by omega) hB.size (by rfl) (by simp) fun px7 cx7 W7 o7 hg7 hb7=>?_
 refine zK _ _ ?_
 refine xcv0 24 (fun _ _ _ zo zx=>Qi zo zx (Qk (Zf o7) (by simp[Zo])) (by simp[Zo]) Tryz.underlying22 Tryz.underlying5 Tryz.underlying9) ?_
 have hB'1:=hB.trans hb7
 exact xe 4 (.string ⟨(leB n 4).toArray⟩) ⟨rfl,hB'1⟩
theorem Zdz(n:Int)(h1:3≤n)(h2:n≤2147483647)(w:World) :
 Calls Tryz.prog 79 #[.int .i64 n] w (Ret (.string ⟨(leB n 4).toArray⟩) w):=by
 refine zin 7 Tryz.func79 ?_
 refine xc 7 (args:=#[]) (Ss _) ?_
 rintro _ W1 ⟨_,rfl,hb1,gl,rfl,gg,kl⟩
 refine xbs 1 1 [.int .i64 n] 3 fun b2 W2 n2=>?_
 have kl'1:=kl.below n2.below
 refine xr 0 (args:=#[.slice (some ⟨gl,0,none⟩) 1 1,.slice (some ⟨b2,0,none⟩) 1 1]) (Ry gl b2 n h1 h2 _ kl'1 n2.blk) fun W3 hb3=>?_
 have hB:=bln (bln hb1 n2.below) hb3
 exact xe 4 (.string ⟨(leB n 4).toArray⟩) ⟨rfl,hB⟩
theorem Tp(w:World) :
 Calls Tryz.prog 59 #[] w (Vn (fun w' r=>∃ b,r=.slice (some ⟨b,0,none⟩) 3 3∧w.heap.size≤b∧Blk w' b [.int .i64 8,.int .i64 1,.int .i64 14399,.int .i64 4,.int .i64 0,.int .i64 960,.int .i64 4,.int .i64 0,.int .i64 960] 176) w):=by
 refine zin 5 Tryz.func59 ?_
 refine xbs 10 3 [.int .i64 8,.int .i64 1,.int .i64 14399,.int .i64 4,.int .i64 0,.int .i64 960,.int .i64 4,.int .i64 0,.int .i64 960] 176 fun b1 W1 n1=>?_
 have g1:=n1.ge (Below.refl w.heap.size _)
 exact xe 4 (.slice (some ⟨b1,0,none⟩) 3 3) ⟨_,rfl,n1.below,_,rfl,g1,n1.blk⟩
theorem Nn(gl gn:Nat)(n f g:Int)(h1:1≤n)(h2:n≤14399)(h3:0≤f)(h4:f≤960)(h5:0≤g)(h6:g≤960)(w:World)(hl:Blk w gl [.int .i64 8,.int .i64 1,.int .i64 14399,.int .i64 4,.int .i64 0,.int .i64 960,.int .i64 4,.int .i64 0,.int .i64 960] 176)(hn:Blk w gn [.int .i64 n,.int .i64 f,.int .i64 g] 3) :
 Calls Tryz.prog 87 #[.slice (some ⟨gl,0,none⟩) 3 3,.slice (some ⟨gn,0,none⟩) 3 3] w (Ret (.string ⟨(leB n 8++leB f 4++leB g 4).toArray⟩) w):=by
 refine zin 51 Tryz.func87 ?_
 refine xu 19 4 ?_
 refine xlv 15 (hl.rpp 0 3) ?_
 refine xa 0 [.int .i64 0,.int .i64 0,.int .i64 0] 176 fun b1 W1 n1=>?_
 have d1_gl:=n1.ne hl
 refine xsv 1 n1.blk [.int .i64 8,.int .i64 1,.int .i64 14399] fun W2 u2 k2=>?_
 have g1:=n1.ge (Below.refl w.heap.size _)
 refine xd 4 .z ?_
 have hn'1:=(u2.blkT (hn.below n1.below) n1.blk (by decide)).below (Za W2)
 refine xb (.e [0,1,2] 3) 0 hn'1 ?_
 have k2'1:=k2.below (Za W2)
 refine xb (.e [4] 5) 1 k2'1 ?_
 refine xgk (.b [6,7]) [23,24] (show(decide (n<(1:Int)):Bool)=false from decide_eq_false (by omega)) ?_
 refine xb (.e [8,9,10] 11) 0 hn'1 ?_
 refine xb (.e [12] 13) 2 k2'1 ?_
 refine xk (.r [14,15] 2) (show(decide (n>(14399:Int)):Bool)=false from decide_eq_false (by omega)) ?_
 refine xd 3 .z ?_
 have k2'2:=k2'1.below (Za W2.drew)
 refine xb (.e [0] 1) 0 k2'2 ?_
 have hn'2:=hn'1.below (Za W2.drew)
 refine xb (.e [2,3,4] 5) 0 hn'2 ?_
 refine xbs (.o [6] 7) 1 [.int .i64 8,.int .i64 n] 236 fun b4 W4 n4=>?_
 refine yc (.o [] 8) (args:=#[.slice (some ⟨b4,0,none⟩) 1 1]) .z (Pack_8 b4 n (by omega) _ n4.blk) ?_
 rintro _ W5 ⟨_,rfl,hb5,p2_0,c2_0,rfl,h2_0⟩
 have hs5:=(bln (bln (bln (u2.below n1.below g1) (Za W2)) (Za W2.drew)) n4.below).size
 refine⟨hb5,?_⟩
 have o6:=World.ownsRow_nil W5 w.heap.size 5 1
 have h2_0'1:=Zd h2_0 hs5
 have hB:=bln (bln (bln (bln (u2.below n1.below g1) (Za W2)) (Za W2.drew)) n4.below) hb5
 refine xbi (.r [9,10,11,12,13] 5) fun _ _ _ _ zJ zQ zo zx zy zK=>Zp (m:=8) (news:=(leB n 8).map bv) (.int .u8 0) 1 1 (8) ((leB n 8).map bv) zo Tryz.underlying22 (by kernel_rfl) rfl (by decide) zx o6 zy (Zf h2_0'1) (by simp[Zo]) (Vd _) (by unfold maxLen;omega) (by omega) hB.size (by rfl) (by simp) fun px7 cx7 W7 o7 hg7 hb7=>?_
 refine zK _ _ ?_
 have hl'1:=(((((u2.blk (hl.below n1.below) (Ne.symm (Ne.symm d1_gl))).below (Za W2)).below (Za W2.drew)).below n4.below).below hb5).grown hg7 o6 (by decide)
 refine xlv 24 (hl'1.rpp 3 3) ?_
 refine xa 0 [.int .i64 0,.int .i64 0,.int .i64 0] 176 fun b8 W8 n8=>?_
 have d8_gl:=n8.ne hl'1
 have k2'3:=((k2'2.below n4.below).below hb5).grown hg7 o6 (by decide)
 have d8_b1:=n8.ne k2'3
 have hB'1:=hB.trans hb7
 have g8:=n8.ge hB'1
 refine xsv 1 n8.blk [.int .i64 4,.int .i64 0,.int .i64 960] fun W9 u9 k9=>?_
 refine xd 4 .z ?_
 have hn'3:=(u9.blkT ((((hn'2.below n4.below).below hb5).grown hg7 o6 (by decide)).below n8.below) n8.blk (by decide)).below (Za W9)
 refine xb (.e [0,1,2] 3) 1 hn'3 ?_
 have k9'1:=k9.below (Za W9)
 refine xb (.e [4] 5) 1 k9'1 ?_
 refine xgk (.b [6,7]) [23,24] (show(decide (f<(0:Int)):Bool)=false from decide_eq_false (by omega)) ?_
 refine xb (.e [8,9,10] 11) 1 hn'3 ?_
 refine xb (.e [12] 13) 2 k9'1 ?_
 refine xk (.r [14,15] 2) (show(decide (f>(960:Int)):Bool)=false from decide_eq_false (by omega)) ?_
 refine xd 3 .z ?_
 have k9'2:=k9'1.below (Za W9.drew)
 refine xb (.e [0] 1) 0 k9'2 ?_
 have hn'4:=hn'3.below (Za W9.drew)
 refine xb (.e [2,3,4] 5) 1 hn'4 ?_
 refine xbs (.o [6] 7) 1 [.int .i64 4,.int .i64 f] 236 fun b11 W11 n11=>?_
 have k4'1:=((u9.blkT (((n4.blk.below hb5).grown hg7 o6 (by decide)).below n8.below) n8.blk (by decide)).below (Za W9)).below (Za W9.drew)
 have d11_b4:=n11.ne k4'1
 have hB'2:=bln (bln (u9.below (bln hB'1 n8.below) g8) (Za W9)) (Za W9.drew)
 have g11:=n11.ge hB'2
 refine yc (.o [] 8) (args:=#[.slice (some ⟨b11,0,none⟩) 1 1]) .z (So b11 f (by omega) (by omega) _ n11.blk) ?_
 rintro _ W12 ⟨_,rfl,hb12,p2_1,c2_1,rfl,h2_1⟩
 have hs12:=(bln hB'2 n11.below).size
 refine⟨hb12,?_⟩
 have o7'1:=Zb (Zb (Zb (Zb (u9.own2 (Zb o7 n8.below) n8.blk (by decide)) (Za W9)) (Za W9.drew)) n11.below) hb12
 have h2_1'1:=Zd h2_1 hs12
 have hB'3:=bln (bln hB'2 n11.below) hb12
 refine xbi (.r [9,10,11,12,13] 5) fun _ _ _ _ zJ zQ zo zx zy zK=>Zp (m:=4) (news:=(leB f 4).map bv) (.int .u8 0) 1 1 (12) ((leB n 8++leB f 4).map bv) zo Tryz.underlying22 (by kernel_rfl) rfl (by decide) zx o7'1 zy (Zf h2_1'1) (by simp[Zo]) (Vd _) (by unfold maxLen;omega) (by omega) hB'3.size (by rfl) (by simp) fun px13 cx13 W13 o13 hg13 hb13=>?_
 refine zK _ _ ?_
 have hl'2:=(((((u9.blk (hl'1.below n8.below) (Ne.symm (Ne.symm d8_gl))).below (Za W9)).below (Za W9.drew)).below n11.below).below hb12).grown hg13 o7'1 (by decide)
 refine xlv 24 (hl'2.rpp 6 3) ?_
 refine xa 0 [.int .i64 0,.int .i64 0,.int .i64 0] 176 fun b14 W14 n14=>?_
 have d14_gl:=n14.ne hl'2
 have k2'4:=(((((u9.blk (k2'3.below n8.below) (Ne.symm (Ne.symm d8_b1))).below (Za W9)).below (Za W9.drew)).below n11.below).below hb12).grown hg13 o7'1 (by decide)
 have d14_b1:=n14.ne k2'4
 have k9'3:=((k9'2.below n11.below).below hb12).grown hg13 o7'1 (by decide)
 have d14_b8:=n14.ne k9'3
 have hB'4:=hB'3.trans hb13
 have g14:=n14.ge hB'4
 refine xsv 1 n14.blk [.int .i64 4,.int .i64 0,.int .i64 960] fun W15 u15 k15=>?_
 refine xd 4 .z ?_
 have hn'5:=(u15.blkT ((((hn'4.below n11.below).below hb12).grown hg13 o7'1 (by decide)).below n14.below) n14.blk (by decide)).below (Za W15)
 refine xb (.e [0,1,2] 3) 2 hn'5 ?_
 have k15'1:=k15.below (Za W15)
 refine xb (.e [4] 5) 1 k15'1 ?_
 refine xgk (.b [6,7]) [23,24] (show(decide (g<(0:Int)):Bool)=false from decide_eq_false (by omega)) ?_
 refine xb (.e [8,9,10] 11) 2 hn'5 ?_
 refine xb (.e [12] 13) 2 k15'1 ?_
 refine xk (.r [14,15] 2) (show(decide (g>(960:Int)):Bool)=false from decide_eq_false (by omega)) ?_
 refine xd 3 .z ?_
 have k15'2:=k15'1.below (Za W15.drew)
 refine xb (.e [0] 1) 0 k15'2 ?_
 have hn'6:=hn'5.below (Za W15.drew)
 refine xb (.e [2,3,4] 5) 2 hn'6 ?_
 refine xbs (.o [6] 7) 1 [.int .i64 4,.int .i64 g] 236 fun b17 W17 n17=>?_
 have k4'2:=((u15.blkT ((((k4'1.below n11.below).below hb12).grown hg13 o7'1 (by decide)).below n14.below) n14.blk (by decide)).below (Za W15)).below (Za W15.drew)
 have d17_b4:=n17.ne k4'2
 have k11'1:=((u15.blkT (((n11.blk.below hb12).grown hg13 o7'1 (by decide)).below n14.below) n14.blk (by decide)).below (Za W15)).below (Za W15.drew)
 have d17_b11:=n17.ne k11'1
 have hB'5:=bln (bln (u15.below (bln hB'4 n14.below) g14) (Za W15)) (Za W15.drew)
 have g17:=n17.ge hB'5
 refine yc (.o [] 8) (args:=#[.slice (some ⟨b17,0,none⟩) 1 1]) .z (So b17 g (by omega) (by omega) _ n17.blk) ?_
 rintro _ W18 ⟨_,rfl,hb18,p2_2,c2_2,rfl,h2_2⟩
 have hs18:=(bln hB'5 n17.below).size
 refine⟨hb18,?_⟩
 have o13'1:=Zb (Zb (Zb (Zb (u15.own2 (Zb o13 n14.below) n14.blk (by decide)) (Za W15)) (Za W15.drew)) n17.below) hb18
 have h2_2'1:=Zd h2_2 hs18
 have hB'6:=bln (bln hB'5 n17.below) hb18
 refine xbi (.r [9,10,11,12,13] 5) fun _ _ _ _ zJ zQ zo zx zy zK=>Zp (m:=4) (news:=(leB g 4).map bv) (.int .u8 0) 1 1 (16) ((leB n 8++leB f 4++leB g 4).map bv) zo Tryz.underlying22 (by kernel_rfl) rfl (by decide) zx o13'1 zy (Zf h2_2'1) (by simp[Zo]) (Vd _) (by unfold maxLen;omega) (by omega) hB'6.size (by rfl) (by simp) fun px19 cx19 W19 o19 hg19 hb19=>?_
 refine zK _ _ ?_
 refine xcv0 24 (fun _ _ _ zo zx=>Qi zo zx (Qk (Zf o19) (by simp[Zo])) (by simp[Zo]) Tryz.underlying22 Tryz.underlying5 Tryz.underlying9) ?_
 have hB'7:=hB'6.trans hb19
 exact xe 4 (.string ⟨(leB n 8++leB f 4++leB g 4).toArray⟩) ⟨rfl,hB'7⟩
theorem Ut(n f g:Int)(h1:1≤n)(h2:n≤14399)(h3:0≤f)(h4:f≤960)(h5:0≤g)(h6:g≤960)(w:World) :
 Calls Tryz.prog 53 #[.agg #[.int .i64 n,.int .i64 f,.int .i64 g]] w (Ret (.string ⟨(leB n 8++leB f 4++leB g 4).toArray⟩) w):=by
 refine zin 12 Tryz.func53 ?_
 refine xa 2 [.int .i64 n,.int .i64 f,.int .i64 g] 79 fun b1 W1 n1=>?_
 refine xd 4 .z ?_
 have k1:=n1.blk.below (Za W1)
 refine xb (.e [1] 2) 0 k1 ?_
 refine xb (.e [3] 4) 1 k1 ?_
 refine xb (.e [5] 6) 2 k1 ?_
 refine xm2 0 0 7 ?_ ?_
 ·refine yc 0 (args:=#[]) .z (Tp _) ?_
  rintro _ W2 ⟨_,rfl,hb2,gl,rfl,gg,kl⟩
  refine⟨hb2,?_⟩
  refine xbs (.o [] 7) 3 [.int .i64 n,.int .i64 f,.int .i64 g] 3 fun b3 W3 n3=>?_
  have kl'1:=kl.below n3.below
  refine xr (.o [] 8) (args:=#[.slice (some ⟨gl,0,none⟩) 3 3,.slice (some ⟨b3,0,none⟩) 3 3]) (Nn gl b3 n f g h1 h2 h3 h4 h5 h6 _ kl'1 n3.blk) fun W4 hb4=>?_
  have hB:=bln (bln (bln (bln n1.below (Za W1)) hb2) n3.below) hb4
  exact xe (.r [9] 3) (.string ⟨(leB n 8++leB f 4++leB g 4).toArray⟩) ⟨rfl,hB⟩
 refine xbs 0 3 [.int .i64 n,.int .i64 f,.int .i64 g] 3 fun b5 W5 n5=>?_
 refine yc (.o [] 0) (args:=#[]) .z (Tp _) ?_
 rintro _ W6 ⟨_,rfl,hb6,gl,rfl,gg,kl⟩
 refine⟨hb6,?_⟩
 have k5:=n5.blk.below hb6
 refine xr (.o [] 8) (args:=#[.slice (some ⟨gl,0,none⟩) 3 3,.slice (some ⟨b5,0,none⟩) 3 3]) (Nn gl b5 n f g h1 h2 h3 h4 h5 h6 _ kl k5) fun W7 hb7=>?_
 have hB:=bln (bln (bln (bln n1.below (Za W1)) n5.below) hb6) hb7
 exact xe (.r [9] 3) (.string ⟨(leB n 8++leB f 4++leB g 4).toArray⟩) ⟨rfl,hB⟩
end Go.Proofs.YthlakkdgcgkcdaaGreatDoor
namespace Go.Proofs.YthlakkdgcgkcdaaGreatDoor
set_option maxHeartbeats 8000000
set_option maxRecDepth 100000
open Go.RowKit Go.Extern.Stop Go.Stop Go.Extern
set_option linter.unusedVariables false
attribute [local irreducible] wpList wpAnyH Code.wp Oper.wp Go
section
variable {P:Program} {a:Act}
theorem shl_bd{n:Int}(h:0≤n∧n≤3){s:Nat}(hs:s≤6):0≤n*2 ^ s∧n*2 ^ s≤192:=by
 obtain rfl|rfl|rfl|rfl:n=0∨n=1∨n=2∨n=3:=by omega
 all_goals obtain rfl|rfl|rfl|rfl|rfl|rfl|rfl:s=0∨s=1∨s=2∨s=3∨s=4∨s=5∨s=6:=by omega
 all_goals decide
theorem run_shlS{o:Oper}{t t2:TypeId}{x y:Operand}{n:Int}{s:Nat}{j:Int}{kj:IntKind}(ho:o.op=.binOp .shl t x y t2)(hx:a.eval x=.int .i64 n)(hy:a.eval y=.int kj j)(hj:j=(s:Int))(hn:0≤n∧n≤3)(hs:s≤6)(w:World):(execOp a.eval o).run P w=.ok (.value (.int .i64 (n*2 ^ s))) w:=by
 subst hj
 have e:=shift_shl .i64 kj n (s:Int) (Int.natCast_nonneg s) (by show(s:Int)≤64;omega)
 rw[show((s:Int)).toNat=s from by omega] at e
 have hb:=shl_bd hn hs
 rw[IntWalk.i64_in _ (by omega)] at e
 simp only[execOp,ho,hx,hy,eqGuard_shl,binOp_shl,e]
 simp
end
section
variable {P:Program} {fn:Func} {R:Ending→World→Prop} {w:World} {s:Zs}
theorem xbot(q:Zq){b:BinOp}{t t2:TypeId}{u1 u2 v:Value}(hv:∀ (a:Act) (o:Oper) (x y:Operand),o.op=.binOp b t x y t2→a.eval x=u1→a.eval y=u2→∀ V,True→(execOp a.eval o).run P V=.ok (.value v) V)(g:Go P fn R (znx (zq P q s) v) w)(h:zk (zq P q s)=some (.bn b t t2 u1 u2):=by kernel_rfl):Go P fn R s w:=by
 refine Zy q s ?_
 obtain⟨o,ho,h⟩:=Qo h
 exact Zcl ho (fun V _=>by
  obtain⟨x,y,h1,h2,h3⟩:=Ph h
  exact hv _ o x y h1 h2 h3 V trivial) g
end
theorem u8_shl{n:Int}(h:0≤n∧n≤3){s:Nat}(hs:s≤6):IntKind.u8.wrap (n*2 ^ s)=n*2 ^ s:=by
 have hb:=shl_bd h hs
 generalize n*2 ^ s=m at *
 simp[IntKind.wrap,IntKind.bits,IntKind.signed];omega
theorem Zfs(l:List Int)(i:Nat){k:Nat}(hk:k<240):(Ww l i).getD (4+k) 0=g4B l i k:=by
 unfold Ww
 rw[List.getD,List.getElem?_append_right (by rw[Zo];omega),Zo,Nat.add_sub_cancel_left]
 simp[hk]
theorem bits_or{l:List Int}(h:Hj l){i:Nat}(hi:i<960):IntKind.u8.wrap (↑(BitVec.ofInt 8 (↑((Ww l i).getD (4+(i/4)) 0).toNat:Int) ||| BitVec.ofInt 8 (l.getD i 0*2 ^ ((i%4)*2))).toNat:Int)=((g4B l (i+1) (i/4)).toNat:Int):=by
 rw[Zfs l i (by omega)]
 obtain⟨h1,h2⟩:=g4B_at h (i:=i)
 rw[h1]
 obtain⟨n,hn⟩:∃ n:Nat,l.getD i 0=n:=⟨(l.getD i 0).toNat,by have:=(Vj h i).1;omega⟩
 have hb:=Vj h i
 rw[hn] at hb ⊢
 generalize (g4B l i (i/4)).toNat=o at *
 have hr:i%4<4:=by omega
 generalize i%4=r at *
 have ho:o<64:=Nat.lt_of_lt_of_le h2 (by
  obtain rfl|rfl|rfl|rfl:r=0∨r=1∨r=2∨r=3:=by omega
  all_goals decide)
 have hs:=or_step ⟨r,hr⟩ ⟨n,by omega⟩ ⟨o,ho⟩ h2
 simp only at hs
 have e4:(4:Nat) ^ r=2 ^ (r*2):=by rw[Nat.mul_comm,Nat.pow_mul]
 have e:((n:Int)*2 ^ (r*2))=((n*4 ^ r:Nat):Int):=by rw[e4];simp
 have e':((n:Int)*4 ^ r)=((n*4 ^ r:Nat):Int):=by simp
 have hm:n*4 ^ r≤192:=by
   have h3:4 ^ r≤64:=by
    obtain rfl|rfl|rfl|rfl:r=0∨r=1∨r=2∨r=3:=by omega
    all_goals decide
   calc n*4 ^ r≤3*64:=Nat.mul_le_mul (by omega) h3
     _=192:=rfl
 rw[e,e',BitVec.ofInt_natCast,BitVec.ofInt_natCast,BitVec.toNat_or,BitVec.toNat_ofNat,BitVec.toNat_ofNat,Nat.mod_eq_of_lt (by omega),Nat.mod_eq_of_lt (by omega),hs]
 generalize n*4 ^ r=m at *
 simp[IntKind.wrap,IntKind.bits,IntKind.signed];omega
theorem bits_set{l:List Int}{i:Nat}(hi:i<960):((Ww l i).map bv).set (4+(i/4)) (.int .u8 ((g4B l (i+1) (i/4)).toNat:Int))=(Ww l (i+1)).map bv:=by
 rw[show Value.int .u8 ((g4B l (i+1) (i/4)).toNat:Int)=bv (g4B l (i+1) (i/4)) from rfl,←List.map_set]
 congr 1
 unfold Ww
 rw[List.set_append_right _ _ (by rw[Zo];omega),Zo,Nat.add_sub_cancel_left]
 congr 1
 apply List.ext_getElem
 ·simp
 ·intro k h1 h2
  rw[List.getElem_set]
  split
  ·rename_i e;subst e;simp
  ·rename_i e;simp only[List.getElem_map,List.getElem_range];unfold g4B;rw[g4_ne (by omega)]
theorem bits0(l:List Int):((List.replicate 244 (0:UInt8)).map bv).take 0++(leB (↑l.length:Int) 4).map bv++((List.replicate 244 (0:UInt8)).map bv).drop (0+4)=(Ww l 0).map bv:=by
 unfold Ww
 rw[List.map_append,List.take_zero,List.nil_append]
 congr 1
theorem BysN.elem{w:World}{b:Option Addr}{n c:Nat}{l:List UInt8}(h:Sl w (.slice b n c) n (l.map bv))(hl:l.length=n){k:Nat}(hk:k<n):b.isSome=true∧w.cell? (Xh b (k*1))=some (.int .u8 ((l.getD k 0).toNat:Int)):=by
 subst hl;exact Bys.elem (Qk h rfl) hk
theorem bits_put1(n:Int)(w:World)(h0:0≤n)(h3:n≤3) :
 Calls Tryz.prog 130 #[.int .i64 n] w (Ret (.bool false) w):=by
 refine zin 9 Tryz.func130 ?_
 refine xgk 10 [4,5] (show(decide (n<(0:Int)):Bool)=false from decide_eq_false (by omega)) ?_
 refine xe 7 (.bool (decide (n>(3:Int)))) ?_
 rw[show decide (n>(3:Int))=false from decide_eq_false (by omega)];exact⟨rfl,(Below.refl w.heap.size _)⟩
theorem indexSmall(a:Option Addr)(c:Nat)(l:List Int)(w:World)(hS:Hj l)(hl:l.length≤960)(h:Sl w (.slice a l.length c) l.length (l.map (Value.int .i64))) :
 Calls Tryz.prog 176 #[.slice a l.length c,.func (.func 130) #[] #[]] w (Ret (.int .i64 (-1)) w):=by
 refine zin 19 Tryz.func176 ?_
 have hB:=Below.refl w.heap.size w
 refine zl 14 19 (fun zm zkv V=>∃ (i:Nat),zkv=[(0,.slice a l.length c),(1,.func (.func 130) #[] #[]),(7,.int .i64 (↑l.length:Int)),(8,.int .i64 (↑i:Int))]∧zm=l.length-((↑i:Int)).toNat∧Below w.heap.size w V∧i≤l.length) ⟨0,rfl,rfl,hB,Nat.zero_le _⟩ ?_
 rintro _ _ W1 ⟨i,rfl,rfl,hB_1,hi⟩ J1 hJ1 r1
 refine xid 6 ((↑i:Int)<(↑l.length:Int)) (fun hc2=>?_) (fun hc2=>?_)
 ·refine xx 15 _ l.length i 1 (Ints.elem h (k:=i) (by omega)).1 ?_
  refine xl 0 ((Ints.elem (h.below hB_1) (k:=i) (by omega)).2) ?_
  refine xr 0 (args:=#[.int .i64 (l.getD i 0)]) (bits_put1 (l.getD i 0) _ (Vj hS i).1 (Vj hS i).2) fun W3 hb3=>?_
  refine xwm 7 ((↑i:Int)+1) (↑(i+1):Int) ?_
  have hB'1:=bln hB_1 hb3
  exact ze 2 (hJ1 _ _ _ ⟨i+1,rfl,rfl,hB'1,by omega⟩ (by omega))
 exact xe 11 (.int .i64 (-1)) ⟨rfl,hB_1⟩
theorem Zaw(a:Option Addr)(c:Nat)(l:List Int)(w:World)(hS:Hj l)(hl:l.length≤960)(h:Sl w (.slice a l.length c) l.length (l.map (Value.int .i64))) :
 Calls Tryz.prog 129 #[.slice a l.length c,.func (.func 130) #[] #[]] w (Ret (.bool false) w):=by
 refine zin 9 Tryz.func129 ?_
 refine xr 9 (args:=#[.slice a l.length c,.func (.func 130) #[] #[]]) (indexSmall a c l _ hS hl (h.below (Below.refl w.heap.size _))) fun W1 hb1=>?_
 exact xe 5 (.bool false) ⟨rfl,hb1⟩
theorem Za8(a:Option Addr)(c:Nat)(l:List Int)(w:World)(hl:l.length≤960)(h:Sl w (.slice a l.length c) l.length (l.map (Value.int .i64))) :
 Calls Tryz.prog 86 #[.slice a l.length c] w (Ret (.tuple #[.int .i64 (↑(Yn l):Int),.int .i64 (↑(Xm l):Int)]) w):=by
 refine zin 27 Tryz.func86 ?_
 have hB:=Below.refl w.heap.size w
 refine zl 23 27 (fun zm zkv V=>∃ (i f g:Nat),zkv=[(2,.int .i64 0),(3,.int .i64 0),(4,.int .i64 (↑f:Int)),(5,.int .i64 (↑g:Int)),(10,.slice a l.length c),(11,.int .i64 (↑l.length:Int)),(12,.int .i64 (↑i:Int))]∧zm=l.length-((↑i:Int)).toNat∧Below w.heap.size w V∧i≤l.length∧f=Ze7 l i∧((f=0∧g=l.length∧∀ j,j<i→l.getD j 0≠0)∨(0<f∧g=Xm l))) ⟨0,0,l.length,rfl,rfl,hB,Nat.zero_le _,rfl,?_⟩ ?_
 ·exact .inl ⟨rfl,rfl,fun j hj=>absurd hj (by omega)⟩
 rintro _ _ W1 ⟨i,f,g,rfl,rfl,hB_1,hi,hf,hg⟩ J1 hJ1 r1
 have hfs:=fun(q:i<l.length)=>Iw q
 have hfb:=Fa l i
 refine xid 6 ((↑i:Int)<(↑l.length:Int)) (fun hc2=>?_) (fun hc2=>?_)
 ·refine xx 7 _ l.length i 1 (Ints.elem h (k:=i) (by omega)).1 ?_
  refine xl 0 ((Ints.elem (h.below hB_1) (k:=i) (by omega)).2) ?_
  refine xin 11 (l.getD i 0) (0:Int) (fun hc3=>?_) (fun hc3=>?_)
  ·refine xwm 5 ((↑i:Int)+1) (↑(i+1):Int) ?_
   exact ze 2 (hJ1 _ _ _ ⟨i+1,f,g,rfl,rfl,hB_1,by omega,by rw[hfs (by omega),if_neg (by assumption)];exact hf,hg.elim (fun⟨h1,h2,h3⟩=>.inl ⟨h1,h2,fun j hj=>(Nat.lt_or_ge j i).elim (fun q=>h3 j q) (fun q=>by obtain rfl:j=i:=(by omega);assumption)⟩) .inr⟩ (by omega))
  refine xie 9 (↑f:Int) (0:Int) (fun hc4=>?_) (fun hc4=>?_)
  ·refine xwm 7 ((↑f:Int)+1) (↑(f+1):Int) ?_
   refine xwm 5 ((↑i:Int)+1) (↑(i+1):Int) ?_
   exact ze 2 (hJ1 _ _ _ ⟨i+1,f+1,i,rfl,rfl,hB_1,by omega,by rw[hfs (by omega),if_pos (by assumption),hf],.inr ⟨by omega,hg.elim (fun⟨_,_,h3⟩=>(Rs (by omega) (by assumption) h3).symm) (fun q=>absurd q.1 (by omega))⟩⟩ (by omega))
  refine xwm 4 ((↑f:Int)+1) (↑(f+1):Int) ?_
  refine xwm 5 ((↑i:Int)+1) (↑(i+1):Int) ?_
  exact ze 2 (hJ1 _ _ _ ⟨i+1,f+1,g,rfl,rfl,hB_1,by omega,by rw[hfs (by omega),if_pos (by assumption),hf],.inr ⟨by omega,hg.elim (fun⟨h1,_,_⟩=>absurd h1 (by omega)) (fun q=>q.2)⟩⟩ (by omega))
 refine xe 14 (.tuple #[.int .i64 (↑f:Int),.int .i64 (↑g:Int)]) ?_
 obtain rfl:i=l.length:=by omega
 have hfin:f=Yn l:=hf
 rcases hg with ⟨h1,h2,h3⟩|⟨h1,h2⟩
 ·exact⟨by rw[hfin,h2,Nx h3],hB_1⟩
 ·exact⟨by rw[hfin,h2],hB_1⟩
theorem bits_Put(a:Option Addr)(c:Nat)(l:List Int)(w:World)(hS:Hj l)(hl:l.length≤960)(h:Sl w (.slice a l.length c) l.length (l.map (Value.int .i64))) :
 Calls Tryz.prog 84 #[.slice a l.length c] w (Vn (fun w' r=>∃ g,r=.tuple #[.slice (some ⟨g,0,none⟩) 244 244,.int .i64 0]∧w'.ownsRow w.heap.size 5 1 (.slice (some ⟨g,0,none⟩) 244 244) 244 ((Jb l).map bv)) w):=by
 refine zin 51 Tryz.func84 ?_
 refine xgk 13 [11,12] (show(decide ((↑l.length:Int)>(960:Int)):Bool)=false from decide_eq_false (by omega)) ?_
 refine xr 1 (args:=#[.slice a l.length c,.func (.func 130) #[] #[]]) (Zaw a c l _ hS hl (h.below (Below.refl w.heap.size _))) fun W2 hb2=>?_
 refine xbs 11 1 [.int .i64 4,.int .i64 (↑l.length:Int)] 236 fun b3 W3 n3=>?_
 refine xc 0 (args:=#[.slice (some ⟨b3,0,none⟩) 1 1]) (So b3 (↑l.length:Int) (by omega) (by omega) _ n3.blk) ?_
 rintro _ W4 ⟨_,rfl,hb4,p2,c2,rfl,h2⟩
 have hs4:=(bln hb2 n3.below).size
 refine xmk 9 fun _ _ _ _ zJ zQ zo zx zy zK=>Gb 244 (.int .u8 0) 1 1 ((List.replicate 244 (0:UInt8)).map bv) zo zx zy Tryz.underlying22 (by kernel_rfl) rfl (by omega) (by omega) (Zgi 244) fun b5 W5 n5=>?_
 have h2'1:=Zd h2 hs4
 have r5_h2:=Zu h2'1 n5
 refine zK _ _ ?_
 have o5:=Zw (size:=1) (n:=244) n5.blk (n5.ge (bln (bln hb2 n3.below) hb4)) (by rw[List.length_map,List.length_replicate]) (by unfold maxLen;omega)
 have h2'2:=Zb h2'1 n5.below
 have hB:=bln (bln (bln hb2 n3.below) hb4) n5.below
 refine xbi 7 (t2:=22) fun _ _ _ _ zJ zQ zo zx zy zK=>Mg (dLen:=244) (dCap:=244) (off:=0) 4 ((leB (↑l.length:Int) 4).map bv) ((Ww l 0).map bv) zo Tryz.underlying22 (by kernel_rfl) zx zy (Zf h2'2) o5 (by simp[Zo]) (by omega) (by omega) (Vd _) hB.size (bits0 l) fun W6 o6 hg6 hb6=>?_
 refine zK _ _ ?_
 have hB'1:=hB.trans hb6
 have k3'1:=((n3.blk.below hb4).below n5.below).grown hg6 o5 (by decide)
 refine zl 11 51 (fun zm zkv V=>∃ (i:Nat),zkv=[(2,.slice none 0 0),(3,.int .i64 0),(6,.slice (some ⟨b5,0,none⟩) 244 244),(28,.slice a l.length c),(29,.int .i64 (↑l.length:Int)),(30,.int .i64 (↑i:Int))]∧zm=l.length-((↑i:Int)).toNat∧Below w.heap.size w V∧Blk V b3 ([.int .i64 4,.int .i64 (↑l.length:Int)]) 236∧V.ownsRow w.heap.size 5 1 (.slice (some ⟨b5,0,none⟩) 244 244) 244 ((Ww l i).map bv)∧i≤l.length) ⟨0,rfl,rfl,hB'1,k3'1,o6,Nat.zero_le _⟩ ?_
 rintro _ _ W7 ⟨i,rfl,rfl,hB_7,k7_b3,ho,hi⟩ J7 hJ7 r7
 refine xid 6 ((↑i:Int)<(↑l.length:Int)) (fun hc8=>?_) (fun hc8=>?_)
 ·refine xx 7 _ l.length i 1 (Ints.elem h (k:=i) (by omega)).1 ?_
  refine xl 0 ((Ints.elem (h.below hB_7) (k:=i) (by omega)).2) ?_
  refine xd 4 (.t w.heap.size [5]) ?_
  refine xq (.e [0,1] 2) (congrArg (Value.int .i64) (show(IntKind.i64.wrap (Int.tdiv (↑i:Int) 4):Int)=(↑(i/4):Int) from Gw i 4 (by omega) (by decide))) ?_
  refine xwm (.e [] 3) (4+(↑(i/4):Int)) (↑(4+(i/4)):Int) ?_
  refine xx (.e [] 4) _ 244 (4+(i/4)) 1 (show(some (⟨b5,0,none⟩:Addr)).isSome=true from rfl) ?_
  refine xq (.e [6,7] 8) (congrArg (Value.int .i64) (show(Int.tmod (↑i:Int) 4:Int)=(↑(i%4):Int) from Uu i 4)) ?_
  refine xwm (.e [] 9) ((↑(i%4):Int)*2) (↑((i%4)*2):Int) ?_
  refine xbot (.e [] 10) (t:=3) (t2:=3) (fun _ _ _ _ zo zx zy V hV=>run_shlS (n:=(l.getD i 0)) (s:=((i%4)*2)) (kj:=.i64) (j:=(↑((i%4)*2):Int)) zo zx zy rfl (Vj hS i) (by omega) V) ?_
  refine xq (.e [] 11) (congrArg (Value.int .u8) (show(IntKind.u8.wrap (l.getD i 0*2 ^ ((i%4)*2)):Int)=l.getD i 0*2 ^ ((i%4)*2) from u8_shl (Vj hS i) (by omega))) ?_
  have ho'1:=Zb ho (Za W7)
  refine xl (.o [] 5) ((BysN.elem (Zf ho'1) (Kk l i) (k:=(4+(i/4))) (by omega)).2) ?_
  refine xq (.e [] 12) (congrArg (Value.int .u8) (show(IntKind.u8.wrap (↑(BitVec.ofInt 8 (↑((Ww l i).getD (4+(i/4)) 0).toNat:Int) ||| BitVec.ofInt 8 (l.getD i 0*2 ^ ((i%4)*2))).toNat:Int):Int)=(↑(g4B l (i+1) (i/4)).toNat:Int) from bits_or hS (by omega))) ?_
  refine xx (.e [] 13) _ 244 (4+(i/4)) 1 (show(some (⟨b5,0,none⟩:Addr)).isSome=true from rfl) ?_
  refine yst (.o [] 14) (.t w.heap.size [5]) fun _ _ _ _ zJ zQ zo zx zy zK=>Wn (t:=5) (k:=(4+(i/4))) (v:=.int .u8 (↑(g4B l (i+1) (i/4)).toNat:Int)) zo zx zy (by kernel_rfl) rfl ho'1 (by omega) fun W9 u9 o9=>?_
  rw[bits_set (l:=l) (i:=i) (by omega)] at o9
  have k7_b3'1:=k7_b3.below (Za W7)
  refine zK _ _ (Zgp (T:=[5]) (u9.below (Below.refl _ _) (Zb1 ho'1)) (Ze.of_updRow u9 ho'1 (by decide))) ?_
  refine xwm 4 ((↑i:Int)+1) (↑(i+1):Int) ?_
  have hB'2:=u9.below (bln hB_7 (Za W7)) (Zb1 ho'1)
  have k7_b3'2:=u9.blk k7_b3'1 (Aq k7_b3'1 ho'1 (by decide))
  exact ze 2 (hJ7 _ _ _ ⟨i+1,rfl,rfl,hB'2,k7_b3'2,o9,by omega⟩ (by omega))
 refine xe 13 (.tuple #[.slice (some ⟨b5,0,none⟩) 244 244,.int .i64 0]) ?_
 obtain rfl:i=l.length:=by omega
 exact⟨_,rfl,hB_7,_,rfl,ho⟩
theorem Zbq(p:Addr)(N c:Nat)(xs:List Value)(w:World)(h:Sl w (.slice (some p) N c) N xs)(hl:xs.length=N)(h1:∀ u∈xs,u.oneCell'=true)(hn:N≤1000000) :
 Calls Tryz.prog 81 #[.slice (some p) N c] w (Vn (fun w' r=>∃ q c2,r=.slice q N c2∧w'.ownsRow w.heap.size 3 1 (.slice q N c2) N xs) w):=by
 refine zin 8 Tryz.func81 ?_
 refine xb0 17 3 fun b1 W1 n1=>?_
 have o1:=Zw (size:=1) (n:=0) n1.blk (n1.ge (Below.refl w.heap.size _)) rfl (by decide)
 refine xbi 1 fun _ _ _ _ zJ zQ zo zx zy zK=>Zp (m:=N) (news:=xs) (.int .i64 0) 1 8 (N) (xs) zo Tryz.underlying30 (by kernel_rfl) rfl (by decide) zx o1 zy (h.below n1.below) (by rw[hl,Nat.mul_one]) h1 (by unfold maxLen;omega) (by omega) n1.below.size (by omega) (by rfl) fun px2 cx2 W2 o2 hg2 hb2=>?_
 refine zK _ _ ?_
 have hB'1:=n1.below.trans hb2
 exact xe 4 (.slice px2 N cx2) ⟨_,rfl,hB'1,_,_,rfl,o2⟩
end Go.Proofs.YthlakkdgcgkcdaaGreatDoor
namespace Go.Proofs.YthlakkdgcgkcdaaGreatDoor
set_option maxHeartbeats 8000000
set_option maxRecDepth 100000
open Go.RowKit Go.Extern.Stop Go.Stop Go.Extern
set_option linter.unusedVariables false
attribute [local irreducible] wpList wpAnyH Code.wp Oper.wp Go
def SplitP(l:List Int)(w:World)(e:Ending)(w':World):Prop :=
 (Pb l≠0∧e=.returned (.tuple #[.slice none 0 0,.slice none 0 0,.int .i64 2])∧Below w.heap.size w w') ∨
 (Pb l=0∧∃ pb cb gs po co,e=.returned (.tuple #[.slice pb (bmN l.length) cb,.slice po (Xn l l.length).length co,.int .i64 0])∧Below w.heap.size w w'∧Lists w' w.heap.size (.slice pb (bmN l.length) cb) gs (Xt (Zv l) (bmN l.length))∧w'.ownsRow w.heap.size 77 3 (.slice po (Xn l l.length).length co) (Xn l l.length).length ((Xn l l.length).flatMap Ko))
theorem Ii{l:List Int}{i:Nat}(hl:l.length≤65536)(hi:i<l.length)(h:¬ Nz (l.getD i 0)):Pb l≠0:=fun q=>h ((Sa q).2 i hi)
theorem Ru{l:List Int}(hl:l.length≤65536)(h:∀ k,k<l.length→Nz (l.getD k 0)):Pb l=0:=by
 unfold Pb;rw[if_neg (by omega),if_pos h]
attribute [local go_sem] Oper.semAt_some
theorem g_retM{P:Program}{fn:Func}{R:Ending→World→Prop}{a:Act}{w:World}(v:Value)(hd:a.defers=[])(hr:(results fn a.tmps).run P w=.ok v w)(h:R (.returned v) w):bodyPostM Fence.wide 4 P fn R .ret a w:=by
 show LeavesInM _ _ _ _ a.tmps R a.defers .returning w
 rw[hd]
 exact⟨v,hr,h⟩
theorem Lists.put{W U:World}{D base:Nat}{v:Value}{gs:List (Nat×Nat)}{L:List (List Int)}(h:Lists W base v gs L)(u:Upd W D U)(hK:Dfr D W):Lists U base v gs L:=⟨u.own3 h.row (hK.row h.row),fun i hi=>u.own3 (h.each i hi) (hK.row (h.each i hi))⟩
theorem mn3_if(n:Int):(if 3<n then 3 else n)=mn3 n:=by unfold mn3;split<;>split<;>omega
def Us(s:List Int){n:Nat}(pre:List (Fin n)):List (List Int):=pre.map fun j=>Vp s j.val
theorem Wa(s:List Int){n:Nat}(pre:List (Fin n))(x:Fin n):Us s (pre++[x])=Us s pre++[Vp s x.val]:=by simp[Us]
theorem preC_all(s:List Int)(n:Nat):Us s (List.finRange n)=Xt s n:=by
 unfold Us Xt
 apply List.ext_getElem
 ·simp
 ·intro i h1 h2;simp
theorem Ze4(a:Option Addr)(c:Nat)(l:List Int)(w:World)(h:Sl w (.slice a l.length c) l.length (l.map (Value.int .i64)))(hl:l.length≤65536) :
 Calls Tryz.prog 48 #[.slice a l.length c] w (SplitP l w):=by
 refine Ug Tryz.func48 rfl ?_
 refine g_fr ⟨#[.slice a l.length c,undef,undef,undef,undef,undef,undef,undef,undef,undef,undef,undef,undef,undef,undef,undef,undef,undef,undef,undef,undef,undef,undef,undef,undef,undef,undef,undef,undef,undef,undef,undef,undef,undef,undef,undef,undef,undef,undef,undef,undef,undef,undef,undef,undef,undef,undef,undef,undef,undef,undef,undef],[]⟩ (by kernel_rfl) ?_
 refine wp_seq ?_
 refine wp_region_lit ?_
 refine Eu 3 [(2,.slice none 0 0),(3,.slice none 0 0),(4,.int .i64 0)] (by kernel_rfl) ?_
 refine wpList_nil ?_
 refine wp_seq ?_
 refine wp_seq ?_
 refine wp_region_lit ?_
 refine Eu 3 [(11,.slice a l.length c),(12,.int .i64 (↑l.length:Int)),(13,.bool (decide ((↑l.length:Int)>(65536:Int))))] (by kernel_rfl) ?_
 refine wpList_nil ?_
 refine wp_cond_split (t:=decide ((↑l.length:Int)>(65536:Int))) (by kernel_rfl) (fun hh=>absurd (hh.symm.trans (show(decide ((↑l.length:Int)>(65536:Int)):Bool)=false from decide_eq_false (by omega))) (by decide)) (fun _=>?_)
 refine wp_skip ?_
 refine wp_seq ?_
 refine wp_region_lit ?_
 refine Eu 1 [(5,.slice none 0 0)] (by kernel_rfl) ?_
 refine wpList_nil ?_
 refine wp_seq ?_
 refine wp_region_lit ?_
 refine Eu 1 [(6,.slice none 0 0)] (by kernel_rfl) ?_
 refine wpList_nil ?_
 refine wp_seq ?_
 refine wp_seq ?_
 refine wp_region_lit ?_
 refine Eu 3 [(14,.slice a l.length c),(15,.int .i64 (↑l.length:Int)),(16,.int .i64 0)] (by kernel_rfl) ?_
 refine wpList_nil ?_
 refine wp_block ?_
 refine g_fr ⟨#[.slice a l.length c,undef,.slice none 0 0,.slice none 0 0,.int .i64 0,.slice none 0 0,.slice none 0 0,undef,undef,undef,undef,.slice a l.length c,.int .i64 (↑l.length:Int),.bool (decide ((↑l.length:Int)>(65536:Int))),.slice a l.length c,.int .i64 (↑l.length:Int),.int .i64 0,undef,undef,undef,undef,undef,undef,undef,undef,undef,undef,undef,undef,undef,undef,undef,undef,undef,undef,undef,undef,undef,undef,undef,undef,undef,undef,undef,undef,undef,undef,undef,undef,undef,undef,undef],[]⟩ (by kernel_rfl) ?_
 have hB:=Below.refl w.heap.size w
 refine wp_loop (fun act V=>∃ (i:Nat) (ps:Option Addr) (cs:Nat) (po:Option Addr) (co:Nat) (x2:Nat→Value),act=⟨#[.slice a l.length c,undef,(x2 0),(x2 1),(x2 2),.slice ps i cs,.slice po ((Xn l i).length) co,(x2 3),(x2 4),undef,undef,.slice a l.length c,.int .i64 (↑l.length:Int),.bool (decide ((↑l.length:Int)>(65536:Int))),.slice a l.length c,.int .i64 (↑l.length:Int),.int .i64 (↑i:Int),(x2 5),(x2 6),(x2 7),(x2 8),(x2 9),(x2 10),(x2 11),(x2 12),(x2 13),(x2 14),(x2 15),(x2 16),(x2 17),(x2 18),(x2 19),(x2 20),(x2 21),(x2 22),(x2 23),(x2 24),(x2 25),(x2 26),(x2 27),(x2 28),(x2 29),undef,undef,undef,undef,undef,undef,undef,undef,undef,undef],[]⟩∧Below w.heap.size w V∧V.ownsRow w.heap.size 3 1 (.slice ps i cs) i ((Zv (l.take i)).map (Value.int .i64))∧V.ownsRow w.heap.size 77 3 (.slice po (Xn l i).length co) (Xn l i).length ((Xn l i).flatMap Ko)∧i≤l.length∧((∀ j,j<i→Nz (l.getD j 0)))) (fun act V=>l.length-((intOf (act.tmps.getD 16 undef))).toNat) ⟨0,none,0,none,0,(pk [.slice none 0 0,.slice none 0 0,.int .i64 0,undef,undef,undef,undef,undef,undef,undef,undef,undef,undef,undef,undef,undef,undef,undef,undef,undef,undef,undef,undef,undef,undef,undef,undef,undef,undef,undef]),rfl,hB,World.ownsRow_nil _ _ _ _,World.ownsRow_nil _ _ _ _,Nat.zero_le _,?_⟩ ?_
 ·exact fun j hj=>absurd hj (by omega)
 rintro _ W2 ⟨i,ps,cs,po,co,x2,rfl,hB,hs,ho,hi,hz⟩
 refine wp_seq ?_
 refine wp_region_lit ?_
 refine Eu 1 [(17,.bool (decide ((↑i:Int)<(↑l.length:Int))))] (by kernel_rfl) ?_
 refine wpList_nil ?_
 refine wp_seq ?_
 refine wp_cond_split (t:=decide ((↑i:Int)<(↑l.length:Int))) (by kernel_rfl) (fun hc3=>?_) (fun hc3=>?_)
 ·have hc3:=of_decide_eq_true hc3
  refine wp_skip ?_
  refine wp_seq ?_
  refine wp_block ?_
  refine wp_seq ?_
  refine wp_region_lit ?_
  refine Eu 1 [(18,.int .i64 (↑i:Int))] (by kernel_rfl) ?_
  refine Zdh (by kernel_rfl) (Gg (Bz (size:=1) (k:=i) (b:=a) (n:=l.length) (c:=c) (i:=(↑i:Int)) (ki:=.i64) rfl (by kernel_rfl) (by kernel_rfl) rfl (by omega) (Ints.elem h (k:=i) (by omega)).1 Tryz.underlying30 (by kernel_rfl) W2) ?_)
  refine Zdh (by kernel_rfl) (Gh (Xh a (i*1)) (.int .i64 (l.getD i 0)) rfl (by kernel_rfl) (by kernel_rfl) (Ints.elem (h.below hB) (k:=i) (by omega)).2 ?_)
  refine Eu 2 [(7,.int .i64 (↑i:Int)),(8,.int .i64 (l.getD i 0))] (by kernel_rfl) ?_
  refine wpList_nil ?_
  refine wp_seq ?_
  refine wp_seq ?_
  refine wp_region_lit ?_
  refine Eu 3 [(21,.int .i64 (l.getD i 0)),(22,.bool (decide ((l.getD i 0)<(0:Int)))),(23,.bool (decide ((l.getD i 0)<(0:Int))))] (by kernel_rfl) ?_
  rcases Bool.eq_false_or_eq_true (decide ((l.getD i 0)<(0:Int))) with hc4|hc4
  ·refine g_b [22,23] _ _ hc4 (by kernel_rfl) ?_
   have hc4:=of_decide_eq_true hc4
   refine Eu 3 [(24,undef),(25,undef),(26,.bool true)] (by kernel_rfl) ?_
   refine wpList_nil ?_
   refine wp_cond_true (by kernel_rfl) ?_
   refine wp_seq ?_
   refine wp_region_lit ?_
   refine Eu 3 [(2,.slice none 0 0),(3,.slice none 0 0),(4,.int .i64 2)] (by kernel_rfl) ?_
   refine wpList_nil ?_
   refine wp_ret (Ud (Wj (Ud (Ud (Wj (Ud ?_))))))
   exact g_retM (.tuple #[.slice none 0 0,.slice none 0 0,.int .i64 2]) (by kernel_rfl) (by kernel_rfl) (.inl ⟨Ii (i:=i) hl (by omega) (fun q=>by unfold Nz at q;omega),rfl,hB⟩)
  ·refine g_b [22,23] _ _ hc4 (by kernel_rfl) ?_
   have hc4:=of_decide_eq_false hc4
   refine Eu 3 [(24,.int .i64 (l.getD i 0)),(25,.bool (decide ((l.getD i 0)>(2147483647:Int)))),(26,.bool (decide ((l.getD i 0)>(2147483647:Int))))] (by kernel_rfl) ?_
   refine wpList_nil ?_
   refine wp_cond_split (t:=decide ((l.getD i 0)>(2147483647:Int))) (by kernel_rfl) (fun hc5=>?_) (fun hc5=>?_)
   ·have hc5:=of_decide_eq_true hc5
    refine wp_seq ?_
    refine wp_region_lit ?_
    refine Eu 3 [(2,.slice none 0 0),(3,.slice none 0 0),(4,.int .i64 2)] (by kernel_rfl) ?_
    refine wpList_nil ?_
    refine wp_ret (Ud (Wj (Ud (Ud (Wj (Ud ?_))))))
    exact g_retM (.tuple #[.slice none 0 0,.slice none 0 0,.int .i64 2]) (by kernel_rfl) (by kernel_rfl) (.inl ⟨Ii (i:=i) hl (by omega) (fun q=>by unfold Nz at q;omega),rfl,hB⟩)
   ·have hc5:=of_decide_eq_false hc5
    refine wp_skip ?_
    refine wp_seq ?_
    refine wp_region_lit ?_
    refine Eu 3 [(27,.slice ps i cs),(28,.int .i64 (l.getD i 0)),(29,.int .i64 (if(3:Int)<(l.getD i 0) then(3:Int) else(l.getD i 0)))] (by kernel_rfl) ?_
    refine Zdh (by kernel_rfl) (Yi 3 [.int .i64 (if(3:Int)<(l.getD i 0) then(3:Int) else(l.getD i 0))] rfl (by kernel_rfl) ?_)
    intro b6 W6 n6
    have g6:=n6.ge hB
    have r6_hs:=Zu hs n6
    replace hB:=bln hB n6.below
    replace hs:=Zb hs n6.below
    replace ho:=Zb ho n6.below
    have k6:=n6.blk
    refine Zdh (by kernel_rfl) (Zp (e:=3) (n:=i) (xs:=(Zv (l.take i)).map (Value.int .i64)) (m:=1) (news:=[.int .i64 (if(3:Int)<(l.getD i 0) then(3:Int) else(l.getD i 0))]) (.int .i64 0) 1 8 (i+1) ((Zv (l.take (i+1))).map (Value.int .i64)) rfl Tryz.underlying30 (by kernel_rfl) rfl (by decide) (by kernel_rfl) hs (by kernel_rfl) (k6.sl 1 1 (by decide) (by decide)) rfl (by simp[Value.oneCell']) (by unfold maxLen;omega) (by omega) hB.size (by rfl) (by rw[mn3_if,small_snoc (by omega),List.map_append];rfl) ?_)
    intro p7 c7 W7 o7 hg7 hb7
    replace ho:=Zg ho hg7 hs (by decide)
    replace hB:=hB.trans hb7
    refine Eu 1 [(5,.slice p7 (i+1) c7)] (by kernel_rfl) ?_
    refine wpList_nil ?_
    refine wp_seq ?_
    refine wp_region_lit ?_
    refine Eu 2 [(32,.int .i64 (l.getD i 0)),(33,.bool (decide ((l.getD i 0)≥(3:Int))))] (by kernel_rfl) ?_
    refine wpList_nil ?_
    refine wp_cond_split (t:=decide ((l.getD i 0)≥(3:Int))) (by kernel_rfl) (fun hc8=>?_) (fun hc8=>?_)
    ·have hc8:=of_decide_eq_true hc8
     refine wp_region_lit ?_
     refine Eu 3 [(34,.slice po ((Xn l i).length) co),(35,.int .i64 (↑i:Int)),(36,.int .i64 (l.getD i 0))] (by kernel_rfl) ?_
     refine Zdh (by kernel_rfl) (Bq (lb:=#[]) 79 #[.int .i64 (l.getD i 0)] rfl (by kernel_rfl) (fun _ _=>by kernel_rfl) (by kernel_rfl) ((Zdz (l.getD i 0) (by omega) (by omega) _).mono ?_))
     rintro e W9 ⟨rfl,hb9⟩
     refine⟨_,rfl,?_⟩
     replace hB:=bln hB hb9
     replace ho:=Zb ho hb9
     replace o7:=Zb o7 hb9
     refine Eu 1 [(38,.agg #[.int .i64 (↑i:Int),.string ⟨(leB (l.getD i 0) 4).toArray⟩,.int .i64 0])] (by kernel_rfl) ?_
     refine Zdh (by kernel_rfl) (Yi 77 [.int .i64 (↑i:Int),.string ⟨(leB (l.getD i 0) 4).toArray⟩,.int .i64 0] rfl (by kernel_rfl) ?_)
     intro b10 W10 n10
     have g10:=n10.ge hB
     have r10_ho:=Zu ho n10
     replace hB:=bln hB n10.below
     replace ho:=Zb ho n10.below
     replace o7:=Zb o7 n10.below
     have k10:=n10.blk
     refine Zdh (by kernel_rfl) (Zp (e:=77) (n:=(Xn l i).length) (xs:=(Xn l i).flatMap Ko) (m:=1) (news:=[.int .i64 (↑i:Int),.string ⟨(leB (l.getD i 0) 4).toArray⟩,.int .i64 0]) (.agg #[.int .i64 0,.string ⟨#[]⟩,.int .i64 0]) 3 32 ((Xn l (i+1)).length) ((Xn l (i+1)).flatMap Ko) rfl Tryz.underlying67 (by kernel_rfl) rfl (by decide) (by kernel_rfl) ho (by kernel_rfl) (k10.sl 1 1 (by decide) (by decide)) rfl (by simp[Value.oneCell']) (by have:=Pd l i;unfold maxLen;omega) (by have:=Pd l i;omega) hB.size (by rw[Ly (by omega)];simp) (by rw[Ly (by omega)];simp[Ko]) ?_)
     intro p11 c11 W11 o11 hg11 hb11
     replace o7:=Zg o7 hg11 ho (by decide)
     replace hB:=hB.trans hb11
     refine Eu 1 [(6,.slice p11 ((Xn l (i+1)).length) c11)] (by kernel_rfl) ?_
     refine wpList_nil ?_
     refine wp_region_lit ?_
     refine Zdh (by kernel_rfl) (op_wrap .i64 ((↑i:Int)+1) (↑(i+1):Int) (by kernel_rfl) ((show IntKind.i64.wrap ((↑i:Int)+1)=((↑i:Int)+1) from by first|exact IntWalk.i64_in _ (by omega)|(simp only[IntKind.wrap];omega)).trans (by omega)) ?_)
     refine Eu 1 [(16,.int .i64 (↑(i+1):Int))] (by kernel_rfl) ?_
     refine wpList_nil ?_
     refine g_nfr ⟨#[.slice a l.length c,undef,(x2 0),(x2 1),(x2 2),.slice p7 (i+1) c7,.slice p11 ((Xn l (i+1)).length) c11,.int .i64 (↑i:Int),.int .i64 (l.getD i 0),undef,undef,.slice a l.length c,.int .i64 (↑l.length:Int),.bool (decide ((↑l.length:Int)>(65536:Int))),.slice a l.length c,.int .i64 (↑l.length:Int),.int .i64 (↑(i+1):Int),.bool (decide ((↑i:Int)<(↑l.length:Int))),.int .i64 (↑i:Int),.pointer (some (Xh a (i*1))),.int .i64 (l.getD i 0),.int .i64 (l.getD i 0),.bool false,.bool false,.int .i64 (l.getD i 0),.bool (decide ((l.getD i 0)>(2147483647:Int))),.bool (decide ((l.getD i 0)>(2147483647:Int))),.slice ps i cs,.int .i64 (l.getD i 0),.int .i64 (if(3:Int)<(l.getD i 0) then(3:Int) else(l.getD i 0)),.slice (some ⟨b6,0,none⟩) 1 1,.slice p7 (i+1) c7,.int .i64 (l.getD i 0),.bool (decide ((l.getD i 0)≥(3:Int))),.slice po ((Xn l i).length) co,.int .i64 (↑i:Int),.int .i64 (l.getD i 0),.string ⟨(leB (l.getD i 0) 4).toArray⟩,.agg #[.int .i64 (↑i:Int),.string ⟨(leB (l.getD i 0) 4).toArray⟩,.int .i64 0],.slice (some ⟨b10,0,none⟩) 1 1,.slice p11 ((Xn l (i+1)).length) c11,.int .i64 (↑(i+1):Int),undef,undef,undef,undef,undef,undef,undef,undef,undef,undef],[]⟩ (by kernel_rfl) ?_
     refine⟨⟨i+1,_,_,_,_,(pk [(x2 0),(x2 1),(x2 2),.int .i64 (↑i:Int),.int .i64 (l.getD i 0),.bool (decide ((↑i:Int)<(↑l.length:Int))),.int .i64 (↑i:Int),.pointer (some (Xh a (i*1))),.int .i64 (l.getD i 0),.int .i64 (l.getD i 0),.bool false,.bool false,.int .i64 (l.getD i 0),.bool (decide ((l.getD i 0)>(2147483647:Int))),.bool (decide ((l.getD i 0)>(2147483647:Int))),.slice ps i cs,.int .i64 (l.getD i 0),.int .i64 (if(3:Int)<(l.getD i 0) then(3:Int) else(l.getD i 0)),.slice (some ⟨b6,0,none⟩) 1 1,.slice p7 (i+1) c7,.int .i64 (l.getD i 0),.bool (decide ((l.getD i 0)≥(3:Int))),.slice po ((Xn l i).length) co,.int .i64 (↑i:Int),.int .i64 (l.getD i 0),.string ⟨(leB (l.getD i 0) 4).toArray⟩,.agg #[.int .i64 (↑i:Int),.string ⟨(leB (l.getD i 0) 4).toArray⟩,.int .i64 0],.slice (some ⟨b10,0,none⟩) 1 1,.slice p11 ((Xn l (i+1)).length) c11,.int .i64 (↑(i+1):Int)]),rfl,hB,o7,o11,by omega,fun j hj=>(Nat.lt_or_ge j i).elim (hz j) (fun q=>by obtain rfl:j=i:=(by omega);exact⟨by omega,by omega⟩)⟩,?_⟩
     show l.length-((↑(i+1):Int)).toNat<l.length-((↑i:Int)).toNat
     omega
    ·have hc8:=of_decide_eq_false hc8
     refine wp_skip ?_
     refine wp_region_lit ?_
     refine Zdh (by kernel_rfl) (op_wrap .i64 ((↑i:Int)+1) (↑(i+1):Int) (by kernel_rfl) ((show IntKind.i64.wrap ((↑i:Int)+1)=((↑i:Int)+1) from by first|exact IntWalk.i64_in _ (by omega)|(simp only[IntKind.wrap];omega)).trans (by omega)) ?_)
     refine Eu 1 [(16,.int .i64 (↑(i+1):Int))] (by kernel_rfl) ?_
     refine wpList_nil ?_
     refine g_nfr ⟨#[.slice a l.length c,undef,(x2 0),(x2 1),(x2 2),.slice p7 (i+1) c7,.slice po ((Xn l i).length) co,.int .i64 (↑i:Int),.int .i64 (l.getD i 0),undef,undef,.slice a l.length c,.int .i64 (↑l.length:Int),.bool (decide ((↑l.length:Int)>(65536:Int))),.slice a l.length c,.int .i64 (↑l.length:Int),.int .i64 (↑(i+1):Int),.bool (decide ((↑i:Int)<(↑l.length:Int))),.int .i64 (↑i:Int),.pointer (some (Xh a (i*1))),.int .i64 (l.getD i 0),.int .i64 (l.getD i 0),.bool false,.bool false,.int .i64 (l.getD i 0),.bool (decide ((l.getD i 0)>(2147483647:Int))),.bool (decide ((l.getD i 0)>(2147483647:Int))),.slice ps i cs,.int .i64 (l.getD i 0),.int .i64 (if(3:Int)<(l.getD i 0) then(3:Int) else(l.getD i 0)),.slice (some ⟨b6,0,none⟩) 1 1,.slice p7 (i+1) c7,.int .i64 (l.getD i 0),.bool (decide ((l.getD i 0)≥(3:Int))),(x2 22),(x2 23),(x2 24),(x2 25),(x2 26),(x2 27),(x2 28),.int .i64 (↑(i+1):Int),undef,undef,undef,undef,undef,undef,undef,undef,undef,undef],[]⟩ (by kernel_rfl) ?_
     refine g_nfr ⟨#[.slice a l.length c,undef,(x2 0),(x2 1),(x2 2),.slice p7 (i+1) c7,.slice po ((Xn l (i+1)).length) co,.int .i64 (↑i:Int),.int .i64 (l.getD i 0),undef,undef,.slice a l.length c,.int .i64 (↑l.length:Int),.bool (decide ((↑l.length:Int)>(65536:Int))),.slice a l.length c,.int .i64 (↑l.length:Int),.int .i64 (↑(i+1):Int),.bool (decide ((↑i:Int)<(↑l.length:Int))),.int .i64 (↑i:Int),.pointer (some (Xh a (i*1))),.int .i64 (l.getD i 0),.int .i64 (l.getD i 0),.bool false,.bool false,.int .i64 (l.getD i 0),.bool (decide ((l.getD i 0)>(2147483647:Int))),.bool (decide ((l.getD i 0)>(2147483647:Int))),.slice ps i cs,.int .i64 (l.getD i 0),.int .i64 (if(3:Int)<(l.getD i 0) then(3:Int) else(l.getD i 0)),.slice (some ⟨b6,0,none⟩) 1 1,.slice p7 (i+1) c7,.int .i64 (l.getD i 0),.bool (decide ((l.getD i 0)≥(3:Int))),(x2 22),(x2 23),(x2 24),(x2 25),(x2 26),(x2 27),(x2 28),.int .i64 (↑(i+1):Int),undef,undef,undef,undef,undef,undef,undef,undef,undef,undef],[]⟩ (by rw[El (by omega)]) ?_
     refine⟨⟨i+1,_,_,_,_,(pk [(x2 0),(x2 1),(x2 2),.int .i64 (↑i:Int),.int .i64 (l.getD i 0),.bool (decide ((↑i:Int)<(↑l.length:Int))),.int .i64 (↑i:Int),.pointer (some (Xh a (i*1))),.int .i64 (l.getD i 0),.int .i64 (l.getD i 0),.bool false,.bool false,.int .i64 (l.getD i 0),.bool (decide ((l.getD i 0)>(2147483647:Int))),.bool (decide ((l.getD i 0)>(2147483647:Int))),.slice ps i cs,.int .i64 (l.getD i 0),.int .i64 (if(3:Int)<(l.getD i 0) then(3:Int) else(l.getD i 0)),.slice (some ⟨b6,0,none⟩) 1 1,.slice p7 (i+1) c7,.int .i64 (l.getD i 0),.bool (decide ((l.getD i 0)≥(3:Int))),(x2 22),(x2 23),(x2 24),(x2 25),(x2 26),(x2 27),(x2 28),.int .i64 (↑(i+1):Int)]),rfl,hB,o7,(by rw[El (by omega)];exact ho),by omega,fun j hj=>(Nat.lt_or_ge j i).elim (hz j) (fun q=>by obtain rfl:j=i:=(by omega);exact⟨by omega,by omega⟩)⟩,?_⟩
     show l.length-((↑(i+1):Int)).toNat<l.length-((↑i:Int)).toNat
     omega
 ·have hc3:=of_decide_eq_false hc3
  refine wp_exit ?_
  refine Zb5 ?_
  refine Zb5 ?_
  refine Zew ?_
  refine wp_seq ?_
  refine wp_region_lit ?_
  refine Zdh (by kernel_rfl) (Zgc [.slice none 0 0] rfl (by kernel_rfl) ?_)
  intro b12 W12 n12
  have g12:=n12.ge hB
  replace hB:=bln hB n12.below
  replace hs:=Zb hs n12.below
  replace ho:=Zb ho n12.below
  have k12:=n12.blk
  refine wpList_nil ?_
  refine wp_seq ?_
  refine wp_seq ?_
  refine wp_region_lit ?_
  refine Eu 1 [(42,.slice ps i cs)] (by kernel_rfl) ?_
  refine Zdh (by kernel_rfl) (Bq (lb:=#[]) 80 #[.slice ps i cs,.int .i64 960] rfl (by kernel_rfl) (fun _ _=>by kernel_rfl) (by kernel_rfl) ((Zbc ps i cs _).mono ?_))
  rintro e W13 ⟨b1,b2,rfl,hb13,ga1,ga2,gn12,kkb1,kkb2⟩
  refine⟨_,rfl,?_⟩
  replace hB:=bln hB hb13
  replace k12:=k12.below hb13
  replace hs:=Zb hs hb13
  replace ho:=Zb ho hb13
  refine wpList_nil ?_
  refine wp_block ?_
  have hin:i=l.length:=by omega
  obtain⟨g,hv⟩:=row_or hs
  have hst:=Zdm b1 b2 (fun b=>b<W13.heap.size∧b≠b12) g 0 i cs (.slice ps i cs) W13 (fun b h=>h.1) ⟨kkb1.lt,(by rintro rfl;exact absurd (kkb1.ty k12) (by decide))⟩ ⟨kkb2.lt,(by rintro rfl;exact absurd (kkb2.ty k12) (by decide))⟩ (by omega) hv (kkb1.cell (i:=0) rfl) (kkb2.cell (i:=0) rfl)
  refine g_fr ⟨#[.slice a l.length c,undef,(x2 0),(x2 1),(x2 2),.slice ps i cs,.slice po ((Xn l i).length) co,(x2 3),(x2 4),.pointer (some ⟨b12,0,none⟩),undef,.slice a l.length c,.int .i64 (↑l.length:Int),.bool (decide ((↑l.length:Int)>(65536:Int))),.slice a l.length c,.int .i64 (↑l.length:Int),.int .i64 (↑i:Int),.bool (decide ((↑i:Int)<(↑l.length:Int))),(x2 6),(x2 7),(x2 8),(x2 9),(x2 10),(x2 11),(x2 12),(x2 13),(x2 14),(x2 15),(x2 16),(x2 17),(x2 18),(x2 19),(x2 20),(x2 21),(x2 22),(x2 23),(x2 24),(x2 25),(x2 26),(x2 27),(x2 28),(x2 29),.slice ps i cs,.func (.func 126) #[] #[.pointer (some ⟨b1,0,none⟩),.pointer (some ⟨b2,0,none⟩)],undef,undef,undef,undef,undef,undef,undef,undef],[]⟩ (by kernel_rfl) ?_
  refine Ov (g:=.tmp 43) (gf:=126) (lb:=#[.pointer (some ⟨b1,0,none⟩),.pointer (some ⟨b2,0,none⟩)]) rfl (enters_of Tryz.func126 (by kernel_rfl) rfl) _ (fun b h=>h.1) hst (fun _=>rfl)
   (fun pre W=>(∃ pb cb gs,gs.length=pre.length∧Blk W b12 [.slice pb (Us (Zv (l.take i)) pre).length cb] 91∧Lists W W13.heap.size (.slice pb (Us (Zv (l.take i)) pre).length cb) gs (Us (Zv (l.take i)) pre))∧BelowBut W13 b12 W)
   (fun _ _ _=>False) ?own (fun _ _ _ _ _ h _ _=>h) ⟨⟨none,0,[],rfl,k12,⟨World.ownsRow_nil _ _ _ _,fun i hi=>absurd hi (Nat.not_lt_zero _)⟩⟩,(Below.refl _ _).but _⟩
   (fun x a' _=>a'={ tmps:=#[.slice a l.length c,undef,(x2 0),(x2 1),(x2 2),.slice ps i cs,.slice po ((Xn l i).length) co,(x2 3),(x2 4),.pointer (some ⟨b12,0,none⟩),.slice (some ⟨g,0+x.val*960,none⟩) (min 960 (i-x.val*960)) (min 960 (i-x.val*960)),.slice a l.length c,.int .i64 (↑l.length:Int),.bool (decide ((↑l.length:Int)>(65536:Int))),.slice a l.length c,.int .i64 (↑l.length:Int),.int .i64 (↑i:Int),.bool (decide ((↑i:Int)<(↑l.length:Int))),(x2 6),(x2 7),(x2 8),(x2 9),(x2 10),(x2 11),(x2 12),(x2 13),(x2 14),(x2 15),(x2 16),(x2 17),(x2 18),(x2 19),(x2 20),(x2 21),(x2 22),(x2 23),(x2 24),(x2 25),(x2 26),(x2 27),(x2 28),(x2 29),.slice ps i cs,.func (.func 126) #[] #[.pointer (some ⟨b1,0,none⟩),.pointer (some ⟨b2,0,none⟩)],.slice (some ⟨g,0+x.val*960,none⟩) (min 960 (i-x.val*960)) (min 960 (i-x.val*960)),undef,undef,undef,undef,undef,undef,undef],defers:=[] }) (fun _ _ _ _ _ _ h _ _=>h) ?assign ?body ?done (fun _ _ _ _ _ _ h _=>h.elim)
  case own=>exact OwnFrom.and (Own.from (fun s A B row hs hg hr=>by obtain⟨pb,cb,gs,h0,h1,h2⟩:=hs;exact⟨pb,cb,gs,h0,h1.turn hg hr,h2.turn hg hr⟩) _) (Fe (Nat.le_refl _))
  case assign =>
   rintro lr pre x W K hI hK
   unfold encK
   gi_wp2
   refine hK _ _ (KeepsFrom.refl _ _) (Keeps.refl _ _) hI ?_
   simp only[hin,Nat.zero_add,decide_eq_false (show ¬ ((l.length:Int)>65536) by omega),Int.lt_irrefl,decide_false]
  case body =>
   rintro lr pre x a' W hlr ⟨⟨pb,cb,gs,hgl,m9,hL⟩,hbb⟩ rfl hlt
   have hx:=bmN_lt x.isLt
   have hvs:=hv.resolve_left (fun q=>by omega)
   have hsW:=hbb.own2 hs k12 (by decide)
   rw[hvs.1] at hsW
   obtain⟨m,hm⟩:∃ m,min 960 (i-x.val*960)=m:=⟨_,rfl⟩
   rw[hm]
   have hm0:0<m:=by omega
   have hmk:x.val*960+m≤i:=by omega
   have hsl:(Zv (l.take i)).length=i:=by simp[Zv];omega
   have hcl:(Vp (Zv (l.take i)) x.val).length=m:=by rw[Pr,hsl];exact hm
   have hpt:(((Zv (l.take i)).map (Value.int .i64)).drop (x.val*960)).take m=(Vp (Zv (l.take i)) x.val).map (Value.int .i64):=by rw[←List.map_drop,←List.map_take];unfold Vp;rw[show((Zv (l.take i)).drop (x.val*960)).take m=((Zv (l.take i)).drop (x.val*960)).take 960 from by rw[List.take_eq_take_iff,List.length_drop,hsl];omega]
   have hpl:(Us (Zv (l.take i)) pre).length=pre.length:=by simp[Us]
   have hbl:pre.length≤69:=by have:bmN i≤69:=(by unfold bmN;omega);omega
   have hrw:=hL.row
   have hE:Each W W13.heap.size gs (Us (Zv (l.take i)) pre):=hL.each
   have hZ:RdZ W13 b12 W W:=RdZ.refl hbb
   have hW1:W13.heap.size≤W.heap.size:=hbb.size
   have hBW:w.heap.size≤W13.heap.size:=hB.size
   have hb9:=g12
   refine wpIn_block ?_
   have hB:=blB (Below.refl w.heap.size W) (Nat.le_trans hBW hW1) (Za W)
   replace m9:=m9.below (Za W)
   replace hsW:=Zb hsW (Za W)
   replace hrw:=Zb hrw (Za W)
   replace hE:=hE.below (Za W)
   replace hZ:=hZ.below (Za W)
   refine h_regIn (fun V=>Below w.heap.size (W.drew) V∧Ze [91,30] (W.drew) V) 6 rfl #[false,false,false,false,false,false] rfl (by kernel_rfl) (fun⟨_,_,q⟩=>q) (by simp) ⟨Below.refl _ _,Ze.refl _ _⟩ ?_
   intro hS14
   have hBd16:=hB
   have kd16_b12:=m9
   have fd_hrw:=hrw
   refine h_pv [1] 5 rfl #[false,true,false,false,false,false] [(46,.slice (some ⟨g,0+x.val*960,none⟩) m m)] (by kernel_rfl) (fun _ _ _ _ _ h=>h) (by kernel_rfl) hS14 ?_
   refine h_two 0 2 4 rfl (by kernel_rfl) rfl rfl (by kernel_rfl) (by kernel_rfl) ?_ ?_
   ·refine Gh ⟨b12,0,none⟩ (.slice pb ((Us (Zv (l.take i)) pre).length) cb) rfl (by kernel_rfl) (by kernel_rfl) (m9.cell (i:=0) rfl) ?_
    have hS17:Below w.heap.size (W.drew) (W.drew)∧Ze [91,30] (W.drew) (W.drew):=hS14
    refine⟨hS17,?_⟩
    have hs18:W.heap.size≤(W.drew).heap.size:=hB.size
    refine Uy 2 3 rfl (by kernel_rfl) rfl (by kernel_rfl) (Bq (lb:=#[]) 81 #[.slice (some ⟨g,0+x.val*960,none⟩) m m] rfl (by kernel_rfl) (fun _ _=>by kernel_rfl) (by kernel_rfl) ((Zbq ⟨g,0+x.val*960,none⟩ m m ((Vp (Zv (l.take i)) x.val).map (Value.int .i64)) _ (hpt▸Sl.midI (Zf hsW) (by rw[List.length_map];exact hsl) (x.val*960) m hm0 hmk) (by rw[List.length_map];exact hcl) (fun u hu=>by obtain⟨y,_,rfl⟩:=List.mem_map.1 hu;rfl) (by omega)).mono ?_))
    rintro e W18 ⟨_,rfl,hb18,q,c2,rfl,hq⟩
    refine⟨_,rfl,?_⟩
    replace hB:=blB hB (Nat.le_trans hBW hW1) hb18
    replace m9:=m9.below hb18
    replace hsW:=Zb hsW hb18
    replace hrw:=Zb hrw hb18
    replace hE:=hE.below hb18
    replace hZ:=hZ.below hb18
    replace hq:=Zd hq hs18
    have hS19:Below w.heap.size (W.drew) (W18)∧Ze [91,30] (W.drew) (W18):=⟨blB hS17.1 (Nat.le_trans (Nat.le_trans hBW hW1) hBd16.size) hb18,hS17.2.trans (Ze.of_below hb18)⟩
    refine⟨hS19,?_⟩
    refine Uy 3 2 rfl (by kernel_rfl) rfl (by kernel_rfl) (Yi 30 [.slice q m c2] rfl (by kernel_rfl) ?_)
    intro b20 W20 n20
    have d20_b12:=n20.ne m9
    have g20:=n20.ge0 hB
    have r20_hrw:=Zu hrw n20
    have gd_b20:(W.drew).heap.size≤b20:=by have:=hS19.1.size;have:=n20.at_;omega
    replace hB:=blB hB (Nat.le_trans hBW hW1) n20.below
    replace m9:=m9.below n20.below
    replace hsW:=Zb hsW n20.below
    replace hrw:=Zb hrw n20.below
    replace hE:=hE.below n20.below
    replace hZ:=hZ.below n20.below
    replace hq:=Zb hq n20.below
    have k20:=n20.blk
    have hS21:Below w.heap.size (W.drew) (W20)∧Ze [91,30] (W.drew) (W20):=⟨blB hS19.1 (Nat.le_trans (Nat.le_trans hBW hW1) hBd16.size) n20.below,hS19.2.trans (Ze.of_below n20.below)⟩
    refine⟨hS21,?_⟩
    refine Uy 4 1 rfl (by kernel_rfl) rfl (by kernel_rfl) (Zp (e:=30) (n:=(Us (Zv (l.take i)) pre).length) (xs:=(List.range (Us (Zv (l.take i)) pre).length).map (Bt gs (Us (Zv (l.take i)) pre))) (m:=1) (news:=[.slice q m c2]) (.slice none 0 0) 1 24 ((Us (Zv (l.take i)) pre).length+1) ((List.range (Us (Zv (l.take i)) pre).length).map (Bt gs (Us (Zv (l.take i)) pre))++[.slice q m c2]) rfl Tryz.underlying91 (by kernel_rfl) rfl (by decide) (by kernel_rfl) hrw (by kernel_rfl) (k20.sl 1 1 (by decide) (by decide)) rfl (by simp[Value.oneCell']) (by unfold maxLen;omega) (by omega) (Nat.le_trans hW1 hZ.le) (by simp) (by simp) ?_)
    intro p22 c22 W22 o22 hg22 hb22
    replace m9:=m9.grown hg22 hrw (by decide)
    replace hsW:=Zg hsW hg22 hrw (by decide)
    replace hE:=hE.only (Ze.of_grown (T:=[30]) hg22 hrw (by decide)) (by decide)
    replace hZ:=hZ.grown hg22 hrw
    replace hq:=Zg hq hg22 hrw (by decide)
    replace hB:=hB.trans (hb22.mono hBW)
    have hS23:Below w.heap.size (W.drew) (W22)∧Ze [91,30] (W.drew) (W22):=⟨hS21.1.trans (hb22.mono hBW),hS21.2.trans (Ze.of_grown hg22 hrw (by decide))⟩
    refine⟨hS23,?_⟩
    refine Uy 5 0 rfl (by kernel_rfl) rfl (by kernel_rfl) (Ua (v:=.slice p22 ((Us (Zv (l.take i)) pre).length+1) c22) (b:=b12) (off:=0) rfl (by kernel_rfl) (by kernel_rfl) (by kernel_rfl) rfl m9 (by first|decide|simp) ?_)
    intro W24 u24 k24
    change Blk _ _ [.slice p22 ((Us (Zv (l.take i)) pre).length+1) c22] _ at k24
    replace hB:=u24.below hB hb9
    replace hsW:=u24.own2 hsW m9 (by decide)
    replace hE:=hE.only (Ze.of_upd (T:=[91]) u24 m9 (by decide)) (by decide)
    replace hZ:=hZ.upd u24 m9
    replace hq:=u24.own2 hq m9 (by decide)
    replace o22:=u24.own2 o22 m9 (by decide)
    have hS25:Below w.heap.size (W.drew) (W24)∧Ze [91,30] (W.drew) (W24):=⟨u24.below hS23.1 hb9,hS23.2.trans (Ze.of_upd u24 m9 (by decide))⟩
    refine⟨hS25,?_⟩
    refine Tv _ (by kernel_rfl) ?_
    obtain⟨g2,rfl,hc2⟩:=Hf hq hm0
    rw[←hcl] at hq
    have hrw2:=o22
    rw[←hcl] at hrw2
    have hS:=Lists.snoc (n:=(Us (Zv (l.take i)) pre).length+1) rfl hrw2 hE (Zd hq hW1) (by rw[hgl,hpl])
    exact⟨hZ.ko.from _,⟨hZ.le,fun b hb=>hZ.fr b hb.1 hb.2⟩,⟨_,_,gs++[(g2,_)],by simp[hgl],by rw[Wa,List.length_append];exact k24,by rw[Wa,List.length_append];exact hS⟩,hZ.bb⟩
   ·have hs26:W.heap.size≤(W.drew).heap.size:=hB.size
    refine Bq (lb:=#[]) 81 #[.slice (some ⟨g,0+x.val*960,none⟩) m m] rfl (by kernel_rfl) (fun _ _=>by kernel_rfl) (by kernel_rfl) ((Zbq ⟨g,0+x.val*960,none⟩ m m ((Vp (Zv (l.take i)) x.val).map (Value.int .i64)) _ (hpt▸Sl.midI (Zf hsW) (by rw[List.length_map];exact hsl) (x.val*960) m hm0 hmk) (by rw[List.length_map];exact hcl) (fun u hu=>by obtain⟨y,_,rfl⟩:=List.mem_map.1 hu;rfl) (by omega)).mono ?_)
    rintro e W26 ⟨_,rfl,hb26,q,c2,rfl,hq⟩
    refine⟨_,rfl,?_⟩
    replace hB:=blB hB (Nat.le_trans hBW hW1) hb26
    replace m9:=m9.below hb26
    replace hsW:=Zb hsW hb26
    replace hrw:=Zb hrw hb26
    replace hE:=hE.below hb26
    replace hZ:=hZ.below hb26
    replace hq:=Zd hq hs26
    have hS27:Below w.heap.size (W.drew) (W26)∧Ze [91,30] (W.drew) (W26):=⟨blB hS14.1 (Nat.le_trans (Nat.le_trans hBW hW1) hBd16.size) hb26,hS14.2.trans (Ze.of_below hb26)⟩
    refine⟨hS27,?_⟩
    refine h_two 0 3 3 rfl (by kernel_rfl) rfl rfl (by kernel_rfl) (by kernel_rfl) ?_ ?_
    ·refine Gh ⟨b12,0,none⟩ (.slice pb ((Us (Zv (l.take i)) pre).length) cb) rfl (by kernel_rfl) (by kernel_rfl) (m9.cell (i:=0) rfl) ?_
     have hS28:Below w.heap.size (W.drew) (W26)∧Ze [91,30] (W.drew) (W26):=hS27
     refine⟨hS28,?_⟩
     refine Uy 3 2 rfl (by kernel_rfl) rfl (by kernel_rfl) (Yi 30 [.slice q m c2] rfl (by kernel_rfl) ?_)
     intro b29 W29 n29
     have d29_b12:=n29.ne m9
     have g29:=n29.ge0 hB
     have r29_hrw:=Zu hrw n29
     have gd_b29:(W.drew).heap.size≤b29:=by have:=hS28.1.size;have:=n29.at_;omega
     replace hB:=blB hB (Nat.le_trans hBW hW1) n29.below
     replace m9:=m9.below n29.below
     replace hsW:=Zb hsW n29.below
     replace hrw:=Zb hrw n29.below
     replace hE:=hE.below n29.below
     replace hZ:=hZ.below n29.below
     replace hq:=Zb hq n29.below
     have k29:=n29.blk
     have hS30:Below w.heap.size (W.drew) (W29)∧Ze [91,30] (W.drew) (W29):=⟨blB hS28.1 (Nat.le_trans (Nat.le_trans hBW hW1) hBd16.size) n29.below,hS28.2.trans (Ze.of_below n29.below)⟩
     refine⟨hS30,?_⟩
     refine Uy 4 1 rfl (by kernel_rfl) rfl (by kernel_rfl) (Zp (e:=30) (n:=(Us (Zv (l.take i)) pre).length) (xs:=(List.range (Us (Zv (l.take i)) pre).length).map (Bt gs (Us (Zv (l.take i)) pre))) (m:=1) (news:=[.slice q m c2]) (.slice none 0 0) 1 24 ((Us (Zv (l.take i)) pre).length+1) ((List.range (Us (Zv (l.take i)) pre).length).map (Bt gs (Us (Zv (l.take i)) pre))++[.slice q m c2]) rfl Tryz.underlying91 (by kernel_rfl) rfl (by decide) (by kernel_rfl) hrw (by kernel_rfl) (k29.sl 1 1 (by decide) (by decide)) rfl (by simp[Value.oneCell']) (by unfold maxLen;omega) (by omega) (Nat.le_trans hW1 hZ.le) (by simp) (by simp) ?_)
     intro p31 c31 W31 o31 hg31 hb31
     replace m9:=m9.grown hg31 hrw (by decide)
     replace hsW:=Zg hsW hg31 hrw (by decide)
     replace hE:=hE.only (Ze.of_grown (T:=[30]) hg31 hrw (by decide)) (by decide)
     replace hZ:=hZ.grown hg31 hrw
     replace hq:=Zg hq hg31 hrw (by decide)
     replace hB:=hB.trans (hb31.mono hBW)
     have hS32:Below w.heap.size (W.drew) (W31)∧Ze [91,30] (W.drew) (W31):=⟨hS30.1.trans (hb31.mono hBW),hS30.2.trans (Ze.of_grown hg31 hrw (by decide))⟩
     refine⟨hS32,?_⟩
     refine Uy 5 0 rfl (by kernel_rfl) rfl (by kernel_rfl) (Ua (v:=.slice p31 ((Us (Zv (l.take i)) pre).length+1) c31) (b:=b12) (off:=0) rfl (by kernel_rfl) (by kernel_rfl) (by kernel_rfl) rfl m9 (by first|decide|simp) ?_)
     intro W33 u33 k33
     change Blk _ _ [.slice p31 ((Us (Zv (l.take i)) pre).length+1) c31] _ at k33
     replace hB:=u33.below hB hb9
     replace hsW:=u33.own2 hsW m9 (by decide)
     replace hE:=hE.only (Ze.of_upd (T:=[91]) u33 m9 (by decide)) (by decide)
     replace hZ:=hZ.upd u33 m9
     replace hq:=u33.own2 hq m9 (by decide)
     replace o31:=u33.own2 o31 m9 (by decide)
     have hS34:Below w.heap.size (W.drew) (W33)∧Ze [91,30] (W.drew) (W33):=⟨u33.below hS32.1 hb9,hS32.2.trans (Ze.of_upd u33 m9 (by decide))⟩
     refine⟨hS34,?_⟩
     refine Tv _ (by kernel_rfl) ?_
     obtain⟨g2,rfl,hc2⟩:=Hf hq hm0
     rw[←hcl] at hq
     have hrw2:=o31
     rw[←hcl] at hrw2
     have hS:=Lists.snoc (n:=(Us (Zv (l.take i)) pre).length+1) rfl hrw2 hE (Zd hq hW1) (by rw[hgl,hpl])
     exact⟨hZ.ko.from _,⟨hZ.le,fun b hb=>hZ.fr b hb.1 hb.2⟩,⟨_,_,gs++[(g2,_)],by simp[hgl],by rw[Wa,List.length_append];exact k33,by rw[Wa,List.length_append];exact hS⟩,hZ.bb⟩
    ·refine Yi 30 [.slice q m c2] rfl (by kernel_rfl) ?_
     intro b35 W35 n35
     have d35_b12:=n35.ne m9
     have g35:=n35.ge0 hB
     have r35_hrw:=Zu hrw n35
     have gd_b35:(W.drew).heap.size≤b35:=by have:=hS27.1.size;have:=n35.at_;omega
     replace hB:=blB hB (Nat.le_trans hBW hW1) n35.below
     replace m9:=m9.below n35.below
     replace hsW:=Zb hsW n35.below
     replace hrw:=Zb hrw n35.below
     replace hE:=hE.below n35.below
     replace hZ:=hZ.below n35.below
     replace hq:=Zb hq n35.below
     have k35:=n35.blk
     have hS36:Below w.heap.size (W.drew) (W35)∧Ze [91,30] (W.drew) (W35):=⟨blB hS27.1 (Nat.le_trans (Nat.le_trans hBW hW1) hBd16.size) n35.below,hS27.2.trans (Ze.of_below n35.below)⟩
     refine⟨hS36,?_⟩
     refine Uy 0 2 rfl (by kernel_rfl) rfl (by kernel_rfl) (Gh ⟨b12,0,none⟩ (.slice pb ((Us (Zv (l.take i)) pre).length) cb) rfl (by kernel_rfl) (by kernel_rfl) (m9.cell (i:=0) rfl) ?_)
     have hS37:Below w.heap.size (W.drew) (W35)∧Ze [91,30] (W.drew) (W35):=hS36
     refine⟨hS37,?_⟩
     refine Uy 4 1 rfl (by kernel_rfl) rfl (by kernel_rfl) (Zp (e:=30) (n:=(Us (Zv (l.take i)) pre).length) (xs:=(List.range (Us (Zv (l.take i)) pre).length).map (Bt gs (Us (Zv (l.take i)) pre))) (m:=1) (news:=[.slice q m c2]) (.slice none 0 0) 1 24 ((Us (Zv (l.take i)) pre).length+1) ((List.range (Us (Zv (l.take i)) pre).length).map (Bt gs (Us (Zv (l.take i)) pre))++[.slice q m c2]) rfl Tryz.underlying91 (by kernel_rfl) rfl (by decide) (by kernel_rfl) hrw (by kernel_rfl) (k35.sl 1 1 (by decide) (by decide)) rfl (by simp[Value.oneCell']) (by unfold maxLen;omega) (by omega) (Nat.le_trans hW1 hZ.le) (by simp) (by simp) ?_)
     intro p38 c38 W38 o38 hg38 hb38
     replace m9:=m9.grown hg38 hrw (by decide)
     replace hsW:=Zg hsW hg38 hrw (by decide)
     replace hE:=hE.only (Ze.of_grown (T:=[30]) hg38 hrw (by decide)) (by decide)
     replace hZ:=hZ.grown hg38 hrw
     replace hq:=Zg hq hg38 hrw (by decide)
     replace hB:=hB.trans (hb38.mono hBW)
     have hS39:Below w.heap.size (W.drew) (W38)∧Ze [91,30] (W.drew) (W38):=⟨hS37.1.trans (hb38.mono hBW),hS37.2.trans (Ze.of_grown hg38 hrw (by decide))⟩
     refine⟨hS39,?_⟩
     refine Uy 5 0 rfl (by kernel_rfl) rfl (by kernel_rfl) (Ua (v:=.slice p38 ((Us (Zv (l.take i)) pre).length+1) c38) (b:=b12) (off:=0) rfl (by kernel_rfl) (by kernel_rfl) (by kernel_rfl) rfl m9 (by first|decide|simp) ?_)
     intro W40 u40 k40
     change Blk _ _ [.slice p38 ((Us (Zv (l.take i)) pre).length+1) c38] _ at k40
     replace hB:=u40.below hB hb9
     replace hsW:=u40.own2 hsW m9 (by decide)
     replace hE:=hE.only (Ze.of_upd (T:=[91]) u40 m9 (by decide)) (by decide)
     replace hZ:=hZ.upd u40 m9
     replace hq:=u40.own2 hq m9 (by decide)
     replace o38:=u40.own2 o38 m9 (by decide)
     have hS41:Below w.heap.size (W.drew) (W40)∧Ze [91,30] (W.drew) (W40):=⟨u40.below hS39.1 hb9,hS39.2.trans (Ze.of_upd u40 m9 (by decide))⟩
     refine⟨hS41,?_⟩
     refine Tv _ (by kernel_rfl) ?_
     obtain⟨g2,rfl,hc2⟩:=Hf hq hm0
     rw[←hcl] at hq
     have hrw2:=o38
     rw[←hcl] at hrw2
     have hS:=Lists.snoc (n:=(Us (Zv (l.take i)) pre).length+1) rfl hrw2 hE (Zd hq hW1) (by rw[hgl,hpl])
     exact⟨hZ.ko.from _,⟨hZ.le,fun b hb=>hZ.fr b hb.1 hb.2⟩,⟨_,_,gs++[(g2,_)],by simp[hgl],by rw[Wa,List.length_append];exact k40,by rw[Wa,List.length_append];exact hS⟩,hZ.bb⟩
  case done =>
   rintro D xs W hD rfl ⟨⟨pb,cb,gs,hgl,m9,hL⟩,hbb⟩ hK0
   rw[preC_all] at m9 hL
   have hK:Dfr D W:=hK0;clear hK0
   subst hin
   rw[List.take_length] at m9 hL
   rw[Me] at m9 hL
   refine g_nopan ?_
   have hB1:=hB
   replace hB:=hbb.below hB g12 hB.size
   have ho2:=hbb.own2 ho k12 (by decide)
   have hBW:=hB1.size
   replace k12:=m9
   refine wp_seq ?_
   refine wp_region_lit ?_
   refine Zdh (by kernel_rfl) (Gh ⟨b12,0,none⟩ (.slice pb (bmN l.length) cb) rfl (by kernel_rfl) (by kernel_rfl) (k12.cell (i:=0) rfl) ?_)
   refine Eu 4 [(51,.slice po ((Xn l l.length).length) co),(2,.slice pb (bmN l.length) cb),(3,.slice po ((Xn l l.length).length) co),(4,.int .i64 0)] (by kernel_rfl) ?_
   refine wpList_nil ?_
   refine wp_ret ?_
   exact Zg6 hK (.tuple #[.slice pb (bmN l.length) cb,.slice po ((Xn l l.length).length) co,.int .i64 0]) (by kernel_rfl) (by kernel_rfl) (.inr ⟨Ru hl (fun k hk=>hz k (by omega)),_,_,gs,_,_,rfl,(Upd.of_put _ _ _).below hB (Nat.le_trans hBW hD),(hL.mono hBW).put (Upd.of_put _ _ _) hK,(Upd.of_put _ _ _).own3 ho2 (hK.row ho2)⟩)
end Go.Proofs.YthlakkdgcgkcdaaGreatDoor
namespace Go.Proofs.YthlakkdgcgkcdaaGreatDoor
set_option maxHeartbeats 8000000
set_option maxRecDepth 100000
open Go.RowKit Go.Extern.Stop Go.Stop Go.Extern
set_option linter.unusedVariables false
attribute [local irreducible] wpList wpAnyH Code.wp Oper.wp Go
def ClosP(B Bx bl:Nat)(L:List (List Int))(q i:Nat)(w:World)(e:Ending)(w':World):Prop :=
 ∃ u p c,e=.returned u∧Below B w w'∧Ze [67,77] w w'∧Blk w' bl [.slice p (i+1) c] 67∧w'.ownsRow Bx 77 3 (.slice p (i+1) c) (i+1) ((Xz L q (i+1)).flatMap Ko)∧FrB Bx [bl] w w'
theorem He(L:List (List Int))(q i:Nat):(Xz L q i).flatMap Ko++[.int .i64 (i:Int),.string ⟨(leB ((q+i:Nat):Int) 8++leB (Yn (L.getD i []):Int) 4++leB (Xm (L.getD i []):Int) 4).toArray⟩,.int .i64 0]=(Xz L q (i+1)).flatMap Ko:=by
 rw[Zeg];simp[Ko,Zcx,slotB]
structure FrZ(Bx:Nat)(S:List Nat)(a w:World):Prop where
 fr:FrB Bx S a w
 le:Bx≤a.heap.size
theorem FrZ.refl{Bx:Nat}{S:List Nat}{w:World}(h:Bx≤w.heap.size):FrZ Bx S w w:=⟨⟨Nat.le_refl _,fun _ _ _=>rfl⟩,h⟩
theorem FrZ.below{Bx:Nat}{S:List Nat}{a w W:World}(h:FrZ Bx S a w)(hb:Below w.heap.size w W):FrZ Bx S a W:=⟨⟨Nat.le_trans h.fr.1 hb.size,fun k hk hn=>(hb.block k (by have:=h.fr.1;have:=h.le;omega)).trans (h.fr.2 k hk hn)⟩,h.le⟩
theorem FrZ.upd{Bx b:Nat}{S:List Nat}{a w W:World}(h:FrZ Bx S a w)(u:Upd w b W)(hb:b∈S):FrZ Bx S a W:=⟨⟨Nat.le_trans h.fr.1 (Nat.le_of_eq u.size.symm),fun k hk hn=>(u.block k fun e=>hn (e▸hb)).trans (h.fr.2 k hk hn)⟩,h.le⟩
theorem FrZ.grown{Bx:Nat}{S:List Nat}{a w W:World}{size n:Nat}{e:TypeId}{v:Value}{xs:List Value}(h:FrZ Bx S a w)(hg:w.grownBy W v.ownBlock)(hown:w.ownsRow Bx e size v n xs):FrZ Bx S a W:=⟨⟨Nat.le_trans h.fr.1 hg.size,fun k hk hn=>(hg.block k (by have:=h.fr.1;have:=h.le;omega) (fun e=>by have:=(hown.lt k e.symm).1;omega)).trans (h.fr.2 k hk hn)⟩,h.le⟩
theorem plot_data1(B Bx bl:Nat)(p:Option Addr)(c:Nat)(L:List (List Int))(q i:Nat)(w:World)(hBm:B≤Bx)(hBx:Bx≤w.heap.size)(hBw:B≤w.heap.size)(hBl:B≤bl)(kl:Blk w bl [.slice p i c] 67)(hup:w.ownsRow Bx 77 3 (.slice p i c) i ((Xz L q i).flatMap Ko))(hq:1≤q+i)(hq2:q+i≤14399)(hi:i≤100000)(hf:Yn (L.getD i [])≤960)(hg:Xm (L.getD i [])≤960) :
 Calls Tryz.prog 52 #[.agg #[.int .i64 (↑(q+i):Int),.int .i64 (↑(Yn (L.getD i [])):Int),.int .i64 (↑(Xm (L.getD i [])):Int)],.pointer (some ⟨bl,0,none⟩)] w (ClosP B Bx bl L q i w):=by
 have hZ:FrZ Bx [bl] w w:=FrZ.refl hBx
 refine zin 11 Tryz.func52 ?_
 refine xa 2 [.int .i64 (↑(q+i):Int),.int .i64 (↑(Yn (L.getD i [])):Int),.int .i64 (↑(Xm (L.getD i [])):Int)] 79 fun b1 W1 n1=>?_
 refine xd 2 (.t B [67,77]) ?_
 have k1:=n1.blk.below (Za W1)
 refine xlvt (.e [] 3) (.t B [67,77]) (fun V hV=>(k1.only hV.2 (by decide)).rp) ?_
 refine xm3 0 0 1 4 ?_ ?_ ?_
 ·have kl'1:=(kl.below n1.below).below (Za W1)
  refine xb 0 0 kl'1 ?_
  refine xm2 0 1 4 ?_ ?_
  ·refine xb 0 0 kl'1 ?_
   refine xr (.o [2] 4) (args:=#[.agg #[.int .i64 (↑(q+i):Int),.int .i64 (↑(Yn (L.getD i [])):Int),.int .i64 (↑(Xm (L.getD i [])):Int)]]) (Ut (↑(q+i):Int) (↑(Yn (L.getD i [])):Int) (↑(Xm (L.getD i [])):Int) (by omega) (by omega) (by omega) (by omega) (by omega) (by omega) _) fun W2 hb2=>?_
   refine xbs (.o [5] 6) 1 [.int .i64 (↑i:Int),.string ⟨(leB (↑(q+i):Int) 8++leB (↑(Yn (L.getD i [])):Int) 4++leB (↑(Xm (L.getD i [])):Int) 4).toArray⟩,.int .i64 0] 77 fun b3 W3 n3=>?_
   have hup'1:=Zb (Zb (Zb hup n1.below) (Za W1)) hb2
   have r3_hup:=Zu hup'1 n3
   have hup'2:=Zb hup'1 n3.below
   have hB:=blB (blB (blB (blB (Below.refl B w) hBw n1.below) hBw (Za W1)) hBw hb2) hBw n3.below
   refine ybi (.o [] 7) (.t B [67,77]) fun _ _ _ _ zJ zQ zo zx zy zK=>Zp (m:=1) (news:=[.int .i64 (↑i:Int),.string ⟨(leB (↑(q+i):Int) 8++leB (↑(Yn (L.getD i [])):Int) 4++leB (↑(Xm (L.getD i [])):Int) 4).toArray⟩,.int .i64 0]) (.agg #[.int .i64 0,.string ⟨#[]⟩,.int .i64 0]) 3 32 (i+1) ((Xz L q (i+1)).flatMap Ko) zo Tryz.underlying67 (by kernel_rfl) rfl (by decide) zx hup'2 zy (n3.blk.sl 1 1 (by decide) (by decide)) rfl (by simp[Value.oneCell']) (by unfold maxLen;omega) (by omega) (Nat.le_trans hBx hB.size) (by rfl) (He L q i) fun px4 cx4 W4 o4 hg4 hb4=>?_
   refine zK _ _ (Zr (hb4.mono hBm) hg4 hup'2 (by decide)) ?_
   have kl'2:=((kl'1.below hb2).below n3.below).grown hg4 hup'2 (by decide)
   refine ys (.o [] 8) kl'2 [.slice px4 (i+1) cx4] (.t B [67,77]) fun W5 u5 k5=>⟨(Zi u5 kl'2 hBl (by decide)),?_⟩
   have hB'1:=u5.below (hB.trans (hb4.mono hBm)) hBl
   have hO:=(((((show Ze [67,77] w _ from(Ze.of_below n1.below)).trans (Ze.of_below (Za W1))).trans (Ze.of_below hb2)).trans (Ze.of_below n3.below)).trans (Ze.of_grown hg4 hup'2 (by decide))).trans (Ze.of_upd u5 kl'2 (by decide))
   have o4'1:=u5.own2 o4 kl'2 (by decide)
   have hZ'1:=(((((hZ.below n1.below).below (Za W1)).below hb2).below n3.below).grown hg4 hup'2).upd u5 (by simp)
   exact xe 1 (.tuple #[]) ⟨_,_,_,rfl,hB'1,hO,k5,o4'1,hZ'1.fr⟩
  refine xr 0 (args:=#[.agg #[.int .i64 (↑(q+i):Int),.int .i64 (↑(Yn (L.getD i [])):Int),.int .i64 (↑(Xm (L.getD i [])):Int)]]) (Ut (↑(q+i):Int) (↑(Yn (L.getD i [])):Int) (↑(Xm (L.getD i [])):Int) (by omega) (by omega) (by omega) (by omega) (by omega) (by omega) _) fun W6 hb6=>?_
  have kl'3:=kl'1.below hb6
  refine xb (.o [] 1) 0 kl'3 ?_
  refine xbs (.o [2,5] 6) 1 [.int .i64 (↑i:Int),.string ⟨(leB (↑(q+i):Int) 8++leB (↑(Yn (L.getD i [])):Int) 4++leB (↑(Xm (L.getD i [])):Int) 4).toArray⟩,.int .i64 0] 77 fun b7 W7 n7=>?_
  have hup'3:=Zb (Zb (Zb hup n1.below) (Za W1)) hb6
  have r7_hup:=Zu hup'3 n7
  have hup'4:=Zb hup'3 n7.below
  have hB:=blB (blB (blB (blB (Below.refl B w) hBw n1.below) hBw (Za W1)) hBw hb6) hBw n7.below
  refine ybi (.o [] 7) (.t B [67,77]) fun _ _ _ _ zJ zQ zo zx zy zK=>Zp (m:=1) (news:=[.int .i64 (↑i:Int),.string ⟨(leB (↑(q+i):Int) 8++leB (↑(Yn (L.getD i [])):Int) 4++leB (↑(Xm (L.getD i [])):Int) 4).toArray⟩,.int .i64 0]) (.agg #[.int .i64 0,.string ⟨#[]⟩,.int .i64 0]) 3 32 (i+1) ((Xz L q (i+1)).flatMap Ko) zo Tryz.underlying67 (by kernel_rfl) rfl (by decide) zx hup'4 zy (n7.blk.sl 1 1 (by decide) (by decide)) rfl (by simp[Value.oneCell']) (by unfold maxLen;omega) (by omega) (Nat.le_trans hBx hB.size) (by rfl) (He L q i) fun px8 cx8 W8 o8 hg8 hb8=>?_
  refine zK _ _ (Zr (hb8.mono hBm) hg8 hup'4 (by decide)) ?_
  have kl'4:=(kl'3.below n7.below).grown hg8 hup'4 (by decide)
  refine ys (.o [] 8) kl'4 [.slice px8 (i+1) cx8] (.t B [67,77]) fun W9 u9 k9=>⟨(Zi u9 kl'4 hBl (by decide)),?_⟩
  have hB'2:=u9.below (hB.trans (hb8.mono hBm)) hBl
  have hO:=(((((show Ze [67,77] w _ from(Ze.of_below n1.below)).trans (Ze.of_below (Za W1))).trans (Ze.of_below hb6)).trans (Ze.of_below n7.below)).trans (Ze.of_grown hg8 hup'4 (by decide))).trans (Ze.of_upd u9 kl'4 (by decide))
  have o8'1:=u9.own2 o8 kl'4 (by decide)
  have hZ'2:=(((((hZ.below n1.below).below (Za W1)).below hb6).below n7.below).grown hg8 hup'4).upd u9 (by simp)
  exact xe 1 (.tuple #[]) ⟨_,_,_,rfl,hB'2,hO,k9,o8'1,hZ'2.fr⟩
 ·have kl'5:=(kl.below n1.below).below (Za W1)
  refine xb 0 0 kl'5 ?_
  refine xm2 (.b [2]) 0 4 ?_ ?_
  ·refine xb 0 0 kl'5 ?_
   refine xr (.o [] 4) (args:=#[.agg #[.int .i64 (↑(q+i):Int),.int .i64 (↑(Yn (L.getD i [])):Int),.int .i64 (↑(Xm (L.getD i [])):Int)]]) (Ut (↑(q+i):Int) (↑(Yn (L.getD i [])):Int) (↑(Xm (L.getD i [])):Int) (by omega) (by omega) (by omega) (by omega) (by omega) (by omega) _) fun W10 hb10=>?_
   refine xbs (.o [5] 6) 1 [.int .i64 (↑i:Int),.string ⟨(leB (↑(q+i):Int) 8++leB (↑(Yn (L.getD i [])):Int) 4++leB (↑(Xm (L.getD i [])):Int) 4).toArray⟩,.int .i64 0] 77 fun b11 W11 n11=>?_
   have hup'5:=Zb (Zb (Zb hup n1.below) (Za W1)) hb10
   have r11_hup:=Zu hup'5 n11
   have hup'6:=Zb hup'5 n11.below
   have hB:=blB (blB (blB (blB (Below.refl B w) hBw n1.below) hBw (Za W1)) hBw hb10) hBw n11.below
   refine ybi (.o [] 7) (.t B [67,77]) fun _ _ _ _ zJ zQ zo zx zy zK=>Zp (m:=1) (news:=[.int .i64 (↑i:Int),.string ⟨(leB (↑(q+i):Int) 8++leB (↑(Yn (L.getD i [])):Int) 4++leB (↑(Xm (L.getD i [])):Int) 4).toArray⟩,.int .i64 0]) (.agg #[.int .i64 0,.string ⟨#[]⟩,.int .i64 0]) 3 32 (i+1) ((Xz L q (i+1)).flatMap Ko) zo Tryz.underlying67 (by kernel_rfl) rfl (by decide) zx hup'6 zy (n11.blk.sl 1 1 (by decide) (by decide)) rfl (by simp[Value.oneCell']) (by unfold maxLen;omega) (by omega) (Nat.le_trans hBx hB.size) (by rfl) (He L q i) fun px12 cx12 W12 o12 hg12 hb12=>?_
   refine zK _ _ (Zr (hb12.mono hBm) hg12 hup'6 (by decide)) ?_
   have kl'6:=((kl'5.below hb10).below n11.below).grown hg12 hup'6 (by decide)
   refine ys (.o [] 8) kl'6 [.slice px12 (i+1) cx12] (.t B [67,77]) fun W13 u13 k13=>⟨(Zi u13 kl'6 hBl (by decide)),?_⟩
   have hB'3:=u13.below (hB.trans (hb12.mono hBm)) hBl
   have hO:=(((((show Ze [67,77] w _ from(Ze.of_below n1.below)).trans (Ze.of_below (Za W1))).trans (Ze.of_below hb10)).trans (Ze.of_below n11.below)).trans (Ze.of_grown hg12 hup'6 (by decide))).trans (Ze.of_upd u13 kl'6 (by decide))
   have o12'1:=u13.own2 o12 kl'6 (by decide)
   have hZ'3:=(((((hZ.below n1.below).below (Za W1)).below hb10).below n11.below).grown hg12 hup'6).upd u13 (by simp)
   exact xe 1 (.tuple #[]) ⟨_,_,_,rfl,hB'3,hO,k13,o12'1,hZ'3.fr⟩
  refine xr 0 (args:=#[.agg #[.int .i64 (↑(q+i):Int),.int .i64 (↑(Yn (L.getD i [])):Int),.int .i64 (↑(Xm (L.getD i [])):Int)]]) (Ut (↑(q+i):Int) (↑(Yn (L.getD i [])):Int) (↑(Xm (L.getD i [])):Int) (by omega) (by omega) (by omega) (by omega) (by omega) (by omega) _) fun W14 hb14=>?_
  refine xm2 (.b [5]) 0 6 ?_ ?_
  ·have kl'7:=kl'5.below hb14
   refine xb 0 0 kl'7 ?_
   refine xbs (.o [] 6) 1 [.int .i64 (↑i:Int),.string ⟨(leB (↑(q+i):Int) 8++leB (↑(Yn (L.getD i [])):Int) 4++leB (↑(Xm (L.getD i [])):Int) 4).toArray⟩,.int .i64 0] 77 fun b15 W15 n15=>?_
   have hup'7:=Zb (Zb (Zb hup n1.below) (Za W1)) hb14
   have r15_hup:=Zu hup'7 n15
   have hup'8:=Zb hup'7 n15.below
   have hB:=blB (blB (blB (blB (Below.refl B w) hBw n1.below) hBw (Za W1)) hBw hb14) hBw n15.below
   refine ybi (.o [] 7) (.t B [67,77]) fun _ _ _ _ zJ zQ zo zx zy zK=>Zp (m:=1) (news:=[.int .i64 (↑i:Int),.string ⟨(leB (↑(q+i):Int) 8++leB (↑(Yn (L.getD i [])):Int) 4++leB (↑(Xm (L.getD i [])):Int) 4).toArray⟩,.int .i64 0]) (.agg #[.int .i64 0,.string ⟨#[]⟩,.int .i64 0]) 3 32 (i+1) ((Xz L q (i+1)).flatMap Ko) zo Tryz.underlying67 (by kernel_rfl) rfl (by decide) zx hup'8 zy (n15.blk.sl 1 1 (by decide) (by decide)) rfl (by simp[Value.oneCell']) (by unfold maxLen;omega) (by omega) (Nat.le_trans hBx hB.size) (by rfl) (He L q i) fun px16 cx16 W16 o16 hg16 hb16=>?_
   refine zK _ _ (Zr (hb16.mono hBm) hg16 hup'8 (by decide)) ?_
   have kl'8:=(kl'7.below n15.below).grown hg16 hup'8 (by decide)
   refine ys (.o [] 8) kl'8 [.slice px16 (i+1) cx16] (.t B [67,77]) fun W17 u17 k17=>⟨(Zi u17 kl'8 hBl (by decide)),?_⟩
   have hB'4:=u17.below (hB.trans (hb16.mono hBm)) hBl
   have hO:=(((((show Ze [67,77] w _ from(Ze.of_below n1.below)).trans (Ze.of_below (Za W1))).trans (Ze.of_below hb14)).trans (Ze.of_below n15.below)).trans (Ze.of_grown hg16 hup'8 (by decide))).trans (Ze.of_upd u17 kl'8 (by decide))
   have o16'1:=u17.own2 o16 kl'8 (by decide)
   have hZ'4:=(((((hZ.below n1.below).below (Za W1)).below hb14).below n15.below).grown hg16 hup'8).upd u17 (by simp)
   exact xe 1 (.tuple #[]) ⟨_,_,_,rfl,hB'4,hO,k17,o16'1,hZ'4.fr⟩
  refine xbs 0 1 [.int .i64 (↑i:Int),.string ⟨(leB (↑(q+i):Int) 8++leB (↑(Yn (L.getD i [])):Int) 4++leB (↑(Xm (L.getD i [])):Int) 4).toArray⟩,.int .i64 0] 77 fun b18 W18 n18=>?_
  have hup'9:=Zb (Zb (Zb hup n1.below) (Za W1)) hb14
  have r18_hup:=Zu hup'9 n18
  have kl'9:=(kl'5.below hb14).below n18.below
  refine xb (.o [] 0) 0 kl'9 ?_
  have hup'10:=Zb hup'9 n18.below
  have hB:=blB (blB (blB (blB (Below.refl B w) hBw n1.below) hBw (Za W1)) hBw hb14) hBw n18.below
  refine ybi (.o [] 7) (.t B [67,77]) fun _ _ _ _ zJ zQ zo zx zy zK=>Zp (m:=1) (news:=[.int .i64 (↑i:Int),.string ⟨(leB (↑(q+i):Int) 8++leB (↑(Yn (L.getD i [])):Int) 4++leB (↑(Xm (L.getD i [])):Int) 4).toArray⟩,.int .i64 0]) (.agg #[.int .i64 0,.string ⟨#[]⟩,.int .i64 0]) 3 32 (i+1) ((Xz L q (i+1)).flatMap Ko) zo Tryz.underlying67 (by kernel_rfl) rfl (by decide) zx hup'10 zy (n18.blk.sl 1 1 (by decide) (by decide)) rfl (by simp[Value.oneCell']) (by unfold maxLen;omega) (by omega) (Nat.le_trans hBx hB.size) (by rfl) (He L q i) fun px19 cx19 W19 o19 hg19 hb19=>?_
  refine zK _ _ (Zr (hb19.mono hBm) hg19 hup'10 (by decide)) ?_
  have kl'10:=kl'9.grown hg19 hup'10 (by decide)
  refine ys (.o [] 8) kl'10 [.slice px19 (i+1) cx19] (.t B [67,77]) fun W20 u20 k20=>⟨(Zi u20 kl'10 hBl (by decide)),?_⟩
  have hB'5:=u20.below (hB.trans (hb19.mono hBm)) hBl
  have hO:=(((((show Ze [67,77] w _ from(Ze.of_below n1.below)).trans (Ze.of_below (Za W1))).trans (Ze.of_below hb14)).trans (Ze.of_below n18.below)).trans (Ze.of_grown hg19 hup'10 (by decide))).trans (Ze.of_upd u20 kl'10 (by decide))
  have o19'1:=u20.own2 o19 kl'10 (by decide)
  have hZ'5:=(((((hZ.below n1.below).below (Za W1)).below hb14).below n18.below).grown hg19 hup'10).upd u20 (by simp)
  exact xe 1 (.tuple #[]) ⟨_,_,_,rfl,hB'5,hO,k20,o19'1,hZ'5.fr⟩
 refine xr 0 (args:=#[.agg #[.int .i64 (↑(q+i):Int),.int .i64 (↑(Yn (L.getD i [])):Int),.int .i64 (↑(Xm (L.getD i [])):Int)]]) (Ut (↑(q+i):Int) (↑(Yn (L.getD i [])):Int) (↑(Xm (L.getD i [])):Int) (by omega) (by omega) (by omega) (by omega) (by omega) (by omega) _) fun W21 hb21=>?_
 refine xm2 0 0 1 ?_ ?_
 ·have kl'11:=((kl.below n1.below).below (Za W1)).below hb21
  refine xb 0 0 kl'11 ?_
  refine xb (.o [] 1) 0 kl'11 ?_
  refine xbs (.o [2,5] 6) 1 [.int .i64 (↑i:Int),.string ⟨(leB (↑(q+i):Int) 8++leB (↑(Yn (L.getD i [])):Int) 4++leB (↑(Xm (L.getD i [])):Int) 4).toArray⟩,.int .i64 0] 77 fun b22 W22 n22=>?_
  have hup'11:=Zb (Zb (Zb hup n1.below) (Za W1)) hb21
  have r22_hup:=Zu hup'11 n22
  have hup'12:=Zb hup'11 n22.below
  have hB:=blB (blB (blB (blB (Below.refl B w) hBw n1.below) hBw (Za W1)) hBw hb21) hBw n22.below
  refine ybi (.o [] 7) (.t B [67,77]) fun _ _ _ _ zJ zQ zo zx zy zK=>Zp (m:=1) (news:=[.int .i64 (↑i:Int),.string ⟨(leB (↑(q+i):Int) 8++leB (↑(Yn (L.getD i [])):Int) 4++leB (↑(Xm (L.getD i [])):Int) 4).toArray⟩,.int .i64 0]) (.agg #[.int .i64 0,.string ⟨#[]⟩,.int .i64 0]) 3 32 (i+1) ((Xz L q (i+1)).flatMap Ko) zo Tryz.underlying67 (by kernel_rfl) rfl (by decide) zx hup'12 zy (n22.blk.sl 1 1 (by decide) (by decide)) rfl (by simp[Value.oneCell']) (by unfold maxLen;omega) (by omega) (Nat.le_trans hBx hB.size) (by rfl) (He L q i) fun px23 cx23 W23 o23 hg23 hb23=>?_
  refine zK _ _ (Zr (hb23.mono hBm) hg23 hup'12 (by decide)) ?_
  have kl'12:=(kl'11.below n22.below).grown hg23 hup'12 (by decide)
  refine ys (.o [] 8) kl'12 [.slice px23 (i+1) cx23] (.t B [67,77]) fun W24 u24 k24=>⟨(Zi u24 kl'12 hBl (by decide)),?_⟩
  have hB'6:=u24.below (hB.trans (hb23.mono hBm)) hBl
  have hO:=(((((show Ze [67,77] w _ from(Ze.of_below n1.below)).trans (Ze.of_below (Za W1))).trans (Ze.of_below hb21)).trans (Ze.of_below n22.below)).trans (Ze.of_grown hg23 hup'12 (by decide))).trans (Ze.of_upd u24 kl'12 (by decide))
  have o23'1:=u24.own2 o23 kl'12 (by decide)
  have hZ'6:=(((((hZ.below n1.below).below (Za W1)).below hb21).below n22.below).grown hg23 hup'12).upd u24 (by simp)
  exact xe 1 (.tuple #[]) ⟨_,_,_,rfl,hB'6,hO,k24,o23'1,hZ'6.fr⟩
 have kl'13:=((kl.below n1.below).below (Za W1)).below hb21
 refine xb 0 0 kl'13 ?_
 refine xm2 (.b [2,5]) 0 6 ?_ ?_
 ·refine xb 0 0 kl'13 ?_
  refine xbs (.o [] 6) 1 [.int .i64 (↑i:Int),.string ⟨(leB (↑(q+i):Int) 8++leB (↑(Yn (L.getD i [])):Int) 4++leB (↑(Xm (L.getD i [])):Int) 4).toArray⟩,.int .i64 0] 77 fun b25 W25 n25=>?_
  have hup'13:=Zb (Zb (Zb hup n1.below) (Za W1)) hb21
  have r25_hup:=Zu hup'13 n25
  have hup'14:=Zb hup'13 n25.below
  have hB:=blB (blB (blB (blB (Below.refl B w) hBw n1.below) hBw (Za W1)) hBw hb21) hBw n25.below
  refine ybi (.o [] 7) (.t B [67,77]) fun _ _ _ _ zJ zQ zo zx zy zK=>Zp (m:=1) (news:=[.int .i64 (↑i:Int),.string ⟨(leB (↑(q+i):Int) 8++leB (↑(Yn (L.getD i [])):Int) 4++leB (↑(Xm (L.getD i [])):Int) 4).toArray⟩,.int .i64 0]) (.agg #[.int .i64 0,.string ⟨#[]⟩,.int .i64 0]) 3 32 (i+1) ((Xz L q (i+1)).flatMap Ko) zo Tryz.underlying67 (by kernel_rfl) rfl (by decide) zx hup'14 zy (n25.blk.sl 1 1 (by decide) (by decide)) rfl (by simp[Value.oneCell']) (by unfold maxLen;omega) (by omega) (Nat.le_trans hBx hB.size) (by rfl) (He L q i) fun px26 cx26 W26 o26 hg26 hb26=>?_
  refine zK _ _ (Zr (hb26.mono hBm) hg26 hup'14 (by decide)) ?_
  have kl'14:=(kl'13.below n25.below).grown hg26 hup'14 (by decide)
  refine ys (.o [] 8) kl'14 [.slice px26 (i+1) cx26] (.t B [67,77]) fun W27 u27 k27=>⟨(Zi u27 kl'14 hBl (by decide)),?_⟩
  have hB'7:=u27.below (hB.trans (hb26.mono hBm)) hBl
  have hO:=(((((show Ze [67,77] w _ from(Ze.of_below n1.below)).trans (Ze.of_below (Za W1))).trans (Ze.of_below hb21)).trans (Ze.of_below n25.below)).trans (Ze.of_grown hg26 hup'14 (by decide))).trans (Ze.of_upd u27 kl'14 (by decide))
  have o26'1:=u27.own2 o26 kl'14 (by decide)
  have hZ'7:=(((((hZ.below n1.below).below (Za W1)).below hb21).below n25.below).grown hg26 hup'14).upd u27 (by simp)
  exact xe 1 (.tuple #[]) ⟨_,_,_,rfl,hB'7,hO,k27,o26'1,hZ'7.fr⟩
 refine xbs 0 1 [.int .i64 (↑i:Int),.string ⟨(leB (↑(q+i):Int) 8++leB (↑(Yn (L.getD i [])):Int) 4++leB (↑(Xm (L.getD i [])):Int) 4).toArray⟩,.int .i64 0] 77 fun b28 W28 n28=>?_
 have hup'15:=Zb (Zb (Zb hup n1.below) (Za W1)) hb21
 have r28_hup:=Zu hup'15 n28
 have kl'15:=kl'13.below n28.below
 refine xb (.o [] 0) 0 kl'15 ?_
 have hup'16:=Zb hup'15 n28.below
 have hB:=blB (blB (blB (blB (Below.refl B w) hBw n1.below) hBw (Za W1)) hBw hb21) hBw n28.below
 refine ybi (.o [] 7) (.t B [67,77]) fun _ _ _ _ zJ zQ zo zx zy zK=>Zp (m:=1) (news:=[.int .i64 (↑i:Int),.string ⟨(leB (↑(q+i):Int) 8++leB (↑(Yn (L.getD i [])):Int) 4++leB (↑(Xm (L.getD i [])):Int) 4).toArray⟩,.int .i64 0]) (.agg #[.int .i64 0,.string ⟨#[]⟩,.int .i64 0]) 3 32 (i+1) ((Xz L q (i+1)).flatMap Ko) zo Tryz.underlying67 (by kernel_rfl) rfl (by decide) zx hup'16 zy (n28.blk.sl 1 1 (by decide) (by decide)) rfl (by simp[Value.oneCell']) (by unfold maxLen;omega) (by omega) (Nat.le_trans hBx hB.size) (by rfl) (He L q i) fun px29 cx29 W29 o29 hg29 hb29=>?_
 refine zK _ _ (Zr (hb29.mono hBm) hg29 hup'16 (by decide)) ?_
 have kl'16:=kl'15.grown hg29 hup'16 (by decide)
 refine ys (.o [] 8) kl'16 [.slice px29 (i+1) cx29] (.t B [67,77]) fun W30 u30 k30=>⟨(Zi u30 kl'16 hBl (by decide)),?_⟩
 have hB'8:=u30.below (hB.trans (hb29.mono hBm)) hBl
 have hO:=(((((show Ze [67,77] w _ from(Ze.of_below n1.below)).trans (Ze.of_below (Za W1))).trans (Ze.of_below hb21)).trans (Ze.of_below n28.below)).trans (Ze.of_grown hg29 hup'16 (by decide))).trans (Ze.of_upd u30 kl'16 (by decide))
 have o29'1:=u30.own2 o29 kl'16 (by decide)
 have hZ'8:=(((((hZ.below n1.below).below (Za W1)).below hb21).below n28.below).grown hg29 hup'16).upd u30 (by simp)
 exact xe 1 (.tuple #[]) ⟨_,_,_,rfl,hB'8,hO,k30,o29'1,hZ'8.fr⟩
def LayPost(B ba b g nn cc:Nat)(pa:Option Addr)(ca f N k0:Nat)(bs:List UInt8)(bl:Nat)(L:List (List Int))(w:World)(e:Ending)(w':World):Prop :=
 ∃ p c,e=.returned .nilIface∧Below B w w'∧Ze [120,5,67,77] w w'∧Fr [ba,g,bl] w w'∧Al B ba b g nn cc pa ca f N (k0+L.length) (Jf L (f+k0) bs L.length) w'∧Blk w' bl [.slice p L.length c] 67∧w'.ownsRow w.heap.size 77 3 (.slice p L.length c) L.length ((Xz L (f+k0) L.length).flatMap Ko)
theorem plot_layD(B ba b g nn cc:Nat)(pa:Option Addr)(ca f N k0:Nat)(bs:List UInt8)(bl B2:Nat)(pl:Option Addr)(cl:Nat)(gs:List (Nat×Nat))(L:List (List Int))(w:World)(hC:AlC B ba nn cc ca f N)(hA:Al B ba b g nn cc pa ca f N k0 bs w)(hL:Lists w B2 (.slice pl L.length cl) gs L)(hS:∀ i,i<L.length→Hj (L.getD i [])∧(L.getD i []).length≤960)(hf1:1≤f)(hk:k0+L.length≤N)(kl:Blk w bl [.slice none 0 0] 67)(hBl:B≤bl)(hBw:B≤w.heap.size) :
 Calls Tryz.prog 51 #[.pointer (some ⟨ba,0,none⟩),.slice pl L.length cl,.func (.func 52) #[] #[.pointer (some ⟨bl,0,none⟩)]] w (LayPost B ba b g nn cc pa ca f N k0 bs bl L w):=by
 have hcf:=hC.hf
 have hcn:=hC.hn
 refine zin 51 Tryz.func51 ?_
 have hB:=Below.refl B w
 refine zl 14 51 (fun zm zkv V=>∃ (i:Nat) (p:Option Addr) (c:Nat),zkv=[(0,.pointer (some ⟨ba,0,none⟩)),(2,.func (.func 52) #[] #[.pointer (some ⟨bl,0,none⟩)]),(15,.slice pl L.length cl),(16,.int .i64 (↑L.length:Int)),(17,.int .i64 (↑i:Int))]∧zm=L.length-((↑i:Int)).toNat∧Below B w V∧Fr [ba,g,bl] w V∧Ze [120,5,67,77] w V∧Blk V bl ([.slice p i c]) 67∧Al B ba b g nn cc pa ca f N (k0+i) (Jf L (f+k0) bs i) V∧Lists V B2 (.slice pl L.length cl) gs L∧V.ownsRow w.heap.size 77 3 (.slice p i c) i ((Xz L (f+k0) i).flatMap Ko)∧i≤L.length) ⟨0,none,0,rfl,rfl,hB,(Fr.refl _ _),(Ze.refl _ _),kl,hA,hL,World.ownsRow_nil _ _ _ _,Nat.zero_le _⟩ ?_
 rintro _ _ W1 ⟨i,p,c,rfl,rfl,hB_1,hX_1,hO_1,k1_bl,hA,hL,hup,hi⟩ J1 hJ1 r1
 refine xid 6 ((↑i:Int)<(↑L.length:Int)) (fun hc2=>?_) (fun hc2=>?_)
 ·refine xx 6 _ L.length i 1 (Lists.elem hL rfl (k:=i) (by omega)).1 ?_
  refine xl 0 ((Lists.elem hL rfl (k:=i) (by omega)).2) ?_
  refine xc 6 (args:=#[.slice (some ⟨(gs.getD i (0,0)).1,0,none⟩) ((L.getD i []).length) ((gs.getD i (0,0)).2)]) (bits_Put _ _ (L.getD i []) _ (hS i (by omega)).1 (hS i (by omega)).2 (Zf (hL.each i (by omega)))) ?_
  rintro _ W3 ⟨_,rfl,hb3,g6,rfl,h6⟩
  have hA'1:=hA.below hb3
  have hO'1:=hO_1.trans (Ze.of_below hb3)
  have h6'1:=Zd h6 hB_1.size
  have hB'1:=blB hB_1 hBw hb3
  refine xc 21 (args:=#[.pointer (some ⟨ba,0,none⟩),.int .i64 3,.slice (some ⟨g6,0,none⟩) 244 244]) (Ie B ba b g nn cc pa ca f N (k0+i) (Jf L (f+k0) bs i) 3 (some ⟨g6,0,none⟩) 244 (Jb (L.getD i [])) (f+k0+i) 244 _ (Nat.add_assoc _ _ _).symm (Kk _ _) hC hA'1 (by omega) (by decide) (by decide) (fun W _ hO'1=>Qk (Zf (Zl h6'1 hO'1 (by decide))) (Kk _ _)) (by decide) (Nat.le_trans hBw hB'1.size)) ?_
  rintro _ W4 ⟨rfl,hb4,hO4,hX4,hA⟩
  have hL'1:=(hL.below hb3).only hO4 (by decide)
  refine xr 20 (args:=#[.slice (some ⟨(gs.getD i (0,0)).1,0,none⟩) ((L.getD i []).length) ((gs.getD i (0,0)).2)]) (Za8 _ _ (L.getD i []) _ (hS i (by omega)).2 (Zf (hL'1.each i (by omega)))) fun W5 hb5=>?_
  have hf9:Yn (L.getD i [])≤960:=Nat.le_trans (Fa _ _) (hS i (by omega)).2
  have hg9:Xm (L.getD i [])≤960:=Nat.le_trans (Zda _) (hS i (by omega)).2
  have hB'2:=blB (hB'1.trans hb4) hBw hb5
  have k1_bl'1:=((k1_bl.below hb3).only hO4 (by decide)).below hb5
  have hup'1:=Zb (Zl (Zb hup hb3) hO4 (by decide)) hb5
  refine xc 13 (args:=#[.agg #[.int .i64 (↑(f+k0+i):Int),.int .i64 (↑(Yn (L.getD i [])):Int),.int .i64 (↑(Xm (L.getD i [])):Int)],.pointer (some ⟨bl,0,none⟩)]) (plot_data1 B w.heap.size bl p c L (f+k0) i _ hBw hB'2.size (Nat.le_trans hBw hB'2.size) hBl k1_bl'1 hup'1 (by omega) (by omega) (by omega) hf9 hg9) ?_
  rintro _ W6 ⟨_,p9,c9,rfl,hb6,hO6,kln,hup,hX6⟩
  refine xwm 4 ((↑i:Int)+1) (↑(i+1):Int) ?_
  have hA'2:=(hA.below hb5).only hO6 (by decide)
  have hL'2:=(hL'1.below hb5).only hO6 (by decide)
  have hB'3:=hB'2.trans hb6
  have hX'1:=(Fr.trans_B (((hX_1.trans (Fr.of_below hb3)).trans (hX4.mono (by simp))).trans (Fr.of_below hb5)) hX6 (by simp))
  have hO'2:=((hO'1.trans (hO4.wide)).trans (Ze.of_below hb5)).trans (hO6.wide)
  exact ze 2 (hJ1 _ _ _ ⟨i+1,_,_,rfl,rfl,hB'3,hX'1,hO'2,kln,hA'2,hL'2,hup,by omega⟩ (by omega))
 refine xe 11 .nilIface ?_
 obtain rfl:i=L.length:=by omega
 exact⟨_,_,rfl,hB_1,hO_1,hX_1,hA,k1_bl,hup⟩
def LevelPost(B ba b g nn cc:Nat)(pa:Option Addr)(ca f N k0:Nat)(bs:List UInt8)(t:Int)(leaf:Bool)(m v:Nat)(l:List Ent)(w:World)(e:Ending)(w':World):Prop :=
 ∃ p c,e=.returned (.tuple #[.slice p (ovN l.length m) c,.nilIface])∧Below B w w'∧Ze [120,5] w w'∧Fr [ba,g] w w'∧Al B ba b g nn cc pa ca f N (k0+ovN l.length m) (Pu t leaf m v l (f+k0) bs (ovN l.length m)) w'∧w'.ownsRow w.heap.size 77 3 (.slice p (ovN l.length m) c) (ovN l.length m) ((upE l m (f+k0) (ovN l.length m)).flatMap Ko)
theorem Zfd(B ba b g nn cc:Nat)(pa:Option Addr)(ca f N k0:Nat)(bs:List UInt8)(t:Int)(leaf:Bool)(m v:Nat)(a:Option Addr)(c:Nat)(l:List Ent)(w:World)(hC:AlC B ba nn cc ca f N)(hA:Al B ba b g nn cc pa ca f N k0 bs w)(ht1:1≤t)(ht2:t≤5)(hm:Ki t leaf=m)(hv:Uk t leaf=v)(E:EntsOk v l)(hl:leaf=false→1≤l.length)(hn:l.length≤32768)(hf1:1≤f)(hk:k0+ovN l.length m≤N)(hin:∀ W,Below B w W→Ze [120,5] w W→Sts Ko W (.slice a l.length c) l)(hBw:B≤w.heap.size) :
 Calls Tryz.prog 90 #[.pointer (some ⟨ba,0,none⟩),.int .i64 t,.bool leaf,.slice a l.length c] w (LevelPost B ba b g nn cc pa ca f N k0 bs t leaf m v l w):=by
 have hmb:=Qg t leaf
 rw[hm] at hmb
 have hcf:=hC.hf
 have hcn:=hC.hn
 refine zin 96 Tryz.func90 ?_
 refine xr 18 (args:=#[.int .i64 t,.bool leaf]) (Fo t leaf m hm ht1 ht2 _) fun W1 hb1=>?_
 refine xc 0 (args:=#[.int .i64 (↑l.length:Int),.int .i64 (↑m:Int)]) (tall_Sizes l.length m _ hn (by omega) (by omega)) ?_
 rintro _ W2 ⟨_,rfl,hb2,ps,cs,rfl,hsz⟩
 have hs2:=(blB (Below.refl B w) hBw hb1).size
 have hsz'1:=Zd hsz hs2
 have hA'1:=(hA.below hb1).below hb2
 have hB:=blB (blB (Below.refl B w) hBw hb1) hBw hb2
 have hX:=(show Fr [ba,g] w _ from(Fr.of_below hb1)).trans (Fr.of_below hb2)
 have hO:=(show Ze [120,5] w _ from(Ze.of_below hb1)).trans (Ze.of_below hb2)
 refine zl 5 96 (fun zm zkv V=>∃ (i:Nat) (a2:Option Addr) (c2:Nat) (l2:List Ent) (p4:Option Addr) (c4:Nat),zkv=[(0,.pointer (some ⟨ba,0,none⟩)),(1,.int .i64 t),(2,.bool leaf),(3,.slice a2 l2.length c2),(10,.slice p4 i c4),(26,.slice ps (ovN l.length m) cs),(27,.int .i64 (↑(ovN l.length m):Int)),(28,.int .i64 (↑i:Int))]∧zm=ovN l.length m-((↑i:Int)).toNat∧Below B w V∧Fr [ba,g] w V∧Ze [120,5] w V∧V.ownsRow w.heap.size 3 1 (.slice ps (ovN l.length m) cs) (ovN l.length m) ((sizL l.length m).map nv)∧V.ownsRow w.heap.size 77 3 (.slice p4 i c4) i ((upE l m (f+k0) i).flatMap Ko)∧Al B ba b g nn cc pa ca f N (k0+i) (Pu t leaf m v l (f+k0) bs i) V∧(∀ W,Below B w W→Ze [120,5] w W→Sts Ko W (.slice a2 l2.length c2) l2)∧i≤ovN l.length m∧l2=l.drop (i*m)) ⟨0,a,c,l,none,0,rfl,rfl,hB,hX,hO,hsz'1,World.ownsRow_nil _ _ _ _,hA'1,?_,Nat.zero_le _,by simp⟩ ?_
 ·exact hin
 rintro _ _ W3 ⟨i,a2,c2,l2,p4,c4,rfl,rfl,hB_3,hX_3,hO_3,hsz,hup,hA,hen,hi,hl2⟩ J3 hJ3 r3
 have hcap:=Sl.cap (hen _ hB_3 hO_3)
 have hsl:i<ovN l.length m→i*m≤l.length:=Zbb (by omega)
 have hl2n:l2.length=l.length-i*m:=by rw[hl2];simp
 have hszn:Qc l.length m i≤l2.length:=by rw[hl2n];unfold Qc;omega
 refine xid 6 ((↑i:Int)<(↑(ovN l.length m):Int)) (fun hc4=>?_) (fun hc4=>?_)
 ·refine xx 6 _ (ovN l.length m) i 1 (Zf2 (Zf hsz) (k:=i) (by omega)).1 ?_
  refine xl 0 ((Zf2 (Zf hsz) (k:=i) (by omega)).2) ?_
  have hF5:=hB_3
  have hOhF5:=hO_3
  have hXhF5:=hX_3
  refine xa 8 [.int .i64 0,.bool false,.slice none 0 0,.slice none 0 0] 188 fun b6 W6 n6=>?_
  refine xsv 0 n6.blk [.int .i64 t,.bool leaf,.slice none 0 0,.slice none 0 0] fun W7 u7 k7=>?_
  have g6:=n6.ge (Below.refl W3.heap.size _)
  refine xsH 7 (fun _ _ _ _ zo zx zy V=>Yz (k:=(Qc l.length m i)) (b:=a2) (n:=l2.length) (c:=c2) (i:=(↑(Qc l.length m i):Int)) (ki:=.i64) zo zx zy rfl (by omega) Tryz.underlying67 (by kernel_rfl) V) ?_
  have hB:=u7.below n6.below g6
  refine zl 5 96 (fun zm zkv V=>∃ (j:Nat) (kp:Option Addr) (kc:Nat) (vp:Option Addr) (vc:Nat),zkv=[(0,.pointer (some ⟨ba,0,none⟩)),(1,.int .i64 t),(2,.bool leaf),(3,.slice a2 l2.length c2),(10,.slice p4 i c4),(12,.int .i64 (↑(Qc l.length m i):Int)),(13,.pointer (some ⟨b6,0,none⟩)),(26,.slice ps (ovN l.length m) cs),(27,.int .i64 (↑(ovN l.length m):Int)),(28,.int .i64 (↑i:Int)),(37,.slice a2 (Qc l.length m i) c2),(38,.int .i64 (↑(Qc l.length m i):Int)),(39,.int .i64 (↑j:Int))]∧zm=Qc l.length m i-((↑j:Int)).toNat∧Below W3.heap.size W3 V∧Blk V b6 ([.int .i64 t,.bool leaf,.slice kp j kc,.slice vp j vc]) 188∧V.ownsRow W3.heap.size 3 1 (.slice kp j kc) j (((Qz l2).take j).map (Value.int .i64))∧V.ownsRow W3.heap.size 9 1 (.slice vp j vc) j (((Je l2).take j).map sv)∧j≤Qc l.length m i) ⟨0,none,0,none,0,rfl,rfl,hB,k7,World.ownsRow_nil _ _ _ _,World.ownsRow_nil _ _ _ _,Nat.zero_le _⟩ ?_
  rintro _ _ W8 ⟨j,kp,kc,vp,vc,rfl,rfl,hB_8,k8_b6,hK,hV,hj⟩ J8 hJ8 r8
  refine xid 6 ((↑j:Int)<(↑(Qc l.length m i):Int)) (fun hc9=>?_) (fun hc9=>?_)
  ·have hen_hF5:=hen _ hF5 hOhF5
   refine xx 6 _ (Qc l.length m i) j 3 (Sts.cell hen_hF5 Yb Xp (k:=j) (i:=0) (by omega) rfl).1 ?_
   refine xlv 0 (Sts.rp (k:=j) (hen_hF5.below hB_8) Yb Xp (by omega) (by decide)) ?_
   refine xa 0 [.int .i64 0,.string ⟨#[]⟩,.int .i64 0] 77 fun b10 W10 n10=>?_
   have g10:=n10.ge hB_8
   refine xsv 0 n10.blk [.int .i64 ((l2.getD j Xp).1),.string ⟨((l2.getD j Xp).2.1).toArray⟩,.int .i64 ((l2.getD j Xp).2.2)] fun W11 u11 k11=>?_
   have k8_b6'1:=u11.blkT (k8_b6.below n10.below) n10.blk (by decide)
   refine xb 5 2 k8_b6'1 ?_
   refine xb 1 0 k11 ?_
   refine xbs 0 1 [.int .i64 ((l2.getD j Xp).1)] 3 fun b12 W12 n12=>?_
   have hB'1:=u11.below (bln hB_8 n10.below) g10
   have g12:=n12.ge hB'1
   have hK'1:=u11.own2 (Zb hK n10.below) n10.blk (by decide)
   have r12_hK:=Zu hK'1 n12
   have hK'2:=Zb hK'1 n12.below
   have hB'2:=bln hB'1 n12.below
   refine xbi 0 fun _ _ _ _ zJ zQ zo zx zy zK=>Zp (m:=1) (news:=[.int .i64 ((l2.getD j Xp).1)]) (.int .i64 0) 1 8 (j+1) (((Qz l2).take (j+1)).map (Value.int .i64)) zo Tryz.underlying30 (by kernel_rfl) rfl (by decide) zx hK'2 zy (n12.blk.sl 1 1 (by decide) (by decide)) rfl (by simp[Value.oneCell']) (by unfold maxLen;omega) (by omega) hB'2.size (by rfl) ((keys_take (by omega)).symm) fun px13 cx13 W13 o13 hg13 hb13=>?_
   refine zK _ _ ?_
   have k8_b6'2:=(k8_b6'1.below n12.below).grown hg13 hK'2 (by decide)
   refine xs 1 k8_b6'2 [.int .i64 t,.bool leaf,.slice px13 (j+1) cx13,.slice vp j vc] fun W14 u14 k14=>?_
   refine xb 4 3 k14 ?_
   have k11'1:=u14.blkT ((k11.below n12.below).grown hg13 hK'2 (by decide)) k8_b6'2 (by decide)
   refine xb 1 1 k11'1 ?_
   refine xbs 0 1 [.string ⟨((l2.getD j Xp).2.1).toArray⟩] 9 fun b15 W15 n15=>?_
   have hB'3:=u14.below (hB'2.trans hb13) g6
   have g15:=n15.ge hB'3
   have hV'1:=u14.own2 (Zg (Zb (u11.own2 (Zb hV n10.below) n10.blk (by decide)) n12.below) hg13 hK'2 (by decide)) k8_b6'2 (by decide)
   have r15_hV:=Zu hV'1 n15
   have hV'2:=Zb hV'1 n15.below
   have hB'4:=bln hB'3 n15.below
   refine xbi 0 fun _ _ _ _ zJ zQ zo zx zy zK=>Zp (m:=1) (news:=[.string ⟨((l2.getD j Xp).2.1).toArray⟩]) (.string ⟨#[]⟩) 1 16 (j+1) (((Je l2).take (j+1)).map sv) zo Tryz.underlying57 (by kernel_rfl) rfl (by decide) zx hV'2 zy (n15.blk.sl 1 1 (by decide) (by decide)) rfl (by simp[Value.oneCell']) (by unfold maxLen;omega) (by omega) hB'4.size (by rfl) ((vals_take (by omega)).symm) fun px16 cx16 W16 o16 hg16 hb16=>?_
   refine zK _ _ ?_
   have k14'1:=(k14.below n15.below).grown hg16 hV'2 (by decide)
   refine xs 1 k14'1 [.int .i64 t,.bool leaf,.slice px13 (j+1) cx13,.slice px16 (j+1) cx16] fun W17 u17 k17=>?_
   refine xwm 4 ((↑j:Int)+1) (↑(j+1):Int) ?_
   have hB'5:=u17.below (hB'4.trans hb16) g6
   have o13'1:=u17.own2 (Zg (Zb (u14.own2 o13 k8_b6'2 (by decide)) n15.below) hg16 hV'2 (by decide)) k14'1 (by decide)
   have o16'1:=u17.own2 o16 k14'1 (by decide)
   exact ze 2 (hJ8 _ _ _ ⟨j+1,_,_,_,_,rfl,rfl,hB'5,k17,o13'1,o16'1,by omega⟩ (by omega))
  refine xsL 9 (fun _ _ _ _ zo zx zy V=>Yg (k:=(Qc l.length m i)) (b:=a2) (n:=l2.length) (c:=c2) (i:=(↑(Qc l.length m i):Int)) (ki:=.i64) 3 zo zx zy rfl (by omega) Tryz.underlying67 (by kernel_rfl) V) ?_
  refine xlv 5 k8_b6.rp ?_
  have hT18:Below W3.heap.size W3 W8:=hB_8
  have hs18:w.heap.size≤W3.heap.size:=hF5.size
  have hjs:Qc l.length m i=j:=by omega
  have hck:(Qz l2).take j=Qz (Xe l m i):=by rw[hl2];exact keys_chunk hjs
  have hcv:(Je l2).take j=Je (Xe l m i):=by rw[hl2];exact vals_chunk hjs
  have hcl:(Xe l m i).length=j:=by rw[Jw,hjs]
  have hK'3:=Zd hK hs18
  rw[hck] at hK'3
  have hV'3:=Zd hV hs18
  rw[hcv] at hV'3
  have hN:=Px E ht1 ht2 hm hv hl (show i<ovN l.length m by omega)
  have hlen:=Eo hN
  rw[hcl] at hN
  have hnd:Gq m v (Jg t leaf j m v) (Qz (Xe l m i)) (Je (Xe l m i)) j=nodB t leaf m v (Xe l m i):=by rw[←hcl];rfl
  refine xc 0 (args:=#[.agg #[.int .i64 t,.bool leaf,.slice kp j kc,.slice vp j vc]]) (node_Put t leaf j m v (Qz (Xe l m i)) (Je (Xe l m i)) kp vp kc vc _ hN (Zf hK'3) (Zf hV'3)) ?_
  rintro _ W19 ⟨_,rfl,hb19,p6,c6,rfl,h6⟩
  have hs19:=(blB hF5 hBw hT18).size
  have h6'1:=Zd h6 hs19
  rw[hnd] at h6'1
  have hA'2:=(hA.below hT18).below hb19
  have hO:=(hOhF5.trans (Ze.of_below hT18)).trans (Ze.of_below hb19)
  have hB:=blB (blB hF5 hBw hT18) hBw hb19
  refine xc 21 (args:=#[.pointer (some ⟨ba,0,none⟩),.int .i64 2,.slice p6 244 c6]) (Ie B ba b g nn cc pa ca f N (k0+i) (Pu t leaf m v l (f+k0) bs i) 2 p6 c6 (nodB t leaf m v (Xe l m i)) (f+k0+i) 244 _ (Nat.add_assoc _ _ _).symm hlen hC hA'2 (by omega) (by decide) (by decide) (fun W _ hO=>Qk (Zf (Zl h6'1 hO (by decide))) hlen) (by decide) (Nat.le_trans hBw hB.size)) ?_
  rintro _ W20 ⟨rfl,hb20,hO20,hX20,hA⟩
  refine xr 20 (args:=#[.int .i64 (↑(f+k0+i):Int)]) (value_Root ((f+k0+i:Nat):Int) (by omega) (by omega) _) fun W21 hb21=>?_
  refine xa 2 [.int .i64 0,.string ⟨#[]⟩,.int .i64 0] 77 fun b22 W22 n22=>?_
  have hB'6:=blB (hB.trans hb20) hBw hb21
  have g22:=n22.ge0 hB'6
  have hup'1:=Zb (Zl (Zb (Zb hup hT18) hb19) hO20 (by decide)) hb21
  have r22_hup:=Zu hup'1 n22
  refine xsv 0 n22.blk [.int .i64 0,.string ⟨(leB (↑(f+k0+i):Int) 4).toArray⟩,.int .i64 (↑(f+k0+i):Int)] fun W23 u23 k23=>?_
  refine xid 9 ((↑(Qc l.length m i):Int)>(0:Int)) (fun hc24=>?_) (fun hc24=>?_)
  ·have hkey:((Qz (Xe l m i))).getD 0 0=((Xe l m i).getD 0 Xp).1:=chunk_key hjs (by omega)
   have k8_b6'3:=u23.blkT ((((k8_b6.below hb19).only hO20 (by decide)).below hb21).below n22.below) n22.blk (by decide)
   refine xb 2 2 k8_b6'3 ?_
   have hK'4:=u23.own2 (Zb (Zb (Zl (Zb hK'3 hb19) hO20 (by decide)) hb21) n22.below) n22.blk (by decide)
   refine xx 0 _ j 0 1 (IntsN.elem (Zf hK'4) (by rw[Pl,hcl]) (k:=0) (by omega)).1 ?_
   refine xl 0 ((IntsN.elem (Zf hK'4) (by rw[Pl,hcl]) (k:=0) (by omega)).2) ?_
   refine xs 1 k23 [.int .i64 ((Qz (Xe l m i)).getD 0 0),.string ⟨(leB (↑(f+k0+i):Int) 4).toArray⟩,.int .i64 (↑(f+k0+i):Int)] fun W25 u25 k25=>?_
   refine xlv 4 k25.rp ?_
   refine xbs 0 1 [.int .i64 ((Qz (Xe l m i)).getD 0 0),.string ⟨(leB (↑(f+k0+i):Int) 4).toArray⟩,.int .i64 (↑(f+k0+i):Int)] 77 fun b26 W26 n26=>?_
   have d26_b22:=n26.ne k25
   have hB'7:=u25.below (u23.below (blB hB'6 hBw n22.below) (Nat.le_trans hBw g22)) (Nat.le_trans hBw g22)
   have g26:=n26.ge0 hB'7
   have hup'2:=u25.own3 (u23.own3 (Zb hup'1 n22.below) r22_hup) r22_hup
   have r26_hup:=Zu hup'2 n26
   have hup'3:=Zb hup'2 n26.below
   have hB'8:=blB hB'7 hBw n26.below
   refine xbi 0 fun _ _ _ _ zJ zQ zo zx zy zK=>Zp (m:=1) (news:=[.int .i64 ((Qz (Xe l m i)).getD 0 0),.string ⟨(leB (↑(f+k0+i):Int) 4).toArray⟩,.int .i64 (↑(f+k0+i):Int)]) (.agg #[.int .i64 0,.string ⟨#[]⟩,.int .i64 0]) 3 32 (i+1) ((upE l m (f+k0) (i+1)).flatMap Ko) zo Tryz.underlying67 (by kernel_rfl) rfl (by decide) zx hup'3 zy (n26.blk.sl 1 1 (by decide) (by decide)) rfl (by simp[Value.oneCell']) (by unfold maxLen;omega) (by omega) hB'8.size (by rfl) (up_row (by first|exact hkey|exact hkey0)) fun px27 cx27 W27 o27 hg27 hb27=>?_
   refine zK _ _ ?_
   refine xwm 5 ((↑i:Int)+1) (↑(i+1):Int) ?_
   refine xv1 2 3 (show(.slice (Qm a2 (Qc l.length m i) c2 3) (l2.length-(Qc l.length m i)) (c2-(Qc l.length m i)):Value)=.slice (Qm a2 (Qc l.length m i) c2 3) ((l2.drop (Qc l.length m i)).length) (c2-Qc l.length m i) from by rw[List.length_drop]) ?_
   have hA'3:=(((((hA.below hb21).below n22.below).only (Ze.of_upd (T:=[77]) u23 n22.blk (by decide)) (by decide)).only (Ze.of_upd (T:=[77]) u25 k23 (by decide)) (by decide)).below n26.below).only (Ze.of_grown (T:=[77]) hg27 hup'3 (by decide)) (by decide)
   have hl2s:l2.drop (Qc l.length m i)=l.drop ((i+1)*m):=by
    rw[hl2,List.drop_drop,Nat.add_mul,Nat.one_mul]
    unfold Qc
    rcases Nat.le_total m (l.length-i*m) with q|q
    ·rw[Nat.min_eq_left q]
    ·rw[Nat.min_eq_right q,List.drop_eq_nil_of_le (by omega),List.drop_eq_nil_of_le (by omega)]
   have hB'9:=hB'8.trans (hb27.mono hBw)
   have hX:=(Fr.grown_new ((Fr.upd_new (Fr.upd_new (((((hXhF5.trans (Fr.of_below hT18)).trans (Fr.of_below hb19)).trans (hX20.mono (by simp))).trans (Fr.of_below hb21)).trans (Fr.of_below n22.below)) u23 g22) u25 g22).trans (Fr.of_below n26.below)) hg27 hup'3)
   have hO'1:=(Ze.grown_new ((Ze.upd_new (Ze.upd_new (((hO.trans hO20).trans (Ze.of_below hb21)).trans (Ze.of_below n22.below)) u23 g22) u25 g22).trans (Ze.of_below n26.below)) hg27 hup'3)
   have hsz'2:=Zg (Zb (u25.own2 (u23.own2 (Zb (Zb (Zl (Zb (Zb hsz hT18) hb19) hO20 (by decide)) hb21) n22.below) n22.blk (by decide)) k23 (by decide)) n26.below) hg27 hup'3 (by decide)
   exact ze 0 (hJ3 _ _ _ ⟨i+1,_,_,(l2.drop (Qc l.length m i)),_,_,rfl,rfl,hB'9,hX,hO'1,hsz'2,o27,hA'3,fun W h1 h2=>Sts.cut Yb (hen W h1 h2) _ hszn,by omega,hl2s⟩ (by omega))
  have hkey0:(0:Int)=((Xe l m i).getD 0 Xp).1:=Zdv hjs (by omega)
  refine xlv 4 k23.rp ?_
  refine xbs 0 1 [.int .i64 0,.string ⟨(leB (↑(f+k0+i):Int) 4).toArray⟩,.int .i64 (↑(f+k0+i):Int)] 77 fun b28 W28 n28=>?_
  have d28_b22:=n28.ne k23
  have hB'10:=u23.below (blB hB'6 hBw n22.below) (Nat.le_trans hBw g22)
  have g28:=n28.ge0 hB'10
  have hup'4:=u23.own3 (Zb hup'1 n22.below) r22_hup
  have r28_hup:=Zu hup'4 n28
  have hup'5:=Zb hup'4 n28.below
  have hB'11:=blB hB'10 hBw n28.below
  refine xbi 0 fun _ _ _ _ zJ zQ zo zx zy zK=>Zp (m:=1) (news:=[.int .i64 0,.string ⟨(leB (↑(f+k0+i):Int) 4).toArray⟩,.int .i64 (↑(f+k0+i):Int)]) (.agg #[.int .i64 0,.string ⟨#[]⟩,.int .i64 0]) 3 32 (i+1) ((upE l m (f+k0) (i+1)).flatMap Ko) zo Tryz.underlying67 (by kernel_rfl) rfl (by decide) zx hup'5 zy (n28.blk.sl 1 1 (by decide) (by decide)) rfl (by simp[Value.oneCell']) (by unfold maxLen;omega) (by omega) hB'11.size (by rfl) (up_row (by first|exact hkey|exact hkey0)) fun px29 cx29 W29 o29 hg29 hb29=>?_
  refine zK _ _ ?_
  refine xwm 5 ((↑i:Int)+1) (↑(i+1):Int) ?_
  refine xv1 2 3 (show(.slice (Qm a2 (Qc l.length m i) c2 3) (l2.length-(Qc l.length m i)) (c2-(Qc l.length m i)):Value)=.slice (Qm a2 (Qc l.length m i) c2 3) ((l2.drop (Qc l.length m i)).length) (c2-Qc l.length m i) from by rw[List.length_drop]) ?_
  have hA'4:=((((hA.below hb21).below n22.below).only (Ze.of_upd (T:=[77]) u23 n22.blk (by decide)) (by decide)).below n28.below).only (Ze.of_grown (T:=[77]) hg29 hup'5 (by decide)) (by decide)
  have hl2s:l2.drop (Qc l.length m i)=l.drop ((i+1)*m):=by
   rw[hl2,List.drop_drop,Nat.add_mul,Nat.one_mul]
   unfold Qc
   rcases Nat.le_total m (l.length-i*m) with q|q
   ·rw[Nat.min_eq_left q]
   ·rw[Nat.min_eq_right q,List.drop_eq_nil_of_le (by omega),List.drop_eq_nil_of_le (by omega)]
  have hB'12:=hB'11.trans (hb29.mono hBw)
  have hX:=(Fr.grown_new ((Fr.upd_new (((((hXhF5.trans (Fr.of_below hT18)).trans (Fr.of_below hb19)).trans (hX20.mono (by simp))).trans (Fr.of_below hb21)).trans (Fr.of_below n22.below)) u23 g22).trans (Fr.of_below n28.below)) hg29 hup'5)
  have hO'2:=(Ze.grown_new ((Ze.upd_new (((hO.trans hO20).trans (Ze.of_below hb21)).trans (Ze.of_below n22.below)) u23 g22).trans (Ze.of_below n28.below)) hg29 hup'5)
  have hsz'3:=Zg (Zb (u23.own2 (Zb (Zb (Zl (Zb (Zb hsz hT18) hb19) hO20 (by decide)) hb21) n22.below) n22.blk (by decide)) n28.below) hg29 hup'5 (by decide)
  exact ze 0 (hJ3 _ _ _ ⟨i+1,_,_,(l2.drop (Qc l.length m i)),_,_,rfl,rfl,hB'12,hX,hO'2,hsz'3,o29,hA'4,fun W h1 h2=>Sts.cut Yb (hen W h1 h2) _ hszn,by omega,hl2s⟩ (by omega))
 refine xe 13 (.tuple #[.slice p4 i c4,.nilIface]) ?_
 obtain rfl:i=ovN l.length m:=by omega
 exact⟨_,_,rfl,hB_3,hO_3,hX_3,hA,hup⟩
theorem only_a3{w w':World}(h:Ze [120,5] w w'):Ze [120,5,39] w w':=h.mono fun t ht=>by simp at ht ⊢;exact⟨ht.1,ht.2.1⟩
def Tree1Post(B ba b g nn cc:Nat)(pa:Option Addr)(ca f N k0:Nat)(bs:List UInt8)(t:Int)(leaf:Bool)(m v:Nat)(l:List Ent)(b8:Nat)(w:World)(e:Ending)(w':World):Prop :=
 ∃ p c,e=.returned (.slice p (ovN l.length m) c)∧Below B w w'∧Ze [120,5,39] w w'∧Fr [ba,g,b8] w w'∧Blk w' b8 [.nilIface] 39∧Al B ba b g nn cc pa ca f N (k0+ovN l.length m) (Pu t leaf m v l (f+k0) bs (ovN l.length m)) w'∧w'.ownsRow w.heap.size 77 3 (.slice p (ovN l.length m) c) (ovN l.length m) ((upE l m (f+k0) (ovN l.length m)).flatMap Ko)
theorem Sn(B ba b g nn cc:Nat)(pa:Option Addr)(ca f N k0:Nat)(bs:List UInt8)(t:Int)(leaf:Bool)(m v:Nat)(a:Option Addr)(c:Nat)(l:List Ent)(b3 b4 b8:Nat)(w:World)(k3:Blk w b3 [.pointer (some ⟨ba,0,none⟩)] 62)(k4:Blk w b4 [.int .i64 t] 3)(k8:Blk w b8 [.nilIface] 39)(h38:b3≠b8)(h48:b4≠b8)(hB8:B≤b8)(hC:AlC B ba nn cc ca f N)(hA:Al B ba b g nn cc pa ca f N k0 bs w)(ht1:1≤t)(ht2:t≤5)(hm:Ki t leaf=m)(hv:Uk t leaf=v)(E:EntsOk v l)(hl:leaf=false→1≤l.length)(hn:l.length≤32768)(hf1:1≤f)(hk:k0+ovN l.length m≤N)(hin:∀ W,Below B w W→Ze [120,5,39] w W→Sts Ko W (.slice a l.length c) l)(hBw:B≤w.heap.size) :
 Calls Tryz.prog 89 #[.bool leaf,.slice a l.length c,.pointer (some ⟨b3,0,none⟩),.pointer (some ⟨b4,0,none⟩),.pointer (some ⟨b8,0,none⟩)] w (Tree1Post B ba b g nn cc pa ca f N k0 bs t leaf m v l b8 w):=by
 refine zin 20 Tryz.func89 ?_
 refine xb 7 0 k3 ?_
 refine xb 0 0 k4 ?_
 refine xc 2 (args:=#[.pointer (some ⟨ba,0,none⟩),.int .i64 t,.bool leaf,.slice a l.length c]) (Zfd B ba b g nn cc pa ca f N k0 bs t leaf m v a c l _ hC hA ht1 ht2 hm hv E hl hn hf1 hk (fun W h1 h2=>hin W ((Below.refl B _).trans h1) ((Ze.refl _ _).trans (only_a3 h2))) (Nat.le_trans hBw (Below.refl B _).size)) ?_
 rintro _ W1 ⟨p4,c4,rfl,hb1,hO1,hX1,hA,hup⟩
 have hs1:=Nat.le_refl w.heap.size
 have k8'1:=k8.only hO1 (by decide)
 refine xs 10 k8'1 [.nilIface] fun W2 u2 k2=>?_
 have hB:=u2.below hb1 hB8
 have hO:=(show Ze [120,5,39] w _ from(only_a3 hO1)).trans (Ze.of_upd u2 k8'1 (by decide))
 have hX:=(show Fr [ba,g,b8] w _ from(hX1.mono (by simp))).trans (Fr.of_upd u2 (by simp))
 have hA'1:=hA.only (Ze.of_upd (T:=[39]) u2 k8'1 (by decide)) (by decide)
 have hup'1:=u2.own2 (Zd hup hs1) k8'1 (by decide)
 exact xe 9 (.slice p4 (ovN l.length m) c4) ⟨_,_,rfl,hB,hO,hX,k2,hA'1,hup'1⟩
def Zft(B ba b g nn cc:Nat)(pa:Option Addr)(ca f N k0:Nat)(bs:List UInt8)(t:Int)(l:List Ent)(w:World)(e:Ending)(w':World):Prop :=
 e=.returned (.tuple #[.int .i64 (Yu t l (f+k0) bs).1,.nilIface])∧Below B w w'∧Ze [120,5,39] w w'∧Fr [ba,g] w w'∧Al B ba b g nn cc pa ca f N (k0+Qt t l.length) (Yu t l (f+k0) bs).2 w'
theorem build_Tree(B ba b g nn cc:Nat)(pa:Option Addr)(ca f N k0:Nat)(bs:List UInt8)(t:Int)(a:Option Addr)(c:Nat)(l:List Ent)(w:World)(hC:AlC B ba nn cc ca f N)(hA:Al B ba b g nn cc pa ca f N k0 bs w)(ht1:1≤t)(ht2:t≤5)(E:EntsOk (Uk t true) l)(hn:l.length≤32768)(hf1:1≤f)(hkN:k0≤N)(hk:k0+Qt t l.length≤N)(hin:∀ W,Below B w W→Ze [120,5,39] w W→Sts Ko W (.slice a l.length c) l)(hBw:B≤w.heap.size) :
 Calls Tryz.prog 54 #[.pointer (some ⟨ba,0,none⟩),.int .i64 t,.slice a l.length c] w (Zft B ba b g nn cc pa ca f N k0 bs t l w):=by
 have hnp:=Zfy t l.length
 have hog:(ovN l.length (Ki t true))≤Qt t l.length:=Jm _
 have hov:=Zck l.length (Ki t true) (Qg t true).1
 have hop:=Qd l.length (Ki t true)
 have hcf:=hC.hf
 have hcn:=hC.hn
 refine zin 52 Tryz.func54 ?_
 refine xa 2 [.pointer (some ⟨ba,0,none⟩)] 62 fun b1 W1 n1=>?_
 refine xa 0 [.int .i64 t] 3 fun b2 W2 n2=>?_
 have k1:=n1.blk.below n2.below
 refine xb 8 0 k1 ?_
 have hA'1:=(hA.below n1.below).below n2.below
 refine xr 0 (args:=#[.pointer (some ⟨ba,0,none⟩)]) (Ml ba b _ _ _ hA'1.blkA) fun W3 hb3=>?_
 have k2:=n2.blk.below hb3
 refine xb 7 0 k2 ?_
 have hB:=blB (blB (blB (Below.refl B w) hBw n1.below) hBw n2.below) hBw hb3
 have hO:=((show Ze [120,5,39] w _ from(Ze.of_below n1.below)).trans (Ze.of_below n2.below)).trans (Ze.of_below hb3)
 refine xr 1 (args:=#[.int .i64 t,.slice a l.length c]) (Zfc t (Uk t true) a c l _ ht1 ht2 rfl E (hin _ hB hO) hn) fun W4 hb4=>?_
 refine xd 6 .z ?_
 have k1'1:=((k1.below hb3).below hb4).below (Za W4)
 refine xb (.e [] 0) 0 k1'1 ?_
 have k2'1:=(k2.below hb4).below (Za W4)
 refine xb (.e [] 2) 0 k2'1 ?_
 have hA'2:=((hA'1.below hb3).below hb4).below (Za W4)
 refine xr (.o [3,4] 1) (args:=#[.pointer (some ⟨ba,0,none⟩)]) (Iy ba b pa N ca k0 _ hA'2.blkA hkN) fun W5 hb5=>?_
 refine xr (.o [] 5) (args:=#[.int .i64 t,.int .i64 (↑l.length:Int)]) (Pw t l.length _ ht1 ht2 hn) fun W6 hb6=>?_
 refine xk (.r [6,7] 2) (show(decide ((↑(N-k0):Int)<(↑(Qt t l.length):Int)):Bool)=false from decide_eq_false (by omega)) ?_
 refine xa 5 [.nilIface] 39 fun b7 W7 n7=>?_
 have hB'1:=blB (blB (blB (blB hB hBw hb4) hBw (Za W4)) hBw hb5) hBw hb6
 have g7:=n7.ge0 hB'1
 have k1'2:=((k1'1.below hb5).below hb6).below n7.below
 have k2'2:=((k2'1.below hb5).below hb6).below n7.below
 have hA'3:=((hA'2.below hb5).below hb6).below n7.below
 have hB'2:=blB hB'1 hBw n7.below
 have hO'1:=((((hO.trans (Ze.of_below hb4)).trans (Ze.of_below (Za W4))).trans (Ze.of_below hb5)).trans (Ze.of_below hb6)).trans (Ze.of_below n7.below)
 refine xc 12 (args:=#[.bool true,.slice a l.length c,.pointer (some ⟨b1,0,none⟩),.pointer (some ⟨b2,0,none⟩),.pointer (some ⟨b7,0,none⟩)]) (Sn B ba b g nn cc pa ca f N k0 bs t true (Ki t true) (Uk t true) a c l b1 b2 b7 _ k1'2 k2'2 n7.blk (Blk.tne k1'2 n7.blk (by decide)) (Blk.tne k2'2 n7.blk (by decide)) (Nat.le_trans hBw g7) hC hA'3 ht1 ht2 rfl rfl E (by simp) hn hf1 (by omega) (fun W h1 h2=>hin W (hB'2.trans h1) (hO'1.trans h2)) (Nat.le_trans hBw hB'2.size)) ?_
 rintro _ W8 ⟨p41,c41,rfl,hb8,hO8,hX8,k8n,hA,hup⟩
 have hs8:=(blB hB'1 hBw n7.below).size
 refine xv1 5 10 (show(.slice p41 (ovN l.length (Ki t true)) c41:Value)=.slice p41 ((upE l (Ki t true) (f+k0) (ovN l.length (Ki t true))).length) c41 from by rw[Ya]) ?_
 have hup'1:=Zd hup hs8
 have hB'3:=hB'2.trans hb8
 have hX:=(Fr.trans_new ((((((((show Fr [ba,g] w _ from(Fr.of_below n1.below)).trans (Fr.of_below n2.below)).trans (Fr.of_below hb3)).trans (Fr.of_below hb4)).trans (Fr.of_below (Za W4))).trans (Fr.of_below hb5)).trans (Fr.of_below hb6)).trans (Fr.of_below n7.below)) hX8 g7)
 have hO'2:=hO'1.trans hO8
 have k1'3:=k1'2.only hO8 (by decide)
 have k2'3:=k2'2.only hO8 (by decide)
 refine zl 0 52 (fun zm zkv V=>∃ (u:List Ent) (K:Nat) (bs2:List UInt8) (p:Option Addr) (c2:Nat),zkv=[(6,.int .i64 0),(7,.nilIface),(8,.pointer (some ⟨b7,0,none⟩)),(9,.func (.func 89) #[] #[.pointer (some ⟨b1,0,none⟩),.pointer (some ⟨b2,0,none⟩),.pointer (some ⟨b7,0,none⟩)]),(10,.slice p u.length c2)]∧zm=u.length∧Below B w V∧Fr [ba,g] w V∧Ze [120,5,39] w V∧Blk V b1 ([.pointer (some ⟨ba,0,none⟩)]) 62∧Blk V b2 ([.int .i64 t]) 3∧Blk V b7 ([.nilIface]) 39∧V.ownsRow w.heap.size 77 3 (.slice p u.length c2) u.length (u.flatMap Ko)∧Al B ba b g nn cc pa ca f N K bs2 V∧K+(Gp u.length).sum=k0+Qt t l.length+u.length∧1≤u.length∧u.length≤32768∧EntsOk 4 u∧Vi t u (f+K) bs2=Yu t l (f+k0) bs) ⟨(upE l (Ki t true) (f+k0) (ovN l.length (Ki t true))),(k0+(ovN l.length (Ki t true))),(Pu t true (Ki t true) (Uk t true) l (f+k0) bs (ovN l.length (Ki t true))),p41,c41,rfl,rfl,hB'3,hX,hO'2,k1'3,k2'3,k8n,(by rw[Ya];exact hup'1),hA,(by rw[Ya];unfold Qt Hi;omega),(by rw[Ya];exact hop),(by rw[Ya];omega),Ed E (Qg t true).1,(by rw[←Nat.add_assoc];rfl)⟩ ?_
 rintro _ _ W9 ⟨u,K,bs2,p,c2,rfl,rfl,hB_9,hX_9,hO_9,k9_b1,k9_b2,k9_b7,hup,hA,hK,hu1,hun,hE,htr⟩ J9 hJ9 r9
 have hlm:¬ u.length≤1→(Gp u.length).sum=u.length+(Gp (ovN u.length 18)).sum:=fun h=>by rw[Kj h];rfl
 have hlg:=Jm (ovN u.length 18)
 have h18:2≤u.length→ovN u.length 18≤u.length/2:=ov18
 have h18p:=Qd u.length 18
 refine xb 3 0 k9_b7 ?_
 refine xid 8 ((↑u.length:Int)>(1:Int)) (fun hc10=>?_) (fun hc10=>?_)
 ·refine xc 6 (args:=#[.bool false,.slice p u.length c2,.pointer (some ⟨b1,0,none⟩),.pointer (some ⟨b2,0,none⟩),.pointer (some ⟨b7,0,none⟩)]) (Sn B ba b g nn cc pa ca f N K bs2 t false 18 4 p c2 u b1 b2 b7 _ k9_b1 k9_b2 k9_b7 (Blk.tne k9_b1 k9_b7 (by decide)) (Blk.tne k9_b2 k9_b7 (by decide)) (Nat.le_trans hBw g7) hC hA ht1 ht2 rfl rfl hE (fun _=>hu1) (by omega) hf1 (by omega) (fun W _ h2=>Zf (Zl hup h2 (by decide))) (Nat.le_trans hBw hB_9.size)) ?_
  rintro _ W11 ⟨p42,c42,rfl,hb11,hO11,hX11,k8n,hA,hup⟩
  refine xv1 3 10 (show(.slice p42 (ovN u.length 18) c42:Value)=.slice p42 ((upE u 18 (f+K) (ovN u.length 18)).length) c42 from by rw[Ya]) ?_
  have hup'2:=Zd hup hB_9.size
  have hB'4:=hB_9.trans hb11
  have hX'1:=(Fr.trans_new hX_9 hX11 g7)
  have hO'3:=hO_9.trans hO11
  have k9_b1'1:=k9_b1.only hO11 (by decide)
  have k9_b2'1:=k9_b2.only hO11 (by decide)
  refine ze 0 (hJ9 _ _ _ ⟨(upE u 18 (f+K) (ovN u.length 18)),(K+ovN u.length 18),_,_,_,rfl,rfl,hB'4,hX'1,hO'3,k9_b1'1,k9_b2'1,k8n,(by rw[Ya];exact hup'2),hA,(by rw[Ya];omega),(by rw[Ya];exact h18p),(by rw[Ya];omega),Ed hE (by decide),(by rw[←htr,←Nat.add_assoc];exact(Vm (by omega)).symm)⟩ ?_)
  show((upE u 18 (f+K) (ovN u.length 18)).length)<u.length
  rw[Ya];omega
 refine xb 8 0 k9_b7 ?_
 refine xx 9 _ u.length 0 3 (Sts.cell (Zf hup) Yb Xp (k:=0) (i:=0) (by omega) rfl).1 ?_
 refine xl 1 ((Sts.cell (Zf hup) Yb Xp (k:=0) (i:=2) (by omega) rfl).2) ?_
 refine xe 5 (.tuple #[.int .i64 ((u.getD 0 Xp).2.2),.nilIface]) ?_
 have h1:u.length≤1:=by omega
 rw[Jp h1] at htr
 rw[Jt h1] at hK
 simp only[List.sum_cons,List.sum_nil] at hK
 obtain rfl:K=k0+Qt t l.length:=by omega
 refine⟨by rw[←htr],hB_9,hO_9,hX_9,by rw[←htr];exact hA⟩
theorem Al.mono{B B' ba b g n c:Nat}{pa:Option Addr}{ca f N k:Nat}{l:List UInt8}{w:World}(h:Al B' ba b g n c pa ca f N k l w)(hB:B≤B'):Al B ba b g n c pa ca f N k l w:=⟨h.blkA,h.blkI,Zd h.data hB,Zd h.nums hB⟩
theorem AlC.mono{B B' ba n c ca f N:Nat}(h:AlC B' ba n c ca f N)(hB:B≤B'):AlC B ba n c ca f N:=⟨h.hn,h.hc,h.hca,h.hf,Nat.le_trans hB h.hB⟩
theorem row_at{w:World}{base g n c size:Nat}{e:TypeId}{xs:List Value}(h:w.ownsRow base e size (.slice (some ⟨g,0,none⟩) n c) n xs):∃ cur,w.heap[g]? = some (.cells cur e (0,0)):=by
 rcases h.2 with ⟨hv,_⟩|⟨g2,cap,cur,hv,_,hh,_⟩
 ·cases hv
 ·simp only[Value.slice.injEq,Option.some.injEq,Addr.mk.injEq] at hv
  obtain⟨⟨rfl,_,_⟩,_⟩:=hv
  exact⟨cur,hh⟩
theorem Al.ne{B ba b g n c:Nat}{pa:Option Addr}{ca f N k:Nat}{l:List UInt8}{B2 ba2 b2 g2 n2 c2:Nat}{pa2:Option Addr}{ca2 f2 N2 k2:Nat}{l2:List UInt8}{w:World}(h:Al B ba b g n c pa ca f N k l w)(h2:Al B2 ba2 b2 g2 n2 c2 pa2 ca2 f2 N2 k2 l2 w):b2≠ba∧b2≠g:=by
 constructor
 ·rintro rfl
  exact absurd (h.blkA.ty h2.blkI) (by decide)
 ·rintro rfl
  obtain⟨cur,hh⟩:=row_at h.data
  have h3:w.heap[b2]? = some (.cells [.slice (some ⟨g2,0,none⟩) n2 c2].toArray 56 (0,0)):=h2.blkI
  rw[hh] at h3
  simp only[Option.some.injEq,Obj.cells.injEq] at h3
  exact absurd h3.2.1 (by decide)
theorem Al.apart{B2 ba2 b2 g2 n2 c2:Nat}{pa2:Option Addr}{ca2 f2 N2 k2:Nat}{l2:List UInt8}{w W:World}{ba g:Nat}(h:Al B2 ba2 b2 g2 n2 c2 pa2 ca2 f2 N2 k2 l2 w)(hC:AlC B2 ba2 n2 c2 ca2 f2 N2)(h1:ba<B2)(h2:g<B2)(hne:b2≠ba∧b2≠g)(hX:Fr [ba,g] w W):Al B2 ba2 b2 g2 n2 c2 pa2 ca2 f2 N2 k2 l2 W:=by
 have hB:=hC.hB
 refine⟨h.blkA.fr hX (by simp;omega),h.blkI.fr hX (by simp;exact hne),own_fr h.data hX fun k hk=>?_,own_fr h.nums hX fun k hk=>?_⟩
 ·have:=(h.data.lt k hk).1;simp;omega
 ·have:=(h.nums.lt k hk).1;simp;omega
theorem Rp(B ba b g nn cc:Nat)(pa:Option Addr)(ca f N k0:Nat)(bs:List UInt8)(t:Int)(a:Option Addr)(c:Nat)(l:List Ent)(n:Nat)(w:World)(hl:l.length=n)(hC:AlC B ba nn cc ca f N)(hA:Al B ba b g nn cc pa ca f N k0 bs w)(ht1:1≤t)(ht2:t≤5)(E:EntsOk (Uk t true) l)(hn:n≤32768)(hf1:1≤f)(hkN:k0≤N)(hk:k0+Qt t n≤N)(hin:∀ W,Below B w W→Ze [120,5,39] w W→Sts Ko W (.slice a l.length c) l)(hBw:B≤w.heap.size) :
 Calls Tryz.prog 54 #[.pointer (some ⟨ba,0,none⟩),.int .i64 t,.slice a n c] w (Zft B ba b g nn cc pa ca f N k0 bs t l w):=by
 subst hl;exact build_Tree B ba b g nn cc pa ca f N k0 bs t a c l w hC hA ht1 ht2 E hn hf1 hkN hk hin hBw
theorem Te(a:Option Addr)(c:Nat)(l:List Int)(w:World)(h:Sl w (.slice a l.length c) l.length (l.map (Value.int .i64)))(hl:l.length≤65536)(hs:Pb l=0):Calls Tryz.prog 48 #[.slice a l.length c] w (fun e w'=>∃ pb cb gs po co,e=.returned (.tuple #[.slice pb (bmN l.length) cb,.slice po (Xn l l.length).length co,.int .i64 0])∧Below w.heap.size w w'∧Lists w' w.heap.size (.slice pb (bmN l.length) cb) gs (Xt (Zv l) (bmN l.length))∧w'.ownsRow w.heap.size 77 3 (.slice po (Xn l l.length).length co) (Xn l l.length).length ((Xn l l.length).flatMap Ko)) :=
 (Ze4 a c l w h hl).mono fun e w' q=>(q.resolve_left fun z=>z.1 hs).2
theorem plot_layDN(B ba b g nn cc:Nat)(pa:Option Addr)(ca f N k0:Nat)(bs:List UInt8)(bl B2:Nat)(pl:Option Addr)(cl:Nat)(gs:List (Nat×Nat))(L:List (List Int))(n:Nat)(hn:L.length=n)(w:World)(hC:AlC B ba nn cc ca f N)(hA:Al B ba b g nn cc pa ca f N k0 bs w)(hL:Lists w B2 (.slice pl n cl) gs L)(hS:∀ i,i<L.length→Hj (L.getD i [])∧(L.getD i []).length≤960)(hf1:1≤f)(hk:k0+n≤N)(kl:Blk w bl [.slice none 0 0] 67)(hBl:B≤bl)(hBw:B≤w.heap.size) :
 Calls Tryz.prog 51 #[.pointer (some ⟨ba,0,none⟩),.slice pl n cl,.func (.func 52) #[] #[.pointer (some ⟨bl,0,none⟩)]] w (fun e w'=>∃ p c,e=.returned .nilIface∧Below B w w'∧Ze [120,5,67,77] w w'∧Fr ([ba,g]++[bl]) w w'∧Al B ba b g nn cc pa ca f N (k0+n) (Jf L (f+k0) bs n) w'∧Blk w' bl [.slice p n c] 67∧w'.ownsRow w.heap.size 77 3 (.slice p n c) n ((Xz L (f+k0) n).flatMap Ko)):=by
 subst hn;exact plot_layD B ba b g nn cc pa ca f N k0 bs bl B2 pl cl gs L w hC hA hL hS hf1 hk kl hBl hBw
theorem Zc5{l:List Int}(h:∀ k,k<l.length→Nz (l.getD k 0))(n:Nat):∀ i,i<(Xt (Zv l) n).length→Hj ((Xt (Zv l) n).getD i [])∧((Xt (Zv l) n).getD i []).length≤960:=fun i hi=>by
 rw[Me] at hi
 rw[Wo hi]
 exact⟨Fq (Zgw h) i,by rw[Pr];omega⟩
theorem own_keep{w W:World}{B ba b g nn cc:Nat}{pa:Option Addr}{ca f N k0 bl:Nat}{bs:List UInt8}{cs:List Value}{base n:Nat}{v:Value}{xs:List Value}(k:w.ownsRow base 77 3 v n xs)(hA:Al B ba b g nn cc pa ca f N k0 bs w)(kl:Blk w bl cs 67)(hX:Fr ([ba,g]++[bl]) w W):W.ownsRow base 77 3 v n xs:=own_fr k hX fun j hj hm=>by
 obtain⟨cs',kb⟩:=Zea hA.data
 simp only[List.cons_append,List.nil_append,List.mem_cons,List.not_mem_nil,or_false] at hm
 rcases hm with h|h|h
 ·exact Mt k hA.blkA (by decide) _ hj h
 ·exact Mt k kb (by decide) _ hj h
 ·exact Mt k kl (by decide) _ hj h
def DataP(B ba b g nn cc:Nat)(pa:Option Addr)(ca f N k0:Nat)(bs:List UInt8)(l:List Int)(w:World)(e:Ending)(w':World):Prop :=
 e=.returned (.tuple #[.int .i64 (Jn l (f+k0) bs).1,.int .i64 (Jn l (f+k0) bs).2.1,.nilIface])∧Below B w w'∧Ze [120,5,67,77,39] w w'∧Fr [ba,g] w w'∧Al B ba b g nn cc pa ca f N (k0+Wm l) (Jn l (f+k0) bs).2.2 w'
theorem plot_Data(B ba b g nn cc:Nat)(pa:Option Addr)(ca f N k0:Nat)(bs:List UInt8)(a:Option Addr)(c:Nat)(l:List Int)(w:World)(hC:AlC B ba nn cc ca f N)(hA:Al B ba b g nn cc pa ca f N k0 bs w)(h:Sl w (.slice a l.length c) l.length (l.map (Value.int .i64)))(hl:l.length≤3000)(hs:Pb l=0)(hf1:1≤f)(hkN:k0≤N)(hk:k0+Wm l≤N)(hBw:B≤w.heap.size) :
 Calls Tryz.prog 27 #[.pointer (some ⟨ba,0,none⟩),.slice a l.length c] w (DataP B ba b g nn cc pa ca f N k0 bs l w):=by
 have hcf:=hC.hf
 have hcn:=hC.hn
 have hbd:=plotN_bd hl
 have hsp:=Sa hs
 have hol:=Pd l l.length
 have hpn:Wm l=(bmN l.length)+Qt 4 (bmN l.length)+Qt 5 (Xn l l.length).length:=rfl
 have hn4:=Zat 4 (bmN l.length)
 have hn5:=Zat 5 (Xn l l.length).length
 refine zin 70 Tryz.func27 ?_
 refine xr 11 (args:=#[.pointer (some ⟨ba,0,none⟩)]) (Ml ba b _ _ _ hA.blkA) fun W1 hb1=>?_
 refine xc 9 (args:=#[.slice a l.length c]) (Te a c l _ (h.below hb1) (by omega) hs) ?_
 rintro _ W2 ⟨pb,cb,gs,po,co,rfl,hb2,hL,hov⟩
 have hs2:=(blB (Below.refl B w) hBw hb1).size
 have hA'1:=(hA.below hb1).below hb2
 refine xr 23 (args:=#[.pointer (some ⟨ba,0,none⟩)]) (Iy ba b pa N ca k0 _ hA'1.blkA hkN) fun W3 hb3=>?_
 refine xr 4 (args:=#[.int .i64 4,.int .i64 (↑(bmN l.length):Int)]) (Pw 4 (bmN l.length) _ (by decide) (by decide) (by omega)) fun W4 hb4=>?_
 refine xwm 0 ((↑(bmN l.length):Int)+(↑(Qt 4 (bmN l.length)):Int)) (↑((bmN l.length)+(Qt 4 (bmN l.length))):Int) ?_
 refine xr 2 (args:=#[.int .i64 5,.int .i64 (↑((Xn l l.length).length):Int)]) (Pw 5 (Xn l l.length).length _ (by decide) (by decide) (by omega)) fun W5 hb5=>?_
 refine xwm 0 ((↑((bmN l.length)+(Qt 4 (bmN l.length))):Int)+(↑(Qt 5 (Xn l l.length).length):Int)) (↑(((bmN l.length)+(Qt 4 (bmN l.length)))+(Qt 5 (Xn l l.length).length)):Int) ?_
 refine xk 3 (show(decide ((↑(N-k0):Int)<(↑(((bmN l.length)+(Qt 4 (bmN l.length)))+(Qt 5 (Xn l l.length).length)):Int)):Bool)=false from decide_eq_false (by omega)) ?_
 refine xa 4 [.slice none 0 0] 67 fun b6 W6 n6=>?_
 have hX:=(((((show Fr [ba,g] w _ from(Fr.of_below hb1)).trans (Fr.of_below hb2)).trans (Fr.of_below hb3)).trans (Fr.of_below hb4)).trans (Fr.of_below hb5)).trans (Fr.of_below n6.below)
 have hov'1:=Zb (Zb (Zb (Zb (Zd hov hs2) hb3) hb4) hb5) n6.below
 have hA'2:=(((hA'1.below hb3).below hb4).below hb5).below n6.below
 have hovk:=fun(W:World) (hX:Fr ([ba,g]++[b6]) _ W)=>own_keep hov'1 hA'2 n6.blk hX
 have hL'1:=(((hL.below hb3).below hb4).below hb5).below n6.below
 have g6:=n6.ge0 (blB (blB (blB (blB (blB (Below.refl B w) hBw hb1) hBw hb2) hBw hb3) hBw hb4) hBw hb5)
 have hB:=blB (blB (blB (blB (blB (blB (Below.refl B w) hBw hb1) hBw hb2) hBw hb3) hBw hb4) hBw hb5) hBw n6.below
 refine xc 8 (args:=#[.pointer (some ⟨ba,0,none⟩),.slice pb (bmN l.length) cb,.func (.func 52) #[] #[.pointer (some ⟨b6,0,none⟩)]]) (plot_layDN B ba b g nn cc pa ca f N k0 bs b6 _ pb cb gs (Xt (Zv l) (bmN l.length)) (bmN l.length) (Me _ _) _ hC hA'2 hL'1 (Zc5 hsp.2 _) hf1 (by omega) n6.blk (Nat.le_trans hBw g6) (Nat.le_trans hBw hB.size)) ?_
 rintro _ W7 ⟨p8,c8,rfl,hb7,hO7,hX7,hA,kln,hup⟩
 have hs7:=(blB (blB (blB (blB (blB (blB (Below.refl B w) hBw hb1) hBw hb2) hBw hb3) hBw hb4) hBw hb5) hBw n6.below).size
 replace hov:=hovk _ hX7
 refine xb 15 0 kln ?_
 have hup'1:=Zd hup hs7
 have hB'1:=hB.trans hb7
 refine xc 0 (args:=#[.pointer (some ⟨ba,0,none⟩),.int .i64 4,.slice p8 (bmN l.length) c8]) (Rp B ba b g nn cc pa ca f N (k0+(bmN l.length)) (Jf (Xt (Zv l) (bmN l.length)) (f+k0) bs (bmN l.length)) 4 p8 c8 (Xz (Xt (Zv l) (bmN l.length)) (f+k0) (bmN l.length)) (bmN l.length) _ (Yy _ _ _) hC hA (by decide) (by decide) (Am _ _ _ (by omega)) (by omega) hf1 (by omega) (by omega) (fun W _ h2=>by unfold Sts;rw[Yy];exact Zf (Zl hup'1 h2 (by decide))) (Nat.le_trans hBw hB'1.size)) ?_
 rintro _ W8 ⟨rfl,hb8,hO8,hX8,hA⟩
 rw[Yy] at hA
 have hov'2:=Zl hov hO8 (by decide)
 have hB'2:=hB'1.trans hb8
 refine xc 21 (args:=#[.pointer (some ⟨ba,0,none⟩),.int .i64 5,.slice po ((Xn l l.length).length) co]) (Rp B ba b g nn cc pa ca f N (k0+(bmN l.length)+Qt 4 (bmN l.length)) (Yu 4 (Xz (Xt (Zv l) (bmN l.length)) (f+k0) (bmN l.length)) (f+(k0+(bmN l.length))) (Jf (Xt (Zv l) (bmN l.length)) (f+k0) bs (bmN l.length))).2 5 po co (Xn l l.length) (Xn l l.length).length _ rfl hC hA (by decide) (by decide) (Zbj _ _ (by omega)) (by omega) hf1 (by omega) (by omega) (fun W _ h2=>Zf (Zl hov'2 h2 (by decide))) (Nat.le_trans hBw hB'2.size)) ?_
 rintro _ W9 ⟨rfl,hb9,hO9,hX9,hA⟩
 have hB'3:=hB'2.trans hb9
 have hO:=((((((((show Ze [120,5,67,77,39] w _ from(Ze.of_below hb1)).trans (Ze.of_below hb2)).trans (Ze.of_below hb3)).trans (Ze.of_below hb4)).trans (Ze.of_below hb5)).trans (Ze.of_below n6.below)).trans (hO7.wide)).trans (hO8.wide)).trans (hO9.wide)
 have hX'1:=((Fr.trans_new hX hX7 g6).trans (hX8.mono (by simp))).trans (hX9.mono (by simp))
 refine xe 27 (.tuple #[.int .i64 ((Yu 4 (Xz (Xt (Zv l) (bmN l.length)) (f+k0) (bmN l.length)) (f+(k0+(bmN l.length))) (Jf (Xt (Zv l) (bmN l.length)) (f+k0) bs (bmN l.length))).1),.int .i64 ((Yu 5 (Xn l l.length) (f+(k0+(bmN l.length)+Qt 4 (bmN l.length))) (Yu 4 (Xz (Xt (Zv l) (bmN l.length)) (f+k0) (bmN l.length)) (f+(k0+(bmN l.length))) (Jf (Xt (Zv l) (bmN l.length)) (f+k0) bs (bmN l.length))).2).1),.nilIface]) ?_
 have e1:f+(k0+(bmN l.length))=f+k0+(bmN l.length):=by omega
 have e2:f+(k0+(bmN l.length)+Qt 4 (bmN l.length))=f+k0+(bmN l.length)+Qt 4 (bmN l.length):=by omega
 rw[e2,e1] at hA ⊢
 have e3:k0+(bmN l.length)+Qt 4 (bmN l.length)+Qt 5 (Xn l l.length).length=k0+Wm l:=by omega
 rw[e3] at hA
 exact⟨rfl,hB'3,hO,hX'1,hA⟩
end Go.Proofs.YthlakkdgcgkcdaaGreatDoor
namespace Go.Proofs.YthlakkdgcgkcdaaGreatDoor
set_option maxHeartbeats 8000000
set_option maxRecDepth 100000
open Go.RowKit
set_option linter.unusedVariables false
theorem loop_eq(bs:ByteArray)(i:Nat)(r:List UInt8):ByteArray.toList.loop bs i r=r.reverse++bs.data.toList.drop i:=by
 have hs:bs.data.toList.length=bs.size:=by rw[Array.length_toList];rfl
 rw[ByteArray.toList.loop]
 split
 ·rename_i h
  have h':i<bs.data.toList.length:=by omega
  rw[loop_eq bs (i+1) _,List.drop_eq_getElem_cons h']
  have e:bs.get! i=bs.data.toList[i]:=by
   have h2:i<bs.data.size:=by rw[←Array.length_toList];exact h'
   show bs.data[i]! = _
   rw[getElem!_pos bs.data i h2];simp
  rw[e];simp
 ·rename_i h
  rw[List.drop_eq_nil_of_le (by omega)];simp
termination_by bs.size-i
theorem Zfu(a:List UInt8):(⟨a.toArray⟩:ByteArray).toList=a:=by
 unfold ByteArray.toList;rw[loop_eq];simp
theorem Ce(a b:List UInt8):((⟨a.toArray⟩:ByteArray).toList==(⟨b.toArray⟩:ByteArray).toList)=(a==b):=by rw[Zfu,Zfu]
theorem Rz(l:List UInt8):∀ (w k i:Nat),i<w→Zh l k w/256 ^ i%256=(l.getD (k+i) 0).toNat
 | 0,k,i,h=>absurd h (by omega)
 | w+1,k,0,_=>by
  have:=(l.getD k 0).toNat_lt
  rw[Zh];simp only[Nat.pow_zero,Nat.div_one,Nat.add_zero];omega
 | w+1,k,i+1,h=>by
  have:=(l.getD k 0).toNat_lt
  have ih:=Rz l w (k+1) i (by omega)
  rw[Zh,Nat.pow_succ,Nat.mul_comm (256 ^ i) 256,←Nat.div_div_eq_div_mul,show((l.getD k 0).toNat+256*Zh l (k+1) w)/256=Zh l (k+1) w by omega,ih,show k+1+i=k+(i+1) by omega]
theorem leB_raw{l:List UInt8}{k w:Nat}(h:k+w≤l.length):leB (Zh l k w:Int) w=(l.drop k).take w:=by
 apply List.ext_getElem
 ·simp[Zo];omega
 intro i h1 h2
 have hw:i<w:=by simpa [Zo] using h1
 have e:=Rz l w k i hw
 apply UInt8.toNat_inj.1
 simp only[leB,List.getElem_map,List.getElem_range,Xa,Int.toNat_natCast,UInt8.toNat_ofNat',List.getElem_take,List.getElem_drop]
 have e2:l.getD (k+i) 0=l[k+i]'(by omega):=by simp[List.getD,show k+i<l.length by omega]
 rw[e2] at e
 rw[←e]
theorem leB_inj{m n w:Nat}(hm:m<256 ^ w)(hn:n<256 ^ w)(h:leB (m:Int) w=leB (n:Int) w):m=n:=by
 have e:∀ i,i<w→m/256 ^ i%256=n/256 ^ i%256:=fun i hi=>by
  have:=congrArg (fun l=>(l.getD i 0).toNat) h
  simpa [leB,Xa,List.getD,List.getElem?_range hi,UInt8.toNat_ofNat'] using this
 clear h
 induction w generalizing m n with
 | zero=>simp at hm hn;omega
 | succ w ih =>
  have h0:=e 0 (by omega)
  have h1:m/256=n/256:=ih (by rw[Nat.pow_succ] at hm;omega) (by rw[Nat.pow_succ] at hn;omega) fun i hi=>by
   have:=e (i+1) (by omega)
   rw[Nat.pow_succ,Nat.mul_comm (256 ^ i) 256,←Nat.div_div_eq_div_mul,←Nat.div_div_eq_div_mul] at this
   exact this
  simp only[Nat.pow_zero,Nat.div_one] at h0
  omega
theorem not_t{b:Bool}(h:(!b)=true):b=false:=by simpa using h
theorem not_f{b:Bool}(h:(!b)=false):b=true:=by simpa using h
end Go.Proofs.YthlakkdgcgkcdaaGreatDoor
namespace Go.Proofs.YthlakkdgcgkcdaaGreatDoor
set_option maxHeartbeats 8000000
set_option maxRecDepth 100000
open Go.RowKit Go.Extern.Stop Go.Stop Go.Extern
set_option linter.unusedVariables false
attribute [local irreducible] wpList wpAnyH Code.wp Oper.wp Go
theorem Jq{P:Program}{a:Act}{w:World}{K:Act→World→Prop}{Q:Exit→Act→World→Prop}{o:Oper}{src dst e:TypeId}{x:Operand}(l:List UInt8)(ho:o.op=.convert src dst x)(hx:a.eval x=.string ⟨l.toArray⟩)
 (hs:P.underlying src=some .string) (hd:P.underlying dst=some (.slice e)) (he:P.underlying e=some (.int .u8)) (hl:l.length≤1000000)
 (k:∀ b c W,Below w.heap.size w W→Bys W (.slice (some ⟨b,0,none⟩) l.length c) l→K (a.put o.dst (.slice (some ⟨b,0,none⟩) l.length c)) W):o.wp P a w K Q:=by
 have hr:=run_bytes_of_string (P:=P) w src dst e ⟨l.toArray⟩ hs hd he
 have hsz:(⟨l.toArray⟩:ByteArray).size=l.length:=by simp[ByteArray.size]
 rw[hsz] at hr
 obtain⟨W1,hW1⟩:∃ W1,W1=w.drew.alloc (.cells (bytesRow ⟨l.toArray⟩ (grownCap w l.length 0 e)) e ((bytesRow ⟨l.toArray⟩ (grownCap w l.length 0 e)).size,(bytesRow ⟨l.toArray⟩ (grownCap w l.length 0 e)).size+1)):=⟨_,rfl⟩
 rw[←hW1] at hr
 have h2:(execOp a.eval o).run P w=.ok (.value (.slice (some ⟨w.heap.size,0,none⟩) l.length (grownCap w l.length 0 e))) W1:=by
  simp only[execOp,ho,hx,Sem.run_bind,hr];rfl
 refine Gg h2 (k _ _ _ (by rw[hW1];exact(Za w).trans (show Below w.drew.heap.size w.drew _ from blx w.drew _)) (.inr ⟨w.heap.size,0,_,rfl,grownCap_ge w l.length 0 e,grownCap_le_maxLen w l.length 0 e (by unfold maxLen;omega),fun j y hj=>?_⟩))
 have hjl:j<l.length:=by have:=(List.getElem?_eq_some_iff.1 hj).1;simpa using this
 have hb:=bytesRow_at ⟨l.toArray⟩ (grownCap w l.length 0 e) j (by simpa using hjl)
 have hy:y=.int .u8 ((l.toArray[j]'(by simpa using hjl)).toNat:Int):=by
  rw[List.getElem?_map,List.getElem?_eq_getElem hjl] at hj
  simp only[Option.map_some,Option.some.injEq] at hj
  rw[←hj];rfl
 have hh:W1.heap[w.heap.size]? = some (.cells (bytesRow ⟨l.toArray⟩ (grownCap w l.length 0 e)) e ((bytesRow ⟨l.toArray⟩ (grownCap w l.length 0 e)).size,(bytesRow ⟨l.toArray⟩ (grownCap w l.length 0 e)).size+1)):=by rw[hW1];exact heap_alloc_new w.drew _
 rw[hy]
 simp[World.cell?,hh,hb]
def Yw(s:List UInt8):Int:=if s.length=4 then(if 1≤Zh s 0 4∧Zh s 0 4≤14399 then 0 else 2) else 7
def Kc(s:List UInt8):Nat:=if Yw s=0 then Zh s 0 4 else 0
theorem Zfx(bs:ByteArray)(i:Nat)(r:List UInt8)(h:i≤bs.size):(ByteArray.toList.loop bs i r).length=r.length+(bs.size-i):=by
 rw[ByteArray.toList.loop]
 split
 ·rename_i h2
  rw[Zfx bs (i+1) _ (by omega)]
  simp;omega
 ·simp;omega
termination_by bs.size-i
theorem Iu(bs:ByteArray):bs.toList.length=bs.size:=by
 unfold ByteArray.toList;rw[Zfx _ _ _ (Nat.zero_le _)];simp
theorem four_ne(n:Int):((⟨(leB n 4).toArray⟩:ByteArray).toList==(⟨#[]⟩:ByteArray).toList)=false:=by
 cases hq:((⟨(leB n 4).toArray⟩:ByteArray).toList==(⟨#[]⟩:ByteArray).toList) with
 | false=>rfl
 | true =>
  have e:=congrArg List.length (eq_of_beq hq)
  rw[Iu,Iu] at e
  simp[ByteArray.size,Zo] at e
theorem Zdk(w:World) :
 Calls Tryz.prog 185 #[] w (Vn (fun w' r=>∃ b,r=.slice (some ⟨b,0,none⟩) 1 1∧w.heap.size≤b∧Blk w' b [.int .i64 4,.int .i64 1,.int .i64 14399] 176) w):=by
 refine zin 3 Tryz.func185 ?_
 refine xbs 8 1 [.int .i64 4,.int .i64 1,.int .i64 14399] 176 fun b1 W1 n1=>?_
 have g1:=n1.ge (Below.refl w.heap.size _)
 exact xe 4 (.slice (some ⟨b1,0,none⟩) 1 1) ⟨_,rfl,n1.below,_,rfl,g1,n1.blk⟩
theorem Zhk(gl:Nat)(an:Option Addr)(cn:Nat)(n:Int)(w:World)(hl:Blk w gl [.int .i64 4,.int .i64 1,.int .i64 14399] 176)(hn:Sl w (.slice an 1 cn) 1 [.int .i64 n])(h1:1≤n)(h2:n≤14399) :
 Calls Tryz.prog 87 #[.slice (some ⟨gl,0,none⟩) 1 1,.slice an 1 cn] w (Ret (.string ⟨(leB n 4).toArray⟩) w):=by
 have hlo:=h1
 have hhi:=h2
 clear h2
 refine zin 51 Tryz.func87 ?_
 refine xu 19 2 ?_
 refine xlv 15 hl.rp ?_
 refine xa 0 [.int .i64 0,.int .i64 0,.int .i64 0] 176 fun b1 W1 n1=>?_
 have d1_gl:=n1.ne hl
 refine xsv 1 n1.blk [.int .i64 4,.int .i64 1,.int .i64 14399] fun W2 u2 k2=>?_
 have g1:=n1.ge (Below.refl w.heap.size _)
 refine xd 4 .z ?_
 refine xx (.e [0,1] 2) _ 1 0 1 (Ints.elem (l:=[n]) hn (k:=0) (by simp)).1 ?_
 have hB:=bln (u2.below n1.below g1) (Za W2)
 refine xl (.e [] 3) ((Ints.elem (l:=[n]) (hn.below hB) (k:=0) (by simp)).2) ?_
 have k2'1:=k2.below (Za W2)
 refine xb (.e [4] 5) 1 k2'1 ?_
 refine xgk (.b [6,7]) [23,24] (show(decide (n<(1:Int)):Bool)=false from decide_eq_false (by omega)) ?_
 refine xx (.e [8,9] 10) _ 1 0 1 (Ints.elem (l:=[n]) hn (k:=0) (by simp)).1 ?_
 refine xl (.e [] 11) ((Ints.elem (l:=[n]) (hn.below hB) (k:=0) (by simp)).2) ?_
 refine xb (.e [12] 13) 2 k2'1 ?_
 refine xk (.r [14,15] 2) (show(decide (n>(14399:Int)):Bool)=false from decide_eq_false (by omega)) ?_
 refine xd 3 .z ?_
 have k2'2:=k2'1.below (Za W2.drew)
 refine xb (.e [0] 1) 0 k2'2 ?_
 refine xx (.e [2,3] 4) _ 1 0 1 (Ints.elem (l:=[n]) hn (k:=0) (by simp)).1 ?_
 have hB'1:=bln hB (Za W2.drew)
 refine xl (.e [] 5) ((Ints.elem (l:=[n]) (hn.below hB'1) (k:=0) (by simp)).2) ?_
 refine xbs (.o [6] 7) 1 [.int .i64 4,.int .i64 n] 236 fun b4 W4 n4=>?_
 have g4:=n4.ge hB'1
 refine yc (.o [] 8) (args:=#[.slice (some ⟨b4,0,none⟩) 1 1]) .z (So b4 n (by omega) (by omega) _ n4.blk) ?_
 rintro _ W5 ⟨_,rfl,hb5,p2,c2,rfl,h2⟩
 have hs5:=(bln hB'1 n4.below).size
 refine⟨hb5,?_⟩
 have o6:=World.ownsRow_nil W5 w.heap.size 5 1
 have h2'1:=Zd h2 hs5
 have hB'2:=bln (bln hB'1 n4.below) hb5
 refine xbi (.r [9,10,11,12,13] 5) fun _ _ _ _ zJ zQ zo zx zy zK=>Zp (m:=4) (news:=(leB n 4).map bv) (.int .u8 0) 1 1 (4) ((leB n 4).map bv) zo Tryz.underlying22 (by kernel_rfl) rfl (by decide) zx o6 zy (Zf h2'1) (by simp[Zo]) (Vd _) (by unfold maxLen;omega) (by omega) hB'2.size (by rfl) (by simp) fun px7 cx7 W7 o7 hg7 hb7=>?_
 refine zK _ _ ?_
 refine xcv0 24 (fun _ _ _ zo zx=>Qi zo zx (Qk (Zf o7) (Zo _ _)) (Zo _ _) Tryz.underlying22 Tryz.underlying5 Tryz.underlying9) ?_
 have hB'3:=hB'2.trans hb7
 exact xe 4 (.string ⟨(leB n 4).toArray⟩) ⟨rfl,hB'3⟩
theorem value_putX(gl:Nat)(an:Option Addr)(cn:Nat)(n:Int)(w:World)(hl:Blk w gl [.int .i64 4,.int .i64 1,.int .i64 14399] 176)(hn:Sl w (.slice an 1 cn) 1 [.int .i64 n])(h:¬ (1≤n∧n≤14399)) :
 Calls Tryz.prog 87 #[.slice (some ⟨gl,0,none⟩) 1 1,.slice an 1 cn] w (Ret (.string ⟨#[]⟩) w):=by
 refine zin 51 Tryz.func87 ?_
 refine xu 19 2 ?_
 refine xlv 15 hl.rp ?_
 refine xa 0 [.int .i64 0,.int .i64 0,.int .i64 0] 176 fun b1 W1 n1=>?_
 have d1_gl:=n1.ne hl
 refine xsv 1 n1.blk [.int .i64 4,.int .i64 1,.int .i64 14399] fun W2 u2 k2=>?_
 have g1:=n1.ge (Below.refl w.heap.size _)
 refine xd 4 .z ?_
 refine xx (.e [0,1] 2) _ 1 0 1 (Ints.elem (l:=[n]) hn (k:=0) (by simp)).1 ?_
 have hB:=bln (u2.below n1.below g1) (Za W2)
 refine xl (.e [] 3) ((Ints.elem (l:=[n]) (hn.below hB) (k:=0) (by simp)).2) ?_
 have k2'1:=k2.below (Za W2)
 refine xb (.e [4] 5) 1 k2'1 ?_
 refine xg (.b [6,7]) [23,24] (decide (n<(1:Int))) (fun hc3=>?_) (fun hc3=>?_)
 ·have hc3:=of_decide_eq_true hc3
  exact xe (.r [8,9,10,11,12,13,14,15] 15) (.string ⟨#[]⟩) ⟨rfl,hB⟩
 have hc3:=of_decide_eq_false hc3
 refine xx (.e [8,9] 10) _ 1 0 1 (Ints.elem (l:=[n]) hn (k:=0) (by simp)).1 ?_
 refine xl (.e [] 11) ((Ints.elem (l:=[n]) (hn.below hB) (k:=0) (by simp)).2) ?_
 refine xb (.e [12] 13) 2 k2'1 ?_
 refine xk (.r [14,15] 2) (show(decide (n>(14399:Int)):Bool)=true from decide_eq_true (by omega)) ?_
 exact xe 12 (.string ⟨#[]⟩) ⟨rfl,hB⟩
theorem Sz(gl:Nat)(s:List UInt8)(w:World)(hl:Blk w gl [.int .i64 4,.int .i64 1,.int .i64 14399] 176)(hs:s.length≤1000)(h4:s.length≠4) :
 Calls Tryz.prog 58 #[.slice (some ⟨gl,0,none⟩) 1 1,.string ⟨s.toArray⟩] w (Vn (fun w' r=>∃ p c,r=.tuple #[.slice p 1 c,.int .i64 7]∧w'.ownsRow w.heap.size 3 1 (.slice p 1 c) 1 [.int .i64 0]) w):=by
 refine zin 54 Tryz.func58 ?_
 refine xu 25 2 ?_
 refine xlv 14 hl.rp ?_
 refine xa 0 [.int .i64 0,.int .i64 0,.int .i64 0] 176 fun b1 W1 n1=>?_
 have d1_gl:=n1.ne hl
 refine xsv 0 n1.blk [.int .i64 4,.int .i64 1,.int .i64 14399] fun W2 u2 k2=>?_
 have g1:=n1.ge (Below.refl w.heap.size _)
 refine xb 6 0 k2 ?_
 refine xbs 0 1 [.int .i64 4] 3 fun b3 W3 n3=>?_
 have o4:=World.ownsRow_nil W3 w.heap.size 3 1
 have hB:=bln (u2.below n1.below g1) n3.below
 refine xbi 0 fun _ _ _ _ zJ zQ zo zx zy zK=>Zp (m:=1) (news:=[.int .i64 4]) (.int .i64 0) 1 8 (1) ([Value.int .i64 4]) zo Tryz.underlying30 (by kernel_rfl) rfl (by decide) zx o4 zy (n3.blk.sl 1 1 (by decide) (by decide)) rfl (by simp[Value.oneCell']) (by unfold maxLen;omega) (by omega) hB.size (by rfl) (by rfl) fun px5 cx5 W5 o5 hg5 hb5=>?_
 refine zK _ _ ?_
 have k2'1:=(k2.below n3.below).grown hg5 o4 (by decide)
 refine xb 6 0 k2'1 ?_
 refine xk 31 (show(((↑s.length:Int) != (4:Int)):Bool)=true from bne_iff_ne.2 (by omega)) ?_
 refine xmk 4 fun _ _ _ _ zJ zQ zo zx zy zK=>Gb 1 (.int .i64 0) 1 8 [Value.int .i64 0] zo zx zy Tryz.underlying30 (by kernel_rfl) rfl (by omega) (by omega) (rfl) fun b6 W6 n6=>?_
 have hB'1:=hB.trans hb5
 have g6:=n6.ge hB'1
 have r6_o5:=Zu o5 n6
 refine zK _ _ ?_
 have hB'2:=bln hB'1 n6.below
 have o6:=Zw (size:=1) (n:=1) n6.blk g6 (rfl) (by unfold maxLen;omega)
 exact xe 6 (.tuple #[.slice (some ⟨b6,0,none⟩) 1 1,.int .i64 7]) ⟨_,rfl,hB'2,_,_,rfl,o6⟩
theorem Oq(gl:Nat)(s:List UInt8)(w:World)(hl:Blk w gl [.int .i64 4,.int .i64 1,.int .i64 14399] 176)(hs:s.length≤1000)(h4:s.length=4)(h1:1≤Zh s 0 4)(h2:Zh s 0 4≤14399) :
 Calls Tryz.prog 58 #[.slice (some ⟨gl,0,none⟩) 1 1,.string ⟨s.toArray⟩] w (Vn (fun w' r=>∃ p c,r=.tuple #[.slice p 1 c,.int .i64 0]∧w'.ownsRow w.heap.size 3 1 (.slice p 1 c) 1 [.int .i64 (↑(Zh s 0 4):Int)]) w):=by
 refine zin 54 Tryz.func58 ?_
 refine xu 25 2 ?_
 refine xlv 14 hl.rp ?_
 refine xa 0 [.int .i64 0,.int .i64 0,.int .i64 0] 176 fun b1 W1 n1=>?_
 have d1_gl:=n1.ne hl
 refine xsv 0 n1.blk [.int .i64 4,.int .i64 1,.int .i64 14399] fun W2 u2 k2=>?_
 have g1:=n1.ge (Below.refl w.heap.size _)
 refine xb 6 0 k2 ?_
 refine xbs 0 1 [.int .i64 4] 3 fun b3 W3 n3=>?_
 have o4:=World.ownsRow_nil W3 w.heap.size 3 1
 have hB:=bln (u2.below n1.below g1) n3.below
 refine xbi 0 fun _ _ _ _ zJ zQ zo zx zy zK=>Zp (m:=1) (news:=[.int .i64 4]) (.int .i64 0) 1 8 (1) ([Value.int .i64 4]) zo Tryz.underlying30 (by kernel_rfl) rfl (by decide) zx o4 zy (n3.blk.sl 1 1 (by decide) (by decide)) rfl (by simp[Value.oneCell']) (by unfold maxLen;omega) (by omega) hB.size (by rfl) (by rfl) fun px5 cx5 W5 o5 hg5 hb5=>?_
 refine zK _ _ ?_
 have k2'1:=(k2.below n3.below).grown hg5 o4 (by decide)
 refine xb 6 0 k2'1 ?_
 refine xk 31 (show(((↑s.length:Int) != (4:Int)):Bool)=false from by rw[h4];rfl) ?_
 refine xcf 5 fun _ _ _ zJ zQ zo zx zK=>Jq s zo zx Tryz.underlying9 Tryz.underlying22 Tryz.underlying5 (by omega) ?_
 intro bz cz W6 hb6 hbz
 refine zK _ _ ?_
 have o5'1:=Zb o5 hb6
 refine xc 1 (args:=#[.slice (some ⟨bz,0,none⟩) s.length cz,.slice px5 1 cx5]) (Ck (some ⟨bz,0,none⟩) s.length cz s px5 cx5 1 [4] [Zh s 0 4] _ rfl rfl rfl (by decide) (by simp;omega) (by omega) (by decide) hbz (Zf o5'1) (fun i hi=>by obtain rfl:i=0:=(by simpa using hi);have:=Qj s 0 4 (by decide);simp[Hh];omega)) ?_
 rintro _ W7 ⟨_,rfl,hb7,p5,c5,rfl,h5⟩
 have hs7:=(bln (hB.trans hb5) hb6).size
 have hl'1:=((((u2.blk (hl.below n1.below) (Ne.symm (Ne.symm d1_gl))).below n3.below).grown hg5 o4 (by decide)).below hb6).below hb7
 have h5'1:=Zd h5 hs7
 refine xr 15 (args:=#[.slice (some ⟨gl,0,none⟩) 1 1,.slice p5 1 c5]) (Zhk gl p5 c5 (↑(Zh s 0 4):Int) _ hl'1 (Zf h5'1) (by omega) (by omega)) fun W8 hb8=>?_
 refine xk 4 (show(((⟨(leB (↑(Zh s 0 4):Int) 4).toArray⟩:ByteArray).toList==(⟨#[]⟩:ByteArray).toList):Bool)=false from four_ne _) ?_
 have hB'1:=bln (bln (bln (hB.trans hb5) hb6) hb7) hb8
 have h5'2:=Zb h5'1 hb8
 exact xe 10 (.tuple #[.slice p5 1 c5,.int .i64 0]) ⟨_,rfl,hB'1,_,_,rfl,h5'2⟩
theorem Tg(gl:Nat)(s:List UInt8)(w:World)(hl:Blk w gl [.int .i64 4,.int .i64 1,.int .i64 14399] 176)(hs:s.length≤1000)(h4:s.length=4)(h1:¬ (1≤(Zh s 0 4:Int)∧(Zh s 0 4:Int)≤14399)) :
 Calls Tryz.prog 58 #[.slice (some ⟨gl,0,none⟩) 1 1,.string ⟨s.toArray⟩] w (Vn (fun w' r=>∃ p c,r=.tuple #[.slice p 1 c,.int .i64 2]∧w'.ownsRow w.heap.size 3 1 (.slice p 1 c) 1 [.int .i64 0]) w):=by
 refine zin 54 Tryz.func58 ?_
 refine xu 25 2 ?_
 refine xlv 14 hl.rp ?_
 refine xa 0 [.int .i64 0,.int .i64 0,.int .i64 0] 176 fun b1 W1 n1=>?_
 have d1_gl:=n1.ne hl
 refine xsv 0 n1.blk [.int .i64 4,.int .i64 1,.int .i64 14399] fun W2 u2 k2=>?_
 have g1:=n1.ge (Below.refl w.heap.size _)
 refine xb 6 0 k2 ?_
 refine xbs 0 1 [.int .i64 4] 3 fun b3 W3 n3=>?_
 have o4:=World.ownsRow_nil W3 w.heap.size 3 1
 have hB:=bln (u2.below n1.below g1) n3.below
 refine xbi 0 fun _ _ _ _ zJ zQ zo zx zy zK=>Zp (m:=1) (news:=[.int .i64 4]) (.int .i64 0) 1 8 (1) ([Value.int .i64 4]) zo Tryz.underlying30 (by kernel_rfl) rfl (by decide) zx o4 zy (n3.blk.sl 1 1 (by decide) (by decide)) rfl (by simp[Value.oneCell']) (by unfold maxLen;omega) (by omega) hB.size (by rfl) (by rfl) fun px5 cx5 W5 o5 hg5 hb5=>?_
 refine zK _ _ ?_
 have k2'1:=(k2.below n3.below).grown hg5 o4 (by decide)
 refine xb 6 0 k2'1 ?_
 refine xk 31 (show(((↑s.length:Int) != (4:Int)):Bool)=false from by rw[h4];rfl) ?_
 refine xcf 5 fun _ _ _ zJ zQ zo zx zK=>Jq s zo zx Tryz.underlying9 Tryz.underlying22 Tryz.underlying5 (by omega) ?_
 intro bz cz W6 hb6 hbz
 refine zK _ _ ?_
 have o5'1:=Zb o5 hb6
 refine xc 1 (args:=#[.slice (some ⟨bz,0,none⟩) s.length cz,.slice px5 1 cx5]) (Ck (some ⟨bz,0,none⟩) s.length cz s px5 cx5 1 [4] [Zh s 0 4] _ rfl rfl rfl (by decide) (by simp;omega) (by omega) (by decide) hbz (Zf o5'1) (fun i hi=>by obtain rfl:i=0:=(by simpa using hi);have:=Qj s 0 4 (by decide);simp[Hh];omega)) ?_
 rintro _ W7 ⟨_,rfl,hb7,p5,c5,rfl,h5⟩
 have hs7:=(bln (hB.trans hb5) hb6).size
 have hl'1:=((((u2.blk (hl.below n1.below) (Ne.symm (Ne.symm d1_gl))).below n3.below).grown hg5 o4 (by decide)).below hb6).below hb7
 have h5'1:=Zd h5 hs7
 refine xr 15 (args:=#[.slice (some ⟨gl,0,none⟩) 1 1,.slice p5 1 c5]) (value_putX gl p5 c5 (↑(Zh s 0 4):Int) _ hl'1 (Zf h5'1) (by omega)) fun W8 hb8=>?_
 refine xmk 9 fun _ _ _ _ zJ zQ zo zx zy zK=>Gb 1 (.int .i64 0) 1 8 [Value.int .i64 0] zo zx zy Tryz.underlying30 (by kernel_rfl) rfl (by omega) (by omega) (rfl) fun b9 W9 n9=>?_
 have hB'1:=bln (bln (bln (hB.trans hb5) hb6) hb7) hb8
 have g9:=n9.ge hB'1
 have o5'2:=Zb (Zb o5'1 hb7) hb8
 have r9_o5:=Zu o5'2 n9
 have h5'2:=Zb h5'1 hb8
 have r9_h5:=Zu h5'2 n9
 refine zK _ _ ?_
 have hB'2:=bln hB'1 n9.below
 have o9:=Zw (size:=1) (n:=1) n9.blk g9 (rfl) (by unfold maxLen;omega)
 exact xe 6 (.tuple #[.slice (some ⟨b9,0,none⟩) 1 1,.int .i64 2]) ⟨_,rfl,hB'2,_,_,rfl,o9⟩
theorem Zeq(gl:Nat)(s:List UInt8)(w:World)(hl:Blk w gl [.int .i64 4,.int .i64 1,.int .i64 14399] 176)(hs:s.length≤1000):Calls Tryz.prog 58 #[.slice (some ⟨gl,0,none⟩) 1 1,.string ⟨s.toArray⟩] w (Vn (fun w' r=>∃ p c,r=.tuple #[.slice p 1 c,.int .i64 (Yw s)]∧w'.ownsRow w.heap.size 3 1 (.slice p 1 c) 1 [.int .i64 (Kc s:Int)]) w):=by
 by_cases h4:s.length=4
 ·by_cases h1:1≤Zh s 0 4∧Zh s 0 4≤14399
  ·have he:Yw s=0:=by unfold Yw;rw[if_pos h4,if_pos h1]
   rw[he,Kc,if_pos he]
   exact Oq gl s w hl hs h4 h1.1 h1.2
  ·have he:Yw s=2:=by unfold Yw;rw[if_pos h4,if_neg h1]
   rw[he,Kc,if_neg (by rw[he];decide)]
   exact Tg gl s w hl hs h4 (by omega)
 ·have he:Yw s=7:=by unfold Yw;rw[if_neg h4]
  rw[he,Kc,if_neg (by rw[he];decide)]
  exact Sz gl s w hl hs h4
theorem Tb(s:List UInt8)(w:World)(hs:s.length≤1000) :
 Calls Tryz.prog 191 #[.string ⟨s.toArray⟩] w (Ret (.tuple #[.int .i64 (Kc s:Int),.int .i64 (Yw s)]) w):=by
 refine zin 16 Tryz.func191 ?_
 refine xc 8 (args:=#[]) (Zdk _) ?_
 rintro _ W1 ⟨_,rfl,hb1,gl,rfl,gg,kl⟩
 refine xc 1 (args:=#[.slice (some ⟨gl,0,none⟩) 1 1,.string ⟨s.toArray⟩]) (Zeq gl s _ kl hs) ?_
 rintro _ W2 ⟨_,rfl,hb2,p5,c5,rfl,h5⟩
 have h5'1:=Zd h5 hb1.size
 refine xx 10 _ 1 0 1 (Ints.elem (l:=[(Kc s:Int)]) (Zf h5'1) (k:=0) (by simp)).1 ?_
 refine xl 0 ((Ints.elem (l:=[(Kc s:Int)]) (Zf h5'1) (k:=0) (by simp)).2) ?_
 have hB:=bln hb1 hb2
 exact xe 6 (.tuple #[.int .i64 (↑(Kc s):Int),.int .i64 (Yw s)]) ⟨rfl,hB⟩
end Go.Proofs.YthlakkdgcgkcdaaGreatDoor
