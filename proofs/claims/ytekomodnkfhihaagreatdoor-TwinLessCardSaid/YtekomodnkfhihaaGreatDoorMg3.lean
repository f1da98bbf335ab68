/- Package alloc at any numbers: New and From with their errors, Next, Lay, Left, Used, Ahead. -/
import Derived.RangeFuncNested
import Derived.RangeFuncBound
import Derived.RangeFuncCalls
import Derived.RangeFuncLeaves
import Derived.OwnWalkIn
import Derived.OrdersIn
import Derived.Test.YtekomodnkfhihaaGreatDoorRows
import Derived.Shelf.Abstract
import Derived.Shelf.RegionOpen
import Derived.TacticsInMore
import Derived.LoopNIn
import Derived.LoopIn
import Derived.Sort.BigQuietIn
import Derived.Test.YtekomodnkfhihaaGreatDoorMg2
namespace Go.Proofs.YtekomodnkfhihaaGreatDoor
set_option maxHeartbeats 8000000
set_option maxRecDepth 100000
open Go.RowKit Go.Extern.Stop Go.Stop Go.Extern
set_option linter.unusedVariables false
attribute [local irreducible] wpList wpAnyH Code.wp Oper.wp Go
structure AlG(B ba b:Nat)(pa:Option Addr)(N ca k:Nat)(L:List Int)(w:World):Prop where
 blk:Blk w ba [.slice pa N ca,.int .i64 (k:Int),.pointer (some ⟨b,0,none⟩)] 169
 nums:w.ownsRow B 3 1 (.slice pa N ca) N (L.map (Value.int .i64))
 hL:L.length=N
 hB:B≤ba
 hN:N≤1000000
 hk:k≤N
theorem AlG.below{B ba b:Nat}{pa:O0}{N ca k:Nat}{L:List Int}{w W:World}(h:AlG B ba b pa N ca k L w)(hb:Bl w W):AlG B ba b pa N ca k L W:=⟨h.blk.below hb,Za h.nums hb,h.hL,h.hB,h.hN,h.hk⟩
theorem AlG.only{B ba b:Nat}{pa:O0}{N ca k:Nat}{L:List Int}{w W:World}{T:List TypeId}(h:AlG B ba b pa N ca k L w)(hO:Zd T w W)(hT:T.contains 169=false∧T.contains 3=false):AlG B ba b pa N ca k L W:=⟨h.blk.only hO hT.1,Zo h.nums hO hT.2,h.hL,h.hB,h.hN,h.hk⟩
theorem AlG.mono{B B' ba b:Nat}{pa:O0}{N ca k:Nat}{L:List Int}{w:World}(h:AlG B ba b pa N ca k L w)(hB:B'≤B):AlG B' ba b pa N ca k L w:=⟨h.blk,Zf h.nums hB,h.hL,N0 hB h.hB,h.hN,h.hk⟩
theorem Si(l:List Int):∀ u∈l.map V0,u.oneCell'=true:=by
 intro u hu
 obtain⟨x,_,rfl⟩:=List.mem_map.1 hu
 rfl
theorem Of(p:Addr)(N c:Nat)(xs:List Value)(w:World)(h:Sl w (.slice (some p) N c) N xs)(hl:xs.length=N)(h1:∀ u∈xs,u.oneCell'=true)(hn:N≤1000000) :
 C0 135 #[.slice (some p) N c] w (Qh (fun w' r=>∃ q c2,r=.slice q N c2∧w'.ownsRow w.heap.size 3 1 (.slice q N c2) N xs) w):=by
 refine zin 8 Tryz.func135 ?_
 refine xb0 17 3 fun b1 W1 n1=>?_
 have o1:=Xg (size:=1) (n:=0) n1.blk (n1.ge (B3 w)) rfl Do
 refine xbi 1 fun _ _ _ _ zJ zQ zo zx zy zK=>Zz (m:=N) (news:=xs) (V0 0) 1 8 (N) (xs) zo Tryz.underlying27 K0 rfl Do zx o1 zy (h.below n1.below) (by rw[hl,D0]) h1 (by unfold maxLen;omega) M0 n1.below.size M0 (by rfl) fun a1 a3 W2 o2 a4 a2=>?_
 refine zK _ _ ?_
 have a0:=n1.below.trans a2
 exact xe 4 (.slice a1 N a3) ⟨_,rfl,a0,_,_,rfl,o2⟩
theorem Nw(w:World) :
 C0 135 #[S0] w (Ret (S0) w):=by
 refine zin 8 Tryz.func135 ?_
 exact xe 20 (S0) ⟨rfl,(B3 w)⟩
theorem Dh(a:O0)(N c:Nat)(xs:List Value)(w:World)(h:Sl w (.slice a N c) N xs)(hc:a=none→c=0)(hl:xs.length=N)(h1:∀ u∈xs,u.oneCell'=true)(hn:N≤1000000) :
 C0 135 #[.slice a N c] w (Qh (fun w' r=>∃ q c2,r=.slice q N c2∧w'.ownsRow w.heap.size 3 1 (.slice q N c2) N xs) w):=by
 cases a with
 | some p=>exact Of p N c xs w h hl h1 hn
 | none =>
  have hN:N=0∧xs=[]:=by
   rcases h with ⟨a',c',h2,h3,h4⟩|⟨b',a0,a1,h2,_⟩
   ·simp only[A7] at h2;exact⟨h2.2.1,h4⟩
   ·cases h2
  obtain⟨rfl,rfl⟩:=hN
  obtain rfl:=hc rfl
  refine(Nw w).mono ?_
  rintro e W ⟨rfl,hb⟩
  exact⟨_,rfl,hb,none,0,rfl,A9 _ _ _ _⟩
theorem sl_cut{w:World}{b:O0}{n c:Nat}{xs:List Value}(h:Sl w (.slice b n c) n xs)(hl:xs.length=n)(k:Nat)(hk:k≤n):Sl w (.slice (Uv b k c 1) (n-k) (c-k)) (n-k) (xs.drop k):=by
 rcases h with ⟨a',c',h1,h2,h3⟩|⟨g,a0,a1,h1,h2,h3,h4⟩
 ·obtain rfl:k=0:=by omega
  subst h3 h2
  exact .inl ⟨Uv b 0 c 1,c-0,rfl,rfl,rfl⟩
 ·simp only[A7] at h1
  obtain⟨rfl,_,rfl⟩:=h1
  by_cases hz:n-k=0
  ·refine .inl ⟨Uv (some ⟨g,a0,none⟩) k c 1,c-k,by rw[hz],by omega,?_⟩
   exact C9 M0
  ·refine .inr ⟨g,a0+k*1,c-k,?_,by omega,by omega,fun j x hj=>?_⟩
   ·rw[Uv,if_neg M0];simp[Addr.add]
   ·rw[E3] at hj
    have:=h4 (k+j) x hj
    rwa [D0,D7]
theorem sl_take{w:World}{b:O0}{n c:Nat}{xs:List Value}(h:Sl w (.slice b n c) n xs)(hl:xs.length=n)(m:Nat)(hm:m≤n):Sl w (.slice b m c) m (xs.take m):=Sl.head h hl m hm
theorem aheadSl{w:World}{b:O0}{n c k i:Nat}{L:List Int}(h:Sl w (.slice b n c) n (L.map V0))(hl:L.length=n)(hk:k≤n):Sl w (.slice (Uv b k c 1) (min i (n-k)) (c-k)) (min i (n-k)) (((L.drop k).take i).map V0):=by
 have h1:=sl_cut h (by simpa using hl) k hk
 have h2:=sl_take h1 (by simp[hl]) (min i (n-k)) M0
 rw[←G6,←E5] at h2
 have e:(L.drop k).take (min i (n-k))=(L.drop k).take i:=by
  rcases Nat.le_total i (n-k) with q|q
  ·rw[Gt q]
  ·rw[Nat.min_eq_right q,A5 (by simp[hl]),A5 (by simp[hl];omega)]
 rw[e] at h2
 exact h2
theorem aheadN{w:World}{B:Nat}{b:O0}{n c k:Nat}{xs:List Value}{e size:Nat}(h:w.ownsRow B e size (.slice b n c) n xs):Uv b k c 1=none→c-k=0:=by
 intro hn
 have hb:b=none:=by
  unfold Uv at hn
  split at hn
  ·exact hn
  ·simpa using hn
 subst hb
 rcases h.2 with ⟨h2,_⟩|⟨g,a0,a1,h2,_⟩
 ·simp only[A7] at h2;omega
 ·cases h2
theorem Fg(B ba b:Nat)(p0:O0)(N ca k i:Nat)(L:List Int)(w:World)(hA:AlG B ba b p0 N ca k L w)(hi:i≤1000000) :
 C0 158 #[P0 ba,V0 (i:Int)] w (Qh (fun w' r=>∃ q c2,r=.slice q (min i (N-k)) c2∧w'.ownsRow w.heap.size 3 1 (.slice q (min i (N-k)) c2) (min i (N-k)) (((L.drop k).take i).map V0)) w):=by
 have hk:=hA.blk
 have a4:=hA.hk
 have hL:=hA.hL
 have hN:=hA.hN
 have a9:N≤ca:=by
  rcases F1 N with q|q
  ·omega
  ·exact Dk hA.nums q
 refine zin 23 Tryz.func158 ?_
 refine xr 9 (args:=#[P0 ba]) (Yu ba b _ _ _ hk) fun W1 a0=>?_
 refine xid 6 ((i:Int)<(1:Int)) (fun a8=>?_) (fun a8=>?_)
 ·refine xe 7 (S0) ?_
  obtain rfl:i=0:=by omega
  exact⟨_,rfl,a0,none,0,by rw[Nat.zero_min],by rw[Nat.zero_min,List.take_zero];exact A9 _ _ _ _⟩
 have a3:=hk.below a0
 refine xr 7 (args:=#[P0 ba]) (Ms ba p0 N ca k _ _ a3 a4) fun W3 a5=>?_
 refine xq 9 (congrArg V0 (show(if(↑(N-k):Int)<(i:Int) then(↑(N-k):Int) else(i:Int):Int)=(↑(min i (N-k)):Int) from Rf i (N-k))) ?_
 refine xsH 0 (fun _ _ _ _ zo zx zy V=>Vq (k:=(min i (N-k))) (b:=(Uv p0 k ca 1)) (n:=(N-k)) (c:=(ca-k)) (i:=(↑(min i (N-k)):Int)) (ki:=.i64) zo zx zy rfl M0 Tryz.underlying27 K0 V) ?_
 have hB:=bln a0 a5
 refine xc 0 (args:=#[.slice (Uv p0 k ca 1) (min i (N-k)) (ca-k)]) (Dh (Uv p0 k ca 1) (min i (N-k)) (ca-k) (((L.drop k).take i).map V0) _ (aheadSl (Ze (Za hA.nums hB)) hL a4) (aheadN hA.nums) (by simp;omega) (Si _) M0) ?_
 rintro _ W4 ⟨_,rfl,a7,pq,cq,rfl,hq⟩
 have a6:=(bln a0 a5).size
 have a2:=bln hB a7
 have a1:=Zf hq a6
 exact xe 4 (.slice pq (min i (N-k)) cq) ⟨_,rfl,a2,_,_,rfl,a1⟩
theorem Dx(a b:O0)(ca cb:Nat)(L:List Int)(w:World)(ha:Sl w (.slice a L.length ca) L.length (L.map V0))(hb:Sl w (.slice b L.length cb) L.length (L.map V0))(hL:L.length≤1000000) :
 C0 18 #[.slice a L.length ca,.slice b L.length cb] w (Ret (.bool true) w):=by
 refine zin 26 Tryz.func18 ?_
 refine xk 15 (show(((L.length:Int) != (L.length:Int)):Bool)=false from by simp) ?_
 have hB:=Below.refl w.heap.size w
 refine zl 9 26 (fun zm a2 V=>∃ (i:Nat),a2=[(0,.slice a L.length ca),(1,.slice b L.length cb),(5,V0 (i:Int))]∧zm=L.length-((i:Int)).toNat∧Bl w V∧i≤L.length) ⟨0,rfl,rfl,hB,A6 _⟩ ?_
 rintro _ _ W1 ⟨i,rfl,rfl,a1,hi⟩ J1 a3 r1
 refine xid 9 ((i:Int)<(L.length:Int)) (fun a4=>?_) (fun a4=>?_)
 ·refine xd 5 .z ?_
  refine xx (.e [0,1] 2) _ L.length i 1 (Ints.elem ha (k:=i) M0).1 ?_
  have a0:=bln a1 (Zb W1)
  refine xl (.e [] 3) ((Ints.elem (ha.below a0) (k:=i) M0).2) ?_
  refine xx (.e [4,5] 6) _ L.length i 1 (Ints.elem hb (k:=i) M0).1 ?_
  refine xl (.e [] 7) ((Ints.elem (hb.below a0) (k:=i) M0).2) ?_
  refine xk (.r [8] 2) (show(((L.getD i 0) != (L.getD i 0)):Bool)=false from by simp) ?_
  refine xwm 5 ((i:Int)+1) (↑(i+1):Int) ?_
  exact ze 2 (a3 _ _ _ ⟨i+1,rfl,rfl,a0,by omega⟩ M0)
 exact xe 11 (.bool true) ⟨rfl,a1⟩
def rsV (L:List (List Int))(q i:Nat):List Value:=[V0 ((q+i:Nat):Int),V0 (Xl (L.getD i []):Int),V0 (Zx (L.getD i []):Int)]
def rsL (L:List (List Int))(q n:Nat):List Value:=(List.range n).flatMap (rsV L q)
theorem rsL_succ(L:List (List Int))(q n:Nat):rsL L q (n+1)=rsL L q n++rsV L q n:=by simp[rsL,C6]
end Go.Proofs.YtekomodnkfhihaaGreatDoor
namespace Go.Proofs.YtekomodnkfhihaaGreatDoor
set_option maxHeartbeats 8000000
set_option maxRecDepth 100000
open Go.RowKit
set_option linter.unusedVariables false
theorem rows_in{n:Nat}{P:Program}{row:String}{args:Array Value}{w:World}{R:Value→World→Prop}(h:Rows P row args w R):RowsIn Fence.wide n P row args w R :=
 fun c cs _=>let ⟨v,w',r,q⟩:=h c cs;⟨v,w',r,stepsIn_wide.2 q⟩
theorem Zbw{P:Program}{l n:Nat}{o:Oper}{a:Act}{w:World}{K:Act→World→Prop}{Q:Exit→Act→World→Prop}(hd:∀ c,o.op≠.defer c)(h:o.wp P a w K Q):o.wpIn (Fence.wide.inRound l) n P a w K Q:=by
 unfold Oper.wpIn
 refine⟨fun f _=>trivial,?_⟩
 rw[Oper.semAt_plain _ _ _ hd]
 unfold Oper.wp at h
 generalize (execOp a.eval o).run P w=r at *
 cases r with
 | ok nx w' =>
  cases nx with
  | value v=>exact h
  | skip=>exact h
  | defer d=>exact h
  | enter f args=>exact⟨(fun q=>by cases q),callsIn_wide.2 h⟩
  | row r args=>exact⟨(fun q=>by cases q),rows_in h⟩
  | _=>exact h.elim
 | halt hh w' =>
  cases hh with
  | panic v=>exact h
  | _=>exact h.elim
theorem op_in{P:Program}{l n i:Nat}{ops:Array Oper}{a:Act}{w:World}{K K':Act→World→Prop}{Q:Exit→Act→World→Prop}(hQ:¬ LetsOut Q)(hd:∀ o∈ops.toList,∀ c,o.op≠.defer c)(hK:∀ a w,K a w→K' a w)(h:wpOp P ops Q i K a w):wpOpIn (Fence.wide.inRound l) n P ops Q i K' a w:=by
 unfold wpOp at h
 unfold wpOpIn
 cases ho:ops[i]? with
 | none=>rw[ho] at h;exact hK _ _ h
 | some o =>
  rw[ho] at h
  dsimp only at h ⊢
  split at h
  ·rename_i hw
   rw[if_pos hw]
   have a0:o∈ops.toList:=by
    obtain⟨hi,e⟩:=Array.getElem?_eq_some_iff.1 ho
    rw[←e];exact Array.mem_toList_iff.2 (Array.getElem_mem hi)
   exact Oper.wpIn_mono hK (Zbw (hd o a0) (h.resolve_right fun q=>hQ q.2))
  ·rename_i hw
   rw[if_neg hw]
   exact⟨fun f _=>trivial,hK _ _ h⟩
theorem any_in{P:Program}{l n:Nat}{md:Region.Mode}{ops:Array Oper}{Q:Exit→Act→World→Prop}(hQ:¬ LetsOut Q)(hd:∀ o∈ops.toList,∀ c,o.op≠.defer c):∀ (fuel:Nat) (L:Array Bool) (a:Act) (w:World),wpAny P md ops Q fuel L a w→wpAnyIn (Fence.wide.inRound l) n P md ops Q fuel L a w
 | 0,_,_,_,h=>h
 | fuel+1,L,a,w,h=>⟨h.1,fun i hi=>op_in hQ hd (fun a w=>any_in hQ hd fuel _ a w) (h.2 i hi)⟩
theorem h_regIn{P:Program}{l0 n0 id:Nat}{l:List Oper}{Q:Exit→Act→World→Prop}{a:Act}{w:World}(S:World→Prop)(n:Nat)(hn:l.toArray.size=n)(L:Array Bool)(hL:Array.replicate n false=L)(hm:P.follows .mixedOrders=true)(hQ:¬ LetsOut Q)(hd:∀ o∈l,∀ c,o.op≠.defer c)(hS:S w.drew)(h:S w.drew→wpAnyH P .any l.toArray Q S n L a w.drew):(Code.region id l.toArray true).wpIn (Fence.wide.inRound l0) n0 P Q a w :=
 wpIn_region_any hm (any_in hQ (by simpa using hd) _ _ _ _ (wpAny_of_held _ _ _ _ (by rw[hn,hL];exact h hS)))
def Wa(l:List Int):Prop:=∀ k,k<l.length→1≤k→l[k-1]?.getD 0<l[k]?.getD 0
instance (l:List Int):Decidable (Wa l):=by unfold Wa;infer_instance
theorem Wa.lt{l:List Int}(h:Wa l):∀ (j i:Nat),i<j→j<l.length→l[i]?.getD 0<l[j]?.getD 0:=by
 intro j
 induction j with
 | zero=>intro i h1;omega
 | succ j ih =>
  intro i h1 h2
  have h3:=h (j+1) h2 M0
  simp only[Nat.add_sub_cancel] at h3
  by_cases hij:i=j
  ·subst hij;exact h3
  ·exact Int.lt_trans (ih i M0 M0) h3
theorem Wa.one(l:List Int):Wa (l.take 1):=by
 intro k h1 h2;simp at h1;omega
theorem Wa.succ{l:List Int}{k:Nat}{x y:Int}(h:Wa (l.take k))(hx:l[k-1]? = some x)(hy:l[k]? = some y)(hxy:x<y):Wa (l.take (k+1)):=by
 intro j h1 h2
 have a0:j<k+1:=by simp at h1;omega
 rw[Ge,Ge,if_pos M0,if_pos a0]
 by_cases hj:j=k
 ·subst hj;rw[hx,hy];exact hxy
 ·have:=h j (by simp at h1 ⊢;omega) h2
  rw[Ge,Ge,if_pos M0,if_pos M0] at this
  exact this
theorem Wa.all{l:List Int}{k:Nat}(h:Wa (l.take k))(hk:l.length≤k):Wa l:=by rwa [A5 hk] at h
end Go.Proofs.YtekomodnkfhihaaGreatDoor
namespace Go.Proofs.YtekomodnkfhihaaGreatDoor
set_option maxHeartbeats 8000000
set_option maxRecDepth 100000
open Go.RowKit
set_option linter.unusedVariables false
attribute [local go_sem] Oper.semAt_some
theorem Gh{n k:Nat}(h:k<n):(List.finRange n).take (k+1)=(List.finRange n).take k++[⟨k,h⟩]:=by
 rw[A4 (by simpa using h)];simp
theorem Cj(n:Nat):(List.finRange n).take n=List.finRange n:=A5 (by simp)
theorem Pj{n k:Nat}(h:k≤n):((List.finRange n).take k).length=k:=by simp[h]
def encK(b off n:Nat)(j:Fin (bmN n)):Array Value:=#[.slice (some ⟨b,off+j.val*960,none⟩) (min 960 (n-j.val*960)) (min 960 (n-j.val*960))]
theorem Zbx(l B1 B2:Nat)(p:Nat→Prop)(b off n cap:Nat)(hlen:n≤1000000)(hcap:n≤cap)(hB1:p B1)(hB2:p B2)(J Jx:List (Fin (bmN n))→World→Prop)
  (hY:∀ pre x W,J pre W→pre.length<bmN n→YieldAt Fence.wide 2 Tryz.prog l (encK b off n x) W fun e W' =>
   (e=.returned (.bool true)∧J (pre++[x]) W'∧Keeps p W W')∨(e=.returned (.bool false)∧Jx (pre++[x]) W'))
  (W:World) (hck:W.cell? ⟨B1,0,none⟩=some (.slice (some ⟨b,off,none⟩) n cap)) (hcn:W.cell? ⟨B2,0,none⟩=some (V0 960)) (hJa:AbidesFrom W.heap.size J) (h0:J [] W) :
  CallsIn Fence.wide 3 Tryz.prog 261 #[.func (.yield l) #[] #[],P0 B1,P0 B2] W fun e W'=>(∃ v,e=.returned v) ∧
   ((∃ ys,ys=List.finRange (bmN n)∧J ys W')∨(∃ pre,(∃ k,k≤bmN n∧pre=(List.finRange (bmN n)).take k)∧Jx pre W')):=by
 refine callsIn_of_wp Tryz.func261 rfl trivial ?_ rfl
 simp only[Tryz.ntmps261,F3,D5,K2,Nat.reduceAdd,Nat.reduceSub,K3,K4,Le,K6,G5,F5]
 gi_wp2
 gi_loopw [4] (fun i wr=>∃ k:Nat,k≤bmN n∧i=V0 ((k*960:Nat):Int)∧J ((List.finRange (bmN n)).take k) wr∧Keeps p W wr)
  (fun i _=>(n-(intOf i)).toNat)
 case atStart=>exact⟨0,A6 _,by simp,h0,Keeps.refl _ _⟩
 case round =>
  obtain⟨k,hk,rfl,a0,a3⟩:=hrel
  have a7:=(a3.cell (a:=⟨B1,0,none⟩) hB1).trans hck
  have a4:=(a3.cell (a:=⟨B2,0,none⟩) hB2).trans hcn
  by_cases hlt:k<bmN n
  ·have b5:=bmN_lt hlt
   gi_wp2
   gi_big_quiet_th (fail)
   obtain⟨fn,a6,a2,a8,hy,hR⟩:=hY _ ⟨k,hlt⟩ (wr.drewN nq) (hJa _ wr _ none a0 ⟨rfl,rfl,rfl,A3 _,fun _ _ _=>rfl⟩ (fun _ e=>by cases e)) (by rw[Pj hk];exact hlt)
   have hE:encK b off n ⟨k,hlt⟩=#[.slice (some ⟨b,off+k*960,none⟩) (min 960 (n-k*960)) (min 960 (n-k*960))]:=rfl
   rw[hE] at hy
   have HE:=Lib.hid hE;clear hE
   first|rw[show(if((n-k*960:Nat):Int)<960 then((n-k*960:Nat):Int) else 960)=((min 960 (n-k*960):Nat):Int) from by split<;>omega]|rw[show(min 960 ((n-k*960:Nat):Int):Int)=((min 960 (n-k*960):Nat):Int) from by omega]
   obtain⟨m,hm⟩:∃ m,min 960 (n-k*960)=m:=⟨_,rfl⟩
   rw[hm] at hy ⊢
   have b4:k*960+m≤n:=by omega
   have b2:k*960+m≤cap:=by omega
   have b3:k*960+m-k*960=m:=by omega
   gi_wp2
   refine hR.mono ?_
   rintro e W3 (⟨rfl,b0,a5⟩|⟨rfl,a1⟩)
   ·have a9:W3.cell? ⟨B2,0,none⟩=some (V0 960):=(a5.cell (a:=⟨B2,0,none⟩) hB2).trans a4
    gi_wp2
    go_roundw
    case rel =>
     refine⟨k+1,by omega,?_,by rw[Gh hlt];exact b0,(a3.trans (show Keeps p wr (wr.drewN nq) from⟨A3 _,fun _ _=>rfl⟩)).trans a5⟩
     exact congrArg V0 M0
    case measure=>simp only[intOf];omega
   ·gi_wp2
    refine bodyPost_ret (results_none rfl _ _ _) rfl ?_
    exact⟨⟨_,rfl⟩,.inr ⟨_,⟨k+1,by omega,by rw[Gh hlt]⟩,a1⟩⟩
  ·obtain rfl:k=bmN n:=by omega
   have b6:=bmN_done (n:=n) rfl
   have b1:¬ (((bmN n*960:Nat):Int)<(n:Int)):=by omega
   rw[Cj] at a0
   have HJ:=Lib.hid a0;clear a0
   gi_wp2
   go_end0
   exact⟨⟨_,rfl⟩,.inl HJ.out⟩
theorem Lu{α:Type}(l B1 B2:Nat)(J:List α→World→Prop)(W:World){a0:O0}{c0:Nat}(hck:W.cell? ⟨B1,0,none⟩=some (.slice a0 0 c0))(h0:J [] W) :
 CallsIn Fence.wide 3 Tryz.prog 261 #[.func (.yield l) #[] #[],P0 B1,P0 B2] W fun e W'=>(∃ v,e=.returned v)∧J [] W':=by
 refine callsIn_of_wp Tryz.func261 rfl trivial ?_ rfl
 simp only[Tryz.ntmps261,F3,D5,K2,Nat.reduceAdd,Nat.reduceSub,K3,K4,Le,K6,G5,F5]
 gi_wp2
 gi_loopw [4] (fun i wr=>i=V0 0∧J [] wr∧wr.cell? ⟨B1,0,none⟩=some (.slice a0 0 c0)) (fun _ _=>0)
 case atStart=>exact⟨rfl,h0,hck⟩
 case round =>
  obtain⟨rfl,a1,a2⟩:=hrel
  have HJ:=Lib.hid a1;clear a1
  gi_wp2
  go_end0
  exact⟨⟨_,rfl⟩,HJ.out⟩
theorem Fe(B1 B2:Nat)(p:Nat→Prop)(b off n cap:Nat)(v:Value)(w:World)(hp:∀ b,p b→b<w.heap.size)(h1:p B1)(h2:p B2)(hlen:n≤1000000)(hv:(n=0∧∃ a c,v=.slice a 0 c)∨v=.slice (some ⟨b,off,none⟩) n cap∧n≤cap)(hck:w.cell? ⟨B1,0,none⟩=some v)(hcn:w.cell? ⟨B2,0,none⟩=some (V0 960)) :
  SeqStopsK Fence.wide 3 Tryz.prog 261 #[P0 B1,P0 B2] (encK b off n) (Keeps p)
   (fun ys=>ys=List.finRange (bmN n)) (fun pre=>∃ k,k≤bmN n∧pre=(List.finRange (bmN n)).take k) (bmN n) w:=fun l J Jx W hW a3 _ hY h0=>by
 have a0:=getC hW hck
 have a2:=getC hW hcn
 rcases hv with ⟨rfl,a,c,rfl⟩|⟨rfl,a1⟩
 ·exact(Lu l B1 B2 J W a0 h0).mono fun e W' ⟨he,hj⟩=>⟨he,.inl ⟨_,rfl,hj⟩⟩
 ·exact Zbx l B1 B2 p b off n cap hlen a1 h1 h2 J Jx hY W a0 a2 a3 h0
end Go.Proofs.YtekomodnkfhihaaGreatDoor
namespace Go.Proofs.YtekomodnkfhihaaGreatDoor
set_option maxHeartbeats 8000000
set_option maxRecDepth 100000
open Go.RowKit Go.Extern.Stop Go.Stop Go.Extern
set_option linter.unusedVariables false
attribute [local irreducible] wpList wpAnyH Code.wp Oper.wp Go
theorem Cg(p:O0)(n c:Nat)(w:World) :
 C0 217 #[.slice p n c,V0 960] w (fun e w'=>∃ b1 b2,e=.returned (.func (.func 261) #[] #[P0 b1,P0 b2])∧Bl w w'∧w.heap.size≤b1∧w.heap.size≤b2∧b1≠b2∧Blk w' b1 [.slice p n c] 27∧Blk w' b2 [V0 960] 3):=by
 refine zin 9 Tryz.func217 ?_
 refine xa 2 [.slice p n c] 27 fun b1 W1 n1=>?_
 refine xa 0 [V0 960] 3 fun b2 W2 n2=>?_
 refine xb 6 0 n2.blk ?_
 have k1:=n1.blk.below n2.below
 have hB:=bln n1.below n2.below
 have g1:=n1.ge (B3 w)
 have g2:=n2.ge n1.below
 exact xe 13 (.func (.func 261) #[] #[P0 b1,P0 b2]) ⟨_,_,rfl,hB,g1,g2,(Blk.tne k1 n2.blk Do),k1,n2.blk⟩
end Go.Proofs.YtekomodnkfhihaaGreatDoor
namespace Go.Proofs.YtekomodnkfhihaaGreatDoor
set_option maxHeartbeats 8000000
set_option maxRecDepth 100000
open Go.RowKit Go.Extern.Stop Go.Stop Go.Extern
set_option linter.unusedVariables false
attribute [local irreducible] wpList wpAnyH Code.wp Oper.wp Go
attribute [local go_sem] Oper.semAt_some
theorem Upd.of_put(w:World)(D:Nat)(o:Obj):Upd w D (w.putObj D o):=⟨rfl,rfl,rfl,by simp[World.putObj],fun k hk=>F2 hk⟩
def Dfr (D:Nat)(w:World):Prop:=w.heap[D]? = some (.deferred (some []))
theorem Dfr.below{D:Nat}{w W:World}(h:Dfr D w)(hb:Bl w W):Dfr D W:=(hb.block D (Array.getElem?_eq_some_iff.1 h).1).trans h
theorem Dfr.ne{D b:Nat}{w:World}{cs:List Value}{t:TypeId}(h:Dfr D w)(k:Blk w b cs t):b≠D:=by
 rintro rfl
 have h':w.heap[b]? = _:=h
 rw[show w.heap[b]? = _ from k] at h'
 cases h'
theorem Dfr.upd{D b:Nat}{w W:World}{cs:List Value}{t:TypeId}(h:Dfr D w)(u:Upd w b W)(k:Blk w b cs t):Dfr D W:=(u.block D fun e=>h.ne k e.symm).trans h
theorem Dfr.row{D:Nat}{w:World}{base e size n:Nat}{v:Value}{xs:List Value}(h:Dfr D w)(k:w.ownsRow base e size v n xs):∀ g,v.ownBlock=some g→g≠D:=by
 rintro g hg rfl
 rcases k.2 with ⟨rfl,_⟩|⟨g',a0,a1,rfl,_,hh,_⟩
 ·cases hg
 ·simp only[Value.ownBlock,At] at hg
  subst hg
  rw[show w.heap[g']? = _ from h] at hh
  cases hh
theorem Dfr.grown{D:Nat}{w W:World}{base e size n:Nat}{v:Value}{xs:List Value}(h:Dfr D w)(hg:w.grownBy W v.ownBlock)(k:w.ownsRow base e size v n xs):Dfr D W :=
 (hg.block D (Array.getElem?_eq_some_iff.1 h).1 fun q=>h.row k D q.symm rfl).trans h
theorem g_endM{P:Program}{fn:Func}{R:Ending→World→Prop}{a:Act}{w:World}{D:Nat}(hK:Dfr D w)(v:Value)(hd:a.defers=[{ target:=.collected D,args:=#[] }])(hr:(results fn a.tmps).run P (w.putObj D (.deferred none))=.ok v (w.putObj D (.deferred none)))(h:R (.returned v) (w.putObj D (.deferred none))):bodyPostM Fence.wide 4 P fn R .normal a w :=
 by
 show LeavesInM _ _ _ _ a.tmps R a.defers .returning w
 rw[hd]
 exact⟨by simp,.inl ⟨_,_,rfl,run_takeDeferred hK,_,hr,h⟩⟩
def noPan(Q:Exit→Act→World→Prop):Exit→Act→World→Prop
 | .normal,a,w=>Q .normal a w
 | .ret,a,w=>Q .ret a w
 | _,_,_=>False
theorem Zcb{P:Program}{c:Code}{Q:Exit→Act→World→Prop}{a:Act}{w:World}(h:c.wp P (noPan Q) a w):c.wp P Q a w:=wp_mono h fun e a w q=>by cases e<;>first|exact q|exact q.elim
theorem Pr{w:World}{base size n b:Nat}{e t:TypeId}{v:Value}{xs cs:List Value}(k:w.ownsRow base e size v n xs)(q:Blk w b cs t)(hne:e≠t):∀ g,v.ownBlock=some g→g≠b:=by
 rintro g hg rfl
 rcases k.2 with ⟨rfl,_⟩|⟨g',a0,a1,rfl,_,hh,_⟩
 ·cases hg
 ·simp only[Value.ownBlock,At] at hg
  subst hg
  rw[show w.heap[g']? = _ from q] at hh
  simp only[At,Obj.cells.injEq] at hh
  exact hne hh.2.1.symm
theorem Cl{w W:World}(h:Bl w W):KeepsOthers w W:=⟨h.size,fun b o hb _=>(h.block b (Array.getElem?_eq_some_iff.1 hb).1).trans hb⟩
theorem Iw{w W:World}{b:Nat}{cs:List Value}{t:TypeId}(u:Upd w b W)(k:Blk w b cs t):KeepsOthers w W:=⟨I4 u.size.symm,fun d o hd ho=>(u.block d (by rintro rfl;rw[show w.heap[d]? = _ from k] at hd;cases hd;cases ho)).trans hd⟩
theorem BelowBut.own3{w W:World}{b base size n:Nat}{e:TypeId}{v:Value}{xs:List Value}(h:BelowBut w b W)(k:w.ownsRow base e size v n xs)(hs:∀ j,v.ownBlock=some j→j≠b):W.ownsRow base e size v n xs:=by
 obtain⟨h1,h2⟩:=k
 refine⟨h1,?_⟩
 rcases h2 with h2|⟨g,a0,a1,rfl,hg,hh,r⟩
 ·exact Or.inl h2
 ·exact Or.inr ⟨g,a0,a1,rfl,hg,by rw[h.block g (Array.getElem?_eq_some_iff.1 hh).1 (hs g rfl)];exact hh,r⟩
theorem Eb{β:Type}{w:World}{b B:Nat}(hB:w.heap.size≤B):OwnFrom B (fun(_:β) W=>BelowBut w b W):=fun _ W W' a1 hs hg hr =>
 ⟨hg.os.trans hs.os,hg.tape.trans hs.tape,hg.output.trans hs.output,N0 hs.size hg.size,fun k hk a0=>(hg.block k (C1 hk hs.size) (fun e=>by have:=(hr k e.symm).1;omega)).trans (hs.block k hk a0)⟩
theorem Jw.turn{A B:World}{row:Option Nat}{l:List (Option Int)}{c:Option Int}{v:Value}(h:Jw A l c v)(hg:A.grownBy B row)(hr:∀ r,row=some r→∃ o:Obj,A.heap[r]? = some o∧o.isCells=false):Jw B l c v:=h.kept fun _ _ k=>k.turn hg hr
theorem Jw.one{w:World}{l:List (Option Int)}{c:Option Int}{v:Value}(h:Jw w l c v):v.oneCell'=true:=by
 rcases h.nil_or with ⟨_,rfl⟩|⟨_,t,x,rfl⟩<;>rfl
theorem Jw.iface{w:World}{l:List (Option Int)}{c:Int}{v:Value}(h:Jw w l (some c) v):∃ t x,v=.iface t x:=by
 rcases h.nil_or with ⟨q,_⟩|⟨_,q⟩
 ·simp[noErr] at q
 ·exact q
end Go.Proofs.YtekomodnkfhihaaGreatDoor
namespace Go.Proofs.YtekomodnkfhihaaGreatDoor
set_option maxHeartbeats 8000000
set_option maxRecDepth 100000
open Go.RowKit
set_option linter.unusedVariables false
theorem Rd{A B:World}{row:Option Nat}{base size n:Nat}{e:TypeId}{v:Value}{xs:List Value}(k:A.ownsRow base e size v n xs)(hg:A.grownBy B row)(hr:∀ r,row=some r→∃ o:Obj,A.heap[r]? = some o∧o.isCells=false):B.ownsRow base e size v n xs:=by
 obtain⟨h1,h2⟩:=k
 refine⟨h1,?_⟩
 rcases h2 with h2|⟨g,a0,a1,hv,hb,hh,r⟩
 ·exact Or.inl h2
 ·refine Or.inr ⟨g,a0,a1,hv,hb,?_,r⟩
  rw[hg.block g (Array.getElem?_eq_some_iff.1 hh).1 (fun q=>by
   obtain⟨o,ho,hc⟩:=hr g q.symm
   rw[hh] at ho
   cases ho
   cases hc)]
  exact hh
theorem Lists.turn{A B:World}{row:Option Nat}{base:Nat}{v:Value}{gs:List (Nat×Nat)}{L:List (List Int)}(h:Lists A base v gs L)(hg:A.grownBy B row)(hr:∀ r,row=some r→∃ o:Obj,A.heap[r]? = some o∧o.isCells=false):Lists B base v gs L:=⟨Rd h.row hg hr,fun i hi=>Rd (h.each i hi) hg hr⟩
structure RdZ(w0:World)(b:Nat)(W V:World):Prop where
 bb:BelowBut w0 b V
 ko:KeepsOthers W V
 fr:∀ k,k<w0.heap.size→k≠b→V.heap[k]? = W.heap[k]?
 le:W.heap.size≤V.heap.size
theorem RdZ.refl{w0 W:World}{b:Nat}(h:BelowBut w0 b W):RdZ w0 b W W:=⟨h,⟨A3 _,fun _ _ h _=>h⟩,fun _ _ _=>rfl,A3 _⟩
theorem RdZ.below{w0 W V U:World}{b:Nat}(h:RdZ w0 b W V)(hb:Below V.heap.size V U):RdZ w0 b W U :=
 ⟨h.bb.next hb,h.ko.trans (Cl hb),fun k hk hn=>(hb.block k (C1 hk h.bb.size)).trans (h.fr k hk hn),N0 h.le hb.size⟩
theorem RdZ.upd{w0 W V U:World}{b:Nat}{cs:List Value}{t:TypeId}(h:RdZ w0 b W V)(u:Upd V b U)(k:Blk V b cs t):RdZ w0 b W U :=
 ⟨h.bb.upd u,h.ko.trans (Iw u k),fun k hk hn=>(u.block k hn).trans (h.fr k hk hn),N0 h.le (I4 u.size.symm)⟩
theorem RdZ.grown{w0 W V U:World}{b size n:Nat}{e:TypeId}{v:Value}{xs:List Value}(h:RdZ w0 b W V)(hg:V.grownBy U v.ownBlock)(k:V.ownsRow w0.heap.size e size v n xs):RdZ w0 b W U :=
 ⟨⟨hg.os.trans h.bb.os,hg.tape.trans h.bb.tape,hg.output.trans h.bb.output,N0 h.bb.size hg.size,fun i hi hn=>(hg.block i (C1 hi h.bb.size) (fun e=>by have:=(k.lt i e.symm).1;omega)).trans (h.bb.block i hi hn)⟩,
  ⟨N0 h.ko.size hg.size,fun i o hi ho=>by
   have h1:=h.ko.same i o hi ho
   rw[hg.block i (Array.getElem?_eq_some_iff.1 h1).1 (fun q=>by
    rcases k.2 with ⟨rfl,_⟩|⟨g,a0,a1,rfl,_,hh,_⟩
    ·cases q
    ·simp only[Value.ownBlock,At] at q
     subst q
     rw[hh] at h1
     cases h1
     cases ho)]
   exact h1⟩,
  fun i hi hn=>(hg.block i (C1 hi h.bb.size) (fun e=>by have:=(k.lt i e.symm).1;omega)).trans (h.fr i hi hn),N0 h.le hg.size⟩
theorem row_or{w:World}{base e n c:Nat}{p:O0}{xs:List Value}(k:w.ownsRow base e 1 (.slice p n c) n xs):∃ g,(n=0∧∃ a c',Value.slice p n c=.slice a 0 c')∨Value.slice p n c=.slice (S1 g) n c∧n≤c:=by
 rcases k.2 with ⟨h,_⟩|⟨g,a0,a1,hv,_,_,hc,_⟩
 ·simp only[A7] at h
  exact⟨0,.inl ⟨h.2.1,none,0,by rw[h.1,h.2.1,h.2.2]⟩⟩
 ·simp only[A7] at hv
  obtain⟨rfl,_,rfl⟩:=hv
  exact⟨g,.inr ⟨rfl,hc⟩⟩
def Each(w:World)(base:Nat)(gs:List (Nat×Nat))(L:List (List Int)):Prop:=∀ i,i<L.length→w.ownsRow base 3 1 (Ba gs L i) (L.getD i []).length ((L.getD i []).map V0)
theorem Each.below{w W:World}{base:Nat}{gs:List (Nat×Nat)}{L:List (List Int)}(h:Each w base gs L)(hb:Bl w W):Each W base gs L:=fun i hi=>Za (h i hi) hb
theorem Each.only{T:List TypeId}{w W:World}{base:Nat}{gs:List (Nat×Nat)}{L:List (List Int)}(h:Each w base gs L)(hO:Zd T w W)(hT:T.contains 3=false):Each W base gs L:=fun i hi=>Zo (h i hi) hO hT
theorem Ra{gs:List (Nat×Nat)}{L:List (List Int)}{g c i:Nat}{ch:List Int}(hg:gs.length=L.length)(hi:i<L.length):Ba (gs++[(g,c)]) (L++[ch]) i=Ba gs L i:=by
 unfold Ba
 simp[List.getD,G9,hi,hg]
theorem Se{gs:List (Nat×Nat)}{L:List (List Int)}{g c:Nat}{ch:List Int}(hg:gs.length=L.length):Ba (gs++[(g,c)]) (L++[ch]) L.length=.slice (S1 g) ch.length c:=by
 unfold Ba
 rw[show(gs++[(g,c)]).getD L.length (0,0)=(g,c) from by rw[←hg];simp[List.getD],show(L++[ch]).getD L.length []=ch from by simp[List.getD]]
theorem Lists.snoc{w:World}{base g c n:Nat}{v:Value}{gs:List (Nat×Nat)}{L:List (List Int)}{ch:List Int}(hn:n=L.length+1)(hrow:w.ownsRow base 27 1 v n ((List.range L.length).map (Ba gs L)++[.slice (S1 g) ch.length c]))(he:Each w base gs L)(hnew:w.ownsRow base 3 1 (.slice (S1 g) ch.length c) ch.length (ch.map V0))(hg:gs.length=L.length):Lists w base v (gs++[(g,c)]) (L++[ch]):=by
 subst hn
 refine⟨?_,fun i hi=>?_⟩
 ·rw[show(L++[ch]).length=L.length+1 from by simp,C6,B6]
  rw[show(List.range L.length).map (Ba (gs++[(g,c)]) (L++[ch]))=(List.range L.length).map (Ba gs L) from H4 fun i hi=>Ra hg (E2.1 hi),List.map_singleton,Se hg]
  exact hrow
 ·by_cases h:i<L.length
  ·rw[Ra hg h,show(L++[ch]).getD i []=L.getD i [] from by simp[List.getD,G9,h]]
   exact he i h
  ·obtain rfl:i=L.length:=by simp at hi;omega
   rw[Se hg,show(L++[ch]).getD L.length []=ch from by simp[List.getD]]
   exact hnew
theorem Sl.midI{w:World}{g n c:Nat}{xs:List Value}(h:Sl w (.slice (S1 g) n c) n xs)(hl:xs.length=n)(k m:Nat)(hm:0<m)(hk:k+m≤n):Sl w (.slice (some ⟨g,0+k,none⟩) m m) m ((xs.drop k).take m):=by
 rcases h with ⟨a',c',h1,h2,h3⟩|⟨g',a1,a2,h1,h2,h3,h4⟩
 ·omega
 ·simp only[A7,At,Addr.mk.injEq] at h1
  obtain⟨⟨rfl,rfl,_⟩,_,rfl⟩:=h1
  refine .inr ⟨g,0+k,m,rfl,A3 _,by omega,fun j x hj=>?_⟩
  have a0:j<m:=by
   rcases E6 j m with q|q
   ·exact q
   ·rw[C3 (by simp;omega)] at hj;cases hj
  rw[E1 a0,E3] at hj
  have:=h4 (k+j) x hj
  rw[show 0+k+j=0+(k+j) from by omega]
  exact this
end Go.Proofs.YtekomodnkfhihaaGreatDoor
namespace Go.Proofs.YtekomodnkfhihaaGreatDoor
set_option maxHeartbeats 8000000
set_option maxRecDepth 100000
open Go.RowKit Go.Extern.Stop Go.Stop Go.Extern
set_option linter.unusedVariables false
def Xx(u v:Value):Prop:=∀ j,u.ownBlock=some j→v.ownBlock≠some j
theorem Xx.symm{u v:Value}(h:Xx u v):Xx v u:=fun j h1 h2=>h j h2 h1
theorem Xx.grow{w:World}{u v u':Value}{base e size n:Nat}{xs:List Value}(h:Xx u v)(k:w.ownsRow base e size v n xs)(hl:u'.ownBlock=u.ownBlock∨u'.ownBlock=some w.heap.size):Xx u' v:=by
 rintro j h1 h2
 rcases hl with hl|hl
 ·exact h j (hl▸h1) h2
 ·rw[hl,At] at h1
  subst h1
  have:=(k.lt _ h2).2
  omega
theorem Xx.row{w W:World}{u v:Value}{base e size n:Nat}{xs:List Value}(h:Xx u v)(k:w.ownsRow base e size v n xs)(hg:w.grownBy W u.ownBlock):W.ownsRow base e size v n xs:=by
 obtain⟨h1,h2⟩:=k
 refine⟨h1,?_⟩
 rcases h2 with h2|⟨g,a0,a1,rfl,hb,hh,r⟩
 ·exact Or.inl h2
 ·exact Or.inr ⟨g,a0,a1,rfl,hb,(hg.block g (Array.getElem?_eq_some_iff.1 hh).1 (fun q=>h g q.symm rfl)).trans hh,r⟩
theorem Xx.of_lt{w W:World}{u v:Value}{base base2 e e2 size size2 n n2:Nat}{xs ys:List Value}(k:w.ownsRow base e size u n xs)(q:W.ownsRow base2 e2 size2 v n2 ys)(h:w.heap.size≤base2):Xx u v:=fun j h1 h2=>by
 have:=(k.lt j h1).2
 have:=(q.lt j h2).1
 omega
theorem Xx.nil(v:Value):Xx (S0) v:=fun j h=>by cases h
theorem Xr{P:Program}{a:Act}{w:World}{K:Act→World→Prop}{Q:Exit→Act→World→Prop}{o:Oper}{s x:Operand}{t e te:TypeId}{base:Nat}{v:Value}{n:Nat}{xs:List Value}{b m c:Nat}{news:List Value}(z:Value)(size bytes n':Nat)(xs':List Value)
 (ho:o.op=.call { callee:=.builtin .append,args:=#[s,x],argTypes:=#[t,t] }) (ht:P.underlying t=some (.slice e)) (hi:(P.info? e).map (fun i=>(i.zero,i.size,i.bytes))=some (some z,size,bytes)) (hzs:z.cells.size=size) (hsz:0<size) (hs:a.eval s=v)
 (hown:w.ownsRow base e size v n xs) (hx:a.eval x=.slice (S1 b) m c) (hnew:Blk w b news te) (hl:news.length=m*size) (h1:∀ u∈news,u.oneCell'=true) (h63:n+m≤maxLen) (hbytes:(n+m)*bytes≤140737488355328) (hbase:base≤w.heap.size) (hn:n+m=n') (hxs:xs++news=xs')
 (h:∀ p c W,W.ownsRow base e size (.slice p n' c) n' xs'→w.grownBy W v.ownBlock→Below base w W→((Value.slice p n' c).ownBlock=v.ownBlock∨(Value.slice p n' c).ownBlock=some w.heap.size)→K (a.put o.dst (.slice p n' c)) W):o.wp P a w K Q:=by
 cases hq:P.info? e with
 | none=>simp[hq] at hi
 | some i =>
  simp only[hq,C5,At,C2] at hi
  have hc:∀ j u,news[j]? = some u→w.cell? ((⟨b,0,none⟩:Addr).add j)=some u:=fun j u hj=>by
   have hc:=hnew.cell hj
   by_cases h0:j=0
   ·subst h0;simpa [Addr.add] using hc
   ·simpa [Addr.add,h0] using hc
  obtain⟨v',W,hr,h2,h3,_,h5⟩:=run_append_own_at (P:=P) w base t o.type e i z size bytes ht hq hi.1 hi.2.1 hi.2.2 hzs hsz v n xs hown ⟨b,0,none⟩ m c news hl hc h1 h63 hbytes hbase
  subst hn hxs
  obtain⟨p,c2,rfl⟩:=(Ze h2).slice
  unfold Oper.wp execOp
  simp only[ho,resolve,invoke,builtin,B8,F0,C4,H1,E4,I3,hs,hx,hr]
  exact h p c2 W h2 h3 (Yq h3 hown (A3 _) hbase) h5
end Go.Proofs.YtekomodnkfhihaaGreatDoor
namespace Go.Proofs.YtekomodnkfhihaaGreatDoor
set_option maxHeartbeats 8000000
set_option maxRecDepth 100000
open Go.RowKit Go.Extern.Stop Go.Stop Go.Extern
set_option linter.unusedVariables false
attribute [local irreducible] wpList wpAnyH Code.wp Oper.wp Go
def rsC (x:Nat×Nat×Nat):List Value:=[V0 (x.1:Int),V0 (x.2.1:Int),V0 (x.2.2:Int)]
theorem Za8(x:Nat×Nat×Nat):(rsC x).length=3:=rfl
def rsD:Nat×Nat×Nat:=(0,0,0)
def Rs (L:List (List Int))(q n:Nat):List (Nat×Nat×Nat):=(List.range n).map fun i=>(q+i,Xl (L.getD i []),Zx (L.getD i []))
theorem Ml(L:List (List Int))(q n:Nat):(Rs L q n).length=n:=by simp[Rs]
theorem Rs_get{L:List (List Int)}{q n i:Nat}(h:i<n):(Rs L q n).getD i rsD=(q+i,Xl (L.getD i []),Zx (L.getD i [])):=by simp[Rs,List.getD,B5 h]
theorem rsL_Rs(L:List (List Int))(q n:Nat):rsL L q n=(Rs L q n).flatMap rsC:=by simp[rsL,Rs,List.flatMap_map];rfl
theorem Rs_sts{L:List (List Int)}{q n c:Nat}{p:O0}{w:World}(h:Sl w (.slice p n c) n (rsL L q n)):Sts rsC w (.slice p (Rs L q n).length c) (Rs L q n):=by unfold Sts;rw[Ml,←rsL_Rs];exact h
theorem Ec(w:World) :
 C0 249 #[] w (Qh (fun w' r=>∃ b,r=.slice (S1 b) 1 1∧w.heap.size≤b∧Blk w' b [V0 4,V0 3,V0 2147483647] 298) w):=by
 refine zin 3 Tryz.func249 ?_
 refine xbs 8 1 [V0 4,V0 3,V0 2147483647] 298 fun b1 W1 n1=>?_
 have g1:=n1.ge (B3 w)
 exact xe 4 (.slice (S1 b1) 1 1) ⟨_,rfl,n1.below,_,rfl,g1,n1.blk⟩
theorem Pz(gl gn:Nat)(n:Int)(h1:3≤n)(h2:n≤2147483647)(w:World)(hl:Blk w gl [V0 4,V0 3,V0 2147483647] 298)(hn:Blk w gn [V0 n] 3) :
 C0 146 #[.slice (S1 gl) 1 1,.slice (S1 gn) 1 1] w (Ret (.string ⟨(leB n 4).toArray⟩) w):=by
 refine zin 51 Tryz.func146 ?_
 refine xu 19 2 ?_
 refine xlv 15 hl.rp ?_
 refine xa 0 [V0 0,V0 0,V0 0] 298 fun b1 W1 n1=>?_
 have a8:=n1.ne hl
 refine xsv 1 n1.blk [V0 4,V0 3,V0 2147483647] fun W2 u2 k2=>?_
 have g1:=n1.ge (B3 w)
 refine xd 4 .z ?_
 have a0:=(u2.blkT (hn.below n1.below) n1.blk Do).below (Zb W2)
 refine xb (.e [0,1,2] 3) 0 a0 ?_
 have a2:=k2.below (Zb W2)
 refine xb (.e [4] 5) 1 a2 ?_
 refine xgk (.b [6,7]) [23,24] (show(decide (n<(3:Int)):Bool)=false from decide_eq_false M0) ?_
 refine xb (.e [8,9,10] 11) 0 a0 ?_
 refine xb (.e [12] 13) 2 a2 ?_
 refine xk (.r [14,15] 2) (show(decide (n>(2147483647:Int)):Bool)=false from decide_eq_false M0) ?_
 refine xd 3 .z ?_
 have a4:=a2.below (Zb W2.drew)
 refine xb (.e [0] 1) 0 a4 ?_
 have a5:=a0.below (Zb W2.drew)
 refine xb (.e [2,3,4] 5) 0 a5 ?_
 refine xbs (.o [6] 7) 1 [V0 4,V0 n] 178 fun b4 W4 n4=>?_
 refine yc (.o [] 8) (args:=#[.slice (S1 b4) 1 1]) .z (Pi b4 n M0 M0 _ n4.blk) ?_
 rintro _ W5 ⟨_,rfl,a7,a9,b0,rfl,a6⟩
 have b2:=(bln (bln (bln (u2.below n1.below g1) (Zb W2)) (Zb W2.drew)) n4.below).size
 refine⟨a7,?_⟩
 have o6:=A9 W5 w.heap.size 5 1
 have a1:=Zf a6 b2
 have hB:=bln (bln (bln (bln (u2.below n1.below g1) (Zb W2)) (Zb W2.drew)) n4.below) a7
 refine xbi (.r [9,10,11,12,13] 5) fun _ _ _ _ zJ zQ zo zx zy zK=>Zz (m:=4) (news:=(leB n 4).map bv) (.int .u8 0) 1 1 (4) ((leB n 4).map bv) zo Tryz.underlying50 K0 rfl Do zx o6 zy (Ze a1) (by simp[Zl]) (Xw _) (by unfold maxLen;omega) M0 hB.size (by rfl) (by simp) fun b5 b6 W7 o7 b7 b3=>?_
 refine zK _ _ ?_
 refine xcv0 24 (fun _ _ _ zo zx=>Wl zo zx (Qf (Ze o7) (by simp[Zl])) (by simp[Zl]) Tryz.underlying50 Tryz.underlying5 Tryz.underlying9) ?_
 have a3:=hB.trans b3
 exact xe 4 (.string ⟨(leB n 4).toArray⟩) ⟨rfl,a3⟩
theorem Dt(n:Int)(h1:3≤n)(h2:n≤2147483647)(w:World) :
 C0 216 #[V0 n] w (Ret (.string ⟨(leB n 4).toArray⟩) w):=by
 refine zin 7 Tryz.func216 ?_
 refine xc 7 (args:=#[]) (Ec _) ?_
 rintro _ W1 ⟨_,rfl,a2,gl,rfl,gg,kl⟩
 refine xbs 1 1 [V0 n] 3 fun b2 W2 n2=>?_
 have a0:=kl.below n2.below
 refine xr 0 (args:=#[.slice (S1 gl) 1 1,.slice (S1 b2) 1 1]) (Pz gl b2 n h1 h2 _ a0 n2.blk) fun W3 a1=>?_
 have hB:=bln (bln a2 n2.below) a1
 exact xe 4 (.string ⟨(leB n 4).toArray⟩) ⟨rfl,hB⟩
theorem Ny(w:World) :
 C0 128 #[] w (Qh (fun w' r=>∃ b,r=.slice (S1 b) 3 3∧w.heap.size≤b∧Blk w' b [V0 8,V0 1,V0 14399,V0 4,V0 0,V0 960,V0 4,V0 0,V0 960] 298) w):=by
 refine zin 5 Tryz.func128 ?_
 refine xbs 10 3 [V0 8,V0 1,V0 14399,V0 4,V0 0,V0 960,V0 4,V0 0,V0 960] 298 fun b1 W1 n1=>?_
 have g1:=n1.ge (B3 w)
 exact xe 4 (.slice (S1 b1) 3 3) ⟨_,rfl,n1.below,_,rfl,g1,n1.blk⟩
theorem He(gl gn:Nat)(n f g:Int)(h1:1≤n)(h2:n≤14399)(h3:0≤f)(h4:f≤960)(h5:0≤g)(h6:g≤960)(w:World)(hl:Blk w gl [V0 8,V0 1,V0 14399,V0 4,V0 0,V0 960,V0 4,V0 0,V0 960] 298)(hn:Blk w gn [V0 n,V0 f,V0 g] 3) :
 C0 146 #[.slice (S1 gl) 3 3,.slice (S1 gn) 3 3] w (Ret (.string ⟨(leB n 8++leB f 4++leB g 4).toArray⟩) w):=by
 refine zin 51 Tryz.func146 ?_
 refine xu 19 4 ?_
 refine xlv 15 (hl.rpp 0 3) ?_
 refine xa 0 [V0 0,V0 0,V0 0] 298 fun b1 W1 n1=>?_
 have d0:=n1.ne hl
 refine xsv 1 n1.blk [V0 8,V0 1,V0 14399] fun W2 u2 k2=>?_
 have g1:=n1.ge (B3 w)
 refine xd 4 .z ?_
 have a7:=(u2.blkT (hn.below n1.below) n1.blk Do).below (Zb W2)
 refine xb (.e [0,1,2] 3) 0 a7 ?_
 have c2:=k2.below (Zb W2)
 refine xb (.e [4] 5) 1 c2 ?_
 refine xgk (.b [6,7]) [23,24] (show(decide (n<(1:Int)):Bool)=false from decide_eq_false M0) ?_
 refine xb (.e [8,9,10] 11) 0 a7 ?_
 refine xb (.e [12] 13) 2 c2 ?_
 refine xk (.r [14,15] 2) (show(decide (n>(14399:Int)):Bool)=false from decide_eq_false M0) ?_
 refine xd 3 .z ?_
 have c6:=c2.below (Zb W2.drew)
 refine xb (.e [0] 1) 0 c6 ?_
 have c7:=a7.below (Zb W2.drew)
 refine xb (.e [2,3,4] 5) 0 c7 ?_
 refine xbs (.o [6] 7) 1 [V0 8,V0 n] 178 fun b4 W4 n4=>?_
 refine yc (.o [] 8) (args:=#[.slice (S1 b4) 1 1]) .z (Zcq b4 n M0 _ n4.blk) ?_
 rintro _ W5 ⟨_,rfl,c3,i7,i5,rfl,e8⟩
 have i1:=(bln (bln (bln (u2.below n1.below g1) (Zb W2)) (Zb W2.drew)) n4.below).size
 refine⟨c3,?_⟩
 have o6:=A9 W5 w.heap.size 5 1
 have b6:=Zf e8 i1
 have hB:=bln (bln (bln (bln (u2.below n1.below g1) (Zb W2)) (Zb W2.drew)) n4.below) c3
 refine xbi (.r [9,10,11,12,13] 5) fun _ _ _ _ zJ zQ zo zx zy zK=>Zz (m:=8) (news:=(leB n 8).map bv) (.int .u8 0) 1 1 (8) ((leB n 8).map bv) zo Tryz.underlying50 K0 rfl Do zx o6 zy (Ze b6) (by simp[Zl]) (Xw _) (by unfold maxLen;omega) M0 hB.size (by rfl) (by simp) fun j2 i9 W7 o7 e3 i0=>?_
 refine zK _ _ ?_
 have b3:=(((((u2.blk (hl.below n1.below) d0).below (Zb W2)).below (Zb W2.drew)).below n4.below).below c3).grown e3 o6 Do
 refine xlv 24 (b3.rpp 3 3) ?_
 refine xa 0 [V0 0,V0 0,V0 0] 298 fun b8 W8 n8=>?_
 have d6:=n8.ne b3
 have d7:=((c6.below n4.below).below c3).grown e3 o6 Do
 have c8:=n8.ne d7
 have d5:=hB.trans i0
 have g8:=n8.ge d5
 refine xsv 1 n8.blk [V0 4,V0 0,V0 960] fun W9 u9 k9=>?_
 refine xd 4 .z ?_
 have b7:=(u9.blkT ((((c7.below n4.below).below c3).grown e3 o6 Do).below n8.below) n8.blk Do).below (Zb W9)
 refine xb (.e [0,1,2] 3) 1 b7 ?_
 have c1:=k9.below (Zb W9)
 refine xb (.e [4] 5) 1 c1 ?_
 refine xgk (.b [6,7]) [23,24] (show(decide (f<(0:Int)):Bool)=false from decide_eq_false M0) ?_
 refine xb (.e [8,9,10] 11) 1 b7 ?_
 refine xb (.e [12] 13) 2 c1 ?_
 refine xk (.r [14,15] 2) (show(decide (f>(960:Int)):Bool)=false from decide_eq_false M0) ?_
 refine xd 3 .z ?_
 have c5:=c1.below (Zb W9.drew)
 refine xb (.e [0] 1) 0 c5 ?_
 have d1:=b7.below (Zb W9.drew)
 refine xb (.e [2,3,4] 5) 1 d1 ?_
 refine xbs (.o [6] 7) 1 [V0 4,V0 f] 178 fun g3 j1 a4=>?_
 have d4:=((u9.blkT (((n4.blk.below c3).grown e3 o6 Do).below n8.below) n8.blk Do).below (Zb W9)).below (Zb W9.drew)
 have f9:=a4.ne d4
 have b2:=bln (bln (u9.below (bln d5 n8.below) g8) (Zb W9)) (Zb W9.drew)
 have j5:=a4.ge b2
 refine yc (.o [] 8) (args:=#[.slice (S1 g3) 1 1]) .z (Pi g3 f M0 M0 _ a4.blk) ?_
 rintro _ j8 ⟨_,rfl,a0,i6,h8,rfl,f5⟩
 have f0:=(bln b2 a4.below).size
 refine⟨a0,?_⟩
 have a1:=Za (Za (Za (Za (u9.own2 (Za o7 n8.below) n8.blk Do) (Zb W9)) (Zb W9.drew)) a4.below) a0
 have b9:=Zf f5 f0
 have e0:=bln (bln b2 a4.below) a0
 refine xbi (.r [9,10,11,12,13] 5) fun _ _ _ _ zJ zQ zo zx zy zK=>Zz (m:=4) (news:=(leB f 4).map bv) (.int .u8 0) 1 1 (12) ((leB n 8++leB f 4).map bv) zo Tryz.underlying50 K0 rfl Do zx a1 zy (Ze b9) (by simp[Zl]) (Xw _) (by unfold maxLen;omega) M0 e0.size (by rfl) (by simp) fun h7 h9 j7 g5 a3 e9=>?_
 refine zK _ _ ?_
 have e1:=(((((u9.blk (b3.below n8.below) d6).below (Zb W9)).below (Zb W9.drew)).below a4.below).below a0).grown a3 a1 Do
 refine xlv 24 (e1.rpp 6 3) ?_
 refine xa 0 [V0 0,V0 0,V0 0] 298 fun j4 j0 a2=>?_
 have f8:=a2.ne e1
 have f7:=(((((u9.blk (d7.below n8.below) c8).below (Zb W9)).below (Zb W9.drew)).below a4.below).below a0).grown a3 a1 Do
 have f4:=a2.ne f7
 have f2:=((c5.below a4.below).below a0).grown a3 a1 Do
 have f6:=a2.ne f2
 have c9:=e0.trans e9
 have i4:=a2.ge c9
 refine xsv 1 a2.blk [V0 4,V0 0,V0 960] fun a5 d3 g7=>?_
 refine xd 4 .z ?_
 have a9:=(d3.blkT ((((d1.below a4.below).below a0).grown a3 a1 Do).below a2.below) a2.blk Do).below (Zb a5)
 refine xb (.e [0,1,2] 3) 2 a9 ?_
 have a6:=g7.below (Zb a5)
 refine xb (.e [4] 5) 1 a6 ?_
 refine xgk (.b [6,7]) [23,24] (show(decide (g<(0:Int)):Bool)=false from decide_eq_false M0) ?_
 refine xb (.e [8,9,10] 11) 2 a9 ?_
 refine xb (.e [12] 13) 2 a6 ?_
 refine xk (.r [14,15] 2) (show(decide (g>(960:Int)):Bool)=false from decide_eq_false M0) ?_
 refine xd 3 .z ?_
 have d8:=a6.below (Zb a5.drew)
 refine xb (.e [0] 1) 0 d8 ?_
 have e4:=a9.below (Zb a5.drew)
 refine xb (.e [2,3,4] 5) 2 e4 ?_
 refine xbs (.o [6] 7) 1 [V0 4,V0 g] 178 fun g2 j6 b0=>?_
 have e6:=((d3.blkT ((((d4.below a4.below).below a0).grown a3 a1 Do).below a2.below) a2.blk Do).below (Zb a5)).below (Zb a5.drew)
 have f1:=b0.ne e6
 have d9:=((d3.blkT (((a4.blk.below a0).grown a3 a1 Do).below a2.below) a2.blk Do).below (Zb a5)).below (Zb a5.drew)
 have e2:=b0.ne d9
 have a8:=bln (bln (d3.below (bln c9 a2.below) i4) (Zb a5)) (Zb a5.drew)
 have j9:=b0.ge a8
 refine yc (.o [] 8) (args:=#[.slice (S1 g2) 1 1]) .z (Pi g2 g M0 M0 _ b0.blk) ?_
 rintro _ k0 ⟨_,rfl,c0,i2,i8,rfl,e5⟩
 have g0:=(bln a8 b0.below).size
 refine⟨c0,?_⟩
 have c4:=Za (Za (Za (Za (d3.own2 (Za g5 a2.below) a2.blk Do) (Zb a5)) (Zb a5.drew)) b0.below) c0
 have b5:=Zf e5 g0
 have d2:=bln (bln a8 b0.below) c0
 refine xbi (.r [9,10,11,12,13] 5) fun _ _ _ _ zJ zQ zo zx zy zK=>Zz (m:=4) (news:=(leB g 4).map bv) (.int .u8 0) 1 1 (16) ((leB n 8++leB f 4++leB g 4).map bv) zo Tryz.underlying50 K0 rfl Do zx c4 zy (Ze b5) (by simp[Zl]) (Xw _) (by unfold maxLen;omega) M0 d2.size (by rfl) (by simp) fun g9 i3 j3 h0 g6 f3=>?_
 refine zK _ _ ?_
 refine xcv0 24 (fun _ _ _ zo zx=>Wl zo zx (Qf (Ze h0) (by simp[Zl])) (by simp[Zl]) Tryz.underlying50 Tryz.underlying5 Tryz.underlying9) ?_
 have e7:=d2.trans f3
 exact xe 4 (.string ⟨(leB n 8++leB f 4++leB g 4).toArray⟩) ⟨rfl,e7⟩
theorem Qq(n f g:Int)(h1:1≤n)(h2:n≤14399)(h3:0≤f)(h4:f≤960)(h5:0≤g)(h6:g≤960)(w:World) :
 C0 156 #[.agg #[V0 n,V0 f,V0 g]] w (Ret (.string ⟨(leB n 8++leB f 4++leB g 4).toArray⟩) w):=by
 refine zin 12 Tryz.func156 ?_
 refine xa 2 [V0 n,V0 f,V0 g] 126 fun b1 W1 n1=>?_
 refine xd 4 .z ?_
 have k1:=n1.blk.below (Zb W1)
 refine xb (.e [1] 2) 0 k1 ?_
 refine xb (.e [3] 4) 1 k1 ?_
 refine xb (.e [5] 6) 2 k1 ?_
 refine xm2 0 0 7 ?_ ?_
 ·refine yc 0 (args:=#[]) .z (Ny _) ?_
  rintro _ W2 ⟨_,rfl,a2,gl,rfl,gg,kl⟩
  refine⟨a2,?_⟩
  refine xbs (.o [] 7) 3 [V0 n,V0 f,V0 g] 3 fun b3 W3 n3=>?_
  have a0:=kl.below n3.below
  refine xr (.o [] 8) (args:=#[.slice (S1 gl) 3 3,.slice (S1 b3) 3 3]) (He gl b3 n f g h1 h2 h3 h4 h5 h6 _ a0 n3.blk) fun W4 a4=>?_
  have hB:=bln (bln (bln (bln n1.below (Zb W1)) a2) n3.below) a4
  exact xe (.r [9] 3) (.string ⟨(leB n 8++leB f 4++leB g 4).toArray⟩) ⟨rfl,hB⟩
 refine xbs 0 3 [V0 n,V0 f,V0 g] 3 fun b5 W5 n5=>?_
 refine yc (.o [] 0) (args:=#[]) .z (Ny _) ?_
 rintro _ W6 ⟨_,rfl,a1,gl,rfl,gg,kl⟩
 refine⟨a1,?_⟩
 have k5:=n5.blk.below a1
 refine xr (.o [] 8) (args:=#[.slice (S1 gl) 3 3,.slice (S1 b5) 3 3]) (He gl b5 n f g h1 h2 h3 h4 h5 h6 _ kl k5) fun W7 a3=>?_
 have hB:=bln (bln (bln (bln n1.below (Zb W1)) n5.below) a1) a3
 exact xe (.r [9] 3) (.string ⟨(leB n 8++leB f 4++leB g 4).toArray⟩) ⟨rfl,hB⟩
def slB (x:Nat×Nat×Nat):Bi:=leB (x.1:Int) 8++leB (x.2.1:Int) 4++leB (x.2.2:Int) 4
theorem slB_len(x:Nat×Nat×Nat):(slB x).length=16:=by simp[slB,Zl]
def idxP(S:List (Nat×Nat×Nat))(i:Nat):Bi:=leB (S.length:Int) 4++(List.range i).flatMap fun j=>slB (S.getD j rsD)
theorem Cw(S:List (Nat×Nat×Nat))(i:Nat):idxP S (i+1)=idxP S i++slB (S.getD i rsD):=by simp[idxP,C6]
theorem Fw(S:List (Nat×Nat×Nat)):∀ i,(idxP S i).length=4+i*16
 | 0=>by simp[idxP,Zl]
 | i+1=>by rw[Cw,A1,Fw S i,slB_len];omega
def idxB(S:List (Nat×Nat×Nat)):Bi:=idxP S S.length++List.replicate (244-(4+S.length*16)) 0
theorem Rk{S:List (Nat×Nat×Nat)}(h:S.length≤15):(idxB S).length=244:=by unfold idxB;rw[A1,Fw,A8];omega
def Fd(S:List (Nat×Nat×Nat)):Prop:=S.length≤14∧∀ i,i<S.length→1≤(S.getD i rsD).1∧(S.getD i rsD).1≤14399∧(S.getD i rsD).2.1≤960∧(S.getD i rsD).2.2≤960
theorem slB_ne(x:Nat×Nat×Nat):((⟨(leB (x.1:Int) 8++leB (x.2.1:Int) 4++leB (x.2.2:Int) 4).toArray⟩:ByteArray).toList==(⟨#[]⟩:ByteArray).toList)=false:=by
 rw[show(⟨#[]⟩:ByteArray)=⟨([]:Bi).toArray⟩ from rfl,str_beq]
 apply beq_false_of_ne
 intro q
 have h1:=congrArg List.length q
 simp[Zl] at h1
theorem Oz(a:O0)(c:Nat)(S:List (Nat×Nat×Nat))(w:World)(hS:Fd S)(h:Sts rsC w (.slice a S.length c) S) :
 C0 160 #[.slice a S.length c] w (Qh (fun w' r=>∃ p c,r=.tuple #[.slice p 244 c,V0 0]∧w'.ownsRow w.heap.size 5 1 (.slice p 244 c) 244 ((idxB S).map bv)) w):=by
 have c6:=hS.1
 refine zin 39 Tryz.func160 ?_
 refine xk 14 (show(decide ((S.length:Int)>(15:Int)):Bool)=false from decide_eq_false M0) ?_
 refine xbs 7 1 [V0 4,V0 (S.length:Int)] 178 fun b1 W1 n1=>?_
 refine xc 0 (args:=#[.slice (S1 b1) 1 1]) (Pi b1 (S.length:Int) M0 M0 _ n1.blk) ?_
 rintro _ W2 ⟨_,rfl,b0,p2,c2,rfl,h2⟩
 have a6:=Zf h2 n1.below.size
 have hB:=bln n1.below b0
 have a5:=n1.blk.below b0
 refine zl 16 39 (fun zm b9 V=>∃ (i:Nat) (p4:O0) (c4:Nat),b9=[(4,.slice p4 (4+i*16) c4),(20,.slice a S.length c),(21,V0 (S.length:Int)),(22,V0 (i:Int))]∧zm=S.length-((i:Int)).toNat∧Bl w V∧Blk V b1 ([V0 4,V0 (S.length:Int)]) 178∧V.ownsRow w.heap.size 5 1 (.slice p4 (4+i*16) c4) (4+i*16) ((idxP S i).map bv)∧i≤S.length) ⟨0,p2,c2,rfl,rfl,hB,a5,(by simpa [idxP] using a6),A6 _⟩ ?_
 rintro _ _ W3 ⟨i,p4,c4,rfl,rfl,a0,a4,ho,hi⟩ J3 c0 r3
 refine xid 6 ((i:Int)<(S.length:Int)) (fun b6=>?_) (fun b6=>?_)
 ·refine xx 6 _ S.length i 3 (Sts.cell h Za8 rsD (k:=i) (i:=0) M0 rfl).1 ?_
  refine xlv 0 (Sts.rp (k:=i) (h.below a0) Za8 rsD M0 Do) ?_
  refine xa 0 [V0 0,V0 0,V0 0] 126 fun b5 W5 n5=>?_
  have g5:=n5.ge a0
  refine xsv 0 n5.blk [V0 (↑(S.getD i rsD).1:Int),V0 (↑(S.getD i rsD).2.1:Int),V0 (↑(S.getD i rsD).2.2:Int)] fun W6 u6 k6=>?_
  refine xlv 4 k6.rp ?_
  refine xr 0 (args:=#[.agg #[V0 (↑(S.getD i rsD).1:Int),V0 (↑(S.getD i rsD).2.1:Int),V0 (↑(S.getD i rsD).2.2:Int)]]) (Qq (↑(S.getD i rsD).1:Int) (↑(S.getD i rsD).2.1:Int) (↑(S.getD i rsD).2.2:Int) (by have:=hS.2 i M0;omega) (by have:=hS.2 i M0;omega) M0 (by have:=hS.2 i M0;omega) M0 (by have:=hS.2 i M0;omega) _) fun W7 a8=>?_
  refine xk 10 (show(((⟨(leB (↑(S.getD i rsD).1:Int) 8++leB (↑(S.getD i rsD).2.1:Int) 4++leB (↑(S.getD i rsD).2.2:Int) 4).toArray⟩:ByteArray).toList==(⟨#[]⟩:ByteArray).toList):Bool)=false from slB_ne _) ?_
  have a2:=Za (u6.own2 (Za ho n5.below) n5.blk Do) a8
  have a3:=bln (u6.below (bln a0 n5.below) g5) a8
  refine xbi 5 (t2:=9) fun _ _ _ _ zJ zQ zo zx zy zK=>Zc3 (leB (↑(S.getD i rsD).1:Int) 8++leB (↑(S.getD i rsD).2.1:Int) 4++leB (↑(S.getD i rsD).2.2:Int) 4) ((4+(i+1)*16)) ((idxP S (i+1)).map bv) zo Tryz.underlying50 Tryz.underlying9 K0 zx a2 zy (by simp[Zl];omega) a3.size (by simp[Zl];omega) (by simp[Cw,slB]) fun c1 c5 W8 o8 b2 b7=>?_
  refine zK _ _ ?_
  refine xwm 5 ((i:Int)+1) (↑(i+1):Int) ?_
  have a7:=a3.trans b7
  have a1:=((u6.blkT (a4.below n5.below) n5.blk Do).below a8).grown b2 a2 Do
  exact ze 2 (c0 _ _ _ ⟨i+1,_,_,rfl,rfl,a7,a1,o8,by omega⟩ M0)
 refine xwm 10 (244-(↑(4+i*16):Int)) (↑(244-(4+i*16)):Int) ?_
 refine xbi 0 (t2:=3) fun _ _ _ _ zJ zQ zo zx zy zK=>op_appZo (kq:=.i64) (244-(4+i*16)) (244) ((idxB S).map bv) zo Tryz.underlying50 Tryz.underlying3 K0 zx ho zy M0 M0 a0.size M0 (by rw[show i=S.length by omega];unfold idxB;rw[B6,K8];rfl) fun b3 b4 W9 o9 c3 b8=>?_
 refine zK _ _ ?_
 have a9:=a0.trans b8
 exact xe 5 (.tuple #[.slice b3 244 b4,V0 0]) ⟨_,rfl,a9,_,_,rfl,o9⟩
def Yd(l:List Int)(f n:Nat):List Int:=(List.range l.length).map fun i=>l.getD i 0+(if f≤i∧i<f+n then 1 else 0)
theorem Ym(l:List Int)(f n:Nat):(Yd l f n).length=l.length:=by simp[Yd]
theorem Cx{l:List Int}{f n i:Nat}(h:i<l.length):(Yd l f n).getD i 0=l.getD i 0+(if f≤i∧i<f+n then 1 else 0):=by simp[Yd,List.getD,B5 h]
theorem It(l:List Int)(f:Nat):Yd l f 0=l:=by
 apply H9 (by simp[Yd])
 intro i h1 h2
 simp[Yd,List.getD,h2]
 omega
theorem Zci{l:List Int}{f j:Nat}(h:f+j<l.length):((Yd l f j).map V0).set (f+j) (V0 (l.getD (f+j) 0+1))=(Yd l f (j+1)).map V0:=by
 apply F4
 intro i
 by_cases hi:i<l.length
 ·by_cases e:f+j=i
  ·subst e
   rw[I6 (by simp[Ym];exact h)]
   simp[Yd,B5 h]
  ·rw[J0 e]
   have hc:(f≤i∧i<f+j)↔(f≤i∧i<f+(j+1)):=by omega
   simp only[Yd,B7,B5 hi,C5]
   by_cases q:f≤i∧i<f+j
   ·rw[if_pos q,if_pos (hc.1 q)]
   ·rw[if_neg q,if_neg (fun z=>q (hc.2 z))]
 ·rw[C3 (by simp[Ym];omega),C3 (by simp[Ym];omega)]
def Zb8(l:List Int)(f:Int):Prop:=∀ i,i<l.length→(f≤(i:Int)→l.getD i 0=0)∧l.getD i 0≤1073741824
theorem Re{l:List Int}{f n:Nat}(h:Zb8 l (f:Int))(hc:∀ k,k<l.length→Ks (l.getD k 0)):∀ k,k<(Yd l f n).length→Ks ((Yd l f n).getD k 0):=by
 intro k hk
 rw[Ym] at hk
 rw[Cx hk]
 have h1:=(h k hk).2
 have h2:=hc k hk
 unfold Ks at h2 ⊢
 split<;>omega
def Xy(l:List Int):Nat:=Zy 5 (Zh l l.length).length+bmN l.length+1
theorem Mj{w:World}{b:O0}{n c f N k i:Nat}(h:Sl w (.slice b n c) n ((((Np f N).drop k).take n).map V0))(hn:k+n≤N)(hi:i<n):b.isSome=true∧w.cell? (Zr b (i*1))=some (V0 ((f+k+i:Nat):Int)):=by
 have a0:(((Np f N).drop k).take n).length=n:=by simp[Np];omega
 have h1:=IntsN.elem h a0 hi
 have e:(((Np f N).drop k).take n).getD i 0=((f+k+i:Nat):Int):=by
  have h2:=Sr (f:=f) (N:=N) (k:=k+i) M0
  rw[←D7] at h2
  rw[←h2]
  simp only[List.getD,Ge,E3,if_pos hi]
 rwa [e] at h1
def Il(l:List Int)(f k0:Nat)(bs:Bi):Int×Int×Bi:=(((f+k0+(Zy 5 (Zh l l.length).length)+(bmN (Yd l (f+k0) (Xy l)).length)):Nat),(Vk 5 (Zh l l.length) (f+k0) bs).1,Vy (Kn (Xa (Zi (Yd l (f+k0) (Xy l))) (bmN (Yd l (f+k0) (Xy l)).length)) (f+k0+(Zy 5 (Zh l l.length).length)) (Vk 5 (Zh l l.length) (f+k0) bs).2 (bmN (Yd l (f+k0) (Xy l)).length)) ((f+k0+(Zy 5 (Zh l l.length).length)+(bmN (Yd l (f+k0) (Xy l)).length))*256) (Wc 4 (((f+k0+(Zy 5 (Zh l l.length).length)+(bmN (Yd l (f+k0) (Xy l)).length)):Nat):Int) (idxB (Rs (Xa (Zi (Yd l (f+k0) (Xy l))) (bmN (Yd l (f+k0) (Xy l)).length)) (f+k0+(Zy 5 (Zh l l.length).length)) (bmN (Yd l (f+k0) (Xy l)).length)))))
theorem Ri(l:List Int)(q n:Nat):bmN (Yd l q n).length=bmN l.length:=by rw[Ym]
theorem Pm{w:World}{b:O0}{n c q i:Nat}{l:List Int}(h:Sl w (.slice b n c) n ((Yd l q i).map V0))(hn:l.length=n)(hi:q+i<n):b.isSome=true∧w.cell? (Zr b ((q+i)*1))=some (V0 (l.getD (q+i) 0)):=by
 have h1:=IntsN.elem h (by rw[Ym];exact hn) hi
 rw[Cx M0,if_neg M0,Int.add_zero] at h1
 exact h1
end Go.Proofs.YtekomodnkfhihaaGreatDoor
namespace Go.Proofs.YtekomodnkfhihaaGreatDoor
set_option maxHeartbeats 8000000
set_option maxRecDepth 100000
open Go.RowKit Go.Extern.Stop Go.Stop Go.Extern
set_option linter.unusedVariables false
attribute [local irreducible] wpList wpAnyH Code.wp Oper.wp Go
section
variable {P:Program} {a:Act}
theorem shl_bd{n:Int}(h:0≤n∧n≤3){s:Nat}(hs:s≤6):0≤n*2 ^ s∧n*2 ^ s≤192:=by
 obtain rfl|rfl|rfl|rfl:n=0∨n=1∨n=2∨n=3:=by omega
 all_goals obtain rfl|rfl|rfl|rfl|rfl|rfl|rfl:s=0∨s=1∨s=2∨s=3∨s=4∨s=5∨s=6:=by omega
 all_goals decide
theorem run_shlS{o:Oper}{t t2:TypeId}{x y:Operand}{n:Int}{s:Nat}{j:Int}{kj:IntKind}(ho:o.op=.binOp .shl t x y t2)(hx:a.eval x=V0 n)(hy:a.eval y=.int kj j)(hj:j=(s:Int))(hn:0≤n∧n≤3)(hs:s≤6)(w:World):(execOp a.eval o).run P w=.ok (.value (V0 (n*2 ^ s))) w:=by
 subst hj
 have e:=shift_shl .i64 kj n (s:Int) (F9 s) (by show(s:Int)≤64;omega)
 rw[show((s:Int)).toNat=s from by omega] at e
 have hb:=shl_bd hn hs
 rw[IntWalk.i64_in _ M0] at e
 simp only[execOp,ho,hx,hy,eqGuard_shl,binOp_shl,e]
 simp
end
section
variable {P:Program} {fn:Func} {R:Ending→World→Prop} {w:World} {s:Zs}
theorem xbot(q:Zq){b:BinOp}{t t2:TypeId}{u1 u2 v:Value}(hv:∀ (a:Act) (o:Oper) (x y:Operand),o.op=.binOp b t x y t2→a.eval x=u1→a.eval y=u2→∀ V,True→(execOp a.eval o).run P V=.ok (.value v) V)(g:Go P fn R (znx (zq P q s) v) w)(h:zk (zq P q s)=some (.bn b t t2 u1 u2):=by kernel_rfl):Go P fn R s w:=by
 refine Zn q s ?_
 obtain⟨o,ho,h⟩:=Xz h
 exact Ff ho (fun V _=>by
  obtain⟨x,y,h1,h2,h3⟩:=Gj h
  exact hv _ o x y h1 h2 h3 V trivial) g
end
theorem u8_shl{n:Int}(h:0≤n∧n≤3){s:Nat}(hs:s≤6):IntKind.u8.wrap (n*2 ^ s)=n*2 ^ s:=by
 have hb:=shl_bd h hs
 generalize n*2 ^ s=m at *
 simp[IntKind.wrap,IntKind.bits,IntKind.signed];omega
theorem bitsT_at(l:List Int)(i:Nat){k:Nat}(hk:k<240):(Hs l i).getD (4+k) 0=g4B l i k:=by
 unfold Hs
 rw[List.getD,List.getElem?_append_right (by rw[Zl];omega),Zl,Nat.add_sub_cancel_left]
 simp[hk]
theorem bits_or{l:List Int}(h:Jh l){i:Nat}(hi:i<960):IntKind.u8.wrap (↑(BitVec.ofInt 8 (↑((Hs l i).getD (4+(i/4)) 0).toNat:Int) ||| BitVec.ofInt 8 (l.getD i 0*2 ^ ((i%4)*2))).toNat:Int)=((g4B l (i+1) (i/4)).toNat:Int):=by
 rw[bitsT_at l i M0]
 obtain⟨h1,h2⟩:=g4B_at h (i:=i)
 rw[h1]
 obtain⟨n,hn⟩:∃ n:Nat,l.getD i 0=n:=⟨(l.getD i 0).toNat,by have:=(Hh h i).1;omega⟩
 have hb:=Hh h i
 rw[hn] at hb ⊢
 generalize (g4B l i (i/4)).toNat=o at *
 have hr:i%4<4:=by omega
 generalize i%4=r at *
 have ho:o<64:=C1 h2 (by
  obtain rfl|rfl|rfl|rfl:r=0∨r=1∨r=2∨r=3:=by omega
  all_goals decide)
 have hs:=or_step ⟨r,hr⟩ ⟨n,by omega⟩ ⟨o,ho⟩ h2
 simp only at hs
 have e4:(4:Nat) ^ r=2 ^ (r*2):=by rw[Nat.mul_comm,Nat.pow_mul]
 have e:((n:Int)*2 ^ (r*2))=((n*4 ^ r:Nat):Int):=by rw[e4];simp
 have e':((n:Int)*4 ^ r)=((n*4 ^ r:Nat):Int):=by simp
 have hm:n*4 ^ r≤192:=by
   have h3:4 ^ r≤64:=by
    obtain rfl|rfl|rfl|rfl:r=0∨r=1∨r=2∨r=3:=by omega
    all_goals decide
   calc n*4 ^ r≤3*64:=Nat.mul_le_mul M0 h3
     _=192:=rfl
 rw[e,e',D3,D3,BitVec.toNat_or,D9,D9,E0 M0,E0 M0,hs]
 generalize n*4 ^ r=m at *
 simp[IntKind.wrap,IntKind.bits,IntKind.signed];omega
theorem bits_set{l:List Int}{i:Nat}(hi:i<960):((Hs l i).map bv).set (4+(i/4)) (.int .u8 ((g4B l (i+1) (i/4)).toNat:Int))=(Hs l (i+1)).map bv:=by
 rw[show Value.int .u8 ((g4B l (i+1) (i/4)).toNat:Int)=bv (g4B l (i+1) (i/4)) from rfl,←List.map_set]
 congr 1
 unfold Hs
 rw[List.set_append_right _ _ (by rw[Zl];omega),Zl,Nat.add_sub_cancel_left]
 congr 1
 apply H9
 ·simp
 ·intro k h1 h2
  rw[List.getElem_set]
  split
  ·rename_i e;subst e;simp
  ·rename_i e;simp only[List.getElem_map,List.getElem_range];unfold g4B;rw[g4_ne M0]
theorem bits0(l:List Int):((List.replicate 244 (0:UInt8)).map bv).take 0++(leB (l.length:Int) 4).map bv++((List.replicate 244 (0:UInt8)).map bv).drop (0+4)=(Hs l 0).map bv:=by
 unfold Hs
 rw[B6,List.take_zero,G5]
 congr 1
theorem BysN.elem{w:World}{b:O0}{n c:Nat}{l:Bi}(h:Sl w (.slice b n c) n (l.map bv))(hl:l.length=n){k:Nat}(hk:k<n):b.isSome=true∧w.cell? (Zr b (k*1))=some (.int .u8 ((l.getD k 0).toNat:Int)):=by
 subst hl;exact Bys.elem (Qf h rfl) hk
theorem Zao(n:Int)(w:World)(h0:0≤n)(h3:n≤3) :
 C0 262 #[V0 n] w (Ret (.bool false) w):=by
 refine zin 9 Tryz.func262 ?_
 refine xgk 10 [4,5] (show(decide (n<(0:Int)):Bool)=false from decide_eq_false M0) ?_
 refine xe 7 (.bool (decide (n>(3:Int)))) ?_
 rw[show decide (n>(3:Int))=false from decide_eq_false M0];exact⟨rfl,(B3 w)⟩
theorem Aq(a:O0)(c:Nat)(l:List Int)(w:World)(hS:Jh l)(hl:l.length≤960)(h:Sl w (.slice a l.length c) l.length (l.map V0)) :
 C0 144 #[.slice a l.length c,.func (.func 262) #[] #[]] w (Ret (V0 (-1)) w):=by
 refine zin 19 Tryz.func144 ?_
 have hB:=Below.refl w.heap.size w
 refine zl 14 19 (fun zm a3 V=>∃ (i:Nat),a3=[(0,.slice a l.length c),(1,.func (.func 262) #[] #[]),(7,V0 (l.length:Int)),(8,V0 (i:Int))]∧zm=l.length-((i:Int)).toNat∧Bl w V∧i≤l.length) ⟨0,rfl,rfl,hB,A6 _⟩ ?_
 rintro _ _ W1 ⟨i,rfl,rfl,a0,hi⟩ J1 a4 r1
 refine xid 6 ((i:Int)<(l.length:Int)) (fun a5=>?_) (fun a5=>?_)
 ·refine xx 15 _ l.length i 1 (Ints.elem h (k:=i) M0).1 ?_
  refine xl 0 ((Ints.elem (h.below a0) (k:=i) M0).2) ?_
  refine xr 0 (args:=#[V0 (l.getD i 0)]) (Zao (l.getD i 0) _ (Hh hS i).1 (Hh hS i).2) fun W3 a2=>?_
  refine xwm 7 ((i:Int)+1) (↑(i+1):Int) ?_
  have a1:=bln a0 a2
  exact ze 2 (a4 _ _ _ ⟨i+1,rfl,rfl,a1,by omega⟩ M0)
 exact xe 11 (V0 (-1)) ⟨rfl,a0⟩
theorem Lc(a:O0)(c:Nat)(l:List Int)(w:World)(hS:Jh l)(hl:l.length≤960)(h:Sl w (.slice a l.length c) l.length (l.map V0)) :
 C0 83 #[.slice a l.length c,.func (.func 262) #[] #[]] w (Ret (.bool false) w):=by
 refine zin 9 Tryz.func83 ?_
 refine xr 9 (args:=#[.slice a l.length c,.func (.func 262) #[] #[]]) (Aq a c l _ hS hl (h.below (B3 w))) fun W1 a0=>?_
 exact xe 5 (.bool false) ⟨rfl,a0⟩
theorem Cm(a:O0)(c:Nat)(l:List Int)(w:World)(hl:l.length≤960)(h:Sl w (.slice a l.length c) l.length (l.map V0)) :
 C0 200 #[.slice a l.length c] w (Ret (.tuple #[V0 (↑(Xl l):Int),V0 (↑(Zx l):Int)]) w):=by
 refine zin 27 Tryz.func200 ?_
 have hB:=Below.refl w.heap.size w
 refine zl 23 27 (fun zm a5 V=>∃ (i f g:Nat),a5=[(2,V0 0),(3,V0 0),(4,V0 (f:Int)),(5,V0 (g:Int)),(10,.slice a l.length c),(11,V0 (l.length:Int)),(12,V0 (i:Int))]∧zm=l.length-((i:Int)).toNat∧Bl w V∧i≤l.length∧f=Th l i∧((f=0∧g=l.length∧∀ j,j<i→l.getD j 0≠0)∨(0<f∧g=Zx l))) ⟨0,0,l.length,rfl,rfl,hB,A6 _,rfl,?_⟩ ?_
 ·exact .inl ⟨rfl,rfl,fun j hj=>absurd hj M0⟩
 rintro _ _ W1 ⟨i,f,g,rfl,rfl,a0,hi,hf,hg⟩ J1 a2 r1
 have a3:=fun(q:i<l.length)=>Td q
 have a8:=Wo l i
 refine xid 6 ((i:Int)<(l.length:Int)) (fun a7=>?_) (fun a7=>?_)
 ·refine xx 7 _ l.length i 1 (Ints.elem h (k:=i) M0).1 ?_
  refine xl 0 ((Ints.elem (h.below a0) (k:=i) M0).2) ?_
  refine xin 11 (l.getD i 0) (0:Int) (fun a4=>?_) (fun a4=>?_)
  ·refine xwm 5 ((i:Int)+1) (↑(i+1):Int) ?_
   exact ze 2 (a2 _ _ _ ⟨i+1,f,g,rfl,rfl,a0,by omega,by rw[a3 M0,if_neg (by assumption)];exact hf,hg.elim (fun⟨h1,h2,h3⟩=>.inl ⟨h1,h2,fun j hj=>(E6 j i).elim (fun q=>h3 j q) (fun q=>by obtain rfl:j=i:=M0;assumption)⟩) .inr⟩ M0)
  refine xie 9 (f:Int) (0:Int) (fun a6=>?_) (fun a6=>?_)
  ·refine xwm 7 ((f:Int)+1) (↑(f+1):Int) ?_
   refine xwm 5 ((i:Int)+1) (↑(i+1):Int) ?_
   exact ze 2 (a2 _ _ _ ⟨i+1,f+1,i,rfl,rfl,a0,by omega,by rw[a3 M0,if_pos (by assumption),hf],.inr ⟨by omega,hg.elim (fun⟨_,_,h3⟩=>(Oy M0 (by assumption) h3).symm) (fun q=>absurd q.1 M0)⟩⟩ M0)
  refine xwm 4 ((f:Int)+1) (↑(f+1):Int) ?_
  refine xwm 5 ((i:Int)+1) (↑(i+1):Int) ?_
  exact ze 2 (a2 _ _ _ ⟨i+1,f+1,g,rfl,rfl,a0,by omega,by rw[a3 M0,if_pos (by assumption),hf],.inr ⟨by omega,hg.elim (fun⟨h1,_,_⟩=>absurd h1 M0) (fun q=>q.2)⟩⟩ M0)
 refine xe 14 (.tuple #[V0 (f:Int),V0 (g:Int)]) ?_
 obtain rfl:i=l.length:=by omega
 have a1:f=Xl l:=hf
 rcases hg with ⟨h1,h2,h3⟩|⟨h1,h2⟩
 ·exact⟨by rw[a1,h2,Dw h3],a0⟩
 ·exact⟨by rw[a1,h2],a0⟩
theorem Rp(a:O0)(c:Nat)(l:List Int)(w:World)(hS:Jh l)(hl:l.length≤960)(h:Sl w (.slice a l.length c) l.length (l.map V0)) :
 C0 219 #[.slice a l.length c] w (Qh (fun w' r=>∃ g,r=.tuple #[.slice (S1 g) 244 244,V0 0]∧w'.ownsRow w.heap.size 5 1 (.slice (S1 g) 244 244) 244 ((bitsB l).map bv)) w):=by
 refine zin 51 Tryz.func219 ?_
 refine xgk 13 [11,12] (show(decide ((l.length:Int)>(960:Int)):Bool)=false from decide_eq_false M0) ?_
 refine xr 1 (args:=#[.slice a l.length c,.func (.func 262) #[] #[]]) (Lc a c l _ hS hl (h.below (B3 w))) fun W2 a8=>?_
 refine xbs 11 1 [V0 4,V0 (l.length:Int)] 178 fun b3 W3 n3=>?_
 refine xc 0 (args:=#[.slice (S1 b3) 1 1]) (Pi b3 (l.length:Int) M0 M0 _ n3.blk) ?_
 rintro _ W4 ⟨_,rfl,a6,p2,c2,rfl,h2⟩
 have c0:=(bln a8 n3.below).size
 refine xmk 9 fun _ _ _ _ zJ zQ zo zx zy zK=>Ka 244 (.int .u8 0) 1 1 ((List.replicate 244 (0:UInt8)).map bv) zo zx zy Tryz.underlying50 K0 rfl M0 M0 (Cy 244) fun b5 W5 n5=>?_
 have a5:=Zf h2 c0
 have b2:=Zg a5 n5
 refine zK _ _ ?_
 have o5:=Xg (size:=1) (n:=244) n5.blk (n5.ge (bln (bln a8 n3.below) a6)) (by rw[A0,A8]) (by unfold maxLen;omega)
 have b1:=Za a5 n5.below
 have hB:=bln (bln (bln a8 n3.below) a6) n5.below
 refine xbi 7 (t2:=50) fun _ _ _ _ zJ zQ zo zx zy zK=>Jd (dLen:=244) (dCap:=244) (off:=0) 4 ((leB (l.length:Int) 4).map bv) ((Hs l 0).map bv) zo Tryz.underlying50 K0 zx zy (Ze b1) o5 (by simp[Zl]) M0 M0 (Xw _) hB.size (bits0 l) fun W6 o6 b4 b9=>?_
 refine zK _ _ ?_
 have a7:=hB.trans b9
 have b0:=((n3.blk.below a6).below n5.below).grown b4 o5 Do
 refine zl 11 51 (fun zm b8 V=>∃ (i:Nat),b8=[(2,S0),(3,V0 0),(6,.slice (S1 b5) 244 244),(28,.slice a l.length c),(29,V0 (l.length:Int)),(30,V0 (i:Int))]∧zm=l.length-((i:Int)).toNat∧Bl w V∧Blk V b3 ([V0 4,V0 (l.length:Int)]) 178∧V.ownsRow w.heap.size 5 1 (.slice (S1 b5) 244 244) 244 ((Hs l i).map bv)∧i≤l.length) ⟨0,rfl,rfl,a7,b0,o6,A6 _⟩ ?_
 rintro _ _ W7 ⟨i,rfl,rfl,a3,a4,ho,hi⟩ J7 b7 r7
 refine xid 6 ((i:Int)<(l.length:Int)) (fun b6=>?_) (fun b6=>?_)
 ·refine xx 7 _ l.length i 1 (Ints.elem h (k:=i) M0).1 ?_
  refine xl 0 ((Ints.elem (h.below a3) (k:=i) M0).2) ?_
  refine xd 4 (.t w.heap.size [5]) ?_
  refine xq (.e [0,1] 2) (congrArg V0 (show(IntKind.i64.wrap (Int.tdiv (i:Int) 4):Int)=(↑(i/4):Int) from Ry i 4 M0 Do)) ?_
  refine xwm (.e [] 3) (4+(↑(i/4):Int)) (↑(4+(i/4)):Int) ?_
  refine xx (.e [] 4) _ 244 (4+(i/4)) 1 (show(some (⟨b5,0,none⟩:Addr)).isSome=true from rfl) ?_
  refine xq (.e [6,7] 8) (congrArg V0 (show(Int.tmod (i:Int) 4:Int)=(↑(i%4):Int) from Zbp i 4)) ?_
  refine xwm (.e [] 9) ((↑(i%4):Int)*2) (↑((i%4)*2):Int) ?_
  refine xbot (.e [] 10) (t:=3) (t2:=3) (fun _ _ _ _ zo zx zy V hV=>run_shlS (n:=(l.getD i 0)) (s:=((i%4)*2)) (kj:=.i64) (j:=(↑((i%4)*2):Int)) zo zx zy rfl (Hh hS i) M0 V) ?_
  refine xq (.e [] 11) (congrArg (Value.int .u8) (show(IntKind.u8.wrap (l.getD i 0*2 ^ ((i%4)*2)):Int)=l.getD i 0*2 ^ ((i%4)*2) from u8_shl (Hh hS i) M0)) ?_
  have a1:=Za ho (Zb W7)
  refine xl (.o [] 5) ((BysN.elem (Ze a1) (Kr l i) (k:=(4+(i/4))) M0).2) ?_
  refine xq (.e [] 12) (congrArg (Value.int .u8) (show(IntKind.u8.wrap (↑(BitVec.ofInt 8 (↑((Hs l i).getD (4+(i/4)) 0).toNat:Int) ||| BitVec.ofInt 8 (l.getD i 0*2 ^ ((i%4)*2))).toNat:Int):Int)=(↑(g4B l (i+1) (i/4)).toNat:Int) from bits_or hS M0)) ?_
  refine xx (.e [] 13) _ 244 (4+(i/4)) 1 (show(some (⟨b5,0,none⟩:Addr)).isSome=true from rfl) ?_
  refine yst (.o [] 14) (.t w.heap.size [5]) fun _ _ _ _ zJ zQ zo zx zy zK=>Yh (t:=5) (k:=(4+(i/4))) (v:=.int .u8 (↑(g4B l (i+1) (i/4)).toNat:Int)) zo zx zy K0 rfl a1 M0 fun W9 u9 o9=>?_
  rw[bits_set (l:=l) (i:=i) M0] at o9
  have a0:=a4.below (Zb W7)
  refine zK _ _ (Jr (T:=[5]) (u9.below (Below.refl _ _) (Va a1)) (Zd.of_updRow u9 a1 Do)) ?_
  refine xwm 4 ((i:Int)+1) (↑(i+1):Int) ?_
  have a9:=u9.below (bln a3 (Zb W7)) (Va a1)
  have a2:=u9.blk a0 (Xd a0 a1 Do)
  exact ze 2 (b7 _ _ _ ⟨i+1,rfl,rfl,a9,a2,o9,by omega⟩ M0)
 refine xe 13 (.tuple #[.slice (S1 b5) 244 244,V0 0]) ?_
 obtain rfl:i=l.length:=by omega
 exact⟨_,rfl,a3,_,rfl,ho⟩
theorem Ga(p:Addr)(N c:Nat)(xs:List Value)(w:World)(h:Sl w (.slice (some p) N c) N xs)(hl:xs.length=N)(h1:∀ u∈xs,u.oneCell'=true)(hn:N≤1000000) :
 C0 135 #[.slice (some p) N c] w (Qh (fun w' r=>∃ q c2,r=.slice q N c2∧w'.ownsRow w.heap.size 3 1 (.slice q N c2) N xs) w):=by
 refine zin 8 Tryz.func135 ?_
 refine xb0 17 3 fun b1 W1 n1=>?_
 have o1:=Xg (size:=1) (n:=0) n1.blk (n1.ge (B3 w)) rfl Do
 refine xbi 1 fun _ _ _ _ zJ zQ zo zx zy zK=>Zz (m:=N) (news:=xs) (V0 0) 1 8 (N) (xs) zo Tryz.underlying27 K0 rfl Do zx o1 zy (h.below n1.below) (by rw[hl,D0]) h1 (by unfold maxLen;omega) M0 n1.below.size M0 (by rfl) fun a1 a3 W2 o2 a4 a2=>?_
 refine zK _ _ ?_
 have a0:=n1.below.trans a2
 exact xe 4 (.slice a1 N a3) ⟨_,rfl,a0,_,_,rfl,o2⟩
end Go.Proofs.YtekomodnkfhihaaGreatDoor
namespace Go.Proofs.YtekomodnkfhihaaGreatDoor
set_option maxHeartbeats 8000000
set_option maxRecDepth 100000
open Go.RowKit Go.Extern.Stop Go.Stop Go.Extern
set_option linter.unusedVariables false
attribute [local irreducible] wpList wpAnyH Code.wp Oper.wp Go
def ClosP(B Bx bl:Nat)(L:List (List Int))(q i:Nat)(w:World)(e:Ending)(w':World):Prop :=
 ∃ u p c,e=.returned u∧Below B w w'∧Zd [99,124] w w'∧Blk w' bl [.slice p (i+1) c] 99∧w'.ownsRow Bx 124 3 (.slice p (i+1) c) (i+1) ((Xj L q (i+1)).flatMap Qb)∧FrB Bx [bl] w w'
theorem Yy(L:List (List Int))(q i:Nat):(Xj L q i).flatMap Qb++[V0 (i:Int),.string ⟨(leB ((q+i:Nat):Int) 8++leB (Xl (L.getD i []):Int) 4++leB (Zx (L.getD i []):Int) 4).toArray⟩,V0 0]=(Xj L q (i+1)).flatMap Qb:=by
 rw[Eu];simp[Qb,Iv,slotB]
structure FrZ(Bx:Nat)(S:List Nat)(a w:World):Prop where
 fr:FrB Bx S a w
 le:Bx≤a.heap.size
theorem FrZ.refl{Bx:Nat}{S:List Nat}{w:World}(h:Bx≤w.heap.size):FrZ Bx S w w:=⟨⟨A3 _,fun _ _ _=>rfl⟩,h⟩
theorem FrZ.below{Bx:Nat}{S:List Nat}{a w W:World}(h:FrZ Bx S a w)(hb:Bl w W):FrZ Bx S a W:=⟨⟨N0 h.fr.1 hb.size,fun k hk hn=>(hb.block k (by have:=h.fr.1;have:=h.le;omega)).trans (h.fr.2 k hk hn)⟩,h.le⟩
theorem FrZ.upd{Bx b:Nat}{S:List Nat}{a w W:World}(h:FrZ Bx S a w)(u:Upd w b W)(hb:b∈S):FrZ Bx S a W:=⟨⟨N0 h.fr.1 (I4 u.size.symm),fun k hk hn=>(u.block k fun e=>hn (e▸hb)).trans (h.fr.2 k hk hn)⟩,h.le⟩
theorem FrZ.grown{Bx:Nat}{S:List Nat}{a w W:World}{size n:Nat}{e:TypeId}{v:Value}{xs:List Value}(h:FrZ Bx S a w)(hg:w.grownBy W v.ownBlock)(hown:w.ownsRow Bx e size v n xs):FrZ Bx S a W:=⟨⟨N0 h.fr.1 hg.size,fun k hk hn=>(hg.block k (by have:=h.fr.1;have:=h.le;omega) (fun e=>by have:=(hown.lt k e.symm).1;omega)).trans (h.fr.2 k hk hn)⟩,h.le⟩
theorem On(B Bx bl:Nat)(p:O0)(c:Nat)(L:List (List Int))(q i:Nat)(w:World)(hBm:B≤Bx)(hBx:Bx≤w.heap.size)(hBw:B≤w.heap.size)(hBl:B≤bl)(kl:Blk w bl [.slice p i c] 99)(hup:w.ownsRow Bx 124 3 (.slice p i c) i ((Xj L q i).flatMap Qb))(hq:1≤q+i)(hq2:q+i≤14399)(hi:i≤100000)(hf:Xl (L.getD i [])≤960)(hg:Zx (L.getD i [])≤960) :
 C0 155 #[.agg #[V0 (↑(q+i):Int),V0 (↑(Xl (L.getD i [])):Int),V0 (↑(Zx (L.getD i [])):Int)],P0 bl] w (ClosP B Bx bl L q i w):=by
 have hZ:FrZ Bx [bl] w w:=FrZ.refl hBx
 refine zin 11 Tryz.func155 ?_
 refine xa 2 [V0 (↑(q+i):Int),V0 (↑(Xl (L.getD i [])):Int),V0 (↑(Zx (L.getD i [])):Int)] 126 fun b1 W1 n1=>?_
 refine xd 2 (.t B [99,124]) ?_
 have k1:=n1.blk.below (Zb W1)
 refine xlvt (.e [] 3) (.t B [99,124]) (fun V hV=>(k1.only hV.2 Do).rp) ?_
 refine xm3 0 0 1 4 ?_ ?_ ?_
 ·have d3:=(kl.below n1.below).below (Zb W1)
  refine xb 0 0 d3 ?_
  refine xm2 0 1 4 ?_ ?_
  ·refine xb 0 0 d3 ?_
   refine xr (.o [2] 4) (args:=#[.agg #[V0 (↑(q+i):Int),V0 (↑(Xl (L.getD i [])):Int),V0 (↑(Zx (L.getD i [])):Int)]]) (Qq (↑(q+i):Int) (↑(Xl (L.getD i [])):Int) (↑(Zx (L.getD i [])):Int) M0 M0 M0 M0 M0 M0 _) fun W2 f0=>?_
   refine xbs (.o [5] 6) 1 [V0 (i:Int),.string ⟨(leB (↑(q+i):Int) 8++leB (↑(Xl (L.getD i [])):Int) 4++leB (↑(Zx (L.getD i [])):Int) 4).toArray⟩,V0 0] 124 fun b3 W3 n3=>?_
   have d6:=Za (Za (Za hup n1.below) (Zb W1)) f0
   have i5:=Zg d6 n3
   have a9:=Za d6 n3.below
   have hB:=blB (blB (blB (blB (Below.refl B w) hBw n1.below) hBw (Zb W1)) hBw f0) hBw n3.below
   refine ybi (.o [] 7) (.t B [99,124]) fun _ _ _ _ zJ zQ zo zx zy zK=>Zz (m:=1) (news:=[V0 (i:Int),.string ⟨(leB (↑(q+i):Int) 8++leB (↑(Xl (L.getD i [])):Int) 4++leB (↑(Zx (L.getD i [])):Int) 4).toArray⟩,V0 0]) (.agg #[V0 0,.string ⟨#[]⟩,V0 0]) 3 32 (i+1) ((Xj L q (i+1)).flatMap Qb) zo Tryz.underlying99 K0 rfl Do zx a9 zy (n3.blk.sl 1 1 Do Do) rfl (by simp[Value.oneCell']) (by unfold maxLen;omega) M0 (N0 hBx hB.size) (by rfl) (Yy L q i) fun m6 m9 W4 o4 h6 l5=>?_
   refine zK _ _ (Zu (l5.mono hBm) h6 a9 Do) ?_
   have c4:=((d3.below f0).below n3.below).grown h6 a9 Do
   refine ys (.o [] 8) c4 [.slice m6 (i+1) m9] (.t B [99,124]) fun W5 u5 k5=>⟨(Xf u5 c4 hBl Do),?_⟩
   have j9:=u5.below (hB.trans (l5.mono hBm)) hBl
   have hO:=(((((show Zd [99,124] w _ from(Zd.of_below n1.below)).trans (Zd.of_below (Zb W1))).trans (Zd.of_below f0)).trans (Zd.of_below n3.below)).trans (Zd.of_grown h6 a9 Do)).trans (Zd.of_upd u5 c4 Do)
   have i6:=u5.own2 o4 c4 Do
   have l0:=(((((hZ.below n1.below).below (Zb W1)).below f0).below n3.below).grown h6 a9).upd u5 (by simp)
   exact xe 1 (.tuple #[]) ⟨_,_,_,rfl,j9,hO,k5,i6,l0.fr⟩
  refine xr 0 (args:=#[.agg #[V0 (↑(q+i):Int),V0 (↑(Xl (L.getD i [])):Int),V0 (↑(Zx (L.getD i [])):Int)]]) (Qq (↑(q+i):Int) (↑(Xl (L.getD i [])):Int) (↑(Zx (L.getD i [])):Int) M0 M0 M0 M0 M0 M0 _) fun W6 g9=>?_
  have g6:=d3.below g9
  refine xb (.o [] 1) 0 g6 ?_
  refine xbs (.o [2,5] 6) 1 [V0 (i:Int),.string ⟨(leB (↑(q+i):Int) 8++leB (↑(Xl (L.getD i [])):Int) 4++leB (↑(Zx (L.getD i [])):Int) 4).toArray⟩,V0 0] 124 fun b7 W7 n7=>?_
  have d8:=Za (Za (Za hup n1.below) (Zb W1)) g9
  have i7:=Zg d8 n7
  have a6:=Za d8 n7.below
  have hB:=blB (blB (blB (blB (Below.refl B w) hBw n1.below) hBw (Zb W1)) hBw g9) hBw n7.below
  refine ybi (.o [] 7) (.t B [99,124]) fun _ _ _ _ zJ zQ zo zx zy zK=>Zz (m:=1) (news:=[V0 (i:Int),.string ⟨(leB (↑(q+i):Int) 8++leB (↑(Xl (L.getD i [])):Int) 4++leB (↑(Zx (L.getD i [])):Int) 4).toArray⟩,V0 0]) (.agg #[V0 0,.string ⟨#[]⟩,V0 0]) 3 32 (i+1) ((Xj L q (i+1)).flatMap Qb) zo Tryz.underlying99 K0 rfl Do zx a6 zy (n7.blk.sl 1 1 Do Do) rfl (by simp[Value.oneCell']) (by unfold maxLen;omega) M0 (N0 hBx hB.size) (by rfl) (Yy L q i) fun m8 m5 W8 o8 h4 l4=>?_
  refine zK _ _ (Zu (l4.mono hBm) h4 a6 Do) ?_
  have d0:=(g6.below n7.below).grown h4 a6 Do
  refine ys (.o [] 8) d0 [.slice m8 (i+1) m5] (.t B [99,124]) fun W9 u9 k9=>⟨(Xf u9 d0 hBl Do),?_⟩
  have j5:=u9.below (hB.trans (l4.mono hBm)) hBl
  have hO:=(((((show Zd [99,124] w _ from(Zd.of_below n1.below)).trans (Zd.of_below (Zb W1))).trans (Zd.of_below g9)).trans (Zd.of_below n7.below)).trans (Zd.of_grown h4 a6 Do)).trans (Zd.of_upd u9 d0 Do)
  have h9:=u9.own2 o8 d0 Do
  have j4:=(((((hZ.below n1.below).below (Zb W1)).below g9).below n7.below).grown h4 a6).upd u9 (by simp)
  exact xe 1 (.tuple #[]) ⟨_,_,_,rfl,j5,hO,k9,h9,j4.fr⟩
 ·have c2:=(kl.below n1.below).below (Zb W1)
  refine xb 0 0 c2 ?_
  refine xm2 (.b [2]) 0 4 ?_ ?_
  ·refine xb 0 0 c2 ?_
   refine xr (.o [] 4) (args:=#[.agg #[V0 (↑(q+i):Int),V0 (↑(Xl (L.getD i [])):Int),V0 (↑(Zx (L.getD i [])):Int)]]) (Qq (↑(q+i):Int) (↑(Xl (L.getD i [])):Int) (↑(Zx (L.getD i [])):Int) M0 M0 M0 M0 M0 M0 _) fun q1 b8=>?_
   refine xbs (.o [5] 6) 1 [V0 (i:Int),.string ⟨(leB (↑(q+i):Int) 8++leB (↑(Xl (L.getD i [])):Int) 4++leB (↑(Zx (L.getD i [])):Int) 4).toArray⟩,V0 0] 124 fun o9 o1 e1=>?_
   have e0:=Za (Za (Za hup n1.below) (Zb W1)) b8
   have h2:=Zg e0 e1
   have a7:=Za e0 e1.below
   have hB:=blB (blB (blB (blB (Below.refl B w) hBw n1.below) hBw (Zb W1)) hBw b8) hBw e1.below
   refine ybi (.o [] 7) (.t B [99,124]) fun _ _ _ _ zJ zQ zo zx zy zK=>Zz (m:=1) (news:=[V0 (i:Int),.string ⟨(leB (↑(q+i):Int) 8++leB (↑(Xl (L.getD i [])):Int) 4++leB (↑(Zx (L.getD i [])):Int) 4).toArray⟩,V0 0]) (.agg #[V0 0,.string ⟨#[]⟩,V0 0]) 3 32 (i+1) ((Xj L q (i+1)).flatMap Qb) zo Tryz.underlying99 K0 rfl Do zx a7 zy (e1.blk.sl 1 1 Do Do) rfl (by simp[Value.oneCell']) (by unfold maxLen;omega) M0 (N0 hBx hB.size) (by rfl) (Yy L q i) fun i8 j1 p6 m2 c5 f3=>?_
   refine zK _ _ (Zu (f3.mono hBm) c5 a7 Do) ?_
   have c9:=((c2.below b8).below e1.below).grown c5 a7 Do
   refine ys (.o [] 8) c9 [.slice i8 (i+1) j1] (.t B [99,124]) fun p2 f1 l6=>⟨(Xf f1 c9 hBl Do),?_⟩
   have l3:=f1.below (hB.trans (f3.mono hBm)) hBl
   have hO:=(((((show Zd [99,124] w _ from(Zd.of_below n1.below)).trans (Zd.of_below (Zb W1))).trans (Zd.of_below b8)).trans (Zd.of_below e1.below)).trans (Zd.of_grown c5 a7 Do)).trans (Zd.of_upd f1 c9 Do)
   have e8:=f1.own2 m2 c9 Do
   have i9:=(((((hZ.below n1.below).below (Zb W1)).below b8).below e1.below).grown c5 a7).upd f1 (by simp)
   exact xe 1 (.tuple #[]) ⟨_,_,_,rfl,l3,hO,l6,e8,i9.fr⟩
  refine xr 0 (args:=#[.agg #[V0 (↑(q+i):Int),V0 (↑(Xl (L.getD i [])):Int),V0 (↑(Zx (L.getD i [])):Int)]]) (Qq (↑(q+i):Int) (↑(Xl (L.getD i [])):Int) (↑(Zx (L.getD i [])):Int) M0 M0 M0 M0 M0 M0 _) fun o0 a5=>?_
  refine xm2 (.b [5]) 0 6 ?_ ?_
  ·have g8:=c2.below a5
   refine xb 0 0 g8 ?_
   refine xbs (.o [] 6) 1 [V0 (i:Int),.string ⟨(leB (↑(q+i):Int) 8++leB (↑(Xl (L.getD i [])):Int) 4++leB (↑(Zx (L.getD i [])):Int) 4).toArray⟩,V0 0] 124 fun p7 o3 e6=>?_
   have d9:=Za (Za (Za hup n1.below) (Zb W1)) a5
   have h8:=Zg d9 e6
   have a8:=Za d9 e6.below
   have hB:=blB (blB (blB (blB (Below.refl B w) hBw n1.below) hBw (Zb W1)) hBw a5) hBw e6.below
   refine ybi (.o [] 7) (.t B [99,124]) fun _ _ _ _ zJ zQ zo zx zy zK=>Zz (m:=1) (news:=[V0 (i:Int),.string ⟨(leB (↑(q+i):Int) 8++leB (↑(Xl (L.getD i [])):Int) 4++leB (↑(Zx (L.getD i [])):Int) 4).toArray⟩,V0 0]) (.agg #[V0 0,.string ⟨#[]⟩,V0 0]) 3 32 (i+1) ((Xj L q (i+1)).flatMap Qb) zo Tryz.underlying99 K0 rfl Do zx a8 zy (e6.blk.sl 1 1 Do Do) rfl (by simp[Value.oneCell']) (by unfold maxLen;omega) M0 (N0 hBx hB.size) (by rfl) (Yy L q i) fun k0 i3 q0 l7 c7 e7=>?_
   refine zK _ _ (Zu (e7.mono hBm) c7 a8 Do) ?_
   have d2:=(g8.below e6.below).grown c7 a8 Do
   refine ys (.o [] 8) d2 [.slice k0 (i+1) i3] (.t B [99,124]) fun p1 f7 l9=>⟨(Xf f7 d2 hBl Do),?_⟩
   have j2:=f7.below (hB.trans (e7.mono hBm)) hBl
   have hO:=(((((show Zd [99,124] w _ from(Zd.of_below n1.below)).trans (Zd.of_below (Zb W1))).trans (Zd.of_below a5)).trans (Zd.of_below e6.below)).trans (Zd.of_grown c7 a8 Do)).trans (Zd.of_upd f7 d2 Do)
   have f9:=f7.own2 l7 d2 Do
   have i4:=(((((hZ.below n1.below).below (Zb W1)).below a5).below e6.below).grown c7 a8).upd f7 (by simp)
   exact xe 1 (.tuple #[]) ⟨_,_,_,rfl,j2,hO,l9,f9,i4.fr⟩
  refine xbs 0 1 [V0 (i:Int),.string ⟨(leB (↑(q+i):Int) 8++leB (↑(Xl (L.getD i [])):Int) 4++leB (↑(Zx (L.getD i [])):Int) 4).toArray⟩,V0 0] 124 fun p5 q3 e3=>?_
  have d7:=Za (Za (Za hup n1.below) (Zb W1)) a5
  have h1:=Zg d7 e3
  have h0:=(c2.below a5).below e3.below
  refine xb (.o [] 0) 0 h0 ?_
  have a3:=Za d7 e3.below
  have hB:=blB (blB (blB (blB (Below.refl B w) hBw n1.below) hBw (Zb W1)) hBw a5) hBw e3.below
  refine ybi (.o [] 7) (.t B [99,124]) fun _ _ _ _ zJ zQ zo zx zy zK=>Zz (m:=1) (news:=[V0 (i:Int),.string ⟨(leB (↑(q+i):Int) 8++leB (↑(Xl (L.getD i [])):Int) 4++leB (↑(Zx (L.getD i [])):Int) 4).toArray⟩,V0 0]) (.agg #[V0 0,.string ⟨#[]⟩,V0 0]) 3 32 (i+1) ((Xj L q (i+1)).flatMap Qb) zo Tryz.underlying99 K0 rfl Do zx a3 zy (e3.blk.sl 1 1 Do Do) rfl (by simp[Value.oneCell']) (by unfold maxLen;omega) M0 (N0 hBx hB.size) (by rfl) (Yy L q i) fun j7 k6 o2 m4 c8 f6=>?_
  refine zK _ _ (Zu (f6.mono hBm) c8 a3 Do) ?_
  have b4:=h0.grown c8 a3 Do
  refine ys (.o [] 8) b4 [.slice j7 (i+1) k6] (.t B [99,124]) fun q2 g5 l8=>⟨(Xf g5 b4 hBl Do),?_⟩
  have j0:=g5.below (hB.trans (f6.mono hBm)) hBl
  have hO:=(((((show Zd [99,124] w _ from(Zd.of_below n1.below)).trans (Zd.of_below (Zb W1))).trans (Zd.of_below a5)).trans (Zd.of_below e3.below)).trans (Zd.of_grown c8 a3 Do)).trans (Zd.of_upd g5 b4 Do)
  have f5:=g5.own2 m4 b4 Do
  have k7:=(((((hZ.below n1.below).below (Zb W1)).below a5).below e3.below).grown c8 a3).upd g5 (by simp)
  exact xe 1 (.tuple #[]) ⟨_,_,_,rfl,j0,hO,l8,f5,k7.fr⟩
 refine xr 0 (args:=#[.agg #[V0 (↑(q+i):Int),V0 (↑(Xl (L.getD i [])):Int),V0 (↑(Zx (L.getD i [])):Int)]]) (Qq (↑(q+i):Int) (↑(Xl (L.getD i [])):Int) (↑(Zx (L.getD i [])):Int) M0 M0 M0 M0 M0 M0 _) fun n4 a0=>?_
 refine xm2 0 0 1 ?_ ?_
 ·have c3:=((kl.below n1.below).below (Zb W1)).below a0
  refine xb 0 0 c3 ?_
  refine xb (.o [] 1) 0 c3 ?_
  refine xbs (.o [2,5] 6) 1 [V0 (i:Int),.string ⟨(leB (↑(q+i):Int) 8++leB (↑(Xl (L.getD i [])):Int) 4++leB (↑(Zx (L.getD i [])):Int) 4).toArray⟩,V0 0] 124 fun p9 n6 e2=>?_
  have c0:=Za (Za (Za hup n1.below) (Zb W1)) a0
  have h3:=Zg c0 e2
  have a2:=Za c0 e2.below
  have hB:=blB (blB (blB (blB (Below.refl B w) hBw n1.below) hBw (Zb W1)) hBw a0) hBw e2.below
  refine ybi (.o [] 7) (.t B [99,124]) fun _ _ _ _ zJ zQ zo zx zy zK=>Zz (m:=1) (news:=[V0 (i:Int),.string ⟨(leB (↑(q+i):Int) 8++leB (↑(Xl (L.getD i [])):Int) 4++leB (↑(Zx (L.getD i [])):Int) 4).toArray⟩,V0 0]) (.agg #[V0 0,.string ⟨#[]⟩,V0 0]) 3 32 (i+1) ((Xj L q (i+1)).flatMap Qb) zo Tryz.underlying99 K0 rfl Do zx a2 zy (e2.blk.sl 1 1 Do Do) rfl (by simp[Value.oneCell']) (by unfold maxLen;omega) M0 (N0 hBx hB.size) (by rfl) (Yy L q i) fun k8 l1 p4 m1 d4 g2=>?_
  refine zK _ _ (Zu (g2.mono hBm) d4 a2 Do) ?_
  have b5:=(c3.below e2.below).grown d4 a2 Do
  refine ys (.o [] 8) b5 [.slice k8 (i+1) l1] (.t B [99,124]) fun p3 g1 n0=>⟨(Xf g1 b5 hBl Do),?_⟩
  have j8:=g1.below (hB.trans (g2.mono hBm)) hBl
  have hO:=(((((show Zd [99,124] w _ from(Zd.of_below n1.below)).trans (Zd.of_below (Zb W1))).trans (Zd.of_below a0)).trans (Zd.of_below e2.below)).trans (Zd.of_grown d4 a2 Do)).trans (Zd.of_upd g1 b5 Do)
  have e9:=g1.own2 m1 b5 Do
  have k4:=(((((hZ.below n1.below).below (Zb W1)).below a0).below e2.below).grown d4 a2).upd g1 (by simp)
  exact xe 1 (.tuple #[]) ⟨_,_,_,rfl,j8,hO,n0,e9,k4.fr⟩
 have b0:=((kl.below n1.below).below (Zb W1)).below a0
 refine xb 0 0 b0 ?_
 refine xm2 (.b [2,5]) 0 6 ?_ ?_
 ·refine xb 0 0 b0 ?_
  refine xbs (.o [] 6) 1 [V0 (i:Int),.string ⟨(leB (↑(q+i):Int) 8++leB (↑(Xl (L.getD i [])):Int) 4++leB (↑(Zx (L.getD i [])):Int) 4).toArray⟩,V0 0] 124 fun p0 p8 e5=>?_
  have c1:=Za (Za (Za hup n1.below) (Zb W1)) a0
  have h5:=Zg c1 e5
  have a4:=Za c1 e5.below
  have hB:=blB (blB (blB (blB (Below.refl B w) hBw n1.below) hBw (Zb W1)) hBw a0) hBw e5.below
  refine ybi (.o [] 7) (.t B [99,124]) fun _ _ _ _ zJ zQ zo zx zy zK=>Zz (m:=1) (news:=[V0 (i:Int),.string ⟨(leB (↑(q+i):Int) 8++leB (↑(Xl (L.getD i [])):Int) 4++leB (↑(Zx (L.getD i [])):Int) 4).toArray⟩,V0 0]) (.agg #[V0 0,.string ⟨#[]⟩,V0 0]) 3 32 (i+1) ((Xj L q (i+1)).flatMap Qb) zo Tryz.underlying99 K0 rfl Do zx a4 zy (e5.blk.sl 1 1 Do Do) rfl (by simp[Value.oneCell']) (by unfold maxLen;omega) M0 (N0 hBx hB.size) (by rfl) (Yy L q i) fun k3 i2 o5 m3 c6 g7=>?_
  refine zK _ _ (Zu (g7.mono hBm) c6 a4 Do) ?_
  have b2:=(b0.below e5.below).grown c6 a4 Do
  refine ys (.o [] 8) b2 [.slice k3 (i+1) i2] (.t B [99,124]) fun o6 f4 m0=>⟨(Xf f4 b2 hBl Do),?_⟩
  have i0:=f4.below (hB.trans (g7.mono hBm)) hBl
  have hO:=(((((show Zd [99,124] w _ from(Zd.of_below n1.below)).trans (Zd.of_below (Zb W1))).trans (Zd.of_below a0)).trans (Zd.of_below e5.below)).trans (Zd.of_grown c6 a4 Do)).trans (Zd.of_upd f4 b2 Do)
  have g0:=f4.own2 m3 b2 Do
  have j3:=(((((hZ.below n1.below).below (Zb W1)).below a0).below e5.below).grown c6 a4).upd f4 (by simp)
  exact xe 1 (.tuple #[]) ⟨_,_,_,rfl,i0,hO,m0,g0,j3.fr⟩
 refine xbs 0 1 [V0 (i:Int),.string ⟨(leB (↑(q+i):Int) 8++leB (↑(Xl (L.getD i [])):Int) 4++leB (↑(Zx (L.getD i [])):Int) 4).toArray⟩,V0 0] 124 fun n9 n8 e4=>?_
 have b9:=Za (Za (Za hup n1.below) (Zb W1)) a0
 have h7:=Zg b9 e4
 have d5:=b0.below e4.below
 refine xb (.o [] 0) 0 d5 ?_
 have a1:=Za b9 e4.below
 have hB:=blB (blB (blB (blB (Below.refl B w) hBw n1.below) hBw (Zb W1)) hBw a0) hBw e4.below
 refine ybi (.o [] 7) (.t B [99,124]) fun _ _ _ _ zJ zQ zo zx zy zK=>Zz (m:=1) (news:=[V0 (i:Int),.string ⟨(leB (↑(q+i):Int) 8++leB (↑(Xl (L.getD i [])):Int) 4++leB (↑(Zx (L.getD i [])):Int) 4).toArray⟩,V0 0]) (.agg #[V0 0,.string ⟨#[]⟩,V0 0]) 3 32 (i+1) ((Xj L q (i+1)).flatMap Qb) zo Tryz.underlying99 K0 rfl Do zx a1 zy (e4.blk.sl 1 1 Do Do) rfl (by simp[Value.oneCell']) (by unfold maxLen;omega) M0 (N0 hBx hB.size) (by rfl) (Yy L q i) fun j6 l2 n5 m7 d1 f2=>?_
 refine zK _ _ (Zu (f2.mono hBm) d1 a1 Do) ?_
 have b6:=d5.grown d1 a1 Do
 refine ys (.o [] 8) b6 [.slice j6 (i+1) l2] (.t B [99,124]) fun o7 g3 n2=>⟨(Xf g3 b6 hBl Do),?_⟩
 have i1:=g3.below (hB.trans (f2.mono hBm)) hBl
 have hO:=(((((show Zd [99,124] w _ from(Zd.of_below n1.below)).trans (Zd.of_below (Zb W1))).trans (Zd.of_below a0)).trans (Zd.of_below e4.below)).trans (Zd.of_grown d1 a1 Do)).trans (Zd.of_upd g3 b6 Do)
 have f8:=g3.own2 m7 b6 Do
 have k2:=(((((hZ.below n1.below).below (Zb W1)).below a0).below e4.below).grown d1 a1).upd g3 (by simp)
 exact xe 1 (.tuple #[]) ⟨_,_,_,rfl,i1,hO,n2,f8,k2.fr⟩
def ClosM(B Bx bl:Nat)(L:List (List Int))(q i:Nat)(w:World)(e:Ending)(w':World):Prop :=
 ∃ u p c,e=.returned u∧Below B w w'∧Zd [132,126] w w'∧Blk w' bl [.slice p (i+1) c] 132∧w'.ownsRow Bx 126 3 (.slice p (i+1) c) (i+1) (rsL L q (i+1))∧FrB Bx [bl] w w'
theorem Iz(B Bx bl:Nat)(p:O0)(c:Nat)(L:List (List Int))(q i:Nat)(w:World)(hBm:B≤Bx)(hBx:Bx≤w.heap.size)(hBw:B≤w.heap.size)(hBl:B≤bl)(kl:Blk w bl [.slice p i c] 132)(hup:w.ownsRow Bx 126 3 (.slice p i c) i (rsL L q i))(hi:i≤100000) :
 C0 159 #[.agg #[V0 (↑(q+i):Int),V0 (↑(Xl (L.getD i [])):Int),V0 (↑(Zx (L.getD i [])):Int)],P0 bl] w (ClosM B Bx bl L q i w):=by
 have hZ:FrZ Bx [bl] w w:=FrZ.refl hBx
 refine zin 7 Tryz.func159 ?_
 refine xa 2 [V0 (↑(q+i):Int),V0 (↑(Xl (L.getD i [])):Int),V0 (↑(Zx (L.getD i [])):Int)] 126 fun b1 W1 n1=>?_
 have a5:=Zg hup n1
 have a3:=kl.below n1.below
 refine xb 3 0 a3 ?_
 refine xlv 0 n1.blk.rp ?_
 refine xbs 0 1 [V0 (↑(q+i):Int),V0 (↑(Xl (L.getD i [])):Int),V0 (↑(Zx (L.getD i [])):Int)] 126 fun b2 W2 n2=>?_
 have b0:=n2.ne n1.blk
 have a1:=Za hup n1.below
 have a9:=Zg a1 n2
 have a0:=Za a1 n2.below
 have hB:=blB (blB (Below.refl B w) hBw n1.below) hBw n2.below
 refine xbi 0 fun _ _ _ _ zJ zQ zo zx zy zK=>Zz (m:=1) (news:=[V0 (↑(q+i):Int),V0 (↑(Xl (L.getD i [])):Int),V0 (↑(Zx (L.getD i [])):Int)]) (.agg #[V0 0,V0 0,V0 0]) 3 24 (i+1) ((rsL L q (i+1))) zo Tryz.underlying132 K0 rfl Do zx a0 zy (n2.blk.sl 1 1 Do Do) rfl (by simp[Value.oneCell']) (by unfold maxLen;omega) M0 (N0 hBx hB.size) (by rfl) (by rw[rsL_succ];rfl) fun b5 b4 W3 o3 a8 b3=>?_
 refine zK _ _ ?_
 have a2:=(a3.below n2.below).grown a8 a0 Do
 refine xs 0 a2 [.slice b5 (i+1) b4] fun W4 u4 k4=>?_
 have a7:=u4.below (hB.trans (b3.mono hBm)) hBl
 have hO:=(((show Zd [132,126] w _ from(Zd.of_below n1.below)).trans (Zd.of_below n2.below)).trans (Zd.of_grown a8 a0 Do)).trans (Zd.of_upd u4 a2 Do)
 have a4:=u4.own2 o3 a2 Do
 have a6:=(((hZ.below n1.below).below n2.below).grown a8 a0).upd u4 (by simp)
 exact xe 1 (.tuple #[]) ⟨_,_,_,rfl,a7,hO,k4,a4,a6.fr⟩
def LayPostM(B ba b g nn cc:Nat)(pa:O0)(ca f N k0:Nat)(bs:Bi)(bl:Nat)(L:List (List Int))(w:World)(e:Ending)(w':World):Prop :=
 ∃ p c,e=.returned .nilIface∧Below B w w'∧Zd [169,5,132,126] w w'∧Fr [ba,g,bl] w w'∧Al B ba b g nn cc pa ca f N (k0+L.length) (Kn L (f+k0) bs L.length) w'∧Blk w' bl [.slice p L.length c] 132∧w'.ownsRow w.heap.size 126 3 (.slice p L.length c) L.length (rsL L (f+k0) L.length)
theorem Zcf(B ba b g nn cc:Nat)(pa:O0)(ca f N k0:Nat)(bs:Bi)(bl B2:Nat)(pl:O0)(cl:Nat)(gs:List (Nat×Nat))(L:List (List Int))(w:World)(hC:AlC B ba nn cc ca f N)(hA:Al B ba b g nn cc pa ca f N k0 bs w)(hL:Lists w B2 (.slice pl L.length cl) gs L)(hS:∀ i,i<L.length→Jh (L.getD i [])∧(L.getD i []).length≤960)(hf1:1≤f)(hk:k0+L.length≤N)(kl:Blk w bl [S0] 132)(hBl:B≤bl)(hBw:B≤w.heap.size) :
 C0 154 #[P0 ba,.slice pl L.length cl,.func (.func 159) #[] #[P0 bl]] w (LayPostM B ba b g nn cc pa ca f N k0 bs bl L w):=by
 have d2:=hC.hf
 have d3:=hC.hn
 refine zin 51 Tryz.func154 ?_
 have hB:=Below.refl B w
 refine zl 14 51 (fun zm c8 V=>∃ (i:Nat) (p:O0) (c:Nat),c8=[(0,P0 ba),(2,.func (.func 159) #[] #[P0 bl]),(15,.slice pl L.length cl),(16,V0 (L.length:Int)),(17,V0 (i:Int))]∧zm=L.length-((i:Int)).toNat∧Below B w V∧Fr [ba,g,bl] w V∧Zd [169,5,132,126] w V∧Blk V bl ([.slice p i c]) 132∧Al B ba b g nn cc pa ca f N (k0+i) (Kn L (f+k0) bs i) V∧Lists V B2 (.slice pl L.length cl) gs L∧V.ownsRow w.heap.size 126 3 (.slice p i c) i (rsL L (f+k0) i)∧i≤L.length) ⟨0,none,0,rfl,rfl,hB,(Fr.refl _ _),(Zd.refl _ _),kl,hA,hL,A9 _ _ _ _,A6 _⟩ ?_
 rintro _ _ W1 ⟨i,p,c,rfl,rfl,a5,a8,a7,a1,hA,hL,b2,hi⟩ J1 c3 r1
 refine xid 6 ((i:Int)<(L.length:Int)) (fun c7=>?_) (fun c7=>?_)
 ·refine xx 6 _ L.length i 1 (Lists.elem hL rfl (k:=i) M0).1 ?_
  refine xl 0 ((Lists.elem hL rfl (k:=i) M0).2) ?_
  refine xc 6 (args:=#[.slice (some ⟨(gs.getD i (0,0)).1,0,none⟩) ((L.getD i []).length) ((gs.getD i (0,0)).2)]) (Rp _ _ (L.getD i []) _ (hS i M0).1 (hS i M0).2 (Ze (hL.each i M0))) ?_
  rintro _ W3 ⟨_,rfl,a2,g6,rfl,h6⟩
  have b7:=hA.below a2
  have a6:=a7.trans (Zd.of_below a2)
  have c0:=Zf h6 a5.size
  have b0:=blB a5 hBw a2
  refine xc 21 (args:=#[P0 ba,V0 3,.slice (S1 g6) 244 244]) (Jl B ba b g nn cc pa ca f N (k0+i) (Kn L (f+k0) bs i) 3 (S1 g6) 244 (bitsB (L.getD i [])) (f+k0+i) 244 _ (D7 _ _ _).symm (Kr _ _) hC b7 M0 Do Do (fun W _ a6=>Qf (Ze (Zo c0 a6 Do)) (Kr _ _)) Do (N0 hBw b0.size)) ?_
  rintro _ W4 ⟨rfl,c4,b3,c5,hA⟩
  have b1:=(hL.below a2).only b3 Do
  refine xr 20 (args:=#[.slice (some ⟨(gs.getD i (0,0)).1,0,none⟩) ((L.getD i []).length) ((gs.getD i (0,0)).2)]) (Cm _ _ (L.getD i []) _ (hS i M0).2 (Ze (b1.each i M0))) fun W5 a4=>?_
  have d4:Xl (L.getD i [])≤960:=N0 (Wo _ _) (hS i M0).2
  have d1:Zx (L.getD i [])≤960:=N0 (Pt _) (hS i M0).2
  have a3:=blB (b0.trans c4) hBw a4
  have a0:=((a1.below a2).only b3 Do).below a4
  have a9:=Za (Zo (Za b2 a2) b3 Do) a4
  refine xc 13 (args:=#[.agg #[V0 (↑(f+k0+i):Int),V0 (↑(Xl (L.getD i [])):Int),V0 (↑(Zx (L.getD i [])):Int)],P0 bl]) (Iz B w.heap.size bl p c L (f+k0) i _ hBw a3.size (N0 hBw a3.size) hBl a0 a9 M0) ?_
  rintro _ W6 ⟨_,p9,c9,rfl,d0,b9,c6,b2,c2⟩
  refine xwm 4 ((i:Int)+1) (↑(i+1):Int) ?_
  have b8:=(hA.below a4).only b9 Do
  have b4:=(b1.below a4).only b9 Do
  have c1:=a3.trans d0
  have b6:=(Fr.trans_B (((a8.trans (Fr.of_below a2)).trans (c5.mono (by simp))).trans (Fr.of_below a4)) c2 (by simp))
  have b5:=((a6.trans (b3.wide)).trans (Zd.of_below a4)).trans (b9.wide)
  exact ze 2 (c3 _ _ _ ⟨i+1,_,_,rfl,rfl,c1,b6,b5,c6,b8,b4,b2,by omega⟩ M0)
 refine xe 11 .nilIface ?_
 obtain rfl:i=L.length:=by omega
 exact⟨_,_,rfl,a5,a7,a8,hA,a1,b2⟩
end Go.Proofs.YtekomodnkfhihaaGreatDoor
namespace Go.Proofs.YtekomodnkfhihaaGreatDoor
set_option maxHeartbeats 8000000
set_option maxRecDepth 100000
open Go.RowKit Go.Extern.Stop Go.Stop Go.Extern
set_option linter.unusedVariables false
attribute [local irreducible] wpList wpAnyH Code.wp Oper.wp Go
def SplitP(l:List Int)(w:World)(e:Ending)(w':World):Prop :=
 (Yx l≠0∧e=.returned (.tuple #[S0,S0,V0 2])∧Bl w w') ∨
 (Yx l=0∧∃ pb cb gs po co,e=.returned (.tuple #[.slice pb (bmN l.length) cb,.slice po (Zh l l.length).length co,V0 0])∧Bl w w'∧Lists w' w.heap.size (.slice pb (bmN l.length) cb) gs (Xa (Zi l) (bmN l.length))∧w'.ownsRow w.heap.size 124 3 (.slice po (Zh l l.length).length co) (Zh l l.length).length ((Zh l l.length).flatMap Qb))
theorem Mc{l:List Int}{i:Nat}(hl:l.length≤65536)(hi:i<l.length)(h:¬ Ks (l.getD i 0)):Yx l≠0:=fun q=>h ((Wv q).2 i hi)
theorem Fp{l:List Int}(hl:l.length≤65536)(h:∀ k,k<l.length→Ks (l.getD k 0)):Yx l=0:=by
 unfold Yx;rw[if_neg M0,if_pos h]
attribute [local go_sem] Oper.semAt_some
theorem g_retM{P:Program}{fn:Func}{R:Ending→World→Prop}{a:Act}{w:World}(v:Value)(hd:a.defers=[])(hr:(results fn a.tmps).run P w=.ok v w)(h:R (.returned v) w):bodyPostM Fence.wide 4 P fn R .ret a w:=by
 show LeavesInM _ _ _ _ a.tmps R a.defers .returning w
 rw[hd]
 exact⟨v,hr,h⟩
theorem Lists.put{W U:World}{D base:Nat}{v:Value}{gs:List (Nat×Nat)}{L:List (List Int)}(h:Lists W base v gs L)(u:Upd W D U)(hK:Dfr D W):Lists U base v gs L:=⟨u.own3 h.row (hK.row h.row),fun i hi=>u.own3 (h.each i hi) (hK.row (h.each i hi))⟩
theorem mn3_if(n:Int):(if 3<n then 3 else n)=mn3 n:=by unfold mn3;split<;>split<;>omega
def Vt(s:List Int){n:Nat}(pre:List (Fin n)):List (List Int):=pre.map fun j=>Kl s j.val
theorem Vp(s:List Int){n:Nat}(pre:List (Fin n))(x:Fin n):Vt s (pre++[x])=Vt s pre++[Kl s x.val]:=by simp[Vt]
theorem preC_all(s:List Int)(n:Nat):Vt s (List.finRange n)=Xa s n:=by
 unfold Vt Xa
 apply H9
 ·simp
 ·intro i h1 h2;simp
theorem Dq(a:O0)(c:Nat)(l:List Int)(w:World)(h:Sl w (.slice a l.length c) l.length (l.map V0))(hl:l.length≤65536) :
 C0 152 #[.slice a l.length c] w (SplitP l w):=by
 refine Ha Tryz.func152 rfl ?_
 refine g_fr ⟨#[.slice a l.length c,undef,undef,undef,undef,undef,undef,undef,undef,undef,undef,undef,undef,undef,undef,undef,undef,undef,undef,undef,undef,undef,undef,undef,undef,undef,undef,undef,undef,undef,undef,undef,undef,undef,undef,undef,undef,undef,undef,undef,undef,undef,undef,undef,undef,undef,undef,undef,undef,undef,undef,undef],[]⟩ K0 ?_
 refine wp_seq ?_
 refine wp_region_lit ?_
 refine Hp 3 [(2,S0),(3,S0),(4,V0 0)] K0 ?_
 refine wpList_nil ?_
 refine wp_seq ?_
 refine wp_seq ?_
 refine wp_region_lit ?_
 refine Hp 3 [(11,.slice a l.length c),(12,V0 (l.length:Int)),(13,.bool (decide ((l.length:Int)>(65536:Int))))] K0 ?_
 refine wpList_nil ?_
 refine wp_cond_split (t:=decide ((l.length:Int)>(65536:Int))) K0 (fun hh=>absurd (hh.symm.trans (show(decide ((l.length:Int)>(65536:Int)):Bool)=false from decide_eq_false M0)) Do) (fun _=>?_)
 refine wp_skip ?_
 refine wp_seq ?_
 refine wp_region_lit ?_
 refine Hp 1 [(5,S0)] K0 ?_
 refine wpList_nil ?_
 refine wp_seq ?_
 refine wp_region_lit ?_
 refine Hp 1 [(6,S0)] K0 ?_
 refine wpList_nil ?_
 refine wp_seq ?_
 refine wp_seq ?_
 refine wp_region_lit ?_
 refine Hp 3 [(14,.slice a l.length c),(15,V0 (l.length:Int)),(16,V0 0)] K0 ?_
 refine wpList_nil ?_
 refine wp_block ?_
 refine g_fr ⟨#[.slice a l.length c,undef,S0,S0,V0 0,S0,S0,undef,undef,undef,undef,.slice a l.length c,V0 (l.length:Int),.bool (decide ((l.length:Int)>(65536:Int))),.slice a l.length c,V0 (l.length:Int),V0 0,undef,undef,undef,undef,undef,undef,undef,undef,undef,undef,undef,undef,undef,undef,undef,undef,undef,undef,undef,undef,undef,undef,undef,undef,undef,undef,undef,undef,undef,undef,undef,undef,undef,undef,undef],[]⟩ K0 ?_
 have hB:=Below.refl w.heap.size w
 refine wp_loop (fun h9 V=>∃ (i:Nat) (ps:O0) (cs:Nat) (po:O0) (co:Nat) (x2:Nat→Value),h9=⟨#[.slice a l.length c,undef,(x2 0),(x2 1),(x2 2),.slice ps i cs,.slice po ((Zh l i).length) co,(x2 3),(x2 4),undef,undef,.slice a l.length c,V0 (l.length:Int),.bool (decide ((l.length:Int)>(65536:Int))),.slice a l.length c,V0 (l.length:Int),V0 (i:Int),(x2 5),(x2 6),(x2 7),(x2 8),(x2 9),(x2 10),(x2 11),(x2 12),(x2 13),(x2 14),(x2 15),(x2 16),(x2 17),(x2 18),(x2 19),(x2 20),(x2 21),(x2 22),(x2 23),(x2 24),(x2 25),(x2 26),(x2 27),(x2 28),(x2 29),undef,undef,undef,undef,undef,undef,undef,undef,undef,undef],[]⟩∧Bl w V∧V.ownsRow w.heap.size 3 1 (.slice ps i cs) i ((Zi (l.take i)).map V0)∧V.ownsRow w.heap.size 124 3 (.slice po (Zh l i).length co) (Zh l i).length ((Zh l i).flatMap Qb)∧i≤l.length∧((∀ j,j<i→Ks (l.getD j 0)))) (fun h9 V=>l.length-((intOf (h9.tmps.getD 16 undef))).toNat) ⟨0,none,0,none,0,(pk [S0,S0,V0 0,undef,undef,undef,undef,undef,undef,undef,undef,undef,undef,undef,undef,undef,undef,undef,undef,undef,undef,undef,undef,undef,undef,undef,undef,undef,undef,undef]),rfl,hB,A9 _ _ _ _,A9 _ _ _ _,A6 _,?_⟩ ?_
 ·exact fun j hj=>absurd hj M0
 rintro _ W2 ⟨i,ps,cs,po,co,x2,rfl,hB,hs,ho,hi,hz⟩
 refine wp_seq ?_
 refine wp_region_lit ?_
 refine Hp 1 [(17,.bool (decide ((i:Int)<(l.length:Int))))] K0 ?_
 refine wpList_nil ?_
 refine wp_seq ?_
 refine wp_cond_split (t:=decide ((i:Int)<(l.length:Int))) K0 (fun f4=>?_) (fun f4=>?_)
 ·have f4:=of_decide_eq_true f4
  refine wp_skip ?_
  refine wp_seq ?_
  refine wp_block ?_
  refine wp_seq ?_
  refine wp_region_lit ?_
  refine Hp 1 [(18,V0 (i:Int))] K0 ?_
  refine Gu K0 (Vr (Mm (size:=1) (k:=i) (b:=a) (n:=l.length) (c:=c) (i:=(i:Int)) (ki:=.i64) rfl K0 K0 rfl M0 (Ints.elem h (k:=i) M0).1 Tryz.underlying27 K0 W2) ?_)
  refine Gu K0 (Vz (Zr a (i*1)) (V0 (l.getD i 0)) rfl K0 K0 (Ints.elem (h.below hB) (k:=i) M0).2 ?_)
  refine Hp 2 [(7,V0 (i:Int)),(8,V0 (l.getD i 0))] K0 ?_
  refine wpList_nil ?_
  refine wp_seq ?_
  refine wp_seq ?_
  refine wp_region_lit ?_
  refine Hp 3 [(21,V0 (l.getD i 0)),(22,.bool (decide ((l.getD i 0)<(0:Int)))),(23,.bool (decide ((l.getD i 0)<(0:Int))))] K0 ?_
  rcases Bool.eq_false_or_eq_true (decide ((l.getD i 0)<(0:Int))) with d9|d9
  ·refine g_b [22,23] _ _ d9 K0 ?_
   have d9:=of_decide_eq_true d9
   refine Hp 3 [(24,undef),(25,undef),(26,.bool true)] K0 ?_
   refine wpList_nil ?_
   refine wp_cond_true K0 ?_
   refine wp_seq ?_
   refine wp_region_lit ?_
   refine Hp 3 [(2,S0),(3,S0),(4,V0 2)] K0 ?_
   refine wpList_nil ?_
   refine wp_ret (Vd (Kc (Vd (Vd (Kc (Vd ?_))))))
   exact g_retM (.tuple #[S0,S0,V0 2]) K0 K0 (.inl ⟨Mc (i:=i) hl M0 (fun q=>by unfold Ks at q;omega),rfl,hB⟩)
  ·refine g_b [22,23] _ _ d9 K0 ?_
   have d9:=of_decide_eq_false d9
   refine Hp 3 [(24,V0 (l.getD i 0)),(25,.bool (decide ((l.getD i 0)>(2147483647:Int)))),(26,.bool (decide ((l.getD i 0)>(2147483647:Int))))] K0 ?_
   refine wpList_nil ?_
   refine wp_cond_split (t:=decide ((l.getD i 0)>(2147483647:Int))) K0 (fun f5=>?_) (fun f5=>?_)
   ·have f5:=of_decide_eq_true f5
    refine wp_seq ?_
    refine wp_region_lit ?_
    refine Hp 3 [(2,S0),(3,S0),(4,V0 2)] K0 ?_
    refine wpList_nil ?_
    refine wp_ret (Vd (Kc (Vd (Vd (Kc (Vd ?_))))))
    exact g_retM (.tuple #[S0,S0,V0 2]) K0 K0 (.inl ⟨Mc (i:=i) hl M0 (fun q=>by unfold Ks at q;omega),rfl,hB⟩)
   ·have f5:=of_decide_eq_false f5
    refine wp_skip ?_
    refine wp_seq ?_
    refine wp_region_lit ?_
    refine Hp 3 [(27,.slice ps i cs),(28,V0 (l.getD i 0)),(29,V0 (if(3:Int)<(l.getD i 0) then(3:Int) else(l.getD i 0)))] K0 ?_
    refine Gu K0 (Yb 3 [V0 (if(3:Int)<(l.getD i 0) then(3:Int) else(l.getD i 0))] rfl K0 ?_)
    intro b6 W6 n6
    have g6:=n6.ge hB
    have k0:=Zg hs n6
    replace hB:=bln hB n6.below
    replace hs:=Za hs n6.below
    replace ho:=Za ho n6.below
    have k6:=n6.blk
    refine Gu K0 (Zz (e:=3) (n:=i) (xs:=(Zi (l.take i)).map V0) (m:=1) (news:=[V0 (if(3:Int)<(l.getD i 0) then(3:Int) else(l.getD i 0))]) (V0 0) 1 8 (i+1) ((Zi (l.take (i+1))).map V0) rfl Tryz.underlying27 K0 rfl Do K0 hs K0 (k6.sl 1 1 Do Do) rfl (by simp[Value.oneCell']) (by unfold maxLen;omega) M0 hB.size (by rfl) (by rw[mn3_if,Ij M0,B6];rfl) ?_)
    intro p7 c7 W7 o7 m3 m7
    replace ho:=Xb ho m3 hs Do
    replace hB:=hB.trans m7
    refine Hp 1 [(5,.slice p7 (i+1) c7)] K0 ?_
    refine wpList_nil ?_
    refine wp_seq ?_
    refine wp_region_lit ?_
    refine Hp 2 [(32,V0 (l.getD i 0)),(33,.bool (decide ((l.getD i 0)≥(3:Int))))] K0 ?_
    refine wpList_nil ?_
    refine wp_cond_split (t:=decide ((l.getD i 0)≥(3:Int))) K0 (fun e7=>?_) (fun e7=>?_)
    ·have e7:=of_decide_eq_true e7
     refine wp_region_lit ?_
     refine Hp 3 [(34,.slice po ((Zh l i).length) co),(35,V0 (i:Int)),(36,V0 (l.getD i 0))] K0 ?_
     refine Gu K0 (Vf (lb:=#[]) 216 #[V0 (l.getD i 0)] rfl K0 (fun _ _=>by kernel_rfl) K0 ((Dt (l.getD i 0) M0 M0 _).mono ?_))
     rintro e W9 ⟨rfl,c0⟩
     refine⟨_,rfl,?_⟩
     replace hB:=bln hB c0
     replace ho:=Za ho c0
     replace o7:=Za o7 c0
     refine Hp 1 [(38,.agg #[V0 (i:Int),.string ⟨(leB (l.getD i 0) 4).toArray⟩,V0 0])] K0 ?_
     refine Gu K0 (Yb 124 [V0 (i:Int),.string ⟨(leB (l.getD i 0) 4).toArray⟩,V0 0] rfl K0 ?_)
     intro k1 o4 e5
     have n7:=e5.ge hB
     have h3:=Zg ho e5
     replace hB:=bln hB e5.below
     replace ho:=Za ho e5.below
     replace o7:=Za o7 e5.below
     have m6:=e5.blk
     refine Gu K0 (Zz (e:=124) (n:=(Zh l i).length) (xs:=(Zh l i).flatMap Qb) (m:=1) (news:=[V0 (i:Int),.string ⟨(leB (l.getD i 0) 4).toArray⟩,V0 0]) (.agg #[V0 0,.string ⟨#[]⟩,V0 0]) 3 32 ((Zh l (i+1)).length) ((Zh l (i+1)).flatMap Qb) rfl Tryz.underlying99 K0 rfl Do K0 ho K0 (m6.sl 1 1 Do Do) rfl (by simp[Value.oneCell']) (by have:=Gn l i;unfold maxLen;omega) (by have:=Gn l i;omega) hB.size (by rw[Vv M0];simp) (by rw[Vv M0];simp[Qb]) ?_)
     intro g9 g8 n3 n1 i5 h4
     replace o7:=Xb o7 i5 ho Do
     replace hB:=hB.trans h4
     refine Hp 1 [(6,.slice g9 ((Zh l (i+1)).length) g8)] K0 ?_
     refine wpList_nil ?_
     refine wp_region_lit ?_
     refine Gu K0 (Za5 .i64 ((i:Int)+1) (↑(i+1):Int) K0 ((show IntKind.i64.wrap ((i:Int)+1)=((i:Int)+1) from by first|exact IntWalk.i64_in _ M0|(simp only[IntKind.wrap];omega)).trans M0) ?_)
     refine Hp 1 [(16,V0 (↑(i+1):Int))] K0 ?_
     refine wpList_nil ?_
     refine g_nfr ⟨#[.slice a l.length c,undef,(x2 0),(x2 1),(x2 2),.slice p7 (i+1) c7,.slice g9 ((Zh l (i+1)).length) g8,V0 (i:Int),V0 (l.getD i 0),undef,undef,.slice a l.length c,V0 (l.length:Int),.bool (decide ((l.length:Int)>(65536:Int))),.slice a l.length c,V0 (l.length:Int),V0 (↑(i+1):Int),.bool (decide ((i:Int)<(l.length:Int))),V0 (i:Int),.pointer (some (Zr a (i*1))),V0 (l.getD i 0),V0 (l.getD i 0),.bool false,.bool false,V0 (l.getD i 0),.bool (decide ((l.getD i 0)>(2147483647:Int))),.bool (decide ((l.getD i 0)>(2147483647:Int))),.slice ps i cs,V0 (l.getD i 0),V0 (if(3:Int)<(l.getD i 0) then(3:Int) else(l.getD i 0)),.slice (S1 b6) 1 1,.slice p7 (i+1) c7,V0 (l.getD i 0),.bool (decide ((l.getD i 0)≥(3:Int))),.slice po ((Zh l i).length) co,V0 (i:Int),V0 (l.getD i 0),.string ⟨(leB (l.getD i 0) 4).toArray⟩,.agg #[V0 (i:Int),.string ⟨(leB (l.getD i 0) 4).toArray⟩,V0 0],.slice (S1 k1) 1 1,.slice g9 ((Zh l (i+1)).length) g8,V0 (↑(i+1):Int),undef,undef,undef,undef,undef,undef,undef,undef,undef,undef],[]⟩ K0 ?_
     refine⟨⟨i+1,_,_,_,_,(pk [(x2 0),(x2 1),(x2 2),V0 (i:Int),V0 (l.getD i 0),.bool (decide ((i:Int)<(l.length:Int))),V0 (i:Int),.pointer (some (Zr a (i*1))),V0 (l.getD i 0),V0 (l.getD i 0),.bool false,.bool false,V0 (l.getD i 0),.bool (decide ((l.getD i 0)>(2147483647:Int))),.bool (decide ((l.getD i 0)>(2147483647:Int))),.slice ps i cs,V0 (l.getD i 0),V0 (if(3:Int)<(l.getD i 0) then(3:Int) else(l.getD i 0)),.slice (S1 b6) 1 1,.slice p7 (i+1) c7,V0 (l.getD i 0),.bool (decide ((l.getD i 0)≥(3:Int))),.slice po ((Zh l i).length) co,V0 (i:Int),V0 (l.getD i 0),.string ⟨(leB (l.getD i 0) 4).toArray⟩,.agg #[V0 (i:Int),.string ⟨(leB (l.getD i 0) 4).toArray⟩,V0 0],.slice (S1 k1) 1 1,.slice g9 ((Zh l (i+1)).length) g8,V0 (↑(i+1):Int)]),rfl,hB,o7,n1,by omega,fun j hj=>(E6 j i).elim (hz j) (fun q=>by obtain rfl:j=i:=M0;exact⟨by omega,by omega⟩)⟩,?_⟩
     show l.length-((↑(i+1):Int)).toNat<l.length-((i:Int)).toNat
     omega
    ·have e7:=of_decide_eq_false e7
     refine wp_skip ?_
     refine wp_region_lit ?_
     refine Gu K0 (Za5 .i64 ((i:Int)+1) (↑(i+1):Int) K0 ((show IntKind.i64.wrap ((i:Int)+1)=((i:Int)+1) from by first|exact IntWalk.i64_in _ M0|(simp only[IntKind.wrap];omega)).trans M0) ?_)
     refine Hp 1 [(16,V0 (↑(i+1):Int))] K0 ?_
     refine wpList_nil ?_
     refine g_nfr ⟨#[.slice a l.length c,undef,(x2 0),(x2 1),(x2 2),.slice p7 (i+1) c7,.slice po ((Zh l i).length) co,V0 (i:Int),V0 (l.getD i 0),undef,undef,.slice a l.length c,V0 (l.length:Int),.bool (decide ((l.length:Int)>(65536:Int))),.slice a l.length c,V0 (l.length:Int),V0 (↑(i+1):Int),.bool (decide ((i:Int)<(l.length:Int))),V0 (i:Int),.pointer (some (Zr a (i*1))),V0 (l.getD i 0),V0 (l.getD i 0),.bool false,.bool false,V0 (l.getD i 0),.bool (decide ((l.getD i 0)>(2147483647:Int))),.bool (decide ((l.getD i 0)>(2147483647:Int))),.slice ps i cs,V0 (l.getD i 0),V0 (if(3:Int)<(l.getD i 0) then(3:Int) else(l.getD i 0)),.slice (S1 b6) 1 1,.slice p7 (i+1) c7,V0 (l.getD i 0),.bool (decide ((l.getD i 0)≥(3:Int))),(x2 22),(x2 23),(x2 24),(x2 25),(x2 26),(x2 27),(x2 28),V0 (↑(i+1):Int),undef,undef,undef,undef,undef,undef,undef,undef,undef,undef],[]⟩ K0 ?_
     refine g_nfr ⟨#[.slice a l.length c,undef,(x2 0),(x2 1),(x2 2),.slice p7 (i+1) c7,.slice po ((Zh l (i+1)).length) co,V0 (i:Int),V0 (l.getD i 0),undef,undef,.slice a l.length c,V0 (l.length:Int),.bool (decide ((l.length:Int)>(65536:Int))),.slice a l.length c,V0 (l.length:Int),V0 (↑(i+1):Int),.bool (decide ((i:Int)<(l.length:Int))),V0 (i:Int),.pointer (some (Zr a (i*1))),V0 (l.getD i 0),V0 (l.getD i 0),.bool false,.bool false,V0 (l.getD i 0),.bool (decide ((l.getD i 0)>(2147483647:Int))),.bool (decide ((l.getD i 0)>(2147483647:Int))),.slice ps i cs,V0 (l.getD i 0),V0 (if(3:Int)<(l.getD i 0) then(3:Int) else(l.getD i 0)),.slice (S1 b6) 1 1,.slice p7 (i+1) c7,V0 (l.getD i 0),.bool (decide ((l.getD i 0)≥(3:Int))),(x2 22),(x2 23),(x2 24),(x2 25),(x2 26),(x2 27),(x2 28),V0 (↑(i+1):Int),undef,undef,undef,undef,undef,undef,undef,undef,undef,undef],[]⟩ (by rw[Qm M0]) ?_
     refine⟨⟨i+1,_,_,_,_,(pk [(x2 0),(x2 1),(x2 2),V0 (i:Int),V0 (l.getD i 0),.bool (decide ((i:Int)<(l.length:Int))),V0 (i:Int),.pointer (some (Zr a (i*1))),V0 (l.getD i 0),V0 (l.getD i 0),.bool false,.bool false,V0 (l.getD i 0),.bool (decide ((l.getD i 0)>(2147483647:Int))),.bool (decide ((l.getD i 0)>(2147483647:Int))),.slice ps i cs,V0 (l.getD i 0),V0 (if(3:Int)<(l.getD i 0) then(3:Int) else(l.getD i 0)),.slice (S1 b6) 1 1,.slice p7 (i+1) c7,V0 (l.getD i 0),.bool (decide ((l.getD i 0)≥(3:Int))),(x2 22),(x2 23),(x2 24),(x2 25),(x2 26),(x2 27),(x2 28),V0 (↑(i+1):Int)]),rfl,hB,o7,(by rw[Qm M0];exact ho),by omega,fun j hj=>(E6 j i).elim (hz j) (fun q=>by obtain rfl:j=i:=M0;exact⟨by omega,by omega⟩)⟩,?_⟩
     show l.length-((↑(i+1):Int)).toNat<l.length-((i:Int)).toNat
     omega
 ·have f4:=of_decide_eq_false f4
  refine wp_exit ?_
  refine Bv ?_
  refine Bv ?_
  refine Fq ?_
  refine wp_seq ?_
  refine wp_region_lit ?_
  refine Gu K0 (Wj [S0] rfl K0 ?_)
  intro b4 o3 f0
  have j3:=f0.ge hB
  replace hB:=bln hB f0.below
  replace hs:=Za hs f0.below
  replace ho:=Za ho f0.below
  have c5:=f0.blk
  refine wpList_nil ?_
  refine wp_seq ?_
  refine wp_seq ?_
  refine wp_region_lit ?_
  refine Hp 1 [(42,.slice ps i cs)] K0 ?_
  refine Gu K0 (Vf (lb:=#[]) 217 #[.slice ps i cs,V0 960] rfl K0 (fun _ _=>by kernel_rfl) K0 ((Cg ps i cs _).mono ?_))
  rintro e c9 ⟨b1,b2,rfl,c4,n4,o6,m2,d6,e0⟩
  refine⟨_,rfl,?_⟩
  replace hB:=bln hB c4
  replace c5:=c5.below c4
  replace hs:=Za hs c4
  replace ho:=Za ho c4
  refine wpList_nil ?_
  refine wp_block ?_
  have k8:i=l.length:=by omega
  obtain⟨g,hv⟩:=row_or hs
  have m4:=Fe b1 b2 (fun b=>b<c9.heap.size∧b≠b4) g 0 i cs (.slice ps i cs) c9 (fun b h=>h.1) ⟨d6.lt,(by rintro rfl;exact absurd (d6.ty c5) Do)⟩ ⟨e0.lt,(by rintro rfl;exact absurd (e0.ty c5) Do)⟩ M0 hv (d6.cell (i:=0) rfl) (e0.cell (i:=0) rfl)
  refine g_fr ⟨#[.slice a l.length c,undef,(x2 0),(x2 1),(x2 2),.slice ps i cs,.slice po ((Zh l i).length) co,(x2 3),(x2 4),P0 b4,undef,.slice a l.length c,V0 (l.length:Int),.bool (decide ((l.length:Int)>(65536:Int))),.slice a l.length c,V0 (l.length:Int),V0 (i:Int),.bool (decide ((i:Int)<(l.length:Int))),(x2 6),(x2 7),(x2 8),(x2 9),(x2 10),(x2 11),(x2 12),(x2 13),(x2 14),(x2 15),(x2 16),(x2 17),(x2 18),(x2 19),(x2 20),(x2 21),(x2 22),(x2 23),(x2 24),(x2 25),(x2 26),(x2 27),(x2 28),(x2 29),.slice ps i cs,.func (.func 261) #[] #[P0 b1,P0 b2],undef,undef,undef,undef,undef,undef,undef,undef],[]⟩ K0 ?_
  refine wp_range (g:=.tmp 43) (gf:=261) (lb:=#[P0 b1,P0 b2]) rfl (enters_of Tryz.func261 K0 rfl) _ (fun b h=>h.1) m4 (fun _=>rfl)
   (fun a0 W=>(∃ pb cb gs,gs.length=a0.length∧Blk W b4 [.slice pb (Vt (Zi (l.take i)) a0).length cb] 225∧Lists W c9.heap.size (.slice pb (Vt (Zi (l.take i)) a0).length cb) gs (Vt (Zi (l.take i)) a0))∧BelowBut c9 b4 W)
   (fun _ _ _=>False) ?own (fun _ _ _ _ _ h _ _=>h) ⟨⟨none,0,[],rfl,c5,⟨A9 _ _ _ _,fun i hi=>absurd hi (Nat.not_lt_zero _)⟩⟩,(Below.refl _ _).but _⟩
   (fun x a' _=>a'={ tmps:=#[.slice a l.length c,undef,(x2 0),(x2 1),(x2 2),.slice ps i cs,.slice po ((Zh l i).length) co,(x2 3),(x2 4),P0 b4,.slice (some ⟨g,0+x.val*960,none⟩) (min 960 (i-x.val*960)) (min 960 (i-x.val*960)),.slice a l.length c,V0 (l.length:Int),.bool (decide ((l.length:Int)>(65536:Int))),.slice a l.length c,V0 (l.length:Int),V0 (i:Int),.bool (decide ((i:Int)<(l.length:Int))),(x2 6),(x2 7),(x2 8),(x2 9),(x2 10),(x2 11),(x2 12),(x2 13),(x2 14),(x2 15),(x2 16),(x2 17),(x2 18),(x2 19),(x2 20),(x2 21),(x2 22),(x2 23),(x2 24),(x2 25),(x2 26),(x2 27),(x2 28),(x2 29),.slice ps i cs,.func (.func 261) #[] #[P0 b1,P0 b2],.slice (some ⟨g,0+x.val*960,none⟩) (min 960 (i-x.val*960)) (min 960 (i-x.val*960)),undef,undef,undef,undef,undef,undef,undef],defers:=[] }) (fun _ _ _ _ _ _ h _ _=>h) ?assign ?body ?done (fun _ _ _ _ _ _ h _=>h.elim)
  case own=>exact OwnFrom.and (Own.from (fun s A B o1 hs hg hr=>by obtain⟨pb,cb,gs,h0,h1,h2⟩:=hs;exact⟨pb,cb,gs,h0,h1.turn hg hr,h2.turn hg hr⟩) _) (Eb (A3 _))
  case assign =>
   rintro lr a0 x W K hI hK
   unfold encK
   gi_wp2
   refine hK _ _ (KeepsFrom.refl _ _) (Keeps.refl _ _) hI ?_
   simp only[k8,E9,decide_eq_false (show ¬ ((l.length:Int)>65536) by omega),Int.lt_irrefl,decide_false]
  case body =>
   rintro lr a0 x a' W n5 ⟨⟨pb,cb,gs,e3,m9,hL⟩,e4⟩ rfl n8
   have hx:=bmN_lt x.isLt
   have n0:=hv.resolve_left (fun q=>by omega)
   have a2:=e4.own2 hs c5 Do
   rw[n0.1] at a2
   obtain⟨m,hm⟩:∃ m,min 960 (i-x.val*960)=m:=⟨_,rfl⟩
   rw[hm]
   have f3:0<m:=by omega
   have j7:x.val*960+m≤i:=by omega
   have f8:(Zi (l.take i)).length=i:=by simp[Zi];omega
   have c8:(Kl (Zi (l.take i)) x.val).length=m:=by rw[Mo,f8];exact hm
   have l6:(((Zi (l.take i)).map V0).drop (x.val*960)).take m=(Kl (Zi (l.take i)) x.val).map V0:=by rw[←G6,←E5];unfold Kl;rw[show((Zi (l.take i)).drop (x.val*960)).take m=((Zi (l.take i)).drop (x.val*960)).take 960 from by rw[I8,H2,f8];omega]
   have i0:(Vt (Zi (l.take i)) a0).length=a0.length:=by simp[Vt]
   have o0:a0.length≤69:=by have:bmN i≤69:=(by unfold bmN;omega);omega
   have a1:=hL.row
   have hE:Each W c9.heap.size gs (Vt (Zi (l.take i)) a0):=hL.each
   have hZ:RdZ c9 b4 W W:=RdZ.refl e4
   have a4:c9.heap.size≤W.heap.size:=e4.size
   have a3:w.heap.size≤c9.heap.size:=hB.size
   have c0:=j3
   refine wpIn_block ?_
   have hB:=blB (Below.refl w.heap.size W) (N0 a3 a4) (Zb W)
   replace m9:=m9.below (Zb W)
   replace a2:=Za a2 (Zb W)
   replace a1:=Za a1 (Zb W)
   replace hE:=hE.below (Zb W)
   replace hZ:=hZ.below (Zb W)
   refine h_regIn (fun V=>Below w.heap.size (W.drew) V∧Zd [225,27] (W.drew) V) 6 rfl #[false,false,false,false,false,false] rfl K0 (fun⟨_,_,q⟩=>q) (by simp) ⟨Below.refl _ _,Zd.refl _ _⟩ ?_
   intro c3
   have a8:=hB
   have f2:=m9
   have i3:=a1
   refine h_pv [1] 5 rfl #[false,true,false,false,false,false] [(46,.slice (some ⟨g,0+x.val*960,none⟩) m m)] K0 (fun _ _ _ _ _ h=>h) K0 c3 ?_
   refine h_two 0 2 4 rfl K0 rfl rfl K0 K0 ?_ ?_
   ·refine Vz ⟨b4,0,none⟩ (.slice pb ((Vt (Zi (l.take i)) a0).length) cb) rfl K0 K0 (m9.cell (i:=0) rfl) ?_
    have d8:Below w.heap.size (W.drew) (W.drew)∧Zd [225,27] (W.drew) (W.drew):=c3
    refine⟨d8,?_⟩
    have i9:W.heap.size≤(W.drew).heap.size:=hB.size
    refine Nt 2 3 rfl K0 rfl K0 (Vf (lb:=#[]) 135 #[.slice (some ⟨g,0+x.val*960,none⟩) m m] rfl K0 (fun _ _=>by kernel_rfl) K0 ((Ga ⟨g,0+x.val*960,none⟩ m m ((Kl (Zi (l.take i)) x.val).map V0) _ (l6▸Sl.midI (Ze a2) (by rw[A0];exact f8) (x.val*960) m f3 j7) (by rw[A0];exact c8) (fun u hu=>by obtain⟨y,_,rfl⟩:=List.mem_map.1 hu;rfl) M0).mono ?_))
    rintro e l5 ⟨_,rfl,a6,q,c2,rfl,hq⟩
    refine⟨_,rfl,?_⟩
    replace hB:=blB hB (N0 a3 a4) a6
    replace m9:=m9.below a6
    replace a2:=Za a2 a6
    replace a1:=Za a1 a6
    replace hE:=hE.below a6
    replace hZ:=hZ.below a6
    replace hq:=Zf hq i9
    have c1:Below w.heap.size (W.drew) (l5)∧Zd [225,27] (W.drew) (l5):=⟨blB d8.1 (N0 (N0 a3 a4) a8.size) a6,d8.2.trans (Zd.of_below a6)⟩
    refine⟨c1,?_⟩
    refine Nt 3 2 rfl K0 rfl K0 (Yb 27 [.slice q m c2] rfl K0 ?_)
    intro m8 l0 b3
    have f9:=b3.ne m9
    have o2:=b3.ge0 hB
    have g1:=Zg a1 b3
    have i8:(W.drew).heap.size≤m8:=by have:=c1.1.size;have:=b3.at_;omega
    replace hB:=blB hB (N0 a3 a4) b3.below
    replace m9:=m9.below b3.below
    replace a2:=Za a2 b3.below
    replace a1:=Za a1 b3.below
    replace hE:=hE.below b3.below
    replace hZ:=hZ.below b3.below
    replace hq:=Za hq b3.below
    have l9:=b3.blk
    have d3:Below w.heap.size (W.drew) (l0)∧Zd [225,27] (W.drew) (l0):=⟨blB c1.1 (N0 (N0 a3 a4) a8.size) b3.below,c1.2.trans (Zd.of_below b3.below)⟩
    refine⟨d3,?_⟩
    refine Nt 4 1 rfl K0 rfl K0 (Zz (e:=27) (n:=(Vt (Zi (l.take i)) a0).length) (xs:=(List.range (Vt (Zi (l.take i)) a0).length).map (Ba gs (Vt (Zi (l.take i)) a0))) (m:=1) (news:=[.slice q m c2]) (S0) 1 24 ((Vt (Zi (l.take i)) a0).length+1) ((List.range (Vt (Zi (l.take i)) a0).length).map (Ba gs (Vt (Zi (l.take i)) a0))++[.slice q m c2]) rfl Tryz.underlying225 K0 rfl Do K0 a1 K0 (l9.sl 1 1 Do Do) rfl (by simp[Value.oneCell']) (by unfold maxLen;omega) M0 (N0 a4 hZ.le) (by simp) (by simp) ?_)
    intro j9 k9 j2 h6 b5 f1
    replace m9:=m9.grown b5 a1 Do
    replace a2:=Xb a2 b5 a1 Do
    replace hE:=hE.only (Zd.of_grown (T:=[27]) b5 a1 Do) Do
    replace hZ:=hZ.grown b5 a1
    replace hq:=Xb hq b5 a1 Do
    replace hB:=hB.trans (f1.mono a3)
    have d4:Below w.heap.size (W.drew) (j2)∧Zd [225,27] (W.drew) (j2):=⟨d3.1.trans (f1.mono a3),d3.2.trans (Zd.of_grown b5 a1 Do)⟩
    refine⟨d4,?_⟩
    refine Nt 5 0 rfl K0 rfl K0 (Jp (v:=.slice j9 ((Vt (Zi (l.take i)) a0).length+1) k9) (b:=b4) (off:=0) rfl K0 K0 K0 rfl m9 (by first|decide|simp) ?_)
    intro k5 d0 l2
    change Blk _ _ [.slice j9 ((Vt (Zi (l.take i)) a0).length+1) k9] _ at l2
    replace hB:=d0.below hB c0
    replace a2:=d0.own2 a2 m9 Do
    replace hE:=hE.only (Zd.of_upd (T:=[225]) d0 m9 Do) Do
    replace hZ:=hZ.upd d0 m9
    replace hq:=d0.own2 hq m9 Do
    replace h6:=d0.own2 h6 m9 Do
    have i4:Below w.heap.size (W.drew) (k5)∧Zd [225,27] (W.drew) (k5):=⟨d0.below d4.1 c0,d4.2.trans (Zd.of_upd d0 m9 Do)⟩
    refine⟨i4,?_⟩
    refine Zda _ K0 ?_
    obtain⟨g2,rfl,l4⟩:=Gd hq f3
    rw[←c8] at hq
    have a5:=h6
    rw[←c8] at a5
    have hS:=Lists.snoc (n:=(Vt (Zi (l.take i)) a0).length+1) rfl a5 hE (Zf hq a4) (by rw[e3,i0])
    exact⟨hZ.ko.from _,⟨hZ.le,fun b hb=>hZ.fr b hb.1 hb.2⟩,⟨_,_,gs++[(g2,_)],by simp[e3],by rw[Vp,A1];exact l2,by rw[Vp,A1];exact hS⟩,hZ.bb⟩
   ·have i7:W.heap.size≤(W.drew).heap.size:=hB.size
    refine Vf (lb:=#[]) 135 #[.slice (some ⟨g,0+x.val*960,none⟩) m m] rfl K0 (fun _ _=>by kernel_rfl) K0 ((Ga ⟨g,0+x.val*960,none⟩ m m ((Kl (Zi (l.take i)) x.val).map V0) _ (l6▸Sl.midI (Ze a2) (by rw[A0];exact f8) (x.val*960) m f3 j7) (by rw[A0];exact c8) (fun u hu=>by obtain⟨y,_,rfl⟩:=List.mem_map.1 hu;rfl) M0).mono ?_)
    rintro e g3 ⟨_,rfl,a7,q,c2,rfl,hq⟩
    refine⟨_,rfl,?_⟩
    replace hB:=blB hB (N0 a3 a4) a7
    replace m9:=m9.below a7
    replace a2:=Za a2 a7
    replace a1:=Za a1 a7
    replace hE:=hE.below a7
    replace hZ:=hZ.below a7
    replace hq:=Zf hq i7
    have b9:Below w.heap.size (W.drew) (g3)∧Zd [225,27] (W.drew) (g3):=⟨blB c3.1 (N0 (N0 a3 a4) a8.size) a7,c3.2.trans (Zd.of_below a7)⟩
    refine⟨b9,?_⟩
    refine h_two 0 3 3 rfl K0 rfl rfl K0 K0 ?_ ?_
    ·refine Vz ⟨b4,0,none⟩ (.slice pb ((Vt (Zi (l.take i)) a0).length) cb) rfl K0 K0 (m9.cell (i:=0) rfl) ?_
     have c6:Below w.heap.size (W.drew) (g3)∧Zd [225,27] (W.drew) (g3):=b9
     refine⟨c6,?_⟩
     refine Nt 3 2 rfl K0 rfl K0 (Yb 27 [.slice q m c2] rfl K0 ?_)
     intro m1 j1 a9
     have g7:=a9.ne m9
     have n9:=a9.ge0 hB
     have g0:=Zg a1 a9
     have i6:(W.drew).heap.size≤m1:=by have:=c6.1.size;have:=a9.at_;omega
     replace hB:=blB hB (N0 a3 a4) a9.below
     replace m9:=m9.below a9.below
     replace a2:=Za a2 a9.below
     replace a1:=Za a1 a9.below
     replace hE:=hE.below a9.below
     replace hZ:=hZ.below a9.below
     replace hq:=Za hq a9.below
     have l8:=a9.blk
     have e1:Below w.heap.size (W.drew) (j1)∧Zd [225,27] (W.drew) (j1):=⟨blB c6.1 (N0 (N0 a3 a4) a8.size) a9.below,c6.2.trans (Zd.of_below a9.below)⟩
     refine⟨e1,?_⟩
     refine Nt 4 1 rfl K0 rfl K0 (Zz (e:=27) (n:=(Vt (Zi (l.take i)) a0).length) (xs:=(List.range (Vt (Zi (l.take i)) a0).length).map (Ba gs (Vt (Zi (l.take i)) a0))) (m:=1) (news:=[.slice q m c2]) (S0) 1 24 ((Vt (Zi (l.take i)) a0).length+1) ((List.range (Vt (Zi (l.take i)) a0).length).map (Ba gs (Vt (Zi (l.take i)) a0))++[.slice q m c2]) rfl Tryz.underlying225 K0 rfl Do K0 a1 K0 (l8.sl 1 1 Do Do) rfl (by simp[Value.oneCell']) (by unfold maxLen;omega) M0 (N0 a4 hZ.le) (by simp) (by simp) ?_)
     intro j5 j0 l7 i2 b8 e8
     replace m9:=m9.grown b8 a1 Do
     replace a2:=Xb a2 b8 a1 Do
     replace hE:=hE.only (Zd.of_grown (T:=[27]) b8 a1 Do) Do
     replace hZ:=hZ.grown b8 a1
     replace hq:=Xb hq b8 a1 Do
     replace hB:=hB.trans (e8.mono a3)
     have e2:Below w.heap.size (W.drew) (l7)∧Zd [225,27] (W.drew) (l7):=⟨e1.1.trans (e8.mono a3),e1.2.trans (Zd.of_grown b8 a1 Do)⟩
     refine⟨e2,?_⟩
     refine Nt 5 0 rfl K0 rfl K0 (Jp (v:=.slice j5 ((Vt (Zi (l.take i)) a0).length+1) j0) (b:=b4) (off:=0) rfl K0 K0 K0 rfl m9 (by first|decide|simp) ?_)
     intro l1 d2 j6
     change Blk _ _ [.slice j5 ((Vt (Zi (l.take i)) a0).length+1) j0] _ at j6
     replace hB:=d2.below hB c0
     replace a2:=d2.own2 a2 m9 Do
     replace hE:=hE.only (Zd.of_upd (T:=[225]) d2 m9 Do) Do
     replace hZ:=hZ.upd d2 m9
     replace hq:=d2.own2 hq m9 Do
     replace i2:=d2.own2 i2 m9 Do
     have h8:Below w.heap.size (W.drew) (l1)∧Zd [225,27] (W.drew) (l1):=⟨d2.below e2.1 c0,e2.2.trans (Zd.of_upd d2 m9 Do)⟩
     refine⟨h8,?_⟩
     refine Zda _ K0 ?_
     obtain⟨g2,rfl,l4⟩:=Gd hq f3
     rw[←c8] at hq
     have a5:=i2
     rw[←c8] at a5
     have hS:=Lists.snoc (n:=(Vt (Zi (l.take i)) a0).length+1) rfl a5 hE (Zf hq a4) (by rw[e3,i0])
     exact⟨hZ.ko.from _,⟨hZ.le,fun b hb=>hZ.fr b hb.1 hb.2⟩,⟨_,_,gs++[(g2,_)],by simp[e3],by rw[Vp,A1];exact j6,by rw[Vp,A1];exact hS⟩,hZ.bb⟩
    ·refine Yb 27 [.slice q m c2] rfl K0 ?_
     intro n2 f6 b0
     have g5:=b0.ne m9
     have o5:=b0.ge0 hB
     have f7:=Zg a1 b0
     have i1:(W.drew).heap.size≤n2:=by have:=b9.1.size;have:=b0.at_;omega
     replace hB:=blB hB (N0 a3 a4) b0.below
     replace m9:=m9.below b0.below
     replace a2:=Za a2 b0.below
     replace a1:=Za a1 b0.below
     replace hE:=hE.below b0.below
     replace hZ:=hZ.below b0.below
     replace hq:=Za hq b0.below
     have m0:=b0.blk
     have e6:Below w.heap.size (W.drew) (f6)∧Zd [225,27] (W.drew) (f6):=⟨blB b9.1 (N0 (N0 a3 a4) a8.size) b0.below,b9.2.trans (Zd.of_below b0.below)⟩
     refine⟨e6,?_⟩
     refine Nt 0 2 rfl K0 rfl K0 (Vz ⟨b4,0,none⟩ (.slice pb ((Vt (Zi (l.take i)) a0).length) cb) rfl K0 K0 (m9.cell (i:=0) rfl) ?_)
     have d5:Below w.heap.size (W.drew) (f6)∧Zd [225,27] (W.drew) (f6):=e6
     refine⟨d5,?_⟩
     refine Nt 4 1 rfl K0 rfl K0 (Zz (e:=27) (n:=(Vt (Zi (l.take i)) a0).length) (xs:=(List.range (Vt (Zi (l.take i)) a0).length).map (Ba gs (Vt (Zi (l.take i)) a0))) (m:=1) (news:=[.slice q m c2]) (S0) 1 24 ((Vt (Zi (l.take i)) a0).length+1) ((List.range (Vt (Zi (l.take i)) a0).length).map (Ba gs (Vt (Zi (l.take i)) a0))++[.slice q m c2]) rfl Tryz.underlying225 K0 rfl Do K0 a1 K0 (m0.sl 1 1 Do Do) rfl (by simp[Value.oneCell']) (by unfold maxLen;omega) M0 (N0 a4 hZ.le) (by simp) (by simp) ?_)
     intro k3 k4 j4 h5 b7 e9
     replace m9:=m9.grown b7 a1 Do
     replace a2:=Xb a2 b7 a1 Do
     replace hE:=hE.only (Zd.of_grown (T:=[27]) b7 a1 Do) Do
     replace hZ:=hZ.grown b7 a1
     replace hq:=Xb hq b7 a1 Do
     replace hB:=hB.trans (e9.mono a3)
     have d7:Below w.heap.size (W.drew) (j4)∧Zd [225,27] (W.drew) (j4):=⟨d5.1.trans (e9.mono a3),d5.2.trans (Zd.of_grown b7 a1 Do)⟩
     refine⟨d7,?_⟩
     refine Nt 5 0 rfl K0 rfl K0 (Jp (v:=.slice k3 ((Vt (Zi (l.take i)) a0).length+1) k4) (b:=b4) (off:=0) rfl K0 K0 K0 rfl m9 (by first|decide|simp) ?_)
     intro l3 d1 j8
     change Blk _ _ [.slice k3 ((Vt (Zi (l.take i)) a0).length+1) k4] _ at j8
     replace hB:=d1.below hB c0
     replace a2:=d1.own2 a2 m9 Do
     replace hE:=hE.only (Zd.of_upd (T:=[225]) d1 m9 Do) Do
     replace hZ:=hZ.upd d1 m9
     replace hq:=d1.own2 hq m9 Do
     replace h5:=d1.own2 h5 m9 Do
     have h7:Below w.heap.size (W.drew) (l3)∧Zd [225,27] (W.drew) (l3):=⟨d1.below d7.1 c0,d7.2.trans (Zd.of_upd d1 m9 Do)⟩
     refine⟨h7,?_⟩
     refine Zda _ K0 ?_
     obtain⟨g2,rfl,l4⟩:=Gd hq f3
     rw[←c8] at hq
     have a5:=h5
     rw[←c8] at a5
     have hS:=Lists.snoc (n:=(Vt (Zi (l.take i)) a0).length+1) rfl a5 hE (Zf hq a4) (by rw[e3,i0])
     exact⟨hZ.ko.from _,⟨hZ.le,fun b hb=>hZ.fr b hb.1 hb.2⟩,⟨_,_,gs++[(g2,_)],by simp[e3],by rw[Vp,A1];exact j8,by rw[Vp,A1];exact hS⟩,hZ.bb⟩
  case done =>
   rintro D xs W hD rfl ⟨⟨pb,cb,gs,e3,m9,hL⟩,e4⟩ k7
   rw[preC_all] at m9 hL
   have hK:Dfr D W:=k7;clear k7
   subst k8
   rw[List.take_length] at m9 hL
   rw[Qw] at m9 hL
   refine Zcb ?_
   have m5:=hB
   replace hB:=e4.below hB j3 hB.size
   have k2:=e4.own2 ho c5 Do
   have a3:=m5.size
   replace c5:=m9
   refine wp_seq ?_
   refine wp_region_lit ?_
   refine Gu K0 (Vz ⟨b4,0,none⟩ (.slice pb (bmN l.length) cb) rfl K0 K0 (c5.cell (i:=0) rfl) ?_)
   refine Hp 4 [(51,.slice po ((Zh l l.length).length) co),(2,.slice pb (bmN l.length) cb),(3,.slice po ((Zh l l.length).length) co),(4,V0 0)] K0 ?_
   refine wpList_nil ?_
   refine wp_ret ?_
   exact g_endM hK (.tuple #[.slice pb (bmN l.length) cb,.slice po ((Zh l l.length).length) co,V0 0]) K0 K0 (.inr ⟨Fp hl (fun k hk=>hz k M0),_,_,gs,_,_,rfl,(Upd.of_put _ _ _).below hB (N0 a3 hD),(hL.mono a3).put (Upd.of_put _ _ _) hK,(Upd.of_put _ _ _).own3 k2 (hK.row k2)⟩)
end Go.Proofs.YtekomodnkfhihaaGreatDoor
namespace Go.Proofs.YtekomodnkfhihaaGreatDoor
set_option maxHeartbeats 8000000
set_option maxRecDepth 100000
open Go.RowKit Go.Extern.Stop Go.Stop Go.Extern
set_option linter.unusedVariables false
attribute [local irreducible] wpList wpAnyH Code.wp Oper.wp Go
def LayPost(B ba b g nn cc:Nat)(pa:O0)(ca f N k0:Nat)(bs:Bi)(bl:Nat)(L:List (List Int))(w:World)(e:Ending)(w':World):Prop :=
 ∃ p c,e=.returned .nilIface∧Below B w w'∧Zd [169,5,99,124] w w'∧Fr [ba,g,bl] w w'∧Al B ba b g nn cc pa ca f N (k0+L.length) (Kn L (f+k0) bs L.length) w'∧Blk w' bl [.slice p L.length c] 99∧w'.ownsRow w.heap.size 124 3 (.slice p L.length c) L.length ((Xj L (f+k0) L.length).flatMap Qb)
theorem Ox(B ba b g nn cc:Nat)(pa:O0)(ca f N k0:Nat)(bs:Bi)(bl B2:Nat)(pl:O0)(cl:Nat)(gs:List (Nat×Nat))(L:List (List Int))(w:World)(hC:AlC B ba nn cc ca f N)(hA:Al B ba b g nn cc pa ca f N k0 bs w)(hL:Lists w B2 (.slice pl L.length cl) gs L)(hS:∀ i,i<L.length→Jh (L.getD i [])∧(L.getD i []).length≤960)(hf1:1≤f)(hk:k0+L.length≤N)(kl:Blk w bl [S0] 99)(hBl:B≤bl)(hBw:B≤w.heap.size) :
 C0 154 #[P0 ba,.slice pl L.length cl,.func (.func 155) #[] #[P0 bl]] w (LayPost B ba b g nn cc pa ca f N k0 bs bl L w):=by
 have d3:=hC.hf
 have d4:=hC.hn
 refine zin 51 Tryz.func154 ?_
 have hB:=Below.refl B w
 refine zl 14 51 (fun zm d1 V=>∃ (i:Nat) (p:O0) (c:Nat),d1=[(0,P0 ba),(2,.func (.func 155) #[] #[P0 bl]),(15,.slice pl L.length cl),(16,V0 (L.length:Int)),(17,V0 (i:Int))]∧zm=L.length-((i:Int)).toNat∧Below B w V∧Fr [ba,g,bl] w V∧Zd [169,5,99,124] w V∧Blk V bl ([.slice p i c]) 99∧Al B ba b g nn cc pa ca f N (k0+i) (Kn L (f+k0) bs i) V∧Lists V B2 (.slice pl L.length cl) gs L∧V.ownsRow w.heap.size 124 3 (.slice p i c) i ((Xj L (f+k0) i).flatMap Qb)∧i≤L.length) ⟨0,none,0,rfl,rfl,hB,(Fr.refl _ _),(Zd.refl _ _),kl,hA,hL,A9 _ _ _ _,A6 _⟩ ?_
 rintro _ _ W1 ⟨i,p,c,rfl,rfl,a5,a8,a7,a1,hA,hL,b2,hi⟩ J1 c4 r1
 refine xid 6 ((i:Int)<(L.length:Int)) (fun d0=>?_) (fun d0=>?_)
 ·refine xx 6 _ L.length i 1 (Lists.elem hL rfl (k:=i) M0).1 ?_
  refine xl 0 ((Lists.elem hL rfl (k:=i) M0).2) ?_
  refine xc 6 (args:=#[.slice (some ⟨(gs.getD i (0,0)).1,0,none⟩) ((L.getD i []).length) ((gs.getD i (0,0)).2)]) (Rp _ _ (L.getD i []) _ (hS i M0).1 (hS i M0).2 (Ze (hL.each i M0))) ?_
  rintro _ W3 ⟨_,rfl,a2,g6,rfl,h6⟩
  have b7:=hA.below a2
  have a6:=a7.trans (Zd.of_below a2)
  have c0:=Zf h6 a5.size
  have b0:=blB a5 hBw a2
  refine xc 21 (args:=#[P0 ba,V0 3,.slice (S1 g6) 244 244]) (Jl B ba b g nn cc pa ca f N (k0+i) (Kn L (f+k0) bs i) 3 (S1 g6) 244 (bitsB (L.getD i [])) (f+k0+i) 244 _ (D7 _ _ _).symm (Kr _ _) hC b7 M0 Do Do (fun W _ a6=>Qf (Ze (Zo c0 a6 Do)) (Kr _ _)) Do (N0 hBw b0.size)) ?_
  rintro _ W4 ⟨rfl,c5,b3,c7,hA⟩
  have b1:=(hL.below a2).only b3 Do
  refine xr 20 (args:=#[.slice (some ⟨(gs.getD i (0,0)).1,0,none⟩) ((L.getD i []).length) ((gs.getD i (0,0)).2)]) (Cm _ _ (L.getD i []) _ (hS i M0).2 (Ze (b1.each i M0))) fun W5 a4=>?_
  have c6:Xl (L.getD i [])≤960:=N0 (Wo _ _) (hS i M0).2
  have c2:Zx (L.getD i [])≤960:=N0 (Pt _) (hS i M0).2
  have a3:=blB (b0.trans c5) hBw a4
  have a0:=((a1.below a2).only b3 Do).below a4
  have a9:=Za (Zo (Za b2 a2) b3 Do) a4
  refine xc 13 (args:=#[.agg #[V0 (↑(f+k0+i):Int),V0 (↑(Xl (L.getD i [])):Int),V0 (↑(Zx (L.getD i [])):Int)],P0 bl]) (On B w.heap.size bl p c L (f+k0) i _ hBw a3.size (N0 hBw a3.size) hBl a0 a9 M0 M0 M0 c6 c2) ?_
  rintro _ W6 ⟨_,p9,c9,rfl,d2,b9,c8,b2,c3⟩
  refine xwm 4 ((i:Int)+1) (↑(i+1):Int) ?_
  have b8:=(hA.below a4).only b9 Do
  have b4:=(b1.below a4).only b9 Do
  have c1:=a3.trans d2
  have b6:=(Fr.trans_B (((a8.trans (Fr.of_below a2)).trans (c7.mono (by simp))).trans (Fr.of_below a4)) c3 (by simp))
  have b5:=((a6.trans (b3.wide)).trans (Zd.of_below a4)).trans (b9.wide)
  exact ze 2 (c4 _ _ _ ⟨i+1,_,_,rfl,rfl,c1,b6,b5,c8,b8,b4,b2,by omega⟩ M0)
 refine xe 11 .nilIface ?_
 obtain rfl:i=L.length:=by omega
 exact⟨_,_,rfl,a5,a7,a8,hA,a1,b2⟩
theorem Hd(a:O0)(c:Nat)(l:List Int)(w:World)(h:Sl w (.slice a l.length c) l.length (l.map V0))(hl:l.length≤65536)(hs:Yx l=0):C0 152 #[.slice a l.length c] w (fun e w'=>∃ pb cb gs po co,e=.returned (.tuple #[.slice pb (bmN l.length) cb,.slice po (Zh l l.length).length co,V0 0])∧Bl w w'∧Lists w' w.heap.size (.slice pb (bmN l.length) cb) gs (Xa (Zi l) (bmN l.length))∧w'.ownsRow w.heap.size 124 3 (.slice po (Zh l l.length).length co) (Zh l l.length).length ((Zh l l.length).flatMap Qb)) :=
 (Dq a c l w h hl).mono fun e w' q=>(q.resolve_left fun z=>z.1 hs).2
theorem Oc(B ba b g nn cc:Nat)(pa:O0)(ca f N k0:Nat)(bs:Bi)(bl B2:Nat)(pl:O0)(cl:Nat)(gs:List (Nat×Nat))(L:List (List Int))(n:Nat)(hn:L.length=n)(w:World)(hC:AlC B ba nn cc ca f N)(hA:Al B ba b g nn cc pa ca f N k0 bs w)(hL:Lists w B2 (.slice pl n cl) gs L)(hS:∀ i,i<L.length→Jh (L.getD i [])∧(L.getD i []).length≤960)(hf1:1≤f)(hk:k0+n≤N)(kl:Blk w bl [S0] 99)(hBl:B≤bl)(hBw:B≤w.heap.size) :
 C0 154 #[P0 ba,.slice pl n cl,.func (.func 155) #[] #[P0 bl]] w (fun e w'=>∃ p c,e=.returned .nilIface∧Below B w w'∧Zd [169,5,99,124] w w'∧Fr ([ba,g]++[bl]) w w'∧Al B ba b g nn cc pa ca f N (k0+n) (Kn L (f+k0) bs n) w'∧Blk w' bl [.slice p n c] 99∧w'.ownsRow w.heap.size 124 3 (.slice p n c) n ((Xj L (f+k0) n).flatMap Qb)):=by
 subst hn;exact Ox B ba b g nn cc pa ca f N k0 bs bl B2 pl cl gs L w hC hA hL hS hf1 hk kl hBl hBw
theorem Ug{l:List Int}(h:∀ k,k<l.length→Ks (l.getD k 0))(n:Nat):∀ i,i<(Xa (Zi l) n).length→Jh ((Xa (Zi l) n).getD i [])∧((Xa (Zi l) n).getD i []).length≤960:=fun i hi=>by
 rw[Qw] at hi
 rw[Er hi]
 exact⟨Dy (small_ok h) i,by rw[Mo];omega⟩
theorem own_keep{w W:World}{B ba b g nn cc:Nat}{pa:O0}{ca f N k0 bl:Nat}{bs:Bi}{cs:List Value}{base n:Nat}{v:Value}{xs:List Value}(k:w.ownsRow base 124 3 v n xs)(hA:Al B ba b g nn cc pa ca f N k0 bs w)(kl:Blk w bl cs 99)(hX:Fr ([ba,g]++[bl]) w W):W.ownsRow base 124 3 v n xs:=Zcw k hX fun j hj hm=>by
 obtain⟨a0,kb⟩:=Wq hA.data
 simp only[F5,G5,D4,List.not_mem_nil,or_false] at hm
 rcases hm with h|h|h
 ·exact Pr k hA.blkA Do _ hj h
 ·exact Pr k kb Do _ hj h
 ·exact Pr k kl Do _ hj h
def DataP(B ba b g nn cc:Nat)(pa:O0)(ca f N k0:Nat)(bs:Bi)(l:List Int)(w:World)(e:Ending)(w':World):Prop :=
 e=.returned (.tuple #[V0 (plotB l (f+k0) bs).1,V0 (plotB l (f+k0) bs).2.1,.nilIface])∧Below B w w'∧Zd [169,5,99,124,39] w w'∧Fr [ba,g] w w'∧Al B ba b g nn cc pa ca f N (k0+Ho l) (plotB l (f+k0) bs).2.2 w'
theorem Ux(n:Nat)(w:World)(hn:n≤65536) :
 C0 64 #[V0 (n:Int)] w (Ret (V0 (↑(bmN n):Int)) w):=by
 refine zin 9 Tryz.func64 ?_
 refine xid 12 ((n:Int)<(1:Int)) (fun a0=>?_) (fun a0=>?_)
 ·exact xe 7 (V0 0) ⟨by rw[show bmN n=0 from by unfold bmN;omega];rfl,(B3 w)⟩
 refine xwm 5 ((n:Int)-1) (↑(n-1):Int) ?_
 refine xq 0 (congrArg V0 (show(IntKind.i64.wrap (Int.tdiv (↑(n-1):Int) 960):Int)=(↑((n-1)/960):Int) from Ry (n-1) 960 M0 Do)) ?_
 refine xw 0 ((↑((n-1)/960):Int)+1) ?_
 exact xe 4 (V0 ((↑((n-1)/960):Int)+1)) ⟨by rw[show bmN n=(n-1)/960+1 from by unfold bmN;omega,Int.natCast_add];rfl,(B3 w)⟩
structure Sin(w W:World):Prop where
 b:Below w.heap.size w W
theorem Sin.below{w W V:World}(h:Sin w W)(hb:Bl W V):Sin w V:=⟨bln h.b hb⟩
theorem Sin.trans{w W V:World}(h:Sin w W)(hb:Below w.heap.size W V):Sin w V:=⟨h.b.trans hb⟩
theorem Sin.upd{w W V:World}{b:Nat}(h:Sin w W)(u:Upd W b V)(hb:w.heap.size≤b):Sin w V:=⟨u.below h.b hb⟩
theorem rs_ok{L:List (List Int)}{q n:Nat}(hS:∀ i,i<L.length→Jh (L.getD i [])∧(L.getD i []).length≤960)(hn:L.length=n)(h1:1≤q)(h2:q+n≤14400)(h3:n≤14):Fd (Rs L q n):=by
 refine⟨by rw[Ml];exact h3,fun i hi=>?_⟩
 rw[Ml] at hi
 rw[Rs_get hi]
 have hc:=(hS i M0).2
 exact⟨by show 1≤q+i;omega,by show q+i≤14399;omega,N0 (Wo _ _) hc,N0 (Pt _) hc⟩
theorem Br(j:Nat)(B ba b g nn cc:Nat)(pa:O0)(ca f N k0:Nat)(bs:Bi)(w:World)(hC:AlC B ba nn cc ca f N)(hA:Al B ba b g nn cc pa ca f N k0 bs w)(hk:k0≤N)(hN:N≤1000000)(hj:j≤1000000)(hjn:j≤N-k0) :
 C0 158 #[P0 ba,V0 (j:Int)] w (Qh (fun w' r=>∃ q c2,r=.slice q j c2∧w'.ownsRow w.heap.size 3 1 (.slice q j c2) j ((((Np f N).drop k0).take j).map V0)) w):=by
 have h:=Fg B ba b pa N ca k0 j (Np f N) w ⟨hA.blkA,hA.nums,Rw _ _,hC.hB,hN,hk⟩ hj
 rwa [Gt hjn] at h
theorem Uy(n:Nat)(a:O0)(c:Nat)(l:List Int)(w:World)(hn:l.length=n)(h:Sl w (.slice a n c) n (l.map V0))(hl:n≤65536)(hs:Yx l=0):C0 152 #[.slice a n c] w (fun e w'=>∃ pb cb gs po co,e=.returned (.tuple #[.slice pb (bmN n) cb,.slice po (Zh l n).length co,V0 0])∧Bl w w'∧Lists w' w.heap.size (.slice pb (bmN n) cb) gs (Xa (Zi l) (bmN n))∧w'.ownsRow w.heap.size 124 3 (.slice po (Zh l n).length co) (Zh l n).length ((Zh l n).flatMap Qb)):=by
 subst hn;exact Hd a c l w h hl hs
theorem As(n:Nat)(a:O0)(c:Nat)(S:List (Nat×Nat×Nat))(w:World)(hn:S.length=n)(hS:Fd S)(h:Sts rsC w (.slice a S.length c) S):C0 160 #[.slice a n c] w (Qh (fun w' r=>∃ p c,r=.tuple #[.slice p 244 c,V0 0]∧w'.ownsRow w.heap.size 5 1 (.slice p 244 c) 244 ((idxB S).map bv)) w):=by
 subst hn;exact Oz a c S w hS h
def Lk(u n:Nat):List Int:=(List.range n).map fun i=>if i<u then 1 else 0
theorem Zcd(u n:Nat):(Lk u n).length=n:=by simp[Lk]
theorem Zc5:Zy 5 0=1:=by
 unfold Zy Vw
 rw[show ovN 0 (Qg 5 true)=1 from by decide,Qz Do]
 rfl
theorem Zbc(n:Nat):Kk (Value.int .i64 0).cells.toList n=(Lk 0 n).map V0:=by
 rw[show Kk (Value.int .i64 0).cells.toList n=List.replicate n (V0 0) from by
  rw[show(Value.int .i64 0).cells.toList=[Value.int .i64 0] from rfl,Kk]
  induction n with
  | zero=>rfl
  | succ n ih=>rw[H5,K9,ih];rfl]
 apply H9 (by simp[Lk])
 intro i h1 h2
 simp[Lk]
def shN (L:List Dv):List Nat:=Qx (List.replicate L.length 0) (owL L)
theorem Vi(L:List Dv):(shN L).length=L.length:=by unfold shN;rw[Bj,A8]
theorem Rv(L:List Dv):∀ b∈owL L,b<L.length:=fun b hb=>by
 obtain⟨i,hi,rfl⟩:=List.mem_map.1 hb
 have hi:=E2.1 hi
 have:=(Kq hi).1
 omega
theorem Zch(L:List Dv)(i:Nat):(shN L).getD i 0=(owL L).count i:=by
 unfold shN
 rw[Cz _ _ (fun b hb=>by rw[A8];exact Rv L b hb)]
 have:(List.replicate L.length 0).getD i 0=0:=by simp[List.getD,I5];split<;>rfl
 omega
theorem Lq{L:List Dv}{i:Nat}(h:i<L.length):Zw L i=i↔(shN L).getD i 0≠0:=by
 rw[Zch]
 constructor
 ·intro q
  have:i∈owL L:=List.mem_map.2 ⟨i,E2.2 h,q⟩
  exact Nat.ne_of_gt (List.count_pos_iff.2 this)
 ·intro q
  have hm:=List.count_pos_iff.1 (Nat.pos_of_ne_zero q)
  obtain⟨j,hj,e⟩:=List.mem_map.1 hm
  have hj:=E2.1 hj
  rw[←e];exact Gv hj
theorem Zbk(L:List Dv):(shN L).sum=L.length:=by
 have h:∀ (S cs:List Nat),(∀ b∈S,b<cs.length)→(Qx cs S).sum=cs.sum+S.length:=by
  intro S
  induction S with
  | nil=>intro cs _;rfl
  | cons b S ih =>
   intro cs hb
   have h1:=hb b B9
   rw[Ub,ih _ (fun x hx=>by rw[Jn];exact hb x (C7 _ hx)),St M0 M0,D5]
   omega
 unfold shN
 rw[h _ _ (fun b hb=>by rw[A8];exact Rv L b hb),Nj]
 simp
def twT (L:List Dv)(i:Nat):List Qk:=((List.range i).filter fun k=>Zw L k==k).map fun k=>(2,Jv (L.getD k dvD).2)
theorem Za4{L:List Dv}{i:Nat}(h:Zw L i=i):twT L (i+1)=twT L i++[(2,Jv (L.getD i dvD).2)]:=by
 unfold twT
 rw[C6,List.filter_append,B6]
 simp[h]
theorem Jc{L:List Dv}{i:Nat}(h:Zw L i≠i):twT L (i+1)=twT L i:=by
 unfold twT
 rw[C6,List.filter_append,B6]
 simp[h]
def twN (L:List Dv)(i:Nat):Nat:=Xo (twT L i)
theorem Hk{L:List Dv}{i:Nat}(h:Zw L i=i):twN L (i+1)=twN L i+Zy 2 (L.getD i dvD).2.length:=by
 unfold twN
 rw[Za4 h]
 have e:Xo (twT L i++[(2,Jv (L.getD i dvD).2)])=Xo (twT L i)+Zy 2 (Jv (L.getD i dvD).2).length:=Yv _ _
 rw[e,Yz]
theorem Cd{L:List Dv}{i:Nat}(h:Zw L i≠i):twN L (i+1)=twN L i:=by unfold twN;rw[Jc h]
theorem Sg(L:List Dv)(i:Nat):twN L i≤twN L (i+1):=by
 by_cases h:Zw L i=i
 ·rw[Hk h];omega
 ·rw[Cd h];exact A3 _
theorem Qn(L:List Dv){i j:Nat}(h:i≤j):twN L i≤twN L j:=by
 induction j with
 | zero =>
  obtain rfl:i=0:=by omega
  exact A3 _
 | succ j ih =>
   by_cases e:i=j+1
   ·rw[e];exact A3 _
   ·exact N0 (ih M0) (Sg L j)
def twR (L:List Dv)(i:Nat):Nat:=twN L (Zw L i+1)
theorem twR_own{L:List Dv}{i:Nat}(h:Zw L i=i):twR L i=twN L (i+1):=by unfold twR;rw[h]
theorem twR_of{L:List Dv}{i:Nat}(h:i<L.length):twR L i=twR L (Zw L i):=by unfold twR;rw[Gv h]
theorem Dn{L:List Dv}{i:Nat}(h:i<L.length):1≤twR L i∧twR L i≤twN L (i+1)∧twN L (Zw L i)<twR L i:=by
 have a:=Hk (Gv h)
 have b:=Xk 2 (L.getD (Zw L i) dvD).2.length
 have c:=Qn L (show Zw L i+1≤i+1 by have:=(Kq h).1;omega)
 unfold twR
 omega
def rcF (L:List Dv)(b:Nat):Nat:=((List.range L.length).map (twR L)).count b
theorem Zat{L:List Dv}{b:Nat}(h:rcF L b≠0):∃ j,j<L.length∧twR L j=b:=by
 obtain⟨j,hj,e⟩:=List.mem_map.1 (List.count_pos_iff.1 (Nat.pos_of_ne_zero h))
 exact⟨j,E2.1 hj,e⟩
theorem Pw{L:List Dv}{b:Nat}(h:b=0∨twN L L.length<b):rcF L b=0:=by
 rcases F1 (rcF L b) with q|q
 ·exact q
 ·obtain⟨j,hj,rfl⟩:=Zat (Nat.ne_of_gt q)
  have a:=Dn hj
  have c:=Qn L (show j+1≤L.length by omega)
  omega
theorem Zaa{L:List Dv}{i b:Nat}(hi:i<L.length)(ho:Zw L i=i)(h1:twN L i<b)(h2:b<twN L (i+1)):rcF L b=0:=by
 rcases F1 (rcF L b) with q|q
 ·exact q
 ·obtain⟨j,hj,rfl⟩:=Zat (Nat.ne_of_gt q)
  rcases E6 (Zw L j) i with q|q
  ·have:=Qn L (show Zw L j+1≤i by omega)
   unfold twR at h1;omega
  ·have:=Qn L (show i+1≤Zw L j+1 by omega)
   unfold twR at h2;omega
theorem twR_inj{L:List Dv}{i j:Nat}(hi:i<L.length)(ho:Zw L i=i)(hj:j<L.length):twR L j=twN L (i+1)↔Zw L j=i:=by
 constructor
 ·intro h
  have a:=Dn hj
  have b:=Hk ho
  have c:=Xk 2 (L.getD i dvD).2.length
  rcases Nat.lt_trichotomy (Zw L j) i with q|q|q
  ·have:=Qn L (show Zw L j+1≤i by omega)
   unfold twR at h;omega
  ·exact q
  ·have:=Qn L (show i+1≤Zw L j by omega)
   omega
 ·intro h;unfold twR;rw[h]
theorem Zaj{L:List Dv}{i:Nat}(hi:i<L.length)(ho:Zw L i=i):rcF L (twN L (i+1))=(shN L).getD i 0:=by
 rw[Zch]
 unfold rcF owL
 rw[List.count_eq_countP,List.count_eq_countP,List.countP_map,List.countP_map]
 refine List.countP_congr fun j hj=>?_
 have:=twR_inj hi ho (E2.1 hj)
 simpa using this
def Ej(L:List Dv)(k i:Nat):List Int:=(List.range k).map fun b=>if b≤twN L i then(rcF L b:Int) else 0
theorem cntT_0(L:List Dv)(k:Nat):Ej L k 0=Lk 0 k:=by
 unfold Ej Lk
 refine H4 fun b _=>?_
 rw[if_neg (Nat.not_lt_zero b)]
 by_cases h:b≤twN L 0
 ·rw[if_pos h,Pw (.inl (by have:twN L 0=0:=rfl;omega))];rfl
 ·rw[if_neg h]
theorem Vh{L:List Dv}{k i:Nat}(h:Zw L i≠i):Ej L k (i+1)=Ej L k i:=by unfold Ej;rw[Cd h]
theorem Sh{L:List Dv}{k i:Nat}(hi:i<L.length)(h:Zw L i=i)(hk:twN L (i+1)<k):((Ej L k i).map V0).set (twN L (i+1)) (V0 ((shN L).getD i 0:Int))=(Ej L k (i+1)).map V0:=by
 have hn:=Hk h
 have hp:=Xk 2 (L.getD i dvD).2.length
 apply F4
 intro b
 unfold Ej
 rw[List.getElem?_set]
 by_cases e:twN L (i+1)=b
 ·subst e
  rw[if_pos rfl,if_pos (by simp;exact hk)]
  simp only[B7,B5 hk,C5]
  rw[if_pos (A3 _),Zaj hi h]
 ·rw[if_neg e]
  simp only[B7]
  rcases E6 b k with q|q
  ·rw[B5 q]
   simp only[C5]
   congr 2
   by_cases q1:b≤twN L i
   ·rw[if_pos q1,if_pos M0]
   ·rw[if_neg q1]
    by_cases q2:b≤twN L (i+1)
    ·rw[if_pos q2,Zaa hi h M0 M0];rfl
    ·rw[if_neg q2]
  ·rw[C3 (by simpa using q)];rfl
def Gw(L:List Dv)(m k:Nat):List Int:=(List.range k).map fun b=>if b<m then max (rcF L b:Int) 1 else(rcF L b:Int)
theorem Jo(L:List Dv)(m k:Nat):(Gw L m k).length=k:=by simp[Gw]
theorem Kj{L:List Dv}{m k b:Nat}(h:b<k):(Gw L m k).getD b 0=if b<m then max (rcF L b:Int) 1 else(rcF L b:Int):=by simp[Gw,List.getD,B5 h]
theorem cntM_0(L:List Dv)(k:Nat):Ej L k L.length=Gw L 0 k:=by
 unfold Ej Gw
 refine H4 fun b _=>?_
 rw[if_neg (Nat.not_lt_zero b)]
 by_cases h:b≤twN L L.length
 ·rw[if_pos h]
 ·rw[if_neg h,Pw (.inr M0)];rfl
theorem cntM_set{L:List Dv}{m k:Nat}(h:m<k):((Gw L m k).map V0).set m (V0 (max (rcF L m:Int) 1))=(Gw L (m+1) k).map V0:=by
 apply F4
 intro b
 unfold Gw
 rw[List.getElem?_set]
 by_cases e:m=b
 ·subst e
  rw[if_pos rfl,if_pos (by simp;exact h)]
  simp only[B7,B5 h,C5]
  rw[if_pos (Nat.lt_succ_self _)]
 ·rw[if_neg e]
  simp only[B7]
  rcases E6 b k with q|q
  ·rw[B5 q]
   simp only[C5]
   congr 2
   by_cases q1:b<m
   ·rw[if_pos q1,if_pos M0]
   ·rw[if_neg q1,if_neg M0]
  ·rw[C3 (by simpa using q)];rfl
theorem rcF_le(L:List Dv)(b:Nat):rcF L b≤L.length:=by
 have:=List.count_le_length (a:=b) (l:=(List.range L.length).map (twR L))
 rw[A0,List.length_range] at this
 exact this
theorem Zbf{L:List Dv}{m k b:Nat}:0≤(Gw L m k).getD b 0∧(Gw L m k).getD b 0≤max (L.length:Int) 1:=by
 rcases E6 b k with h|h
 ·rw[Kj h]
  have:=rcF_le L b
  split<;>omega
 ·have:(Gw L m k).getD b 0=0:=by simp[List.getD,C3 (show(Gw L m k).length≤b by rw[Jo];exact h)]
  omega
theorem Iy{L:List Dv}{m k:Nat}(hk:k≤65536)(hl:L.length≤4096):Yx (Gw L m k)=0:=by
 unfold Yx
 rw[Jo,if_neg M0,if_pos]
 intro b _
 have:=Zbf (L:=L) (m:=m) (k:=k) (b:=b)
 unfold Ks;omega
theorem Zad{L:List Dv}{m k:Nat}(hl:L.length≤4096)(hm:twN L L.length<m):Zb8 (Gw L m k) (m:Int):=fun b hb=>by
 rw[Jo] at hb
 refine⟨fun q=>?_,by have:=Zbf (L:=L) (m:=m) (k:=k) (b:=b);omega⟩
 rw[Kj hb,if_neg M0,Pw (.inr M0)];rfl
def Nq(L:List Dv):Nat:=Yo (shN L) L.length
theorem ov_tw(L:List Dv)(m k:Nat)(hm:twN L L.length<m):∀ i,i≤L.length→twN L i+1≤k→(Zh (Gw L m k) (twN L i+1)).length=Yo (shN L) i
 | 0,_,hk=>by
  have e:twN L 0=0:=rfl
  rw[e] at hk ⊢
  have h0:(Gw L m k).getD 0 0=1:=by
   rw[Kj M0,Pw (.inl rfl),if_pos M0];rfl
  rw[Qm (by rw[h0];decide)]
  rfl
 | i+1,hi,hk=>by
  have hs:=Sg L i
  have ih:=ov_tw L m k hm i M0 M0
  have hT:=Qn L (show i+1≤L.length from hi)
  rw[Qs (by rw[Vi];omega)]
  by_cases ho:Zw L i=i
  ·have hn:=Hk ho
   have hp:=Xk 2 (L.getD i dvD).2.length
   have a0:∀ d,twN L i+1+d≤twN L (i+1)→(Zh (Gw L m k) (twN L i+1+d)).length=Yo (shN L) i:=by
    intro d
    induction d with
    | zero=>intro _;exact ih
    | succ d ihd =>
     intro hd
     rw[show twN L i+1+(d+1)=(twN L i+1+d)+1 from rfl,Qm ?_]
     ·exact ihd M0
     ·rw[Kj M0,Zaa M0 ho M0 M0]
      split<;>omega
   have h1:=a0 (twN L (i+1)-(twN L i+1)) M0
   rw[show twN L i+1+(twN L (i+1)-(twN L i+1))=twN L (i+1) by omega] at h1
   have hg:(Gw L m k).getD (twN L (i+1)) 0=max ((shN L).getD i 0:Int) 1:=by rw[Kj M0,Zaj M0 ho,if_pos M0]
   by_cases q:3≤(shN L).getD i 0
   ·rw[Vv (by rw[hg];omega),A1,h1,if_pos q];rfl
   ·rw[Qm (by rw[hg];omega),h1,if_neg q,H3]
  ·rw[Cd ho,ih,if_neg (by have:=mt (Lq M0).2 ho;omega),H3]
theorem over_tw{L:List Dv}{m k:Nat}(hm:twN L L.length<m)(hk:twN L L.length<k):(Zh (Gw L m k) (Gw L m k).length).length=Nq L:=by
 rw[Jo]
 have h0:=ov_tw L m k hm L.length (A3 _) M0
 have a0:∀ d,twN L L.length+1+d≤k→(Zh (Gw L m k) (twN L L.length+1+d)).length=Nq L:=by
  intro d
  induction d with
  | zero=>intro _;exact h0
  | succ d ih =>
   intro hd
   rw[show twN L L.length+1+(d+1)=(twN L L.length+1+d)+1 from rfl,Qm ?_]
   ·exact ih M0
   ·rw[Kj M0,Pw (.inr M0)]
    split<;>decide
 have:=a0 (k-(twN L L.length+1)) M0
 rw[show twN L L.length+1+(k-(twN L L.length+1))=k by omega] at this
 exact this
theorem Rl(L:List Dv):3*Nq L≤L.length:=by
 have:=Wd (shN L) L.length (by rw[Vi];exact A3 _)
 rw[A5 (by rw[Vi];exact A3 _),Zbk] at this
 exact this
def Vx(L:List Dv):Nat→Nat
 | 0=>0
 | i+1=>Vx L i+if Zw L i=i then 0 else Zy 2 (L.getD i dvD).2.length
theorem Zby(L:List Dv):∀ i,i≤L.length→twN L i+Vx L i=Jk (L.take i)
 | 0,_=>rfl
 | i+1,h=>by
  have ih:=Zby L i M0
  rw[Ic M0,Vx,←ih]
  by_cases ho:Zw L i=i
  ·rw[Hk ho,if_pos ho];omega
  ·rw[Cd ho,if_neg ho];omega
theorem off_le(L:List Dv){i:Nat}(h:i≤L.length):Vx L i≤Jk L:=by
 have a:=Zby L i h
 have e:L=L.take i++L.drop i:=(F6 i L).symm
 have:Jk (L.take i)≤Jk L:=by
  conv=>rhs;rw[e]
  unfold Jk
  rw[B6,E7];omega
 omega
def Tl(x:Nat)(L:List Dv):Nat:=Ko x L-Vx L L.length+1+Zy 5 (Nq L)
def Jg(x:Nat)(L:List Dv):Nat:=Li (Tl x L)
theorem My(x:Nat)(L:List Dv):1+Vx L L.length≤Ko x L:=by
 have:=off_le L (A3 L.length)
 unfold Ko;omega
def G1 (L:List Dv):List Qk:=twT L L.length++[(1,Gq L (twR L))]
def G2 (L:List Dv):List Qk:=G1 L++[(3,Hr L (Hb L))]
theorem G2_len(L:List Dv):Xo (G2 L)=twN L L.length+Zy 1 L.length+Zy 3 L.length:=by
 have e1:Xo (G1 L)=Xo (twT L L.length)+Zy 1 (Gq L (twR L)).length:=Yv _ _
 have e2:Xo (G2 L)=Xo (G1 L)+Zy 3 (Hr L (Hb L)).length:=Yv _ _
 rw[Yw] at e1
 rw[Qa] at e2
 unfold twN
 omega
theorem G1_le(L:List Dv):twN L L.length+1≤Xo (G1 L)∧Xo (G1 L)+1≤Xo (G2 L):=by
 have e1:Xo (G1 L)=Xo (twT L L.length)+Pa (1,Gq L (twR L)):=Yv _ _
 have e2:Xo (G2 L)=Xo (G1 L)+Pa (3,Hr L (Hb L)):=Yv _ _
 have:=Nn (1,Gq L (twR L))
 have:=Nn (3,Hr L (Hb L))
 unfold twN
 omega
def twK (x:Nat)(L:List Dv):Nat:=Xo (G2 L)+Ho (Xp x L)
theorem Pv(x:Nat)(L:List Dv):Tl x L=twK x L+2+Zy 5 (Nq L):=by
 have h:=G2_len L
 have h2:=Wp x L
 have h3:=Zby L L.length (A3 _)
 rw[A5 (A3 _)] at h3
 have h4:=My x L
 unfold Tl twK Ho
 rw[h2,Qv]
 unfold Ko at h4 ⊢
 omega
def mkS (l:Bi):Value:=.string ⟨l.toArray⟩
def unS:Value→Bi
 | .string a=>a.data.toList
 | _=>[]
theorem Zac{P:Program}{kt:TypeId}(hk:P.underlying kt=some .string)(b:Bool)(a:Bi)(n:Nat)(w:World):(Instr.checkKey b (n+1) kt (mkS a)).run P w=.ok () w:=by
 simp only[Instr.checkKey,B8,run_underlying hk,C4]
 rfl
theorem keyS{P:Program}{kt:TypeId}(hk:P.underlying kt=some .string):KeyK P kt mkS unS where
 inv:=fun a=>by simp[unS,mkS]
 d:=⟨_,hk,fun a b=>by
  show some (a.toArray==b.toArray)=_
  congr 1
  have:(a==b)=decide (a=b):=by by_cases e:a=b<;>simp[e]
  simpa using this⟩
 ok:=fun b a w=>Zac hk b a 9999 w
def knV (L:List Dv)(i:Nat):List (Bi×Value):=(Na L i).map fun x=>(x.1,V0 (x.2:Int))
theorem knV_yes{L:List Dv}{i:Nat}(h:Zw L i=i):knV L i++[(txt (L.getD i dvD).2,V0 (i:Int))]=knV L (i+1):=by
 unfold knV;rw[Nm,if_pos h,B6];rfl
theorem knV_no{L:List Dv}{i:Nat}(h:Zw L i≠i):knV L i=knV L (i+1):=by unfold knV;rw[Nm,if_neg h]
theorem Zc0{L:List Dv}{i:Nat}{t:Bi}:t∈(knV L i).map Prod.fst↔∃ k,k<i∧Zw L k=k∧txt (L.getD k dvD).2=t:=by
 unfold knV Na
 simp only[L0,List.mem_map,List.mem_filter,E2,Function.comp_apply,beq_iff_eq]
 constructor
 ·rintro⟨k,⟨h1,h2⟩,h3⟩;exact⟨k,h1,h2,h3⟩
 ·rintro⟨k,h1,h2,h3⟩;exact⟨k,⟨h1,h2⟩,h3⟩
theorem Za1{L:List Dv}{i:Nat}(hi:i<L.length)(h:Zw L i=i):Ky (knV L i) (txt (L.getD i dvD).2)=none:=Od fun q=>by
 obtain⟨k,h1,h2,h3⟩:=Zc0.1 q
 have h4:=Eh h3
 exact Lm (by rw[h];exact h1) h4
theorem Ft{L:List Dv}{i j:Nat}(hi:i<L.length)(h:Zw L i<j):Ky (knV L j) (txt (L.getD i dvD).2)=some (V0 (Zw L i:Int)):=by
 have hm:txt (L.getD i dvD).2∈(knV L j).map Prod.fst:=Zc0.2 ⟨Zw L i,h,Gv hi,by rw[(Kq hi).2]⟩
 obtain⟨v,h1,h2⟩:=Zc9 hm
 rw[h1]
 unfold knV Na at h2
 simp only[L0,List.mem_map,List.mem_filter,E2,Function.comp_apply,beq_iff_eq,C2] at h2
 obtain⟨k,⟨_,h3⟩,h4,rfl⟩:=h2
 have h5:=Eh h4
 have hk:Zw L k=Zw L i:=by
  refine Df hi ?_ fun q hq=>?_
  ·have e:(L.getD (Zw L k) dvD).2=(L.getD k dvD).2:=by rw[h3]
   rw[e,h5]
  ·have:=Lm hq
   rw[h5] at this;exact this
 rw[←hk,h3]
theorem Zay{L:List Dv}{i:Nat}:((List.range i).map (Zw L)).map nv++[V0 (↑(Zw L i):Int)]=((List.range (i+1)).map (Zw L)).map nv:=by
 rw[C6,B6,B6];rfl
theorem knV_0(L:List Dv):knV L 0=[]:=rfl
theorem Kh(p:O0)(c n:Nat)(t u v x:Int)(Z:List Zv)(w:World)(hI:ItT w)(hZ:Z.length=n)(hP:DevsR w p c Z)(hR:∀ i,i<n→(∀ m∈(Z.getD i zvD).1.2,MpR m)∧(Z.getD i zvD).1.2.length≤100000)(hn:n≤100000) :
 C0 8 #[.agg #[V0 t,V0 u,V0 v,V0 x,.slice p n c]] w (Qh (fun w' r=>∃ q d,r=.slice q n d∧w'.ownsRow w.heap.size 3 1 (.slice q n d) n ((owL (Z.map Prod.fst)).map nv)) w):=by
 have f5:=Sl.len (hP.rowN hZ)
 refine zin 41 Tryz.func8 ?_
 refine xa 2 [V0 t,V0 u,V0 v,V0 x,.slice p n c] 24 fun b1 W1 n1=>?_
 refine xmmV mkS 5 64 fun rm W2 m2=>?_
 have e2:=m2.ge n1.below
 have k1:=n1.blk.below m2.below
 refine xb 12 4 k1 ?_
 have hM:=(knV_0 (Z.map Prod.fst)▸m2.map)
 have d1:=bln n1.below m2.below
 refine zl 5 41 (fun zm e7 V=>∃ (i:Nat) (rp:O0) (rc:Nat),e7=[(2,S0),(3,.map (some rm)),(4,.slice rp i rc),(12,.slice p n c),(13,V0 (n:Int)),(14,V0 (i:Int))]∧zm=n-((i:Int)).toNat∧Bl w V∧Blk V b1 ([V0 t,V0 u,V0 v,V0 x,.slice p n c]) 24∧V.ownsRow w.heap.size 3 1 (.slice rp i rc) i (((List.range i).map (Zw (Z.map Prod.fst))).map nv)∧Ju mkS V rm (knV (Z.map Prod.fst) i)∧i≤n) ⟨0,none,0,rfl,rfl,d1,k1,A9 _ _ _ _,hM,A6 _⟩ ?_
 rintro _ _ W3 ⟨i,rp,rc,rfl,rfl,a4,b0,c7,c8,hi⟩ J3 d7 r3
 refine xid 6 ((i:Int)<(n:Int)) (fun e3=>?_) (fun e3=>?_)
 ·have b4:=Zdo (Z:=Z) (i:=i) M0 dvD
  have e0:i<(Z.map Prod.fst).length:=by rw[A0];omega
  have f2:=(Kq e0).1
  refine xx 7 _ n i 5 (hP.someN hZ (i:=i) M0) ?_
  refine xlv 0 (Sts.rp (k:=i) (hP.below a4).row Xu zvD M0 Do) ?_
  refine xa 0 [V0 0,V0 0,V0 0,V0 0,S0] 32 fun b5 W5 n5=>?_
  have g5:=n5.ge a4
  refine xsv 1 n5.blk [V0 ((Z.getD i zvD).1.1.1),V0 ((Z.getD i zvD).1.1.2.1),V0 ((Z.getD i zvD).1.1.2.2.1),V0 ((Z.getD i zvD).1.1.2.2.2),.slice ((Z.getD i zvD).2.1) ((Z.getD i zvD).1.2.length) ((Z.getD i zvD).2.2)] fun W6 u6 k6=>?_
  refine xb 5 4 k6 ?_
  have a7:=u6.below (bln a4 n5.below) g5
  refine xr 0 (args:=#[.slice ((Z.getD i zvD).2.1) ((Z.getD i zvD).1.2.length) ((Z.getD i zvD).2.2)]) (Zc2 (Z.getD i zvD).2.1 (Z.getD i zvD).2.2 (Z.getD i zvD).1.2 _ (hI.below a7) ((hP.each i M0).below a7) (hR i M0).1 (hR i M0).2) fun W7 b3=>?_
  have a0:=((c8.below n5.below).updBlk u6 n5.blk).below b3
  rcases Decidable.em (Zw (Z.map Prod.fst) i=i) with c6|c6
  ·have a1:Zw (Z.map Prod.fst) i=i:=c6
   refine xlkN 8 (z:=V0 0) (txt (Z.getD i zvD).1.2) true Tryz.underlying64 (keyS Tryz.underlying9) (fun V=>by kernel_rfl) a0 (by rw[←b4];exact Za1 M0 a1) ?_
   have d6:=Ju.obj a0
   refine xmuV 18 (txt (Z.getD i zvD).1.2) (V0 (i:Int)) Tryz.underlying64 (keyS Tryz.underlying9) a0 (by rw[←b4];exact Za1 M0 a1) fun W8 u8 m8=>?_
   have hM:=(by have q9:=m8;rw[←b4,knV_yes a1] at q9;exact q9)
   refine xlkS 6 (txt (Z.getD i zvD).1.2) false Tryz.underlying64 (keyS Tryz.underlying9) hM (by rw[←b4];exact Ft (j:=i+1) M0 M0) ?_
   refine xbs 0 1 [V0 (↑(Zw (Z.map Prod.fst) i):Int)] 3 fun b9 W9 n9=>?_
   have c2:=u8.below (bln a7 b3) e2
   have g9:=n9.ge c2
   have a9:=own_obj (Za (u6.own2 (Za c7 n5.below) n5.blk Do) b3) d6 u8
   have d0:=Zg a9 n9
   have a3:=Za a9 n9.below
   have c1:=bln c2 n9.below
   refine xbi 0 fun _ _ _ _ zJ zQ zo zx zy zK=>Zz (m:=1) (news:=[V0 (↑(Zw (Z.map Prod.fst) i):Int)]) (V0 0) 1 8 (i+1) ((((List.range (i+1)).map (Zw (Z.map Prod.fst))).map nv)) zo Tryz.underlying27 K0 rfl Do zx a3 zy (n9.blk.sl 1 1 Do Do) rfl (by simp[Value.oneCell']) (by unfold maxLen;omega) M0 c1.size (by rfl) (Zay) fun d9 e6 f3 d8 b6 c4=>?_
   refine zK _ _ ?_
   refine xwm 5 ((i:Int)+1) (↑(i+1):Int) ?_
   have d2:=(hM.below n9.below).grown b6 a3
   have c5:=c1.trans c4
   have a6:=((blk_obj ((u6.blkT (b0.below n5.below) n5.blk Do).below b3) d6 u8).below n9.below).grown b6 a3 Do
   exact ze 2 (d7 _ _ _ ⟨i+1,_,_,rfl,rfl,c5,a6,d8,d2,by omega⟩ M0)
  have a1:Zw (Z.map Prod.fst) i≠i:=c6
  have d3:Zw (Z.map Prod.fst) i<i:=by omega
  refine xlkS 8 (txt (Z.getD i zvD).1.2) true Tryz.underlying64 (keyS Tryz.underlying9) a0 (by rw[←b4];exact Ft M0 d3) ?_
  refine xlkS 20 (txt (Z.getD i zvD).1.2) false Tryz.underlying64 (keyS Tryz.underlying9) a0 (by rw[←b4];exact Ft (j:=i) M0 M0) ?_
  refine xbs 0 1 [V0 (↑(Zw (Z.map Prod.fst) i):Int)] 3 fun f0 f4 b2=>?_
  have b7:=bln a7 b3
  have f1:=b2.ge b7
  have a8:=Za (u6.own2 (Za c7 n5.below) n5.blk Do) b3
  have c3:=Zg a8 b2
  have a2:=Za a8 b2.below
  have b8:=bln b7 b2.below
  refine xbi 0 fun _ _ _ _ zJ zQ zo zx zy zK=>Zz (m:=1) (news:=[V0 (↑(Zw (Z.map Prod.fst) i):Int)]) (V0 0) 1 8 (i+1) ((((List.range (i+1)).map (Zw (Z.map Prod.fst))).map nv)) zo Tryz.underlying27 K0 rfl Do zx a2 zy (b2.blk.sl 1 1 Do Do) rfl (by simp[Value.oneCell']) (by unfold maxLen;omega) M0 b8.size (by rfl) (Zay) fun e1 e4 e9 e5 c0 d4=>?_
  refine zK _ _ ?_
  refine xwm 5 ((i:Int)+1) (↑(i+1):Int) ?_
  have d5:=(a0.below b2.below).grown c0 a2
  have c9:=b8.trans d4
  have a5:=(((u6.blkT (b0.below n5.below) n5.blk Do).below b3).below b2.below).grown c0 a2 Do
  exact ze 2 (d7 _ _ _ ⟨i+1,_,_,rfl,rfl,c9,a5,e5,(knV_no a1▸d5),by omega⟩ M0)
 have e8:i=n:=by omega
 exact xe 12 (.slice rp i rc) (by subst e8;have q:=c7;exact⟨_,rfl,a4,_,_,rfl,by unfold owL;rw[A0,hZ];exact q⟩)
end Go.Proofs.YtekomodnkfhihaaGreatDoor
namespace Go.Proofs.YtekomodnkfhihaaGreatDoor
set_option maxHeartbeats 8000000
set_option maxRecDepth 100000
open Go.RowKit
set_option linter.unusedVariables false
def rdPost(B:Nat)(Kp:World→World→Prop)(I:Nat→World→Prop)(Ix:Code→Nat→World→Prop)(k:Nat)(W:World):Exit→Act→World→Prop
 | .normal,_,V=>KeepsFrom B W V∧Kp W V∧I (k+1) V
 | .ret,_,V=>KeepsFrom B W V∧Ix .ret k V
 | .exit id,_,V=>KeepsFrom B W V∧Ix (.exit id) k V
 | .goto _,_,_=>False
 | .panic _,_,_=>False
 | .outgrown,_,_=>False
structure RecAt(n:Nat)(r:Loop)(W:World):Prop where
 l:W.heap[n+1]? = some (.loop r)
 d:W.heap[n]? = some (.deferred (some []))
theorem RecAt.lt{n:Nat}{r:Loop}{W:World}(h:RecAt n r W):n+1<W.heap.size:=(Array.getElem?_eq_some_iff.1 h.l).1
theorem RecAt.kept{n:Nat}{r:Loop}{A B:World}{row:Option Nat}(h:RecAt n r A)(hg:A.grownBy B row)(hr:∀ k,row=some k→k<n):RecAt n r B :=
 ⟨(hg.block _ h.lt (fun e=>by have:=hr _ e.symm;omega)).trans h.l,(hg.block _ (by have:=h.lt;omega) (fun e=>by have:=hr _ e.symm;omega)).trans h.d⟩
theorem RecAt.from{n:Nat}{r:Loop}{A B:World}(h:RecAt n r A)(k:KeepsFrom n A B):RecAt n r B:=⟨k.same _ _ M0 h.l rfl,k.same _ _ (A3 _) h.d rfl⟩
theorem RecAt.put{n:Nat}{r:Loop}{A:World}(h:RecAt n r A)(r':Loop):RecAt n r' (A.putObj (n+1) (.loop r')) :=
 ⟨World.putObj_heap_same h.lt,(F2 M0).trans h.d⟩
def SeqB{α:Type}(P:Program)(g:Nat)(lb:Array Value)(encs:α→Array Value)(Kp:World→World→Prop)(R:List α)(w:World):Prop :=
 ∀ (l:Nat) (J Jx:Nat→World→Prop) (W:World),Bl w W →
  (∀ k A B,J k A→Below A.heap.size A B→J k B) →
  (∀ k x V,R[k]? = some x→J k V→YieldAt Fence.wide 2 P l (encs x) V fun e U =>
   (e=.returned (.bool true)∧J (k+1) U∧Kp V U)∨(e=.returned (.bool false)∧Jx k U)) →
  J 0 W →
  CallsIn Fence.wide 3 P g (#[.func (.yield l) #[] #[]]++lb) W fun e U=>(∃ v,e=.returned v)∧(J R.length U∨∃ k,k<R.length∧Jx k U)
theorem RecAt.bel{n:Nat}{r:Loop}{A B:World}(h:RecAt n r A)(k:Below A.heap.size A B):RecAt n r B:=⟨(k.block _ h.lt).trans h.l,(k.block _ (by have:=h.lt;omega)).trans h.d⟩
theorem Za2{α:Type}{P:Program}{g:Operand}{ps:Array Tmp}{assign body:Code}{Q:Exit→Act→World→Prop}{a:Act}{w:World}{gf:Nat}{lb:Array Value}
  (hg:a.eval g=.func (.func gf) #[] lb) (eg:∀ args w,(callFunc gf args).run P w=.ok (.enter gf args) w) {encs:α→Array Value} {R:List α} (p:Nat→Prop) (hp:∀ b,p b→b<w.heap.size)
  (hseq:SeqB P gf lb encs (Keeps p) R w) (hps:∀ x,(encs x).size=ps.size)
  (I:Nat→World→Prop) (Ix:Code→Nat→World→Prop) (hIb:∀ k A B,I k A→Below A.heap.size A B→I k B) (hI:∀ k A B row,I k A→A.grownBy B row→(∀ r,row=some r→w.heap.size≤r∧∃ o:Obj,A.heap[r]? = some o∧o.isCells=false)→I k B)
  (hIx:∀ c k A B row,Ix c k A→A.grownBy B row→(∀ r,row=some r→w.heap.size≤r∧∃ o:Obj,A.heap[r]? = some o∧o.isCells=false)→Ix c k B) (h0:I 0 w) (A2:α→Act→World→Prop)
  (hA2:∀ x a A B row,A2 x a A→A.grownBy B row→(∀ r,row=some r→w.heap.size≤r∧∃ o:Obj,A.heap[r]? = some o∧o.isCells=false)→A2 x a B)
  (hassign:∀ (l k:Nat) (x:α) (W:World) (K:Act→World→Prop),R[k]? = some x→I k W→(∀ a2 W2,Bl W W2→A2 x a2 W2→K a2 W2) →
   assign.wpIn (Fence.wide.inRound l) 2 P (Exit.then K (fun _ _ _=>False)) { tmps:=(ps.zip (encs x)).foldl (fun t (p,v)=>t.setIfInBounds p v) a.tmps,defers:=[] } W)
  (hbody:∀ (l k:Nat) (x:α) (a2:Act) (W:World),w.heap.size≤l→R[k]? = some x→I k W→A2 x a2 W→body.wpIn (Fence.wide.inRound l) 2 P (rdPost w.heap.size (Keeps p) I Ix k W) a2 W)
  (hdone:∀ (D:Nat) (W:World),w.heap.size≤D→I R.length W→W.heap[D]? = some (.deferred (some []))→Q .normal { a with defers:={ target:=.collected D,args:=#[] }::a.defers } W)
  (hstop:∀ (D:Nat) (c:Code) (k:Nat) (W:World),w.heap.size≤D→k<R.length→Ix c k W→W.heap[D]? = some (.deferred (some []))→c.wp P Q { a with defers:={ target:=.collected D,args:=#[] }::a.defers } W) :
  (Code.rangeFunc g ps assign body).wp P Q a w:=by
 refine(wpIn_wide (n:=4)).1 (wpIn_rangeFunc fun fn _=>?_)
 obtain⟨a4,a0⟩:∃ a4:LoopState→Option Code→Loop,a4=fun st pe=>{ state:=st,pending:=pe,fn,tmps:=a.tmps,params:=ps,assign,body,defers:=w.heap.size }:=⟨_,rfl⟩
 obtain⟨W1,b3⟩:∃ W1,(w.alloc (.deferred (some []))).alloc (.loop (a4 .ready none))=W1:=⟨_,rfl⟩
 have b7:RecAt w.heap.size (a4 .ready none) W1:=by
  rw[←b3]
  refine⟨?_,(Below.heap_alloc _ _ _ (by simp)).trans (Id w _)⟩
  have:=Id (w.alloc (.deferred (some []))) (.loop (a4 .ready none))
  rwa [World.size_alloc] at this
 have c1:I 0 W1:=by
  rw[←b3]
  exact hI _ _ _ none (hI _ _ _ none h0 (K5 _ _ _) (fun _ e=>by cases e)) (K5 _ _ _) (fun _ e=>by cases e)
 have c0:Bl w W1:=by
  rw[←b3];exact((Below.refl _ w).alloc (A3 _) _).alloc (by simp) _
 refine⟨w.heap.size+1,[{ target:=.collected w.heap.size,args:=#[] }],W1,{ target:=.fn (.func gf) lb,args:=#[.func (.yield (w.heap.size+1)) #[] #[]] },W1,gf,
  #[.func (.yield (w.heap.size+1)) #[] #[]]++lb,W1,?_,?_,fun _ _=>trivial,?_,fun _=>by omega,?_⟩
 ·rw[←b3,a0];exact run_enterLoop_outer _ _ _ _ _
 ·simp only[resolve,hg]
  simp[go_sem]
 ·simp[invoke,go_sem,eg]
 refine(hseq (w.heap.size+1) (fun k W=>I k W∧RecAt w.heap.size (a4 .ready none) W) (fun k W=>∃ c,Ix c k W∧RecAt w.heap.size (a4 .done (some c)) W) W1 c0
  (fun k A B hs hb=>⟨hIb _ _ _ hs.1 hb,hs.2.bel hb⟩) ?_ ⟨c1,b7⟩).mono ?_
 ·rintro k x W hx ⟨hi,hl⟩
  have hy:=run_yield (P:=P) (args:=encs x) hl.l (by rw[a0];exact hps x)
  rw[a0] at hy
  refine⟨fn,_,assign,body,hy,roundIn_of_wpIn trivial (hassign _ k x W _ hx hi fun a2 W2 a9 c4=>⟨_,run_beginRound (hl.bel a9).l (by rw[a0]),?_⟩)⟩
  have b2:=hl.bel a9
  obtain⟨Wb,a6⟩:∃ Wb,W2.putObj (w.heap.size+1) (.loop { a4 .ready none with state:=.busy })=Wb:=⟨_,rfl⟩
  have c2:RecAt w.heap.size (a4 .busy none) Wb:=by
   have:=b2.put (a4 .busy none)
   rw[a0] at this a6
   rw[a6] at this
   rw[a0]
   exact this
  have b9:I k Wb:=by
   rw[←a6]
   exact hI _ _ _ _ (hIb _ _ _ hi a9) (grownBy_putObj' W2 _ _) (fun r e=>by cases e;exact⟨by omega,_,b2.l,rfl⟩)
  have b8:A2 x a2 Wb:=by
   rw[←a6]
   exact hA2 _ _ _ _ _ c4 (grownBy_putObj' W2 _ _) (fun r e=>by cases e;exact⟨by omega,_,b2.l,rfl⟩)
  have c3:Keeps p W Wb:=by
   have h1:Keeps p W W2:=⟨a9.size,fun b hb=>a9.block b (Nat.lt_trans (hp b hb) (by have:=hl.lt;omega))⟩
   rw[←a6]
   exact h1.trans (Du hp W2 _ _ _ M0 b2.l rfl rfl)
  rw[a6]
  refine wpIn_mono (hbody _ k x a2 Wb M0 hx b9 b8) ?_
  have b5:∀ (a1:Option Code) (V:World),KeepsFrom w.heap.size Wb V→RecAt w.heap.size (a4 .busy none) V∧∃ U,U=V.putObj (w.heap.size+1) (.loop (a4 (if a1.isNone then .ready else .done) a1)) ∧
    (Instr.endRound (w.heap.size+1) a1).run P V=.ok (.bool a1.isNone) U∧RecAt w.heap.size (a4 (if a1.isNone then .ready else .done) a1) U:=fun a1 V hk=>by
   have hv:=c2.from hk
   have he:=run_endRound (P:=P) a1 hv.l
   refine⟨hv,_,rfl,?_,hv.put _⟩
   rw[a0] at he ⊢
   exact he
  have b4:∀ {V:World} {r r':Loop} {k:Nat},RecAt w.heap.size r V→I k V→I k (V.putObj (w.heap.size+1) (.loop r')):=fun hv h=>hI _ _ _ _ h (grownBy_putObj' _ _ _) (fun r e=>(by cases e;exact⟨by omega,_,hv.l,rfl⟩))
  have b1:∀ {V:World} {r r':Loop} {c:Code} {k:Nat},RecAt w.heap.size r V→Ix c k V→Ix c k (V.putObj (w.heap.size+1) (.loop r')):=fun hv h=>hIx _ _ _ _ _ h (grownBy_putObj' _ _ _) (fun r e=>by cases e;exact⟨by omega,_,hv.l,rfl⟩)
  rintro e a3 V a5
  cases e with
  | normal =>
   obtain⟨a8,b6,a7⟩:=a5
   obtain⟨hv,U,rfl,hr,b0⟩:=b5 none V a8
   exact⟨_,_,hr,.inl ⟨rfl,⟨b4 hv a7,b0⟩,(c3.trans b6).trans (Du hp V _ _ _ M0 hv.l rfl rfl)⟩⟩
  | ret =>
   obtain⟨a8,a7⟩:=a5
   obtain⟨hv,U,rfl,hr,b0⟩:=b5 (some .ret) V a8
   exact⟨_,_,hr,.inr ⟨rfl,.ret,b1 hv a7,b0⟩⟩
  | exit id =>
   obtain⟨a8,a7⟩:=a5
   obtain⟨hv,U,rfl,hr,b0⟩:=b5 (some (.exit id)) V a8
   exact⟨_,_,hr,.inr ⟨rfl,.exit id,b1 hv a7,b0⟩⟩
  | goto t=>exact a5.elim
  | panic ch=>exact a5.elim
  | outgrown=>exact a5.elim
 ·rintro e W2 ⟨⟨v,rfl⟩,(⟨hi,hl⟩|⟨k,hk,c,hi,hl⟩)⟩
  ·have he:=run_endLoop (P:=P) hl.l (by rw[a0];simp)
   rw[show(a4 .ready none).pending=none by rw[a0]] at he
   exact⟨none,_,he,hdone _ _ (A3 _) (hI _ _ _ _ hi (grownBy_putObj' _ _ _) (fun r e=>(by cases e;exact⟨by omega,_,hl.l,rfl⟩))) ((F2 M0).trans hl.d)⟩
  ·have he:=run_endLoop (P:=P) hl.l (by rw[a0];simp)
   rw[show(a4 .done (some c)).pending=some c by rw[a0]] at he
   exact⟨some c,_,he,wpIn_wide.2 (hstop _ c k _ (A3 _) hk (hIx _ _ _ _ _ hi (grownBy_putObj' _ _ _) (fun r e=>by cases e;exact⟨by omega,_,hl.l,rfl⟩)) ((F2 M0).trans hl.d))⟩
end Go.Proofs.YtekomodnkfhihaaGreatDoor
namespace Go.Proofs.YtekomodnkfhihaaGreatDoor
set_option maxHeartbeats 8000000
set_option maxRecDepth 100000
open Go.RowKit
set_option linter.unusedVariables false
attribute [local go_sem] Oper.semAt_some
theorem Sl.to{w W:World}{v:Value}{n:Nat}{xs:List Value}(h:Sl w v n xs)(hk:∀ a x,w.cell? a=some x→W.cell? a=some x):Sl W v n xs:=by
 rcases h with h|⟨b,a0,a1,h1,h2,h3,h4⟩
 ·exact .inl h
 ·exact .inr ⟨b,a0,a1,h1,h2,h3,fun j x hj=>hk _ _ (h4 j x hj)⟩
theorem DevsR.to{w W:World}{p:O0}{c:Nat}{Z:List Zv}(h:DevsR w p c Z)(hk:∀ a x,w.cell? a=some x→W.cell? a=some x):DevsR W p c Z:=⟨Sl.to h.row hk,fun i hi=>Sl.to (h.each i hi) hk⟩
def encM(x:Nat×Mp):Array Value:=#[V0 (x.1:Int),.agg #[V0 x.2.1,V0 x.2.2.1,V0 x.2.2.2]]
theorem Pk{q:Nat→Prop}{W V:World}(h:Keeps q W V)(hq:∀ b,q b→b<W.heap.size)(o:Obj):Keeps q W (V.alloc o):=by
 have hb:=(Below.refl V.heap.size V).alloc (A3 _) o
 exact⟨N0 h.size hb.size,fun b a0=>(hb.block b (C1 (hq b a0) h.size)).trans (h.block b a0)⟩
theorem sl_lit{α:Type}{f:α→List Value}{w:World}{p:O0}{n c:Nat}{l:List α}(h:Sl w (.slice p n c) n (l.flatMap f))(hn:0<n):∃ pb po,p=some ⟨pb,po,none⟩∧∀ j x,(l.flatMap f)[j]? = some x→w.cell? ⟨pb,po+j,none⟩=some x:=by
 rcases h with ⟨a,cc,h1,h2,_⟩|⟨pb,po,a0,h1,_,_,h4⟩
 ·omega
 ·simp only[A7] at h1
  exact⟨pb,po,h1.1,h4⟩
theorem maps1_in(l B1:Nat)(pp:O0)(n c:Nat)(t u v x:Int)(Z:List Zv)(w:World)(hZ:Z.length=n)(hP:DevsR w pp c Z)(hn:n≤1000000000)(q:Nat→Prop)(hq:∀ b,b<w.heap.size→q b)(J Jx:Nat→World→Prop)(hJ:∀ k A B,J k A→Below A.heap.size A B→J k B)
 (hY:∀ k x V,(Ql 0 (Z.map Prod.fst))[k]? = some x→J k V→YieldAt Fence.wide 2 Tryz.prog l (encM x) V fun e U =>
 (e=.returned (.bool true)∧J (k+1) U∧Keeps q V U)∨(e=.returned (.bool false)∧Jx k U))
 (W:World) (hW:Bl w W) (hqlt:∀ b,q b→b<W.heap.size) (hk1:Blk W B1 [V0 t,V0 u,V0 v,V0 x,.slice pp n c] 24) (h0:J 0 W) :
 CallsIn Fence.wide 3 Tryz.prog 137 #[.func (.yield l) #[] #[],P0 B1] W fun e U=>(∃ v,e=.returned v)∧(J (Ql 0 (Z.map Prod.fst)).length U∨∃ k,k<(Ql 0 (Z.map Prod.fst)).length∧Jx k U):=by
 refine callsIn_of_wp Tryz.func137 rfl trivial ?_ rfl
 simp only[Tryz.ntmps137,F3,D5,K2,Nat.reduceAdd,Nat.reduceSub,K3,K4,Le,K6,G5,F5]
 have z4:=hk1.cell (i:=4) rfl
 have c6:(Z.map Prod.fst).length=n:=by rw[A0];exact hZ
 gi_wp2
 gi_loopw [10] (fun i wr=>∃ k:Nat,k≤n∧i=V0 (k:Int)∧J (Qp ((Z.map Prod.fst).take k)) wr∧Keeps q W wr)
  (fun i _=>(n-(intOf i)).toNat)
 case atStart=>exact⟨0,A6 _,rfl,h0,Keeps.refl _ _⟩
 case round =>
  obtain⟨k,hk,rfl,a0,b4⟩:=hrel
  by_cases hlt:k<n
  ·have b6:∀ {V:World},Keeps q W V→DevsR V pp c Z:=fun hV=>hP.to (fun a x ha=>(hV.cell (a:=a) (hq _ (ltC ha))).trans (getC hW ha))
   have a9:=b6 b4
   have a1:Sl wr (.slice pp n c) n (Z.flatMap devZ):=a9.rowN hZ
   obtain⟨pb,po,c2,hc⟩:=sl_lit a1 M0
   have gz:∀ i x,i<5→(devZ (Z.getD k zvD))[i]? = some x→wr.cell? ⟨pb,po+k*5+i,none⟩=some x:=fun i x hi hx=>by
    rw[D7]
    exact hc _ _ ((Wg Xu Z k i zvD M0 hi).trans hx)
   have a2:=fun j hj=>mapsR_at (L:=Z.map Prod.fst) (i:=k) (j:=j) M0 hj
   rw[Zdo M0] at a2
   have a6:=Gz (Z:=Z) (i:=k) M0
   have b1:=fun {V:World} (hV:Keeps q W V)=>(b6 hV).each k M0
   obtain⟨⟨⟨⟨i0,i1,i2,i3⟩,M⟩,mp,mc⟩,hz⟩:∃ z,Z.getD k zvD=z:=⟨_,rfl⟩
   rw[hz] at gz a2 a6
   simp only[hz] at b1
   have z5:=gz 0 _ Do rfl
   have z6:=gz 1 _ Do rfl
   have z7:=gz 2 _ Do rfl
   have z8:=gz 3 _ Do rfl
   have z9:=gz 4 _ Do rfl
   rw[H3] at z5
   clear gz hc hz a1 a9
   subst c2
   obtain⟨S,hS⟩:∃ S,Qp ((Z.map Prod.fst).take k)=S:=⟨_,rfl⟩
   rw[hS] at a0 a2 a6
   gi_wp2
   gi_loopw [18] (fun j b0=>∃ m:Nat,m≤M.length∧j=V0 (m:Int)∧J (S+m) b0∧Keeps q W b0)
    (fun j _=>(M.length-(intOf j)).toNat)
   case atStart=>exact⟨0,A6 _,rfl,hJ _ _ _ a0 ((Below.refl _ wr).alloc (A3 _) _),Pk b4 hqlt _⟩
   case round =>
    obtain⟨m,hm,rfl,b5,a5⟩:=hrel
    have hM:=b1 a5
    have c5:M.length≤9223372036854775807:=Sl.len hM
    by_cases hmt:m<M.length
    ·have b2:Sl wr (.slice mp M.length mc) M.length (M.flatMap We):=hM
     obtain⟨mb,mo,b9,b3⟩:=sl_lit b2 M0
     have gm:∀ i x,i<3→(We (M.getD m (0,0,0)))[i]? = some x→wr.cell? ⟨mb,mo+m*3+i,none⟩=some x:=fun i x hi hx=>by
      rw[D7]
      exact b3 _ _ ((Wg Yf M m i (0,0,0) hmt hi).trans hx)
     have hx:=a2 m hmt
     obtain⟨⟨m1,m2,m3⟩,a7⟩:∃ y,M.getD m (0,0,0)=y:=⟨_,rfl⟩
     rw[a7] at gm
     have a3:(Ql 0 (Z.map Prod.fst))[S+m]? = some (k,(m1,m2,m3)):=by rw[hx];exact congrArg (fun y=>some (k,y)) a7
     have y1:=gm 0 _ Do rfl
     have y2:=gm 1 _ Do rfl
     have y3:=gm 2 _ Do rfl
     rw[H3] at y1
     clear gm b3 b2 hM hx a7
     subst b9
     have b8:=(Below.refl wr.heap.size wr).alloc (A3 _) (.cells #[V0 m1,V0 m2,V0 m3] 63)
     obtain⟨fn,c1,a4,b7,hy,hR⟩:=hY _ _ (wr.alloc (.cells #[V0 m1,V0 m2,V0 m3] 63)) a3 (hJ _ _ _ b5 b8)
     have c3:=Pk a5 hqlt (.cells #[V0 m1,V0 m2,V0 m3] 63)
     simp only[encM] at hy
     gi_wp2
     refine hR.mono ?_
     rintro e W3 (⟨rfl,c4,c0⟩|⟨rfl,a8⟩)
     ·gi_wp2
      go_roundw
      case rel =>
       refine⟨m+1,by omega,?_,c4,c3.trans c0⟩
       exact congrArg V0 M0
      case measure=>simp only[intOf];omega
     ·gi_wp2
      refine bodyPost_ret (results_none rfl _ _ _) rfl ?_
      refine⟨⟨_,rfl⟩,.inr ⟨_,?_,a8⟩⟩
      rcases E6 (S+m) (Ql 0 (Z.map Prod.fst)).length with h|h
      ·exact h
      ·rw[C3 h] at a3;cases a3
    ·obtain rfl:m=M.length:=by omega
     gi_wp2
     go_roundw
     case rel =>
      refine⟨k+1,by omega,?_,by rw[a6];exact b5,a5⟩
      exact congrArg V0 M0
     case measure=>simp only[intOf];omega
  ·obtain rfl:k=n:=by omega
   have HJ:=Lib.hid a0;clear a0
   gi_wp2
   go_end0
   have a0:=HJ.out
   rw[A5 M0] at a0
   exact⟨⟨_,rfl⟩,.inl (by rw[Nk];exact a0)⟩
end Go.Proofs.YtekomodnkfhihaaGreatDoor
namespace Go.Proofs.YtekomodnkfhihaaGreatDoor
set_option maxHeartbeats 8000000
set_option maxRecDepth 100000
open Go.RowKit Go.Extern.Stop Go.Stop Go.Extern
set_option linter.unusedVariables false
attribute [local irreducible] wpList wpAnyH Code.wp Oper.wp Go
theorem nat_map(cs:List Nat):(cs.map fun c:Nat=>(c:Int)).map V0=cs.map nv:=by simp[nv]
theorem nv_get{cs:List Nat}{k:Nat}(h:k<cs.length):(cs.map nv)[k]? = some (V0 ((cs.getD k 0:Nat):Int)):=by simp[List.getD,h,nv]
theorem Zai(cs:List Nat)(k:Nat):(cs.map nv).set k (V0 ((cs.getD k 0+1:Nat):Int))=(Ld cs (k:Int)).map nv:=by
 unfold Ld;rw[G7,List.map_set];rfl
theorem bump_get{cs:List Nat}{k:Nat}(h:k<cs.length):(Ld cs (k:Int)).getD k 0=cs.getD k 0+1:=by
 unfold Ld;rw[G7];simp[List.getD,h]
theorem Ki{w:World}{pc:O0}{n m:Nat}{cs:List Nat}(h:Sl w (.slice pc n m) n (cs.map nv)){k:Nat}(hk:k<cs.length):pc.isSome=true∧w.cell? (Zr pc (k*1))=some (V0 ((cs.getD k 0:Nat):Int)):=by
 rcases h with ⟨a,c,h1,h2,h3⟩|⟨b,a0,a1,h1,h2,h3,h4⟩
 ·simp only[A7] at h1
  have:(cs.map nv).length=0:=by rw[h3];rfl
  rw[A0] at this;omega
 ·simp only[A7] at h1
  obtain⟨rfl,_,_⟩:=h1
  refine⟨rfl,?_⟩
  have:=h4 k _ (nv_get hk)
  simpa [Zr,Addr.add_mid] using this
theorem zerosV(n:Nat):Kk (Value.int .i64 0).cells.toList n=(List.replicate n (0:Nat)).map nv:=by
 rw[show(Value.int .i64 0).cells.toList=[Value.int .i64 0] from rfl,Kk,K8]
 induction n with
 | zero=>rfl
 | succ n ih=>rw[H5,K9,ih,H5];rfl
theorem nv_one(cs:List Nat):∀ u∈cs.map nv,u.oneCell'=true:=fun u hu=>by obtain⟨y,_,rfl⟩:=List.mem_map.1 hu;rfl
theorem Zav(n:Nat)(w:World)(h:n≤65536) :
 C0 70 #[V0 (n:Int)] w (Qh (fun w' r=>∃ br g,r=.tuple #[P0 br,V0 0]∧w.heap.size≤br∧Blk w' br [.slice (S1 g) n n] 231∧w'.ownsRow w.heap.size 3 1 (.slice (S1 g) n n) n ((List.replicate n (0:Nat)).map nv)) w):=by
 refine zin 14 Tryz.func70 ?_
 refine xgk 12 [5,6] (show(decide ((n:Int)<(0:Int)):Bool)=false from decide_eq_false M0) ?_
 refine xk 5 (show(decide ((n:Int)>(65536:Int)):Bool)=false from decide_eq_false M0) ?_
 refine xmk 5 fun _ _ _ _ zJ zQ zo zx zy zK=>Ka n (V0 0) 1 8 ((List.replicate n (0:Nat)).map nv) zo zx zy Tryz.underlying27 K0 rfl M0 M0 ((zerosV n)) fun b2 W2 n2=>?_
 refine zK _ _ ?_
 refine xa 1 [.slice (S1 b2) n n] 231 fun b3 W3 n3=>?_
 have o2:=Za (Xg (size:=1) (n:=n) n2.blk (n2.ge (B3 w)) (by rw[A0,A8,D0]) (by unfold maxLen;omega)) n3.below
 have hB:=bln n2.below n3.below
 have g3:=n3.ge n2.below
 exact xe 5 (.tuple #[P0 b3,V0 0]) ⟨_,rfl,hB,_,_,rfl,g3,n3.blk,o2⟩
theorem refs_own(br n:Nat)(p:O0)(w:World)(kr:Blk w br [.slice p n n] 231) :
 C0 136 #[P0 br] w (Ret (.slice p n n) w):=by
 refine zin 9 Tryz.func136 ?_
 refine xb 20 0 kr ?_
 exact xe 4 (.slice p n n) ⟨rfl,(B3 w)⟩
theorem Zah(br g n B0:Nat)(cs:List Nat)(w:World)(kr:Blk w br [.slice (S1 g) n n] 231)(hc:w.ownsRow B0 3 1 (.slice (S1 g) n n) n (cs.map nv))(hn:cs.length=n)(hn2:n≤100000) :
 C0 73 #[P0 br] w (Qh (fun w' r=>∃ q c2,r=.slice q n c2∧w'.ownsRow w.heap.size 3 1 (.slice q n c2) n (cs.map nv)) w):=by
 refine zin 6 Tryz.func73 ?_
 refine xr 8 (args:=#[P0 br]) (refs_own br n _ _ kr) fun W1 a2=>?_
 have a0:=Za hc a2
 refine xc 0 (args:=#[.slice (S1 g) n n]) (Ga ⟨g,0,none⟩ n n (cs.map nv) _ (Ze a0) (by rw[A0];exact hn) (nv_one _) M0) ?_
 rintro _ W2 ⟨_,rfl,a3,q,c2,rfl,hq⟩
 have a1:=Zf hq a2.size
 have hB:=bln a2 a3
 exact xe 4 (.slice q n c2) ⟨_,rfl,hB,_,_,rfl,a1⟩
theorem Zdc(B br g n k:Nat)(cs:List Nat)(w:World)(kr:Blk w br [.slice (S1 g) n n] 231)(hBw:B≤w.heap.size)(hc:w.ownsRow B 3 1 (.slice (S1 g) n n) n (cs.map nv))(hn:cs.length=n)(hk:k<n)(hb:cs.getD k 0≤4000000000000000000) :
 C0 71 #[P0 br,V0 (k:Int)] w ((fun e w'=>e=.returned (.tuple #[V0 ((cs.getD k 0+1:Nat):Int),V0 0])∧Below B w w'∧Zd [3] w w'∧Fr [g] w w'∧w'.ownsRow B 3 1 (.slice (S1 g) n n) n ((Ld cs (k:Int)).map nv))):=by
 have a3:=Jn cs (k:Int)
 refine zin 37 Tryz.func71 ?_
 refine xg 21 [11,12] (decide ((k:Int)<(0:Int))) (fun a0=>?_) (fun a0=>?_)
 ·have a0:=of_decide_eq_true a0
  exact xe 21 (.tuple #[V0 0,V0 3]) (by exfalso;omega)
 have a0:=of_decide_eq_false a0
 refine xb 4 0 kr ?_
 refine xid 6 ((k:Int)≥(n:Int)) (fun a2=>?_) (fun a2=>?_)
 ·exact xe 9 (.tuple #[V0 0,V0 3]) (by exfalso;omega)
 refine xb 8 0 kr ?_
 refine xx 1 _ n k 1 (Ki (Ze hc) (k:=k) M0).1 ?_
 refine xl 0 ((Ki (Ze hc) (k:=k) M0).2) ?_
 refine xwm 0 ((↑(cs.getD k 0):Int)+1) (↑((cs.getD k 0)+1):Int) ?_
 refine xx 0 _ n k 1 (Ki (Ze hc) (k:=k) M0).1 ?_
 refine xst 0 fun _ _ _ _ zJ zQ zo zx zy zK=>Yh (t:=3) (k:=k) (v:=V0 (↑((cs.getD k 0)+1):Int)) zo zx zy K0 rfl hc M0 fun W3 u3 o3=>?_
 rw[Zai cs k] at o3
 refine zK _ _ ?_
 have a1:=u3.blk kr (Xd kr hc Do)
 refine xb 7 0 a1 ?_
 refine xx 1 _ n k 1 (Ki (Ze o3) (k:=k) M0).1 ?_
 refine xl 0 ((Ki (Ze o3) (k:=k) M0).2) ?_
 have hB:=u3.below (Below.refl B w) (Va hc)
 have hO:=(show Zd [3] w _ from(Zd.of_updRow u3 hc Do))
 have hX:=(show Fr [g] w _ from(Fr.of_upd u3 (by simp)))
 exact xe 5 (.tuple #[V0 (↑((Ld cs (k:Int)).getD k 0):Int),V0 0]) ⟨by rw[bump_get M0],hB,hO,hX,o3⟩
end Go.Proofs.YtekomodnkfhihaaGreatDoor
namespace Go.Proofs.YtekomodnkfhihaaGreatDoor
set_option maxHeartbeats 8000000
set_option maxRecDepth 100000
open Go.RowKit
set_option linter.unusedVariables false
theorem Fm{P:Program}{l n:Nat}{ops:Array Oper}{Q:Exit→Act→World→Prop}(hQ:¬ LetsOut Q):∀ (r:List Oper) (a:Act) (w:World),(∀ o∈r,∀ c,o.op≠.defer c)→wpList P ops Q r a w→wpListIn (Fence.wide.inRound l) n P ops Q r a w
 | [],_,_,_,h=>h
 | o::r,a,w,hd,h=>by
  unfold wpList at h
  unfold wpListIn
  split at h
  ·rename_i hw
   rw[if_pos hw]
   exact Oper.wpIn_mono (fun a w=>Fm hQ r a w (fun o ho=>hd o (by simp[ho]))) (Zbw (hd o (by simp)) (h.resolve_right fun q=>hQ q.2))
  ·rename_i hw
   rw[if_neg hw]
   exact⟨fun _ _=>trivial,Fm hQ r _ _ (fun o ho=>hd o (by simp[ho])) h⟩
theorem reg_in{P:Program}{l0 n0 id:Nat}{l:List Oper}{Q:Exit→Act→World→Prop}{a:Act}{w:World}(hQ:¬ LetsOut Q)(hd:∀ o∈l,∀ c,o.op≠.defer c)(h:wpList P l.toArray Q l a w):(Code.region id l.toArray false).wpIn (Fence.wide.inRound l0) n0 P Q a w :=
 wpIn_region_lit (Fm hQ l a w hd h)
def Turns(q:Nat→Prop)(n:Nat)(A:World)(row:Option Nat):Prop:=∀ r,row=some r→q r∨n≤r∧∃ o:Obj,A.heap[r]? = some o∧o.isCells=false
theorem below_ab{n m:Nat}{q:Nat→Prop}{w A B:World}{row:Option Nat}(h:Below n w A)(hg:A.grownBy B row)(hr:Turns q m A row)(hn:n≤w.heap.size)(hm:n≤m)(hq:∀ r,q r→n≤r):Below n w B :=
 h.grown hg (N0 hn h.size) (fun r e=>by rcases hr r e with h1|h1;exact hq _ h1;omega)
theorem own_ab{q:Nat→Prop}{A B:World}{row:Option Nat}{base size n m:Nat}{e:TypeId}{v:Value}{xs:List Value}(k:A.ownsRow base e size v n xs)(hg:A.grownBy B row)(hr:Turns q m A row)(hq:∀ r,q r→r<base):B.ownsRow base e size v n xs:=by
 obtain⟨h1,h2⟩:=k
 refine⟨h1,?_⟩
 rcases h2 with h2|⟨g,a0,a1,hv,hb,hh,r⟩
 ·exact Or.inl h2
 ·refine Or.inr ⟨g,a0,a1,hv,hb,?_,r⟩
  rw[hg.block g (Array.getElem?_eq_some_iff.1 hh).1 (fun q=>by
   rcases hr g q.symm with h3|⟨_,o,ho,hc⟩
   ·have:=hq _ h3;omega
   ·rw[hh] at ho
    cases ho
    cases hc)]
  exact hh
theorem Zc1{q:Nat→Prop}{A B:World}{row:Option Nat}{b m:Nat}{cs:List Value}{t:TypeId}(k:Blk A b cs t)(hg:A.grownBy B row)(hr:Turns q m A row)(hq:∀ r,q r→b≠r):Blk B b cs t :=
 k.kept hg (fun e'=>by
  rcases hr b e'.symm with h3|⟨_,o,ho,hc⟩
  ·exact hq _ h3 rfl
  ·rw[show A.heap[b]? = _ from k] at ho;cases ho;cases hc)
theorem zi_fr{F:Fence}{n:Nat}{P:Program}{c:Code}{Q:Exit→Act→World→Prop}{a:Act}{w:World}(a':Act)(h:a=a')(k:c.wpIn F n P Q a' w):c.wpIn F n P Q a w:=h▸k
theorem Dfr.put{D D2:Nat}{w:World}(h:Dfr D w)(hne:D≠D2)(o:Obj):Dfr D (w.putObj D2 o):=(F2 hne).trans h
theorem Jw.pt{D:Nat}{w:World}{l:List (Option Int)}{c:Option Int}{v:Value}(h:Jw w l c v)(hK:Dfr D w)(o:Obj):Jw (w.putObj D o) l c v:=h.kept fun _ _ k=>k.put hK rfl o
end Go.Proofs.YtekomodnkfhihaaGreatDoor
namespace Go.Proofs.YtekomodnkfhihaaGreatDoor
set_option maxHeartbeats 8000000
set_option maxRecDepth 100000
open Go.RowKit Go.Extern.Stop Go.Stop Go.Extern
set_option linter.unusedVariables false
attribute [local irreducible] wpList wpAnyH Code.wp Oper.wp Go
theorem maps_seq(B1:Nat)(p:O0)(n c:Nat)(t u v x:Int)(Z:List Zv)(w w0:World)(hZ:Z.length=n)(hP:DevsR w p c Z)(hn:n≤1000000000)(hW:Bl w w0)(q:Nat→Prop)(hq:∀ b,b<w.heap.size→q b)(hqlt:∀ b,q b→b<w0.heap.size)(hk1:Blk w0 B1 [V0 t,V0 u,V0 v,V0 x,.slice p n c] 24) :
  SeqB Tryz.prog 137 #[P0 B1] encM (Keeps q) (Ql 0 (Z.map Prod.fst)) w0:=fun l J Jx W hw hJ hY h0 =>
 maps1_in l B1 p n c t u v x Z w hZ hP hn q hq J Jx hJ hY W (bln hW hw) (fun b hb=>C1 (hqlt b hb) hw.size) (hk1.below hw) h0
theorem frg_ko{g:Nat}{W V:World}{cs:List Value}{t:TypeId}(h:Fr [g] W V)(k:Blk W g cs t):KeepsOthers W V:=⟨h.size,fun i o hi ho=>(h.block i (Array.getElem?_eq_some_iff.1 hi).1 (by
 simp only[D8]
 rintro rfl
 rw[show W.heap[i]? = _ from k] at hi
 cases hi;cases ho)).trans hi⟩
theorem Zc6{p:Nat→Prop}{g:Nat}{W V:World}(h:Fr [g] W V)(hp:∀ b,p b→b<W.heap.size)(hg:¬ p g):Keeps p W V:=⟨h.size,fun b hb=>h.block b (hp b hb) (by simp only[D8];rintro rfl;exact hg hb)⟩
theorem Zap(t u v x:Int)(p:O0)(n c:Nat)(w:World) :
 C0 74 #[.agg #[V0 t,V0 u,V0 v,V0 x,.slice p n c]] w (Qh (fun w' r=>∃ b,r=.func (.func 137) #[] #[P0 b]∧w.heap.size≤b∧Blk w' b [V0 t,V0 u,V0 v,V0 x,.slice p n c] 24) w):=by
 refine zin 4 Tryz.func74 ?_
 refine xa 2 [V0 t,V0 u,V0 v,V0 x,.slice p n c] 24 fun b1 W1 n1=>?_
 exact xe 10 (.func (.func 137) #[] #[P0 b1]) ⟨_,rfl,n1.below,b1,rfl,(n1.ge (B3 w)),n1.blk⟩
theorem Bk(p:O0)(c n x:Nat)(t u v:Int)(Z:List Zv)(w:World)(hZ:Z.length=n)(hP:DevsR w p c Z)(hk:PoolOk t u v (x:Int) (Z.map Prod.fst)) :
 C0 28 #[.agg #[V0 t,V0 u,V0 v,V0 (x:Int),.slice p n c]] w (Qh (fun w' r=>∃ q d,r=.slice q x d∧w'.ownsRow w.heap.size 3 1 (.slice q x d) x ((Qe x (Z.map Prod.fst)).map nv)) w):=by
 have hx:x≤65536:=by have:=hk.hdata;omega
 have c8:n≤1000000000:=by have:=hk.devs.few;rw[A0] at this;omega
 have a4:=Rq hk.devs 0
 have d1:=hk.devs.sum
 refine Ha Tryz.func28 rfl ?_
 refine g_fr ⟨#[.agg #[V0 t,V0 u,V0 v,V0 (x:Int),.slice p n c],undef,undef,undef,undef,undef,undef,undef,undef,undef,undef,undef,undef,undef,undef,undef,undef,undef,undef,undef,undef,undef,undef,undef,undef,undef],[]⟩ K0 ?_
 refine wp_seq ?_
 refine wp_region_lit ?_
 refine Gu K0 (op_box [V0 t,V0 u,V0 v,V0 (x:Int),.slice p n c] rfl K0 ?_)
 intro b1 W1 n1
 have g1:=n1.ge (B3 w)
 have hB:=n1.below
 have k1:=n1.blk
 refine Hp 1 [(2,S0)] K0 ?_
 refine wpList_nil ?_
 refine wp_seq ?_
 refine wp_seq ?_
 refine wp_region_lit ?_
 refine Gu K0 (Fz (b:=b1) (off:=0) [V0 t,V0 u,V0 v,V0 (x:Int),.slice p n c] _ rfl K0 Tryz.underlying24 rfl K0 k1.whole ?_)
 refine Gu K0 (Vf (lb:=#[]) 12 #[.agg #[V0 t,V0 u,V0 v,V0 (x:Int),.slice p n c]] rfl K0 (fun _ _=>by kernel_rfl) K0 ((Vm p c n t u v (x:Int) Z _ hZ (hP.below hB)).mono ?_))
 rintro e W2 ⟨rfl,c3⟩
 refine⟨_,rfl,?_⟩
 replace hB:=bln hB c3
 replace k1:=k1.below c3
 refine Hp 1 [(9,.bool ((Ye t u v (x:Int) (Z.map Prod.fst)) != (0:Int)))] K0 ?_
 refine wpList_nil ?_
 refine wp_cond_split (t:=((Ye t u v (x:Int) (Z.map Prod.fst)) != (0:Int))) K0 (fun hh=>absurd (hh.symm.trans (show(((Ye t u v (x:Int) (Z.map Prod.fst)) != (0:Int)):Bool)=false from by rw[Kf.2 hk];rfl)) Do) (fun _=>?_)
 refine wp_skip ?_
 refine wp_seq ?_
 refine wp_region_lit ?_
 refine Hp 1 [(11,.pointer (some ⟨b1,3,none⟩))] K0 ?_
 refine Gu K0 (Vz ⟨b1,3,none⟩ (V0 (x:Int)) rfl K0 K0 (k1.cell (i:=3) rfl) ?_)
 have c6:=hB.size
 have d5:w.heap.size≤(W2).heap.size:=hB.size
 refine Gu K0 (Vf (lb:=#[]) 70 #[V0 (x:Int)] rfl K0 (fun _ _=>by kernel_rfl) K0 ((Zav x _ hx).mono ?_))
 rintro e W4 ⟨_,rfl,c0,br,g,rfl,c2,a1,hc⟩
 refine⟨_,rfl,?_⟩
 replace hB:=bln hB c0
 replace k1:=k1.below c0
 replace hc:=Zf hc d5
 replace c2:=N0 c6 c2
 refine Hp 3 [(10,.tuple #[P0 br,V0 0]),(14,P0 br),(15,V0 0)] K0 ?_
 refine Gu K0 (Wj [.pointer none] rfl K0 ?_)
 intro b5 W5 n5
 have a5:=n5.ne k1
 have a3:=n5.ne a1
 have g5:=n5.ge hB
 replace hB:=bln hB n5.below
 replace k1:=k1.below n5.below
 replace a1:=a1.below n5.below
 replace hc:=Za hc n5.below
 have k5:=n5.blk
 refine Gu K0 (Jp (v:=P0 br) (b:=b5) (off:=0) rfl K0 K0 K0 rfl k5 (by first|decide|simp) ?_)
 intro W6 u6 k6
 change Blk _ _ [P0 br] _ at k6
 replace hB:=u6.below hB g5
 replace k1:=u6.blk k1 a5
 replace a1:=u6.blk a1 a3
 replace hc:=u6.own2 hc k5 Do
 refine Hp 1 [(4,V0 0)] K0 ?_
 refine wpList_nil ?_
 refine wp_seq ?_
 refine wp_seq ?_
 refine wp_region_lit ?_
 refine Gu K0 (Fz (b:=b1) (off:=0) [V0 t,V0 u,V0 v,V0 (x:Int),.slice p n c] _ rfl K0 Tryz.underlying24 rfl K0 k1.whole ?_)
 have d3:=hB.size
 refine Gu K0 (Vf (lb:=#[]) 74 #[.agg #[V0 t,V0 u,V0 v,V0 (x:Int),.slice p n c]] rfl K0 (fun _ _=>by kernel_rfl) K0 ((Zap t u v (x:Int) p n c _).mono ?_))
 rintro e W7 ⟨_,rfl,a6,bm,rfl,c1,c9⟩
 refine⟨_,rfl,?_⟩
 replace hB:=bln hB a6
 replace k1:=k1.below a6
 replace a1:=a1.below a6
 replace k6:=k6.below a6
 replace hc:=Za hc a6
 replace c1:=N0 d3 c1
 refine wpList_nil ?_
 refine wp_block ?_
 have b7:=hB
 have a9:w.heap.size≤W7.heap.size:=b7.size
 have m3:=k6
 have mr:=a1
 have mm:=c9
 have mc:=hc
 have d0:w.heap.size≤g∧g<W7.heap.size:=mc.lt g rfl
 have hq:=maps_seq bm p n c t u v (x:Int) Z w W7 hZ hP c8 b7 (fun b=>b<w.heap.size) (fun b h=>h) (fun b h=>C1 h a9) mm
 refine g_fr ⟨#[.agg #[V0 t,V0 u,V0 v,V0 (x:Int),.slice p n c],P0 b1,S0,P0 b5,V0 0,undef,undef,.agg #[V0 t,V0 u,V0 v,V0 (x:Int),.slice p n c],V0 (Ye t u v (x:Int) (Z.map Prod.fst)),.bool ((Ye t u v (x:Int) (Z.map Prod.fst)) != (0:Int)),.tuple #[P0 br,V0 0],.pointer (some ⟨b1,3,none⟩),V0 (x:Int),.tuple #[P0 br,V0 0],P0 br,V0 0,.agg #[V0 t,V0 u,V0 v,V0 (x:Int),.slice p n c],.func (.func 137) #[] #[P0 bm],undef,undef,undef,undef,undef,undef,undef,undef],[]⟩ K0 ?_
 refine Za2 (g:=.tmp 17) (gf:=137) (lb:=#[P0 bm]) rfl (enters_of Tryz.func137 K0 rfl) (fun b=>b<w.heap.size) (fun b h=>C1 h a9) hq (fun _=>rfl)
  (fun k V=>Bl w V∧Blk V b5 [P0 br] 136∧Blk V br [.slice (S1 g) x x] 231∧V.ownsRow w.heap.size 3 1 (.slice (S1 g) x x) x ((Uz (List.replicate x 0) ((Ql 0 (Z.map Prod.fst)).take k)).map nv))
  (fun _ _ _=>False) ?bel ?own (fun _ _ _ _ _ h _ _=>h.elim) ⟨b7,m3,mr,mc⟩
  (fun y a' V=>∃ b6,a'={ tmps:=#[.agg #[V0 t,V0 u,V0 v,V0 (x:Int),.slice p n c],P0 b1,S0,P0 b5,V0 0,undef,P0 b6,.agg #[V0 t,V0 u,V0 v,V0 (x:Int),.slice p n c],V0 (Ye t u v (x:Int) (Z.map Prod.fst)),.bool ((Ye t u v (x:Int) (Z.map Prod.fst)) != (0:Int)),.tuple #[P0 br,V0 0],.pointer (some ⟨b1,3,none⟩),V0 (x:Int),.tuple #[P0 br,V0 0],P0 br,V0 0,.agg #[V0 t,V0 u,V0 v,V0 (x:Int),.slice p n c],.func (.func 137) #[] #[P0 bm],V0 (y.1:Int),.agg #[V0 y.2.1,V0 y.2.2.1,V0 y.2.2.2],undef,undef,undef,undef,undef,undef],defers:=[] }∧Blk V b6 [V0 y.2.1,V0 y.2.2.1,V0 y.2.2.2] 63) ?two ?assign ?body ?done (fun _ _ _ _ _ _ h _=>h.elim)
 case bel=>exact fun k A B h hb=>⟨bln h.1 hb,h.2.1.below hb,h.2.2.1.below hb,Za h.2.2.2 hb⟩
 case own=>exact fun k A B d4 h hg hr=>⟨below_ab (q:=fun _=>False) h.1 hg (fun r e=>.inr (hr r e)) (A3 _) a9 (fun _ q=>q.elim),Zc1 (q:=fun _=>False) (m:=W7.heap.size) h.2.1 hg (fun r e=>.inr (hr r e)) (fun _ q=>q.elim),Zc1 (q:=fun _=>False) (m:=W7.heap.size) h.2.2.1 hg (fun r e=>.inr (hr r e)) (fun _ q=>q.elim),own_ab (q:=fun _=>False) (m:=W7.heap.size) h.2.2.2 hg (fun r e=>.inr (hr r e)) (fun _ q=>q.elim)⟩
 case two=>exact fun y a' A B d4 ⟨b6,ha,h6⟩ hg hr=>⟨b6,ha,Zc1 (q:=fun _=>False) (m:=W7.heap.size) h6 hg (fun r e=>.inr (hr r e)) (fun _ q=>q.elim)⟩
 case assign =>
  rintro lr k y W K hy hI hK
  refine zi_fr { tmps:=#[.agg #[V0 t,V0 u,V0 v,V0 (x:Int),.slice p n c],P0 b1,S0,P0 b5,V0 0,undef,undef,.agg #[V0 t,V0 u,V0 v,V0 (x:Int),.slice p n c],V0 (Ye t u v (x:Int) (Z.map Prod.fst)),.bool ((Ye t u v (x:Int) (Z.map Prod.fst)) != (0:Int)),.tuple #[P0 br,V0 0],.pointer (some ⟨b1,3,none⟩),V0 (x:Int),.tuple #[P0 br,V0 0],P0 br,V0 0,.agg #[V0 t,V0 u,V0 v,V0 (x:Int),.slice p n c],.func (.func 137) #[] #[P0 bm],V0 (y.1:Int),.agg #[V0 y.2.1,V0 y.2.2.1,V0 y.2.2.2],undef,undef,undef,undef,undef,undef],defers:=[] } K0 ?_
  refine reg_in (fun⟨_,_,q⟩=>q) (by simp) ?_
  refine Gu K0 (Wj [V0 0,V0 0,V0 0] rfl K0 ?_)
  intro b8 W8 n8
  have g8:=n8.ge (B3 W)
  have hB:=n8.below
  have k8:=n8.blk
  refine Gu K0 (Be (b:=b8) (off:=0) [V0 y.2.1,V0 y.2.2.1,V0 y.2.2.2] rfl K0 K0 K0 (by first|decide|simp[Value.oneCell']) k8 (by first|decide|simp) ?_)
  intro W9 u9 k9
  change Blk _ _ [V0 y.2.1,V0 y.2.2.1,V0 y.2.2.2] _ at k9
  replace hB:=u9.below hB g8
  refine wpList_nil ?_
  exact hK _ _ hB ⟨_,rfl,k9⟩
 case body =>
  rintro lr k y a' W d6 hy ⟨a7,n3,nr,nc⟩ ⟨b6,rfl,n6⟩
  have c5:w.heap.size≤W.heap.size:=a7.size
  obtain⟨d7,e0⟩:=a4 y (List.mem_of_getElem? hy)
  obtain⟨j,hj⟩:∃ j:Nat,y.2.2.1=(j:Int):=⟨y.2.2.1.toNat,by omega⟩
  have c7:(Uz (List.replicate x 0) ((Ql 0 (Z.map Prod.fst)).take k)).length=x:=by rw[Cn,A8]
  have e2:=Nd (Uz (List.replicate x 0) ((Ql 0 (Z.map Prod.fst)).take k)) j
  have b9:=Cq (data:=x) ((Ql 0 (Z.map Prod.fst)).take k) (fun z hz=>a4 z (I0 hz)) (List.replicate x 0) A8
  rw[List.sum_replicate_nat,D1] at b9
  have d2:=Nat.min_le_right k (Ql 0 (Z.map Prod.fst)).length
  rw[Nk] at d2 b9
  rw[hj] at n6
  obtain⟨cg,kg⟩:=Wq nc
  refine wpIn_block ?_
  refine reg_in (fun⟨_,_,q⟩=>q) (by simp) ?_
  refine Gu K0 (Vz ⟨b5,0,none⟩ (P0 br) rfl K0 K0 (n3.cell (i:=0) rfl) ?_)
  refine Hp 1 [(21,.pointer (some ⟨b6,1,none⟩))] K0 ?_
  refine Gu K0 (Vz ⟨b6,1,none⟩ (V0 (j:Int)) rfl K0 K0 (n6.cell (i:=1) rfl) ?_)
  refine Gu K0 (Vf (lb:=#[]) 71 #[P0 br,V0 (j:Int)] rfl K0 (fun _ _=>by kernel_rfl) K0 ((Zdc w.heap.size br g x j (Uz (List.replicate x 0) ((Ql 0 (Z.map Prod.fst)).take k)) _ nr (N0 c5 (Below.refl w.heap.size _).size) nc c7 M0 M0).mono ?_))
  rintro e d8 ⟨rfl,b2,a2,b4,b3⟩
  refine⟨_,rfl,?_⟩
  have hX:Fr [g] W _:=b4
  have hB:=b2
  replace n3:=n3.only a2 Do
  replace nr:=nr.only a2 Do
  replace n6:=n6.only a2 Do
  refine wpList_nil ?_
  exact⟨(frg_ko hX kg).from _,Zc6 hX (fun b hb=>C1 hb c5) (Nat.not_lt.2 d0.1),a7.trans hB,n3,nr,by rw[Ty _ _ hy,hj];exact b3⟩
 case done =>
  rintro D W hD ⟨a7,n3,nr,nc⟩ c4
  have hK:Dfr D W:=c4;clear c4
  rw[A5 (A3 _)] at nc
  refine Zcb ?_
  have hB:=a7
  refine wp_seq ?_
  refine wp_region_lit ?_
  refine Gu K0 (Vz ⟨b5,0,none⟩ (P0 br) rfl K0 K0 (n3.cell (i:=0) rfl) ?_)
  have b0:w.heap.size≤(W).heap.size:=hB.size
  refine Gu K0 (Vf (lb:=#[]) 73 #[P0 br] rfl K0 (fun _ _=>by kernel_rfl) K0 ((Zah br g x w.heap.size (Qe x (Z.map Prod.fst)) _ nr nc (Ya _ _) M0).mono ?_))
  rintro e e1 ⟨_,rfl,a0,q9,d9,rfl,a8⟩
  refine⟨_,rfl,?_⟩
  replace hB:=bln hB a0
  replace n3:=n3.below a0
  replace nr:=nr.below a0
  replace nc:=Za nc a0
  replace hK:=hK.below a0
  replace a8:=Zf a8 b0
  refine Hp 1 [(2,.slice q9 x d9)] K0 ?_
  refine wpList_nil ?_
  refine wp_ret ?_
  exact g_endM hK (.slice q9 x d9) K0 K0 ⟨_,rfl,(Upd.of_put _ _ _).below hB (N0 a9 hD),_,_,rfl,(Upd.of_put _ _ _).own3 a8 (hK.row a8)⟩
end Go.Proofs.YtekomodnkfhihaaGreatDoor
