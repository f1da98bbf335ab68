/- What the document's scan keeps in memory: rows of numbers that lie apart, visits that wait, faults. -/
import Derived.Laws.StructEq
import Derived.Test.YtlmaglneeaecdaaGreatDoorMg4
namespace Go.Proofs.YtlmaglneeaecdaaGreatDoor
set_option maxHeartbeats 8000000
set_option maxRecDepth 100000
open Go.RowKit Go.Extern.Stop Go.Stop Go.Extern
set_option linter.unusedVariables false
structure Ft where
 bl:List Int
 c:Int
 fa:Option Addr
 fc:Nat
def Ar(f:Ft):List Value:=[.slice f.fa f.bl.length f.fc,.int .i64 f.c]
theorem Nx(f:Ft):(Ar f).length=2:=rfl
def fltP(f:Ft):List Int×Int:=(f.bl,f.c)
def wtC (t:Wt):List Value:=[.int .i64 t.no,.int .i64 t.lo,.int .i64 t.hi,.slice t.wa t.way.length t.wc,.int .i64 t.ft]
theorem Li(t:Wt):(wtC t).length=5:=rfl
def Vc(B:Nat)(w:World)(a:Option Addr)(c:Nat)(l:List Int):Prop:=w.ownsRow B 3 1 (.slice a l.length c) l.length (l.map (Value.int .i64))
theorem Vc.below{B:Nat}{w W:World}{a:Option Addr}{c:Nat}{l:List Int}(h:Vc B w a c l)(hb:Below w.heap.size w W):Vc B W a c l:=Za h hb
theorem Vc.only{B:Nat}{w W:World}{a:Option Addr}{c:Nat}{l:List Int}{T:List TypeId}(h:Vc B w a c l)(hO:Ze T w W)(hT:T.contains 3=false):Vc B W a c l:=Zl h hO hT
theorem Vc.mono{B B':Nat}{w:World}{a:Option Addr}{c:Nat}{l:List Int}(h:Vc B w a c l)(hB:B'≤B):Vc B' w a c l:=Zf h hB
theorem Vc.ints{B:Nat}{w:World}{a:Option Addr}{c:Nat}{l:List Int}(h:Vc B w a c l):Ints w (.slice a l.length c) l:=Zg h
theorem own_size{w:World}{base e size n:Nat}{v:Value}{xs:List Value}(h:w.ownsRow base e size v n xs)(hn:0<n):base≤w.heap.size:=by
 rcases h.2 with ⟨_,h0⟩|⟨g,cap,cur,hv,hb,hh,_⟩
 ·omega
 ·have:=(Array.getElem?_eq_some_iff.1 hh).1
  omega
abbrev RowK:=List Int×Option Addr×Nat
def Zcx(t:Wt):RowK:=(t.way,t.wa,t.wc)
def fltK(f:Ft):RowK:=(f.bl,f.fa,f.fc)
def Yd(B:Nat)(w:World)(u:Value)(L:List RowK):Prop:=∀ x∈L,Vc B w x.2.1 x.2.2 x.1∧Kd (.slice x.2.1 x.1.length x.2.2) u
theorem Yd.below{B:Nat}{w W:World}{u:Value}{L:List RowK}(h:Yd B w u L)(hb:Below w.heap.size w W):Yd B W u L:=fun x hx=>⟨(h x hx).1.below hb,(h x hx).2⟩
theorem Yd.only{B:Nat}{w W:World}{u:Value}{L:List RowK}{T:List TypeId}(h:Yd B w u L)(hO:Ze T w W)(hT:T.contains 3=false):Yd B W u L:=fun x hx=>⟨(h x hx).1.only hO hT,(h x hx).2⟩
theorem Yd.grow{B base e size n:Nat}{w W:World}{u u':Value}{xs:List Value}{L:List RowK}(h:Yd B w u L)(k:w.ownsRow base e size u n xs)(hg:w.grownBy W u.ownBlock)(ha:u'.ownBlock=u.ownBlock∨u'.ownBlock=some w.heap.size):Yd B W u' L :=
 fun x hx=>⟨(h x hx).2.symm.row (h x hx).1 hg,((h x hx).2.symm.grow (h x hx).1 ha).symm⟩
theorem Yd.sub{B:Nat}{w:World}{u:Value}{L L':List RowK}(h:Yd B w u L)(hs:∀ x∈L',x∈L):Yd B w u L':=fun x hx=>h x (hs x hx)
theorem Yd.snoc{B:Nat}{w:World}{u:Value}{L:List RowK}{x:RowK}(h:Yd B w u L)(k:Vc B w x.2.1 x.2.2 x.1)(ha:Kd (.slice x.2.1 x.1.length x.2.2) u):Yd B w u (L++[x]):=fun y hy=>by
 rcases List.mem_append.1 hy with hy|hy
 ·exact h y hy
 ·rw[List.mem_singleton.1 hy];exact⟨k,ha⟩
def Bc(B:Nat)(w:World)(a:Option Addr)(c:Nat)(ts:List Wt):Prop:=∃ v0 n0 xs0,w.ownsRow B 239 5 v0 n0 xs0∧∀ W,W.ownsRow B 239 5 v0 n0 xs0→Sts wtC W (.slice a ts.length c) ts
theorem Bc.below{B:Nat}{w W:World}{a:Option Addr}{c:Nat}{ts:List Wt}(h:Bc B w a c ts)(hb:Below w.heap.size w W):Bc B W a c ts:=by
 obtain⟨v0,n0,xs0,h1,h2⟩:=h
 exact⟨v0,n0,xs0,Za h1 hb,h2⟩
theorem Bc.only{B:Nat}{w W:World}{a:Option Addr}{c:Nat}{ts:List Wt}{T:List TypeId}(h:Bc B w a c ts)(hO:Ze T w W)(hT:T.contains 239=false):Bc B W a c ts:=by
 obtain⟨v0,n0,xs0,h1,h2⟩:=h
 exact⟨v0,n0,xs0,Zl h1 hO hT,h2⟩
theorem Bc.sts{B:Nat}{w:World}{a:Option Addr}{c:Nat}{ts:List Wt}(h:Bc B w a c ts):Sts wtC w (.slice a ts.length c) ts:=by
 obtain⟨v0,n0,xs0,h1,h2⟩:=h
 exact h2 w h1
theorem Bc.of{B:Nat}{w:World}{a:Option Addr}{n c:Nat}{ts:List Wt}(h:w.ownsRow B 239 5 (.slice a n c) n (ts.flatMap wtC))(hn:n=ts.length):Bc B w a c ts:=by
 subst hn
 exact⟨_,_,_,h,fun W k=>Zg k⟩
theorem Bc.tail{B:Nat}{w:World}{a:Option Addr}{c:Nat}{t:Wt}{ts:List Wt}(h:Bc B w a c (t::ts)):Bc B w (Vd a 1 c 5) (c-1) ts:=by
 obtain⟨v0,n0,xs0,h1,h2⟩:=h
 exact⟨v0,n0,xs0,h1,fun W k=>Sts.cut Li (h2 W k) 1 (by simp)⟩
theorem sts_eq{w:World}{a:Option Addr}{c:Nat}{ts us:List Wt}(h:Sts wtC w (.slice a ts.length c) ts)(e:ts=us):Sts wtC w (.slice a us.length c) us:=by subst e;exact h
theorem Zci.or{base e size n:Nat}{u:Value}{xs:List Value}{l:List UInt8}{way:List Int}{no tree lo hi deep:Int}{w:World}{e':Ending}{w':World}(k:w.ownsRow base e size u n xs)(h:Zci l way no tree lo hi deep w e' w') :
 (Zw l way no tree lo hi deep≠0∧∃ a4 b4 k4 n4 c4 v4 m4 d4 a c,e'=.returned (.tuple #[.agg #[.int .i64 a4,.bool b4,.slice k4 n4 c4,.slice v4 m4 d4],.agg #[.slice a 1 c,.int .i64 (Zw l way no tree lo hi deep)]])∧Below w.heap.size w w'∧Vc w.heap.size w' a c [no]) ∨
 (Zw l way no tree lo hi deep=0∧∃ kp kc vp vc,e'=.returned (.tuple #[.agg #[.int .i64 (Xt (inB l no)),.bool (Xk (inB l no)),.slice kp (Zn (inB l no)) kc,.slice vp (Zn (inB l no)) vc],.agg #[.slice none 0 0,.int .i64 0]])∧Below w.heap.size w w' ∧
 w'.ownsRow w.heap.size 3 1 (.slice kp (Zn (inB l no)) kc) (Zn (inB l no)) ((Xu l no).map (Value.int .i64))∧Kd u (.slice kp (Zn (inB l no)) kc)∧w'.ownsRow w.heap.size 9 1 (.slice vp (Zn (inB l no)) vc) (Zn (inB l no)) ((Qw l no).map sv)):=by
 rcases h with ⟨h0,a4,b4,k4,n4,c4,v4,m4,d4,a,c,h1,h2,h3⟩|⟨h0,kp,kc,vp,vc,h1,h2,h3,h4⟩
 ·exact .inl ⟨h0,a4,b4,k4,n4,c4,v4,m4,d4,a,c,h1,h2,h3⟩
 ·exact .inr ⟨h0,kp,kc,vp,vc,h1,h2,h3,Kd.of_lt k h3 (Nat.le_refl _),h4⟩
theorem Ql(wa:Option Addr)(wc:Nat)(way:List Int)(er:Int)(B:Nat)(a0:Option Addr)(c0:Nat)(no:Int)(w:World)(he:er≠0)(hw:Ints w (.slice wa way.length wc) way)(hwl:way.length≤100000)(h0:Vc B w a0 c0 [no]) :
 Calls Tryz.prog 115 #[.slice wa way.length wc,.agg #[.slice a0 1 c0,.int .i64 er]] w (fun e w'=>∃ a c,e=.returned (.agg #[.slice a (way++[no]).length c,.int .i64 er])∧Below w.heap.size w w'∧Vc B w' a c (way++[no])):=by
 refine(Zeo B wa wc way er a0 1 c0 [no] w (own_size h0 (by simp)) he hw hwl rfl (by decide) h0).mono ?_
 rintro e W ⟨_,rfl,hb,a,n,c,rfl,hn,ho⟩
 obtain rfl:n=(way++[no]).length:=by simp[hn]
 exact⟨a,c,rfl,hb,ho⟩
theorem Xv(no er:Int)(w:World)(he:er≠0):Calls Tryz.prog 36 #[.int .i64 no,.int .i64 er] w (fun e w'=>∃ a c,e=.returned (.agg #[.slice a 1 c,.int .i64 er])∧Below w.heap.size w w'∧Vc w.heap.size w' a c [no]):=by
 refine(Vt no er w he).mono ?_
 rintro e W ⟨_,rfl,hb,a,c,rfl,ho⟩
 exact⟨a,c,rfl,hb,ho⟩
def Zc2(S:WS)(w:World)(e:Ending)(w':World):Prop :=
 ∃ (pe pb pf:Option Addr) (ce cb cf:Nat) (fv:List Ft),e=.returned (.agg #[.slice pe S.es.length ce,.slice pb S.bs.length cb,.int .i64 S.deep,.int .i64 (S.looked:Int),.slice pf fv.length cf])∧Below w.heap.size w w' ∧
  w'.ownsRow w.heap.size 74 3 (.slice pe S.es.length ce) S.es.length (S.es.flatMap Ky)∧w'.ownsRow w.heap.size 3 1 (.slice pb S.bs.length cb) S.bs.length (S.bs.map (Value.int .i64)) ∧
  w'.ownsRow w.heap.size 33 2 (.slice pf fv.length cf) fv.length (fv.flatMap Ar)∧fv.map fltP=S.fs∧Yd w.heap.size w' (.slice pb S.bs.length cb) (fv.map fltK)
structure WaitOk(l:List UInt8)(tree fuel:Int)(G:WS)(ts:List Wt)(s:WS):Prop where
 dry:s.dry=false
 all:Ec l tree fuel ts s=G
 way:∀ t∈ts,t.way.length≤16
 right:∀ t∈ts,t.ft=0→Qj t.lo t.hi=true
 few:ts.length+20*(fuel.toNat-s.looked)≤20*fuel.toNat+1
theorem WaitOk.grow{l:List UInt8}{tree fuel:Int}{G:WS}{ts:List Wt}{s:WS}(h:WaitOk l tree fuel G ts s):Ci s G:=h.all▸Ry l tree fuel ts s
theorem WaitOk.nil{l:List UInt8}{tree fuel:Int}{G:WS}{s:WS}(h:WaitOk l tree fuel G [] s):G=s:=h.all.symm
theorem WaitOk.fault{l:List UInt8}{tree fuel:Int}{G:WS}{t:Wt}{ts:List Wt}{s:WS}(h:WaitOk l tree fuel G (t::ts) s)(hf:t.ft≠0):WaitOk l tree fuel G ts (Yh t.way [t.no] t.ft s) :=
 ⟨h.dry,by rw[←one_fault h.dry hf];exact h.all,fun x hx=>h.way x (List.mem_cons_of_mem _ hx),fun x hx=>h.right x (List.mem_cons_of_mem _ hx),by have q:=h.few;simp only[List.length_cons] at q;show ts.length+20*(fuel.toNat-s.looked)≤_;omega⟩
theorem WaitOk.fuel{l:List UInt8}{tree fuel:Int}{G:WS}{t:Wt}{ts:List Wt}{s:WS}(h:WaitOk l tree fuel G (t::ts) s)(hf:t.ft=0)(hs:fuel≤s.looked):G={ Yh t.way [t.no] 12 s with dry:=true }:=by
 rw[←h.all,Mr,one_fuel h.dry hf (h.way t List.mem_cons_self) hs,Og _ _ _ _ _ rfl]
theorem WaitOk.err{l:List UInt8}{tree fuel:Int}{G:WS}{t:Wt}{ts:List Wt}{s:WS}(h:WaitOk l tree fuel G (t::ts) s)(hf:t.ft=0)(hs:¬ fuel≤s.looked)(he:Zw l t.way t.no tree t.lo t.hi s.deep≠0) :
 WaitOk l tree fuel G ts (Yh t.way [t.no] (Zw l t.way t.no tree t.lo t.hi s.deep) { s with looked:=s.looked+1 }) :=
 ⟨h.dry,by rw[←one_err h.dry hf (h.way t List.mem_cons_self) hs he];exact h.all,fun x hx=>h.way x (List.mem_cons_of_mem _ hx),fun x hx=>h.right x (List.mem_cons_of_mem _ hx),by have q:=h.few;simp only[List.length_cons] at q;show ts.length+20*(fuel.toNat-(s.looked+1))≤_;omega⟩
theorem WaitOk.leaf{l:List UInt8}{tree fuel:Int}{G:WS}{t:Wt}{ts:List Wt}{s:WS}(h:WaitOk l tree fuel G (t::ts) s)(hf:t.ft=0)(hs:¬ fuel≤s.looked)(he:Zw l t.way t.no tree t.lo t.hi s.deep=0)(hl:Xk (inB l t.no)=true) :
 WaitOk l tree fuel G ts { s with looked:=s.looked+1,bs:=s.bs++[t.no],deep:=((t.way.length+1:Nat):Int),es:=s.es++Ki (Xu l t.no) (Qw l t.no) t.no (Zn (inB l t.no)) } :=
 ⟨h.dry,by rw[←one_leaf h.dry hf hs he hl];exact h.all,fun x hx=>h.way x (List.mem_cons_of_mem _ hx),fun x hx=>h.right x (List.mem_cons_of_mem _ hx),by have q:=h.few;simp only[List.length_cons] at q;show ts.length+20*(fuel.toNat-(s.looked+1))≤_;omega⟩
theorem Zhg{l:List UInt8}{t:Wt}{p:Option Addr}{c i:Nat}(hw:t.way.length≤15)(hf:Yn t.lo t.hi (Xu l t.no)=0)(hi:i<Zn (inB l t.no)):(Vr l t p c i).way.length≤16∧((Vr l t p c i).ft=0→Qj (Vr l t p c i).lo (Vr l t p c i).hi=true):=by
 unfold Vr
 split
 ·exact⟨by simp;omega,fun _=>Zf2 hf (by simp[Xu,Yq];exact hi)⟩
 ·rename_i h
  refine⟨by show t.way.length≤16;omega,fun q=>?_⟩
  dsimp only at q
  exact absurd q h
theorem WaitOk.inner{l:List UInt8}{tree fuel:Int}{G:WS}{t:Wt}{ts:List Wt}{s:WS}(p:Option Addr)(c:Nat)(h:WaitOk l tree fuel G (t::ts) s)(hf:t.ft=0)(hs:¬ fuel≤s.looked)(he:Zw l t.way t.no tree t.lo t.hi s.deep=0)(hl:Xk (inB l t.no)=false) :
 WaitOk l tree fuel G (Yl l t p c (Zn (inB l t.no))++ts) { s with looked:=s.looked+1,bs:=s.bs++[t.no] }:=by
 have hw:=Ek he
 obtain⟨hn,hfi,hc⟩:=Hj he
 have hb:∀ x∈Yl l t p c (Zn (inB l t.no)),x.way.length≤16∧(x.ft=0→Qj x.lo x.hi=true):=by
  intro x hx
  obtain⟨i,hi,rfl⟩:=List.mem_map.1 hx
  exact Zhg (by omega) hfi (List.mem_range.1 hi)
 refine⟨h.dry,by rw[doneW_app,←one_inner p c h.dry hf hs he hl];exact h.all,fun x hx=>?_,fun x hx=>?_,?_⟩
 ·rcases List.mem_append.1 hx with hx|hx
  ·exact(hb x hx).1
  ·exact h.way x (List.mem_cons_of_mem _ hx)
 ·rcases List.mem_append.1 hx with hx|hx
  ·exact(hb x hx).2
  ·exact h.right x (List.mem_cons_of_mem _ hx)
 ·have q:=h.few
  simp only[List.length_cons] at q
  rw[List.length_append,Jb]
  show Zn (inB l t.no)+ts.length+20*(fuel.toNat-(s.looked+1))≤_
  omega
theorem wait0(l:List UInt8)(root tree fuel:Int):WaitOk l tree fuel (Zd l root tree fuel) [⟨root,0,281474976710656,[],0,none,0⟩] ws0 :=
 ⟨rfl,by rw[Mr,doneW_nil,Us (show ws0.dry=false from rfl) (show(0:Int)=0 from rfl)];unfold Zd;rw[show 17-([]:List Int).length=17 from rfl],fun t ht=>by rw[List.mem_singleton.1 ht];exact Nat.zero_le _,fun t ht _=>by rw[List.mem_singleton.1 ht];rfl,by show 1+20*(fuel.toNat-0)≤20*fuel.toNat+1;omega⟩
theorem Yd.below_visits{B:Nat}{w:World}{u:Value}{l:List UInt8}{t:Wt}{ts:List Wt}{fv:List Ft}{p:Option Addr}{c n:Nat}(h:Yd B w u ((t::ts).map Zcx++fv.map fltK))(k:Vc B w p c (t.way++[t.no]))(ha:Kd (.slice p (t.way++[t.no]).length c) u) :
 Yd B w u ((Yl l t p c n++ts).map Zcx++fv.map fltK):=by
 intro x hx
 rcases List.mem_append.1 hx with hx|hx
 ·obtain⟨y,hy,rfl⟩:=List.mem_map.1 hx
  rcases List.mem_append.1 hy with hy|hy
  ·obtain⟨i,_,rfl⟩:=List.mem_map.1 hy
   unfold Vr
   split
   ·exact⟨k,ha⟩
   ·exact h (Zcx t) (by simp)
  ·exact h (Zcx y) (List.mem_append.2 (.inl (List.mem_map.2 ⟨y,List.mem_cons_of_mem _ hy,rfl⟩)))
 ·exact h x (List.mem_append.2 (.inr hx))
theorem Yd.note{B:Nat}{w:World}{u:Value}{t:Wt}{ts:List Wt}{fv:List Ft}{f:Ft}(h:Yd B w u ((t::ts).map Zcx++fv.map fltK))(k:Vc B w f.fa f.fc f.bl)(ha:Kd (.slice f.fa f.bl.length f.fc) u) :
 Yd B w u (ts.map Zcx++(fv++[f]).map fltK):=by
 intro x hx
 rcases List.mem_append.1 hx with hx|hx
 ·exact h x (List.mem_append.2 (.inl (by rw[List.map_cons];exact List.mem_cons_of_mem _ hx)))
 ·rw[List.map_append] at hx
  rcases List.mem_append.1 hx with hx|hx
  ·exact h x (List.mem_append.2 (.inr hx))
  ·rw[List.map_cons,List.map_nil,List.mem_singleton] at hx;rw[hx];exact⟨k,ha⟩
theorem Yd.drop1{B:Nat}{w:World}{u:Value}{t:Wt}{ts:List Wt}{fv:List Ft}(h:Yd B w u ((t::ts).map Zcx++fv.map fltK)):Yd B w u (ts.map Zcx++fv.map fltK):=h.sub fun x hx=>by
 rcases List.mem_append.1 hx with hx|hx
 ·exact List.mem_append.2 (.inl (by rw[List.map_cons];exact List.mem_cons_of_mem _ hx))
 ·exact List.mem_append.2 (.inr hx)
theorem Xy{fv:List Ft}{fs:List (List Int×Int)}{f:Ft}(h:fv.map fltP=fs):(fv++[f]).map fltP=fs++[(f.bl,f.c)]:=by rw[List.map_append,h];rfl
theorem Vc.apart{B base e size n c:Nat}{w W:World}{u:Value}{xs:List Value}{a:Option Addr}{l:List Int}(q:Vc B W a c l)(k:w.ownsRow base e size u n xs)(h:w.heap.size≤B):Kd (.slice a l.length c) u:=(Kd.of_lt k q h).symm
theorem Yd.hd{B:Nat}{w:World}{u:Value}{t:Wt}{ts:List Wt}{L:List RowK}(h:Yd B w u ((t::ts).map Zcx++L)):Vc B w t.wa t.wc t.way:=(h (Zcx t) (by simp)).1
def Mt(B N:Nat)(w:World)(a:Option Addr)(c:Nat)(ts:List Wt):Prop:=∃ v0 n0 xs0,w.ownsRow B 239 5 v0 n0 xs0∧(∀ j,v0.ownBlock=some j→j<N)∧∀ W,W.ownsRow B 239 5 v0 n0 xs0→Sts wtC W (.slice a ts.length c) ts
theorem Bc.at_{B:Nat}{w:World}{a:Option Addr}{c:Nat}{ts:List Wt}(h:Bc B w a c ts):Mt B w.heap.size w a c ts:=by
 obtain⟨v0,n0,xs0,h1,h2⟩:=h
 exact⟨v0,n0,xs0,h1,fun j hj=>(h1.lt j hj).2,h2⟩
theorem Mt.un{B N:Nat}{w:World}{a:Option Addr}{c:Nat}{ts:List Wt}(h:Mt B N w a c ts):Bc B w a c ts:=by
 obtain⟨v0,n0,xs0,h1,_,h2⟩:=h
 exact⟨v0,n0,xs0,h1,h2⟩
theorem Mt.below{B N:Nat}{w W:World}{a:Option Addr}{c:Nat}{ts:List Wt}(h:Mt B N w a c ts)(hb:Below w.heap.size w W):Mt B N W a c ts:=by
 obtain⟨v0,n0,xs0,h1,h3,h2⟩:=h
 exact⟨v0,n0,xs0,Za h1 hb,h3,h2⟩
theorem Mt.only{B N:Nat}{w W:World}{a:Option Addr}{c:Nat}{ts:List Wt}{T:List TypeId}(h:Mt B N w a c ts)(hO:Ze T w W)(hT:T.contains 239=false):Mt B N W a c ts:=by
 obtain⟨v0,n0,xs0,h1,h3,h2⟩:=h
 exact⟨v0,n0,xs0,Zl h1 hO hT,h3,h2⟩
theorem Mt.updN{B N:Nat}{w w0 W W2:World}{b:Nat}{cs:List Value}{e:TypeId}{a:Option Addr}{c:Nat}{ts:List Wt}(h:Mt B N w a c ts)(u:Upd w b W)(n:New w0 b cs e W2)(hN:N=w0.heap.size):Mt B N W a c ts:=by
 obtain⟨v0,n0,xs0,h1,h3,h2⟩:=h
 exact⟨v0,n0,xs0,u.own3 h1 (fun j hj=>by have:=h3 j hj;have:=n.at_;omega),h3,h2⟩
theorem Mt.sts{B N:Nat}{w:World}{a:Option Addr}{c:Nat}{ts us:List Wt}(h:Mt B N w a c ts)(e:ts=us):Sts wtC w (.slice a us.length c) us:=sts_eq h.un.sts e
theorem Mt.tail{B N:Nat}{w:World}{a:Option Addr}{c:Nat}{ts us:List Wt}{t:Wt}(h:Mt B N w a c ts)(e:ts=t::us):Bc B w (Vd a 1 c 5) (c-1) us:=by subst e;exact h.un.tail
theorem Mt.slN{B N:Nat}{w:World}{a:Option Addr}{c:Nat}{ts us:List Wt}{t:Wt}(h:Mt B N w a c ts)(e:ts=t::us):Sl w (.slice (Vd a 1 c 5) (ts.length-1) (c-1)) (ts.length-1) (us.flatMap wtC):=by subst e;exact h.un.tail.sts
theorem Zgp(ts:List Wt):∀ u∈ts.flatMap wtC,u.oneCell'=true:=by
 intro u hu
 obtain⟨t,_,h⟩:=List.mem_flatMap.1 hu
 simp only[wtC,List.mem_cons,List.not_mem_nil,or_false] at h
 rcases h with rfl|rfl|rfl|rfl|rfl<;>rfl
end Go.Proofs.YtlmaglneeaecdaaGreatDoor
namespace Go.Proofs.YtlmaglneeaecdaaGreatDoor
set_option maxHeartbeats 8000000
set_option maxRecDepth 100000
open Go.RowKit Go.Extern.Stop Go.Stop Go.Extern
set_option linter.unusedVariables false
attribute [local irreducible] wpList wpAnyH Code.wp Oper.wp Go
theorem Zer(B bm:Nat)(p:Option Addr)(k c:Nat)(l:List UInt8)(root tree fuel:Int)(w:World)(hI:RefI B bm p k c l w)(hfu:fuel≤1000) :
 Calls Tryz.prog 75 #[.pointer (some ⟨bm,0,none⟩),.int .i64 root,.int .i64 tree,.int .i64 fuel] w (Zc2 (Zd l root tree fuel) w):=by
 refine zin 186 Tryz.func75 ?_
 refine xa 2 [.slice none 0 0,.slice none 0 0,.int .i64 0,.int .i64 0,.slice none 0 0] 106 fun b1 W1 n1=>?_
 refine xa 5 [.slice none 0 0,.slice none 0 0,.int .i64 0,.int .i64 0,.slice none 0 0] 106 fun b2 W2 n2=>?_
 have d2_b1:=n2.ne n1.blk
 refine xsv 0 n2.blk [.slice none 0 0,.slice none 0 0,.int .i64 0,.int .i64 0,.slice none 0 0] fun W3 u3 k3=>?_
 have g2:=n2.ge n1.below
 refine xbs 7 1 [.int .i64 root,.int .i64 0,.int .i64 281474976710656,.slice none 0 0,.int .i64 0] 239 fun b4 W4 n4=>?_
 have g4:=n4.ge (u3.below (bln n1.below n2.below) g2)
 have hw0:Bc w.heap.size W4 (some ⟨b4,0,none⟩) 1 [⟨root,0,281474976710656,[],0,none,0⟩]:=Bc.of (Xb (size:=5) (n:=1) n4.blk g4 rfl (by decide)) rfl
 have hI'1:=(((hI.below n1.below).below n2.below).only (Ze.of_upd (T:=[106]) u3 n2.blk (by decide)) (by decide)).below n4.below
 have hB:=bln (u3.below (bln n1.below n2.below) g2) n4.below
 have k1'1:=(u3.blk (n1.blk.below n2.below) (Ne.symm (Ne.symm d2_b1))).below n4.below
 have k3'1:=k3.below n4.below
 refine zl 5 186 (fun zm zkv V=>∃ (s:WS) (ts:List Wt) (pe pb pf:Option Addr) (ce cb cf:Nat) (fv:List Ft) (aw:Option Addr) (cw:Nat),zkv=[(0,.pointer (some ⟨bm,0,none⟩)),(2,.int .i64 tree),(3,.int .i64 fuel),(8,.pointer (some ⟨b1,0,none⟩)),(9,.pointer (some ⟨b2,0,none⟩)),(10,.slice aw ts.length cw)]∧zm=20*(fuel.toNat-s.looked)+ts.length∧Below w.heap.size w V∧Blk V b1 ([.slice none 0 0,.slice none 0 0,.int .i64 0,.int .i64 0,.slice none 0 0]) 106∧Blk V b2 ([.slice pe s.es.length ce,.slice pb s.bs.length cb,.int .i64 s.deep,.int .i64 (↑s.looked:Int),.slice pf fv.length cf]) 106∧V.ownsRow w.heap.size 74 3 (.slice pe s.es.length ce) s.es.length (s.es.flatMap Ky)∧V.ownsRow w.heap.size 3 1 (.slice pb s.bs.length cb) s.bs.length (s.bs.map (Value.int .i64))∧V.ownsRow w.heap.size 33 2 (.slice pf fv.length cf) fv.length (fv.flatMap Ar)∧Bc w.heap.size V aw cw ts∧Yd w.heap.size V (.slice pb s.bs.length cb) (ts.map Zcx++fv.map fltK)∧RefI B bm p k c l V∧WaitOk l tree fuel (Zd l root tree fuel) ts s∧fv.map fltP=s.fs) ⟨ws0,[⟨root,0,281474976710656,[],0,none,0⟩],none,none,none,0,0,0,[],(some ⟨b4,0,none⟩),1,rfl,rfl,hB,k1'1,k3'1,World.ownsRow_nil _ _ _ _,World.ownsRow_nil _ _ _ _,World.ownsRow_nil _ _ _ _,hw0,(fun x hx=>by rw[show x=Zcx ⟨root,0,281474976710656,[],0,none,0⟩ from List.mem_singleton.1 hx];exact⟨World.ownsRow_nil _ _ _ _,Kd.nil _⟩),hI'1,wait0 l root tree fuel,rfl⟩ ?_
 rintro _ _ W5 ⟨s,ts,pe,pb,pf,ce,cb,cf,fv,aw,cw,rfl,rfl,hB_5,k5_b1,k5_b2,hEn,hBl,hFl,hWt,hKi,hI,hwo,hfv⟩ J5 hJ5 r5
 have hgr:=hwo.grow
 obtain⟨hfe,hfb,hff⟩:=Ko l root tree fuel hfu
 have hfl:fv.length=s.fs.length:=by rw[←hfv];simp
 have hg1:=hgr.1
 have hg2:=hgr.2.1
 have hg3:=hgr.2.2
 have hfew:=hwo.few
 refine xid 8 ((↑ts.length:Int)>(0:Int)) (fun hc6=>?_) (fun hc6=>?_)
 ·obtain⟨t,r,htr⟩:∃ t r,ts=t::r:=by
   cases ts with
   | nil=>simp at hc6
   | cons t r=>exact⟨t,r,rfl⟩
  have hwo1:WaitOk l tree fuel (Zd l root tree fuel) (t::r) s:=htr▸hwo
  have hwl:t.way.length≤16:=hwo1.way t List.mem_cons_self
  have htl:ts.length=r.length+1:=by rw[htr];rfl
  have hWs:=Bc.at_ hWt
  have hKt:Yd w.heap.size W5 (.slice pb s.bs.length cb) ((t::r).map Zcx++fv.map fltK):=by rw[←htr];exact hKi
  refine xx 6 _ ts.length 0 5 (Sts.cell (hWs.sts htr) Li t (k:=0) (i:=0) (by simp) rfl).1 ?_
  refine xlv 0 (Sts.rp (k:=0) (hWs.sts htr) Li t (by simp) (by decide)) ?_
  refine xa 0 [.int .i64 0,.int .i64 0,.int .i64 0,.slice none 0 0,.int .i64 0] 239 fun b7 W7 n7=>?_
  have g7:=n7.ge hB_5
  refine xsv 0 n7.blk [.int .i64 t.no,.int .i64 t.lo,.int .i64 t.hi,.slice t.wa t.way.length t.wc,.int .i64 t.ft] fun W8 u8 k8=>?_
  refine xsL 5 (fun _ _ _ _ zo zx zy V=>Qs (k:=1) (b:=aw) (n:=ts.length) (c:=cw) (i:=1) (ki:=.i64) 5 zo zx zy rfl (by omega) Tryz.underlying240 (by kernel_rfl) V) ?_
  refine xb 7 4 k8 ?_
  refine xin 3 t.ft (0:Int) (fun hc9=>?_) (fun hc9=>?_)
  ·have hft:=hc9
   refine xd 1 (.t w.heap.size [33,106]) ?_
   have k8'1:=k8.below (Zb W8)
   refine xbt (.e [0,2] 3) 3 w.heap.size [33,106] k8'1 ?_
   refine xbt (.e [4] 5) 0 w.heap.size [33,106] k8'1 ?_
   refine xbt (.e [6] 7) 4 w.heap.size [33,106] k8'1 ?_
   refine xm2 0 1 8 ?_ ?_
   ·have k5_b2'1:=(u8.blkT (k5_b2.below n7.below) n7.blk (by decide)).below (Zb W8)
    refine xb 0 4 k5_b2'1 ?_
    have hBl'1:=Za (u8.own2 (Za hBl n7.below) n7.blk (by decide)) (Zb W8)
    have hB'1:=bln (u8.below (bln hB_5 n7.below) g7) (Zb W8)
    have hBlA:=hBl'1
    have hszA:=hB'1.size
    refine yc (.o [] 8) (args:=#[.int .i64 t.no,.int .i64 t.ft]) (.t w.heap.size [33,106]) (Xv t.no t.ft _ hft) ?_
    rintro _ W10 ⟨fa,fc,rfl,hb10,hNA⟩
    refine⟨(SF.of_below _ hb10),?_⟩
    have hKt'1:=(((hKt.below n7.below).only (Ze.of_upd (T:=[239]) u8 n7.blk (by decide)) (by decide)).below (Zb W8)).below hb10
    refine yc (.o [] 9) (args:=#[.slice t.wa t.way.length t.wc,.agg #[.slice fa 1 fc,.int .i64 t.ft]]) (.t w.heap.size [33,106]) (Ql t.wa t.wc t.way t.ft _ fa fc t.no _ hft (Yd.hd hKt'1).ints (by omega) hNA) ?_
    rintro _ W11 ⟨fa2,fc2,rfl,hb11,hNB⟩
    refine⟨(SF.of_below _ hb11),?_⟩
    have hNp:=hNB.apart hBlA (Nat.le_refl _)
    refine xbs (.o [] 10) 1 [.slice fa2 ((t.way++[t.no]).length) fc2,.int .i64 t.ft] 33 fun b12 W12 n12=>?_
    have hB'2:=bln (bln hB'1 hb10) hb11
    have g12:=n12.ge hB'2
    have hFl'1:=Za (Za (Za (u8.own2 (Za hFl n7.below) n7.blk (by decide)) (Zb W8)) hb10) hb11
    have r12_hFl:=Zp hFl'1 n12
    have hFl'2:=Za hFl'1 n12.below
    have hB'3:=bln hB'2 n12.below
    refine ybi (.o [] 11) (.t w.heap.size [33,106]) fun _ _ _ _ zJ zQ zo zx zy zK=>Zt (m:=1) (news:=[.slice fa2 ((t.way++[t.no]).length) fc2,.int .i64 t.ft]) (.agg #[.slice none 0 0,.int .i64 0]) 2 32 ((fv++[(Ft.mk (t.way++[t.no]) t.ft fa2 fc2)]).length) (((fv++[(Ft.mk (t.way++[t.no]) t.ft fa2 fc2)]).flatMap Ar)) zo Tryz.underlying104 (by kernel_rfl) rfl (by decide) zx hFl'2 zy (n12.blk.sl 1 1 (by decide) (by decide)) rfl (by simp[Value.oneCell']) (by unfold maxLen;omega) (by omega) hB'3.size (by simp) (by rw[List.flatMap_append];rfl) fun px13 cx13 W13 o13 hg13 hb13=>?_
    refine zK _ _ (Zr hb13 hg13 hFl'2 (by decide)) ?_
    have k5_b2'2:=(((k5_b2'1.below hb10).below hb11).below n12.below).grown hg13 hFl'2 (by decide)
    refine ys (.o [12] 13) k5_b2'2 [.slice pe s.es.length ce,.slice pb s.bs.length cb,.int .i64 s.deep,.int .i64 (↑s.looked:Int),.slice px13 ((fv++[(Ft.mk (t.way++[t.no]) t.ft fa2 fc2)]).length) cx13] (.t w.heap.size [33,106]) fun W14 u14 k14=>⟨(Zm u14 k5_b2'2 g2 (by decide)),?_⟩
    refine xv1 5 10 (show(.slice (Vd aw 1 cw 5) (ts.length-1) (cw-1):Value)=.slice (Vd aw 1 cw 5) r.length (cw-1) from by rw[htr];rfl) ?_
    have hWs'1:=(((((((hWs.below n7.below).updN u8 n7 rfl).below (Zb W8)).below hb10).below hb11).below n12.below).only (Ze.of_grown (T:=[33]) hg13 hFl'2 (by decide)) (by decide)).only (Ze.of_upd (T:=[106]) u14 k5_b2'2 (by decide)) (by decide)
    have hKt'2:=(((hKt'1.below hb11).below n12.below).only (Ze.of_grown (T:=[33]) hg13 hFl'2 (by decide)) (by decide)).only (Ze.of_upd (T:=[106]) u14 k5_b2'2 (by decide)) (by decide)
    have hNB'1:=((hNB.below n12.below).only (Ze.of_grown (T:=[33]) hg13 hFl'2 (by decide)) (by decide)).only (Ze.of_upd (T:=[106]) u14 k5_b2'2 (by decide)) (by decide)
    have hB'4:=u14.below (hB'3.trans hb13) g2
    have k5_b1'1:=u14.blk ((((((u8.blkT (k5_b1.below n7.below) n7.blk (by decide)).below (Zb W8)).below hb10).below hb11).below n12.below).grown hg13 hFl'2 (by decide)) (Ne.symm (Ne.symm d2_b1))
    have hEn'1:=u14.own2 (Zh (Za (Za (Za (Za (u8.own2 (Za hEn n7.below) n7.blk (by decide)) (Zb W8)) hb10) hb11) n12.below) hg13 hFl'2 (by decide)) k5_b2'2 (by decide)
    have hBl'2:=u14.own2 (Zh (Za (Za (Za hBl'1 hb10) hb11) n12.below) hg13 hFl'2 (by decide)) k5_b2'2 (by decide)
    have o13'1:=u14.own2 o13 k5_b2'2 (by decide)
    have hI'2:=(((((((hI.below n7.below).only (Ze.of_upd (T:=[239]) u8 n7.blk (by decide)) (by decide)).below (Zb W8)).below hb10).below hb11).below n12.below).only (Ze.of_grown (T:=[33]) hg13 hFl'2 (by decide)) (by decide)).only (Ze.of_upd (T:=[106]) u14 k5_b2'2 (by decide)) (by decide)
    refine ze 0 (hJ5 _ _ _ ⟨(Yh t.way [t.no] t.ft s),r,pe,pb,px13,ce,cb,cx13,(fv++[(Ft.mk (t.way++[t.no]) t.ft fa2 fc2)]),(Vd aw 1 cw 5),(cw-1),rfl,rfl,hB'4,k5_b1'1,k14,hEn'1,hBl'2,o13'1,(Mt.tail hWs'1 htr),(Yd.note (f:=(Ft.mk (t.way++[t.no]) t.ft fa2 fc2)) hKt'2 (hNB'1.mono hszA) hNp),hI'2,hwo1.fault hft,Xy hfv⟩ ?_)
    show 20*(fuel.toNat-s.looked)+r.length<20*(fuel.toNat-s.looked)+ts.length
    omega
   have hBl'3:=Za (u8.own2 (Za hBl n7.below) n7.blk (by decide)) (Zb W8)
   have hB'5:=bln (u8.below (bln hB_5 n7.below) g7) (Zb W8)
   have hBlA:=hBl'3
   have hszA:=hB'5.size
   refine yc 0 (args:=#[.int .i64 t.no,.int .i64 t.ft]) (.t w.heap.size [33,106]) (Xv t.no t.ft _ hft) ?_
   rintro _ W15 ⟨fa,fc,rfl,hb15,hNA⟩
   refine⟨(SF.of_below _ hb15),?_⟩
   refine xm2 0 1 9 ?_ ?_
   ·have k5_b2'3:=((u8.blkT (k5_b2.below n7.below) n7.blk (by decide)).below (Zb W8)).below hb15
    refine xb 0 4 k5_b2'3 ?_
    have hKt'3:=(((hKt.below n7.below).only (Ze.of_upd (T:=[239]) u8 n7.blk (by decide)) (by decide)).below (Zb W8)).below hb15
    refine yc (.o [] 9) (args:=#[.slice t.wa t.way.length t.wc,.agg #[.slice fa 1 fc,.int .i64 t.ft]]) (.t w.heap.size [33,106]) (Ql t.wa t.wc t.way t.ft _ fa fc t.no _ hft (Yd.hd hKt'3).ints (by omega) hNA) ?_
    rintro _ W16 ⟨fa2,fc2,rfl,hb16,hNB⟩
    refine⟨(SF.of_below _ hb16),?_⟩
    have hNp:=hNB.apart hBlA (Nat.le_refl _)
    refine xbs (.o [] 10) 1 [.slice fa2 ((t.way++[t.no]).length) fc2,.int .i64 t.ft] 33 fun b17 W17 n17=>?_
    have hB'6:=bln (bln hB'5 hb15) hb16
    have g17:=n17.ge hB'6
    have hFl'3:=Za (Za (Za (u8.own2 (Za hFl n7.below) n7.blk (by decide)) (Zb W8)) hb15) hb16
    have r17_hFl:=Zp hFl'3 n17
    have hFl'4:=Za hFl'3 n17.below
    have hB'7:=bln hB'6 n17.below
    refine ybi (.o [] 11) (.t w.heap.size [33,106]) fun _ _ _ _ zJ zQ zo zx zy zK=>Zt (m:=1) (news:=[.slice fa2 ((t.way++[t.no]).length) fc2,.int .i64 t.ft]) (.agg #[.slice none 0 0,.int .i64 0]) 2 32 ((fv++[(Ft.mk (t.way++[t.no]) t.ft fa2 fc2)]).length) (((fv++[(Ft.mk (t.way++[t.no]) t.ft fa2 fc2)]).flatMap Ar)) zo Tryz.underlying104 (by kernel_rfl) rfl (by decide) zx hFl'4 zy (n17.blk.sl 1 1 (by decide) (by decide)) rfl (by simp[Value.oneCell']) (by unfold maxLen;omega) (by omega) hB'7.size (by simp) (by rw[List.flatMap_append];rfl) fun px18 cx18 W18 o18 hg18 hb18=>?_
    refine zK _ _ (Zr hb18 hg18 hFl'4 (by decide)) ?_
    have k5_b2'4:=((k5_b2'3.below hb16).below n17.below).grown hg18 hFl'4 (by decide)
    refine ys (.o [12] 13) k5_b2'4 [.slice pe s.es.length ce,.slice pb s.bs.length cb,.int .i64 s.deep,.int .i64 (↑s.looked:Int),.slice px18 ((fv++[(Ft.mk (t.way++[t.no]) t.ft fa2 fc2)]).length) cx18] (.t w.heap.size [33,106]) fun W19 u19 k19=>⟨(Zm u19 k5_b2'4 g2 (by decide)),?_⟩
    refine xv1 5 10 (show(.slice (Vd aw 1 cw 5) (ts.length-1) (cw-1):Value)=.slice (Vd aw 1 cw 5) r.length (cw-1) from by rw[htr];rfl) ?_
    have hWs'2:=(((((((hWs.below n7.below).updN u8 n7 rfl).below (Zb W8)).below hb15).below hb16).below n17.below).only (Ze.of_grown (T:=[33]) hg18 hFl'4 (by decide)) (by decide)).only (Ze.of_upd (T:=[106]) u19 k5_b2'4 (by decide)) (by decide)
    have hKt'4:=(((hKt'3.below hb16).below n17.below).only (Ze.of_grown (T:=[33]) hg18 hFl'4 (by decide)) (by decide)).only (Ze.of_upd (T:=[106]) u19 k5_b2'4 (by decide)) (by decide)
    have hNB'2:=((hNB.below n17.below).only (Ze.of_grown (T:=[33]) hg18 hFl'4 (by decide)) (by decide)).only (Ze.of_upd (T:=[106]) u19 k5_b2'4 (by decide)) (by decide)
    have hB'8:=u19.below (hB'7.trans hb18) g2
    have k5_b1'2:=u19.blk ((((((u8.blkT (k5_b1.below n7.below) n7.blk (by decide)).below (Zb W8)).below hb15).below hb16).below n17.below).grown hg18 hFl'4 (by decide)) (Ne.symm (Ne.symm d2_b1))
    have hEn'2:=u19.own2 (Zh (Za (Za (Za (Za (u8.own2 (Za hEn n7.below) n7.blk (by decide)) (Zb W8)) hb15) hb16) n17.below) hg18 hFl'4 (by decide)) k5_b2'4 (by decide)
    have hBl'4:=u19.own2 (Zh (Za (Za (Za hBl'3 hb15) hb16) n17.below) hg18 hFl'4 (by decide)) k5_b2'4 (by decide)
    have o18'1:=u19.own2 o18 k5_b2'4 (by decide)
    have hI'3:=(((((((hI.below n7.below).only (Ze.of_upd (T:=[239]) u8 n7.blk (by decide)) (by decide)).below (Zb W8)).below hb15).below hb16).below n17.below).only (Ze.of_grown (T:=[33]) hg18 hFl'4 (by decide)) (by decide)).only (Ze.of_upd (T:=[106]) u19 k5_b2'4 (by decide)) (by decide)
    refine ze 0 (hJ5 _ _ _ ⟨(Yh t.way [t.no] t.ft s),r,pe,pb,px18,ce,cb,cx18,(fv++[(Ft.mk (t.way++[t.no]) t.ft fa2 fc2)]),(Vd aw 1 cw 5),(cw-1),rfl,rfl,hB'8,k5_b1'2,k19,hEn'2,hBl'4,o18'1,(Mt.tail hWs'2 htr),(Yd.note (f:=(Ft.mk (t.way++[t.no]) t.ft fa2 fc2)) hKt'4 (hNB'2.mono hszA) hNp),hI'3,hwo1.fault hft,Xy hfv⟩ ?_)
    show 20*(fuel.toNat-s.looked)+r.length<20*(fuel.toNat-s.looked)+ts.length
    omega
   have hKt'5:=(((hKt.below n7.below).only (Ze.of_upd (T:=[239]) u8 n7.blk (by decide)) (by decide)).below (Zb W8)).below hb15
   refine yc 0 (args:=#[.slice t.wa t.way.length t.wc,.agg #[.slice fa 1 fc,.int .i64 t.ft]]) (.t w.heap.size [33,106]) (Ql t.wa t.wc t.way t.ft _ fa fc t.no _ hft (Yd.hd hKt'5).ints (by omega) hNA) ?_
   rintro _ W20 ⟨fa2,fc2,rfl,hb20,hNB⟩
   refine⟨(SF.of_below _ hb20),?_⟩
   have hNp:=hNB.apart hBlA (Nat.le_refl _)
   refine xm2 0 1 10 ?_ ?_
   ·have k5_b2'5:=(((u8.blkT (k5_b2.below n7.below) n7.blk (by decide)).below (Zb W8)).below hb15).below hb20
    refine xb 0 4 k5_b2'5 ?_
    refine xbs (.o [] 10) 1 [.slice fa2 ((t.way++[t.no]).length) fc2,.int .i64 t.ft] 33 fun b21 W21 n21=>?_
    have hB'9:=bln (bln hB'5 hb15) hb20
    have g21:=n21.ge hB'9
    have hFl'5:=Za (Za (Za (u8.own2 (Za hFl n7.below) n7.blk (by decide)) (Zb W8)) hb15) hb20
    have r21_hFl:=Zp hFl'5 n21
    have hFl'6:=Za hFl'5 n21.below
    have hB'10:=bln hB'9 n21.below
    refine ybi (.o [] 11) (.t w.heap.size [33,106]) fun _ _ _ _ zJ zQ zo zx zy zK=>Zt (m:=1) (news:=[.slice fa2 ((t.way++[t.no]).length) fc2,.int .i64 t.ft]) (.agg #[.slice none 0 0,.int .i64 0]) 2 32 ((fv++[(Ft.mk (t.way++[t.no]) t.ft fa2 fc2)]).length) (((fv++[(Ft.mk (t.way++[t.no]) t.ft fa2 fc2)]).flatMap Ar)) zo Tryz.underlying104 (by kernel_rfl) rfl (by decide) zx hFl'6 zy (n21.blk.sl 1 1 (by decide) (by decide)) rfl (by simp[Value.oneCell']) (by unfold maxLen;omega) (by omega) hB'10.size (by simp) (by rw[List.flatMap_append];rfl) fun px22 cx22 W22 o22 hg22 hb22=>?_
    refine zK _ _ (Zr hb22 hg22 hFl'6 (by decide)) ?_
    have k5_b2'6:=(k5_b2'5.below n21.below).grown hg22 hFl'6 (by decide)
    refine ys (.o [12] 13) k5_b2'6 [.slice pe s.es.length ce,.slice pb s.bs.length cb,.int .i64 s.deep,.int .i64 (↑s.looked:Int),.slice px22 ((fv++[(Ft.mk (t.way++[t.no]) t.ft fa2 fc2)]).length) cx22] (.t w.heap.size [33,106]) fun W23 u23 k23=>⟨(Zm u23 k5_b2'6 g2 (by decide)),?_⟩
    refine xv1 5 10 (show(.slice (Vd aw 1 cw 5) (ts.length-1) (cw-1):Value)=.slice (Vd aw 1 cw 5) r.length (cw-1) from by rw[htr];rfl) ?_
    have hWs'3:=(((((((hWs.below n7.below).updN u8 n7 rfl).below (Zb W8)).below hb15).below hb20).below n21.below).only (Ze.of_grown (T:=[33]) hg22 hFl'6 (by decide)) (by decide)).only (Ze.of_upd (T:=[106]) u23 k5_b2'6 (by decide)) (by decide)
    have hKt'6:=(((hKt'5.below hb20).below n21.below).only (Ze.of_grown (T:=[33]) hg22 hFl'6 (by decide)) (by decide)).only (Ze.of_upd (T:=[106]) u23 k5_b2'6 (by decide)) (by decide)
    have hNB'3:=((hNB.below n21.below).only (Ze.of_grown (T:=[33]) hg22 hFl'6 (by decide)) (by decide)).only (Ze.of_upd (T:=[106]) u23 k5_b2'6 (by decide)) (by decide)
    have hB'11:=u23.below (hB'10.trans hb22) g2
    have k5_b1'3:=u23.blk ((((((u8.blkT (k5_b1.below n7.below) n7.blk (by decide)).below (Zb W8)).below hb15).below hb20).below n21.below).grown hg22 hFl'6 (by decide)) (Ne.symm (Ne.symm d2_b1))
    have hEn'3:=u23.own2 (Zh (Za (Za (Za (Za (u8.own2 (Za hEn n7.below) n7.blk (by decide)) (Zb W8)) hb15) hb20) n21.below) hg22 hFl'6 (by decide)) k5_b2'6 (by decide)
    have hBl'5:=u23.own2 (Zh (Za (Za (Za hBl'3 hb15) hb20) n21.below) hg22 hFl'6 (by decide)) k5_b2'6 (by decide)
    have o22'1:=u23.own2 o22 k5_b2'6 (by decide)
    have hI'4:=(((((((hI.below n7.below).only (Ze.of_upd (T:=[239]) u8 n7.blk (by decide)) (by decide)).below (Zb W8)).below hb15).below hb20).below n21.below).only (Ze.of_grown (T:=[33]) hg22 hFl'6 (by decide)) (by decide)).only (Ze.of_upd (T:=[106]) u23 k5_b2'6 (by decide)) (by decide)
    refine ze 0 (hJ5 _ _ _ ⟨(Yh t.way [t.no] t.ft s),r,pe,pb,px22,ce,cb,cx22,(fv++[(Ft.mk (t.way++[t.no]) t.ft fa2 fc2)]),(Vd aw 1 cw 5),(cw-1),rfl,rfl,hB'11,k5_b1'3,k23,hEn'3,hBl'5,o22'1,(Mt.tail hWs'3 htr),(Yd.note (f:=(Ft.mk (t.way++[t.no]) t.ft fa2 fc2)) hKt'6 (hNB'3.mono hszA) hNp),hI'4,hwo1.fault hft,Xy hfv⟩ ?_)
    show 20*(fuel.toNat-s.looked)+r.length<20*(fuel.toNat-s.looked)+ts.length
    omega
   refine xbs 0 1 [.slice fa2 ((t.way++[t.no]).length) fc2,.int .i64 t.ft] 33 fun b24 W24 n24=>?_
   have hB'12:=bln (bln hB'5 hb15) hb20
   have g24:=n24.ge hB'12
   have hFl'7:=Za (Za (Za (u8.own2 (Za hFl n7.below) n7.blk (by decide)) (Zb W8)) hb15) hb20
   have r24_hFl:=Zp hFl'7 n24
   have k5_b2'7:=((((u8.blkT (k5_b2.below n7.below) n7.blk (by decide)).below (Zb W8)).below hb15).below hb20).below n24.below
   refine xb (.o [] 1) 4 k5_b2'7 ?_
   have hFl'8:=Za hFl'7 n24.below
   have hB'13:=bln hB'12 n24.below
   refine ybi (.o [] 11) (.t w.heap.size [33,106]) fun _ _ _ _ zJ zQ zo zx zy zK=>Zt (m:=1) (news:=[.slice fa2 ((t.way++[t.no]).length) fc2,.int .i64 t.ft]) (.agg #[.slice none 0 0,.int .i64 0]) 2 32 ((fv++[(Ft.mk (t.way++[t.no]) t.ft fa2 fc2)]).length) (((fv++[(Ft.mk (t.way++[t.no]) t.ft fa2 fc2)]).flatMap Ar)) zo Tryz.underlying104 (by kernel_rfl) rfl (by decide) zx hFl'8 zy (n24.blk.sl 1 1 (by decide) (by decide)) rfl (by simp[Value.oneCell']) (by unfold maxLen;omega) (by omega) hB'13.size (by simp) (by rw[List.flatMap_append];rfl) fun px25 cx25 W25 o25 hg25 hb25=>?_
   refine zK _ _ (Zr hb25 hg25 hFl'8 (by decide)) ?_
   have k5_b2'8:=k5_b2'7.grown hg25 hFl'8 (by decide)
   refine ys (.o [12] 13) k5_b2'8 [.slice pe s.es.length ce,.slice pb s.bs.length cb,.int .i64 s.deep,.int .i64 (↑s.looked:Int),.slice px25 ((fv++[(Ft.mk (t.way++[t.no]) t.ft fa2 fc2)]).length) cx25] (.t w.heap.size [33,106]) fun W26 u26 k26=>⟨(Zm u26 k5_b2'8 g2 (by decide)),?_⟩
   refine xv1 5 10 (show(.slice (Vd aw 1 cw 5) (ts.length-1) (cw-1):Value)=.slice (Vd aw 1 cw 5) r.length (cw-1) from by rw[htr];rfl) ?_
   have hWs'4:=(((((((hWs.below n7.below).updN u8 n7 rfl).below (Zb W8)).below hb15).below hb20).below n24.below).only (Ze.of_grown (T:=[33]) hg25 hFl'8 (by decide)) (by decide)).only (Ze.of_upd (T:=[106]) u26 k5_b2'8 (by decide)) (by decide)
   have hKt'7:=(((hKt'5.below hb20).below n24.below).only (Ze.of_grown (T:=[33]) hg25 hFl'8 (by decide)) (by decide)).only (Ze.of_upd (T:=[106]) u26 k5_b2'8 (by decide)) (by decide)
   have hNB'4:=((hNB.below n24.below).only (Ze.of_grown (T:=[33]) hg25 hFl'8 (by decide)) (by decide)).only (Ze.of_upd (T:=[106]) u26 k5_b2'8 (by decide)) (by decide)
   have hB'14:=u26.below (hB'13.trans hb25) g2
   have k5_b1'4:=u26.blk ((((((u8.blkT (k5_b1.below n7.below) n7.blk (by decide)).below (Zb W8)).below hb15).below hb20).below n24.below).grown hg25 hFl'8 (by decide)) (Ne.symm (Ne.symm d2_b1))
   have hEn'4:=u26.own2 (Zh (Za (Za (Za (Za (u8.own2 (Za hEn n7.below) n7.blk (by decide)) (Zb W8)) hb15) hb20) n24.below) hg25 hFl'8 (by decide)) k5_b2'8 (by decide)
   have hBl'6:=u26.own2 (Zh (Za (Za (Za hBl'3 hb15) hb20) n24.below) hg25 hFl'8 (by decide)) k5_b2'8 (by decide)
   have o25'1:=u26.own2 o25 k5_b2'8 (by decide)
   have hI'5:=(((((((hI.below n7.below).only (Ze.of_upd (T:=[239]) u8 n7.blk (by decide)) (by decide)).below (Zb W8)).below hb15).below hb20).below n24.below).only (Ze.of_grown (T:=[33]) hg25 hFl'8 (by decide)) (by decide)).only (Ze.of_upd (T:=[106]) u26 k5_b2'8 (by decide)) (by decide)
   refine ze 0 (hJ5 _ _ _ ⟨(Yh t.way [t.no] t.ft s),r,pe,pb,px25,ce,cb,cx25,(fv++[(Ft.mk (t.way++[t.no]) t.ft fa2 fc2)]),(Vd aw 1 cw 5),(cw-1),rfl,rfl,hB'14,k5_b1'4,k26,hEn'4,hBl'6,o25'1,(Mt.tail hWs'4 htr),(Yd.note (f:=(Ft.mk (t.way++[t.no]) t.ft fa2 fc2)) hKt'7 (hNB'4.mono hszA) hNp),hI'5,hwo1.fault hft,Xy hfv⟩ ?_)
   show 20*(fuel.toNat-s.looked)+r.length<20*(fuel.toNat-s.looked)+ts.length
   omega
  have hft:=hc9
  have k5_b2'9:=u8.blkT (k5_b2.below n7.below) n7.blk (by decide)
  refine xb 6 3 k5_b2'9 ?_
  refine xid 4 ((↑s.looked:Int)≥fuel) (fun hc27=>?_) (fun hc27=>?_)
  ·have hfs:fuel≤s.looked:=by omega
   refine xd 1 (.t w.heap.size [33,106]) ?_
   have k8'2:=k8.below (Zb W8)
   refine xbt (.e [0,2] 3) 3 w.heap.size [33,106] k8'2 ?_
   refine xbt (.e [4] 5) 0 w.heap.size [33,106] k8'2 ?_
   refine xm2 0 1 6 ?_ ?_
   ·have k5_b2'10:=k5_b2'9.below (Zb W8)
    refine xb 0 4 k5_b2'10 ?_
    have hBl'7:=Za (u8.own2 (Za hBl n7.below) n7.blk (by decide)) (Zb W8)
    have hB'15:=bln (u8.below (bln hB_5 n7.below) g7) (Zb W8)
    have hBlA:=hBl'7
    have hszA:=hB'15.size
    refine yc (.o [] 6) (args:=#[.int .i64 t.no,.int .i64 12]) (.t w.heap.size [33,106]) (Xv t.no 12 _ (by decide)) ?_
    rintro _ W28 ⟨fa,fc,rfl,hb28,hNA⟩
    refine⟨(SF.of_below _ hb28),?_⟩
    have hKt'8:=(((hKt.below n7.below).only (Ze.of_upd (T:=[239]) u8 n7.blk (by decide)) (by decide)).below (Zb W8)).below hb28
    refine yc (.o [] 7) (args:=#[.slice t.wa t.way.length t.wc,.agg #[.slice fa 1 fc,.int .i64 12]]) (.t w.heap.size [33,106]) (Ql t.wa t.wc t.way 12 _ fa fc t.no _ (by decide) (Yd.hd hKt'8).ints (by omega) hNA) ?_
    rintro _ W29 ⟨fa2,fc2,rfl,hb29,hNB⟩
    refine⟨(SF.of_below _ hb29),?_⟩
    have hNp:=hNB.apart hBlA (Nat.le_refl _)
    refine xbs (.o [] 8) 1 [.slice fa2 ((t.way++[t.no]).length) fc2,.int .i64 12] 33 fun b30 W30 n30=>?_
    have hB'16:=bln (bln hB'15 hb28) hb29
    have g30:=n30.ge hB'16
    have hFl'9:=Za (Za (Za (u8.own2 (Za hFl n7.below) n7.blk (by decide)) (Zb W8)) hb28) hb29
    have r30_hFl:=Zp hFl'9 n30
    have hFl'10:=Za hFl'9 n30.below
    have hB'17:=bln hB'16 n30.below
    refine ybi (.o [] 9) (.t w.heap.size [33,106]) fun _ _ _ _ zJ zQ zo zx zy zK=>Zt (m:=1) (news:=[.slice fa2 ((t.way++[t.no]).length) fc2,.int .i64 12]) (.agg #[.slice none 0 0,.int .i64 0]) 2 32 ((fv++[(Ft.mk (t.way++[t.no]) 12 fa2 fc2)]).length) (((fv++[(Ft.mk (t.way++[t.no]) 12 fa2 fc2)]).flatMap Ar)) zo Tryz.underlying104 (by kernel_rfl) rfl (by decide) zx hFl'10 zy (n30.blk.sl 1 1 (by decide) (by decide)) rfl (by simp[Value.oneCell']) (by unfold maxLen;omega) (by omega) hB'17.size (by simp) (by rw[List.flatMap_append];rfl) fun px31 cx31 W31 o31 hg31 hb31=>?_
    refine zK _ _ (Zr hb31 hg31 hFl'10 (by decide)) ?_
    have k5_b2'11:=(((k5_b2'10.below hb28).below hb29).below n30.below).grown hg31 hFl'10 (by decide)
    refine ys (.o [10] 11) k5_b2'11 [.slice pe s.es.length ce,.slice pb s.bs.length cb,.int .i64 s.deep,.int .i64 (↑s.looked:Int),.slice px31 ((fv++[(Ft.mk (t.way++[t.no]) 12 fa2 fc2)]).length) cx31] (.t w.heap.size [33,106]) fun W32 u32 k32=>⟨(Zm u32 k5_b2'11 g2 (by decide)),?_⟩
    refine xlv 4 k32.rp ?_
    have k5_b1'5:=u32.blk ((((((u8.blkT (k5_b1.below n7.below) n7.blk (by decide)).below (Zb W8)).below hb28).below hb29).below n30.below).grown hg31 hFl'10 (by decide)) (Ne.symm (Ne.symm d2_b1))
    refine xsv 0 k5_b1'5 [.slice pe s.es.length ce,.slice pb s.bs.length cb,.int .i64 s.deep,.int .i64 (↑s.looked:Int),.slice px31 ((fv++[(Ft.mk (t.way++[t.no]) 12 fa2 fc2)]).length) cx31] fun W33 u33 k33=>?_
    have g1:=n1.ge (Below.refl w.heap.size _)
    have hB'18:=u33.below (u32.below (hB'17.trans hb31) g2) g1
    have hEn'5:=u33.own2 (u32.own2 (Zh (Za (Za (Za (Za (u8.own2 (Za hEn n7.below) n7.blk (by decide)) (Zb W8)) hb28) hb29) n30.below) hg31 hFl'10 (by decide)) k5_b2'11 (by decide)) k5_b1'5 (by decide)
    have hBl'8:=u33.own2 (u32.own2 (Zh (Za (Za (Za hBl'7 hb28) hb29) n30.below) hg31 hFl'10 (by decide)) k5_b2'11 (by decide)) k5_b1'5 (by decide)
    have o31'1:=u33.own2 (u32.own2 o31 k5_b2'11 (by decide)) k5_b1'5 (by decide)
    have hKt'9:=((((hKt'8.below hb29).below n30.below).only (Ze.of_grown (T:=[33]) hg31 hFl'10 (by decide)) (by decide)).only (Ze.of_upd (T:=[106]) u32 k5_b2'11 (by decide)) (by decide)).only (Ze.of_upd (T:=[106]) u33 k5_b1'5 (by decide)) (by decide)
    have hNB'5:=(((hNB.below n30.below).only (Ze.of_grown (T:=[33]) hg31 hFl'10 (by decide)) (by decide)).only (Ze.of_upd (T:=[106]) u32 k5_b2'11 (by decide)) (by decide)).only (Ze.of_upd (T:=[106]) u33 k5_b1'5 (by decide)) (by decide)
    refine xec 8 k33 (.agg #[.slice pe s.es.length ce,.slice pb s.bs.length cb,.int .i64 s.deep,.int .i64 (↑s.looked:Int),.slice px31 ((fv++[(Ft.mk (t.way++[t.no]) 12 fa2 fc2)]).length) cx31]) ?_
    rw[hwo1.fuel hft hfs]
    exact⟨pe,pb,_,ce,cb,_,fv++[(Ft.mk (t.way++[t.no]) 12 fa2 fc2)],rfl,hB'18,hEn'5,hBl'8,o31'1,Xy hfv,(Yd.note (f:=(Ft.mk (t.way++[t.no]) 12 fa2 fc2)) hKt'9 (hNB'5.mono hszA) hNp).sub (fun x hx=>List.mem_append.2 (.inr hx))⟩
   have hBl'9:=Za (u8.own2 (Za hBl n7.below) n7.blk (by decide)) (Zb W8)
   have hB'19:=bln (u8.below (bln hB_5 n7.below) g7) (Zb W8)
   have hBlA:=hBl'9
   have hszA:=hB'19.size
   refine yc 0 (args:=#[.int .i64 t.no,.int .i64 12]) (.t w.heap.size [33,106]) (Xv t.no 12 _ (by decide)) ?_
   rintro _ W34 ⟨fa,fc,rfl,hb34,hNA⟩
   refine⟨(SF.of_below _ hb34),?_⟩
   refine xm2 0 1 7 ?_ ?_
   ·have k5_b2'12:=(k5_b2'9.below (Zb W8)).below hb34
    refine xb 0 4 k5_b2'12 ?_
    have hKt'10:=(((hKt.below n7.below).only (Ze.of_upd (T:=[239]) u8 n7.blk (by decide)) (by decide)).below (Zb W8)).below hb34
    refine yc (.o [] 7) (args:=#[.slice t.wa t.way.length t.wc,.agg #[.slice fa 1 fc,.int .i64 12]]) (.t w.heap.size [33,106]) (Ql t.wa t.wc t.way 12 _ fa fc t.no _ (by decide) (Yd.hd hKt'10).ints (by omega) hNA) ?_
    rintro _ W35 ⟨fa2,fc2,rfl,hb35,hNB⟩
    refine⟨(SF.of_below _ hb35),?_⟩
    have hNp:=hNB.apart hBlA (Nat.le_refl _)
    refine xbs (.o [] 8) 1 [.slice fa2 ((t.way++[t.no]).length) fc2,.int .i64 12] 33 fun b36 W36 n36=>?_
    have hB'20:=bln (bln hB'19 hb34) hb35
    have g36:=n36.ge hB'20
    have hFl'11:=Za (Za (Za (u8.own2 (Za hFl n7.below) n7.blk (by decide)) (Zb W8)) hb34) hb35
    have r36_hFl:=Zp hFl'11 n36
    have hFl'12:=Za hFl'11 n36.below
    have hB'21:=bln hB'20 n36.below
    refine ybi (.o [] 9) (.t w.heap.size [33,106]) fun _ _ _ _ zJ zQ zo zx zy zK=>Zt (m:=1) (news:=[.slice fa2 ((t.way++[t.no]).length) fc2,.int .i64 12]) (.agg #[.slice none 0 0,.int .i64 0]) 2 32 ((fv++[(Ft.mk (t.way++[t.no]) 12 fa2 fc2)]).length) (((fv++[(Ft.mk (t.way++[t.no]) 12 fa2 fc2)]).flatMap Ar)) zo Tryz.underlying104 (by kernel_rfl) rfl (by decide) zx hFl'12 zy (n36.blk.sl 1 1 (by decide) (by decide)) rfl (by simp[Value.oneCell']) (by unfold maxLen;omega) (by omega) hB'21.size (by simp) (by rw[List.flatMap_append];rfl) fun px37 cx37 W37 o37 hg37 hb37=>?_
    refine zK _ _ (Zr hb37 hg37 hFl'12 (by decide)) ?_
    have k5_b2'13:=((k5_b2'12.below hb35).below n36.below).grown hg37 hFl'12 (by decide)
    refine ys (.o [10] 11) k5_b2'13 [.slice pe s.es.length ce,.slice pb s.bs.length cb,.int .i64 s.deep,.int .i64 (↑s.looked:Int),.slice px37 ((fv++[(Ft.mk (t.way++[t.no]) 12 fa2 fc2)]).length) cx37] (.t w.heap.size [33,106]) fun W38 u38 k38=>⟨(Zm u38 k5_b2'13 g2 (by decide)),?_⟩
    refine xlv 4 k38.rp ?_
    have k5_b1'6:=u38.blk ((((((u8.blkT (k5_b1.below n7.below) n7.blk (by decide)).below (Zb W8)).below hb34).below hb35).below n36.below).grown hg37 hFl'12 (by decide)) (Ne.symm (Ne.symm d2_b1))
    refine xsv 0 k5_b1'6 [.slice pe s.es.length ce,.slice pb s.bs.length cb,.int .i64 s.deep,.int .i64 (↑s.looked:Int),.slice px37 ((fv++[(Ft.mk (t.way++[t.no]) 12 fa2 fc2)]).length) cx37] fun W39 u39 k39=>?_
    have g1:=n1.ge (Below.refl w.heap.size _)
    have hB'22:=u39.below (u38.below (hB'21.trans hb37) g2) g1
    have hEn'6:=u39.own2 (u38.own2 (Zh (Za (Za (Za (Za (u8.own2 (Za hEn n7.below) n7.blk (by decide)) (Zb W8)) hb34) hb35) n36.below) hg37 hFl'12 (by decide)) k5_b2'13 (by decide)) k5_b1'6 (by decide)
    have hBl'10:=u39.own2 (u38.own2 (Zh (Za (Za (Za hBl'9 hb34) hb35) n36.below) hg37 hFl'12 (by decide)) k5_b2'13 (by decide)) k5_b1'6 (by decide)
    have o37'1:=u39.own2 (u38.own2 o37 k5_b2'13 (by decide)) k5_b1'6 (by decide)
    have hKt'11:=((((hKt'10.below hb35).below n36.below).only (Ze.of_grown (T:=[33]) hg37 hFl'12 (by decide)) (by decide)).only (Ze.of_upd (T:=[106]) u38 k5_b2'13 (by decide)) (by decide)).only (Ze.of_upd (T:=[106]) u39 k5_b1'6 (by decide)) (by decide)
    have hNB'6:=(((hNB.below n36.below).only (Ze.of_grown (T:=[33]) hg37 hFl'12 (by decide)) (by decide)).only (Ze.of_upd (T:=[106]) u38 k5_b2'13 (by decide)) (by decide)).only (Ze.of_upd (T:=[106]) u39 k5_b1'6 (by decide)) (by decide)
    refine xec 8 k39 (.agg #[.slice pe s.es.length ce,.slice pb s.bs.length cb,.int .i64 s.deep,.int .i64 (↑s.looked:Int),.slice px37 ((fv++[(Ft.mk (t.way++[t.no]) 12 fa2 fc2)]).length) cx37]) ?_
    rw[hwo1.fuel hft hfs]
    exact⟨pe,pb,_,ce,cb,_,fv++[(Ft.mk (t.way++[t.no]) 12 fa2 fc2)],rfl,hB'22,hEn'6,hBl'10,o37'1,Xy hfv,(Yd.note (f:=(Ft.mk (t.way++[t.no]) 12 fa2 fc2)) hKt'11 (hNB'6.mono hszA) hNp).sub (fun x hx=>List.mem_append.2 (.inr hx))⟩
   have hKt'12:=(((hKt.below n7.below).only (Ze.of_upd (T:=[239]) u8 n7.blk (by decide)) (by decide)).below (Zb W8)).below hb34
   refine yc 0 (args:=#[.slice t.wa t.way.length t.wc,.agg #[.slice fa 1 fc,.int .i64 12]]) (.t w.heap.size [33,106]) (Ql t.wa t.wc t.way 12 _ fa fc t.no _ (by decide) (Yd.hd hKt'12).ints (by omega) hNA) ?_
   rintro _ W40 ⟨fa2,fc2,rfl,hb40,hNB⟩
   refine⟨(SF.of_below _ hb40),?_⟩
   have hNp:=hNB.apart hBlA (Nat.le_refl _)
   refine xm2 0 1 8 ?_ ?_
   ·have k5_b2'14:=((k5_b2'9.below (Zb W8)).below hb34).below hb40
    refine xb 0 4 k5_b2'14 ?_
    refine xbs (.o [] 8) 1 [.slice fa2 ((t.way++[t.no]).length) fc2,.int .i64 12] 33 fun b41 W41 n41=>?_
    have hB'23:=bln (bln hB'19 hb34) hb40
    have g41:=n41.ge hB'23
    have hFl'13:=Za (Za (Za (u8.own2 (Za hFl n7.below) n7.blk (by decide)) (Zb W8)) hb34) hb40
    have r41_hFl:=Zp hFl'13 n41
    have hFl'14:=Za hFl'13 n41.below
    have hB'24:=bln hB'23 n41.below
    refine ybi (.o [] 9) (.t w.heap.size [33,106]) fun _ _ _ _ zJ zQ zo zx zy zK=>Zt (m:=1) (news:=[.slice fa2 ((t.way++[t.no]).length) fc2,.int .i64 12]) (.agg #[.slice none 0 0,.int .i64 0]) 2 32 ((fv++[(Ft.mk (t.way++[t.no]) 12 fa2 fc2)]).length) (((fv++[(Ft.mk (t.way++[t.no]) 12 fa2 fc2)]).flatMap Ar)) zo Tryz.underlying104 (by kernel_rfl) rfl (by decide) zx hFl'14 zy (n41.blk.sl 1 1 (by decide) (by decide)) rfl (by simp[Value.oneCell']) (by unfold maxLen;omega) (by omega) hB'24.size (by simp) (by rw[List.flatMap_append];rfl) fun px42 cx42 W42 o42 hg42 hb42=>?_
    refine zK _ _ (Zr hb42 hg42 hFl'14 (by decide)) ?_
    have k5_b2'15:=(k5_b2'14.below n41.below).grown hg42 hFl'14 (by decide)
    refine ys (.o [10] 11) k5_b2'15 [.slice pe s.es.length ce,.slice pb s.bs.length cb,.int .i64 s.deep,.int .i64 (↑s.looked:Int),.slice px42 ((fv++[(Ft.mk (t.way++[t.no]) 12 fa2 fc2)]).length) cx42] (.t w.heap.size [33,106]) fun W43 u43 k43=>⟨(Zm u43 k5_b2'15 g2 (by decide)),?_⟩
    refine xlv 4 k43.rp ?_
    have k5_b1'7:=u43.blk ((((((u8.blkT (k5_b1.below n7.below) n7.blk (by decide)).below (Zb W8)).below hb34).below hb40).below n41.below).grown hg42 hFl'14 (by decide)) (Ne.symm (Ne.symm d2_b1))
    refine xsv 0 k5_b1'7 [.slice pe s.es.length ce,.slice pb s.bs.length cb,.int .i64 s.deep,.int .i64 (↑s.looked:Int),.slice px42 ((fv++[(Ft.mk (t.way++[t.no]) 12 fa2 fc2)]).length) cx42] fun W44 u44 k44=>?_
    have g1:=n1.ge (Below.refl w.heap.size _)
    have hB'25:=u44.below (u43.below (hB'24.trans hb42) g2) g1
    have hEn'7:=u44.own2 (u43.own2 (Zh (Za (Za (Za (Za (u8.own2 (Za hEn n7.below) n7.blk (by decide)) (Zb W8)) hb34) hb40) n41.below) hg42 hFl'14 (by decide)) k5_b2'15 (by decide)) k5_b1'7 (by decide)
    have hBl'11:=u44.own2 (u43.own2 (Zh (Za (Za (Za hBl'9 hb34) hb40) n41.below) hg42 hFl'14 (by decide)) k5_b2'15 (by decide)) k5_b1'7 (by decide)
    have o42'1:=u44.own2 (u43.own2 o42 k5_b2'15 (by decide)) k5_b1'7 (by decide)
    have hKt'13:=((((hKt'12.below hb40).below n41.below).only (Ze.of_grown (T:=[33]) hg42 hFl'14 (by decide)) (by decide)).only (Ze.of_upd (T:=[106]) u43 k5_b2'15 (by decide)) (by decide)).only (Ze.of_upd (T:=[106]) u44 k5_b1'7 (by decide)) (by decide)
    have hNB'7:=(((hNB.below n41.below).only (Ze.of_grown (T:=[33]) hg42 hFl'14 (by decide)) (by decide)).only (Ze.of_upd (T:=[106]) u43 k5_b2'15 (by decide)) (by decide)).only (Ze.of_upd (T:=[106]) u44 k5_b1'7 (by decide)) (by decide)
    refine xec 8 k44 (.agg #[.slice pe s.es.length ce,.slice pb s.bs.length cb,.int .i64 s.deep,.int .i64 (↑s.looked:Int),.slice px42 ((fv++[(Ft.mk (t.way++[t.no]) 12 fa2 fc2)]).length) cx42]) ?_
    rw[hwo1.fuel hft hfs]
    exact⟨pe,pb,_,ce,cb,_,fv++[(Ft.mk (t.way++[t.no]) 12 fa2 fc2)],rfl,hB'25,hEn'7,hBl'11,o42'1,Xy hfv,(Yd.note (f:=(Ft.mk (t.way++[t.no]) 12 fa2 fc2)) hKt'13 (hNB'7.mono hszA) hNp).sub (fun x hx=>List.mem_append.2 (.inr hx))⟩
   refine xbs 0 1 [.slice fa2 ((t.way++[t.no]).length) fc2,.int .i64 12] 33 fun b45 W45 n45=>?_
   have hB'26:=bln (bln hB'19 hb34) hb40
   have g45:=n45.ge hB'26
   have hFl'15:=Za (Za (Za (u8.own2 (Za hFl n7.below) n7.blk (by decide)) (Zb W8)) hb34) hb40
   have r45_hFl:=Zp hFl'15 n45
   have k5_b2'16:=(((k5_b2'9.below (Zb W8)).below hb34).below hb40).below n45.below
   refine xb (.o [] 1) 4 k5_b2'16 ?_
   have hFl'16:=Za hFl'15 n45.below
   have hB'27:=bln hB'26 n45.below
   refine ybi (.o [] 9) (.t w.heap.size [33,106]) fun _ _ _ _ zJ zQ zo zx zy zK=>Zt (m:=1) (news:=[.slice fa2 ((t.way++[t.no]).length) fc2,.int .i64 12]) (.agg #[.slice none 0 0,.int .i64 0]) 2 32 ((fv++[(Ft.mk (t.way++[t.no]) 12 fa2 fc2)]).length) (((fv++[(Ft.mk (t.way++[t.no]) 12 fa2 fc2)]).flatMap Ar)) zo Tryz.underlying104 (by kernel_rfl) rfl (by decide) zx hFl'16 zy (n45.blk.sl 1 1 (by decide) (by decide)) rfl (by simp[Value.oneCell']) (by unfold maxLen;omega) (by omega) hB'27.size (by simp) (by rw[List.flatMap_append];rfl) fun px46 cx46 W46 o46 hg46 hb46=>?_
   refine zK _ _ (Zr hb46 hg46 hFl'16 (by decide)) ?_
   have k5_b2'17:=k5_b2'16.grown hg46 hFl'16 (by decide)
   refine ys (.o [10] 11) k5_b2'17 [.slice pe s.es.length ce,.slice pb s.bs.length cb,.int .i64 s.deep,.int .i64 (↑s.looked:Int),.slice px46 ((fv++[(Ft.mk (t.way++[t.no]) 12 fa2 fc2)]).length) cx46] (.t w.heap.size [33,106]) fun W47 u47 k47=>⟨(Zm u47 k5_b2'17 g2 (by decide)),?_⟩
   refine xlv 4 k47.rp ?_
   have k5_b1'8:=u47.blk ((((((u8.blkT (k5_b1.below n7.below) n7.blk (by decide)).below (Zb W8)).below hb34).below hb40).below n45.below).grown hg46 hFl'16 (by decide)) (Ne.symm (Ne.symm d2_b1))
   refine xsv 0 k5_b1'8 [.slice pe s.es.length ce,.slice pb s.bs.length cb,.int .i64 s.deep,.int .i64 (↑s.looked:Int),.slice px46 ((fv++[(Ft.mk (t.way++[t.no]) 12 fa2 fc2)]).length) cx46] fun W48 u48 k48=>?_
   have g1:=n1.ge (Below.refl w.heap.size _)
   have hB'28:=u48.below (u47.below (hB'27.trans hb46) g2) g1
   have hEn'8:=u48.own2 (u47.own2 (Zh (Za (Za (Za (Za (u8.own2 (Za hEn n7.below) n7.blk (by decide)) (Zb W8)) hb34) hb40) n45.below) hg46 hFl'16 (by decide)) k5_b2'17 (by decide)) k5_b1'8 (by decide)
   have hBl'12:=u48.own2 (u47.own2 (Zh (Za (Za (Za hBl'9 hb34) hb40) n45.below) hg46 hFl'16 (by decide)) k5_b2'17 (by decide)) k5_b1'8 (by decide)
   have o46'1:=u48.own2 (u47.own2 o46 k5_b2'17 (by decide)) k5_b1'8 (by decide)
   have hKt'14:=((((hKt'12.below hb40).below n45.below).only (Ze.of_grown (T:=[33]) hg46 hFl'16 (by decide)) (by decide)).only (Ze.of_upd (T:=[106]) u47 k5_b2'17 (by decide)) (by decide)).only (Ze.of_upd (T:=[106]) u48 k5_b1'8 (by decide)) (by decide)
   have hNB'8:=(((hNB.below n45.below).only (Ze.of_grown (T:=[33]) hg46 hFl'16 (by decide)) (by decide)).only (Ze.of_upd (T:=[106]) u47 k5_b2'17 (by decide)) (by decide)).only (Ze.of_upd (T:=[106]) u48 k5_b1'8 (by decide)) (by decide)
   refine xec 8 k48 (.agg #[.slice pe s.es.length ce,.slice pb s.bs.length cb,.int .i64 s.deep,.int .i64 (↑s.looked:Int),.slice px46 ((fv++[(Ft.mk (t.way++[t.no]) 12 fa2 fc2)]).length) cx46]) ?_
   rw[hwo1.fuel hft hfs]
   exact⟨pe,pb,_,ce,cb,_,fv++[(Ft.mk (t.way++[t.no]) 12 fa2 fc2)],rfl,hB'28,hEn'8,hBl'12,o46'1,Xy hfv,(Yd.note (f:=(Ft.mk (t.way++[t.no]) 12 fa2 fc2)) hKt'14 (hNB'8.mono hszA) hNp).sub (fun x hx=>List.mem_append.2 (.inr hx))⟩
  have hfs:¬ fuel≤s.looked:=by omega
  refine xb 5 3 k5_b2'9 ?_
  refine xwm 0 ((↑s.looked:Int)+1) (↑(s.looked+1):Int) ?_
  refine xs 1 k5_b2'9 [.slice pe s.es.length ce,.slice pb s.bs.length cb,.int .i64 s.deep,.int .i64 (↑(s.looked+1):Int),.slice pf fv.length cf] fun W49 u49 k49=>?_
  have k8'3:=u49.blkT k8 k5_b2'9 (by decide)
  refine xlv 5 k8'3.rp ?_
  refine xb 2 2 k49 ?_
  have hBl'13:=u49.own2 (u8.own2 (Za hBl n7.below) n7.blk (by decide)) k5_b2'9 (by decide)
  have hB'29:=u49.below (u8.below (bln hB_5 n7.below) g7) g2
  have hBlA:=hBl'13
  have hszA:=hB'29.size
  have hI'6:=((hI.below n7.below).only (Ze.of_upd (T:=[239]) u8 n7.blk (by decide)) (by decide)).only (Ze.of_upd (T:=[106]) u49 k5_b2'9 (by decide)) (by decide)
  have hKt'15:=((hKt.below n7.below).only (Ze.of_upd (T:=[239]) u8 n7.blk (by decide)) (by decide)).only (Ze.of_upd (T:=[106]) u49 k5_b2'9 (by decide)) (by decide)
  refine xc 0 (args:=#[.pointer (some ⟨bm,0,none⟩),.agg #[.int .i64 t.no,.int .i64 t.lo,.int .i64 t.hi,.slice t.wa t.way.length t.wc,.int .i64 t.ft],.int .i64 tree,.int .i64 s.deep]) ((Zem B bm p k c l t.no tree t.lo t.hi s.deep t.way t.wa t.wc (.int .i64 t.ft) _ hI'6 (Yd.hd hKt'15).ints (by omega) (hwo1.right t List.mem_cons_self hft)).mono (fun _ _ h=>Zci.or hBl'13 h)) ?_
  rintro e W50 hq50
  rcases hq50 with ⟨hle,a4,b4,k4,n4,c4,v4,m4,d4,fa,fc,rfl,hb50,hNA⟩|⟨hle,kp,kc,vp,vc,rfl,hb50,hk,hApk,hv_⟩
  ·refine xa 3 [.int .i64 0,.bool false,.slice none 0 0,.slice none 0 0] 220 fun b51 W51 n51=>?_
   have hB'30:=bln hB'29 hb50
   have g51:=n51.ge hB'30
   refine xa 0 [.slice none 0 0,.int .i64 0] 33 fun b52 W52 n52=>?_
   have hB'31:=bln hB'30 n51.below
   have g52:=n52.ge hB'31
   have hFl'17:=Za (Za (u49.own2 (u8.own2 (Za hFl n7.below) n7.blk (by decide)) k5_b2'9 (by decide)) hb50) n51.below
   have r52_hFl:=Zp hFl'17 n52
   have k51:=n51.blk.below n52.below
   refine xsv 0 k51 [.int .i64 a4,.bool b4,.slice k4 n4 c4,.slice v4 m4 d4] fun W53 u53 k53=>?_
   have k52:=u53.blkT n52.blk k51 (by decide)
   refine xsv 0 k52 [.slice fa 1 fc,.int .i64 (Zw l t.way t.no tree t.lo t.hi s.deep)] fun W54 u54 k54=>?_
   refine xb 6 1 k54 ?_
   refine xk 3 (show(((Zw l t.way t.no tree t.lo t.hi s.deep) != (0:Int)):Bool)=true from bne_iff_ne.2 hle) ?_
   refine xd 1 (.t w.heap.size [33,106]) ?_
   have k8'4:=(u54.blkT (u53.blkT (((k8'3.below hb50).below n51.below).below n52.below) k51 (by decide)) k52 (by decide)).below (Zb W54)
   refine xbt (.e [0,2] 3) 3 w.heap.size [33,106] k8'4 ?_
   refine xm2 0 1 4 ?_ ?_
   ·have k49'1:=(u54.blkT (u53.blkT (((k49.below hb50).below n51.below).below n52.below) k51 (by decide)) k52 (by decide)).below (Zb W54)
    refine xb 0 4 k49'1 ?_
    have k54'1:=k54.below (Zb W54)
    refine xlv (.o [] 4) k54'1.rp ?_
    have hKt'16:=(((((hKt'15.below hb50).below n51.below).below n52.below).only (Ze.of_upd (T:=[220]) u53 k51 (by decide)) (by decide)).only (Ze.of_upd (T:=[33]) u54 k52 (by decide)) (by decide)).below (Zb W54)
    have hNA'1:=((((hNA.below n51.below).below n52.below).only (Ze.of_upd (T:=[220]) u53 k51 (by decide)) (by decide)).only (Ze.of_upd (T:=[33]) u54 k52 (by decide)) (by decide)).below (Zb W54)
    refine yc (.o [] 5) (args:=#[.slice t.wa t.way.length t.wc,.agg #[.slice fa 1 fc,.int .i64 (Zw l t.way t.no tree t.lo t.hi s.deep)]]) (.t w.heap.size [33,106]) (Ql t.wa t.wc t.way (Zw l t.way t.no tree t.lo t.hi s.deep) _ fa fc t.no _ hle (Yd.hd hKt'16).ints (by omega) hNA'1) ?_
    rintro _ W55 ⟨fa2,fc2,rfl,hb55,hNB⟩
    refine⟨(SF.of_below _ hb55),?_⟩
    have hNp:=hNB.apart hBlA (Nat.le_refl _)
    refine xbs (.o [] 6) 1 [.slice fa2 ((t.way++[t.no]).length) fc2,.int .i64 (Zw l t.way t.no tree t.lo t.hi s.deep)] 33 fun b56 W56 n56=>?_
    have k54'2:=k54'1.below hb55
    have d56_b52:=n56.ne k54'2
    have hB'32:=bln (bln (u54.below (u53.below (bln hB'31 n52.below) g51) g52) (Zb W54)) hb55
    have g56:=n56.ge hB'32
    have hFl'18:=Za (Za (u54.own3 (u53.own2 (Za hFl'17 n52.below) k51 (by decide)) r52_hFl) (Zb W54)) hb55
    have r56_hFl:=Zp hFl'18 n56
    have hFl'19:=Za hFl'18 n56.below
    have hB'33:=bln hB'32 n56.below
    refine ybi (.o [] 7) (.t w.heap.size [33,106]) fun _ _ _ _ zJ zQ zo zx zy zK=>Zt (m:=1) (news:=[.slice fa2 ((t.way++[t.no]).length) fc2,.int .i64 (Zw l t.way t.no tree t.lo t.hi s.deep)]) (.agg #[.slice none 0 0,.int .i64 0]) 2 32 ((fv++[(Ft.mk (t.way++[t.no]) (Zw l t.way t.no tree t.lo t.hi s.deep) fa2 fc2)]).length) (((fv++[(Ft.mk (t.way++[t.no]) (Zw l t.way t.no tree t.lo t.hi s.deep) fa2 fc2)]).flatMap Ar)) zo Tryz.underlying104 (by kernel_rfl) rfl (by decide) zx hFl'19 zy (n56.blk.sl 1 1 (by decide) (by decide)) rfl (by simp[Value.oneCell']) (by unfold maxLen;omega) (by omega) hB'33.size (by simp) (by rw[List.flatMap_append];rfl) fun px57 cx57 W57 o57 hg57 hb57=>?_
    refine zK _ _ (Zr hb57 hg57 hFl'19 (by decide)) ?_
    have k49'2:=((k49'1.below hb55).below n56.below).grown hg57 hFl'19 (by decide)
    refine ys (.o [8] 9) k49'2 [.slice pe s.es.length ce,.slice pb s.bs.length cb,.int .i64 s.deep,.int .i64 (↑(s.looked+1):Int),.slice px57 ((fv++[(Ft.mk (t.way++[t.no]) (Zw l t.way t.no tree t.lo t.hi s.deep) fa2 fc2)]).length) cx57] (.t w.heap.size [33,106]) fun W58 u58 k58=>⟨(Zm u58 k49'2 g2 (by decide)),?_⟩
    refine xv1 5 10 (show(.slice (Vd aw 1 cw 5) (ts.length-1) (cw-1):Value)=.slice (Vd aw 1 cw 5) r.length (cw-1) from by rw[htr];rfl) ?_
    have hWs'5:=((((((((((((hWs.below n7.below).updN u8 n7 rfl).only (Ze.of_upd (T:=[106]) u49 k5_b2'9 (by decide)) (by decide)).below hb50).below n51.below).below n52.below).only (Ze.of_upd (T:=[220]) u53 k51 (by decide)) (by decide)).only (Ze.of_upd (T:=[33]) u54 k52 (by decide)) (by decide)).below (Zb W54)).below hb55).below n56.below).only (Ze.of_grown (T:=[33]) hg57 hFl'19 (by decide)) (by decide)).only (Ze.of_upd (T:=[106]) u58 k49'2 (by decide)) (by decide)
    have hKt'17:=(((hKt'16.below hb55).below n56.below).only (Ze.of_grown (T:=[33]) hg57 hFl'19 (by decide)) (by decide)).only (Ze.of_upd (T:=[106]) u58 k49'2 (by decide)) (by decide)
    have hNB'9:=((hNB.below n56.below).only (Ze.of_grown (T:=[33]) hg57 hFl'19 (by decide)) (by decide)).only (Ze.of_upd (T:=[106]) u58 k49'2 (by decide)) (by decide)
    have hB'34:=u58.below (hB'33.trans hb57) g2
    have k5_b1'9:=u58.blk (((((u54.blkT (u53.blkT ((((u49.blk (u8.blkT (k5_b1.below n7.below) n7.blk (by decide)) (Ne.symm (Ne.symm d2_b1))).below hb50).below n51.below).below n52.below) k51 (by decide)) k52 (by decide)).below (Zb W54)).below hb55).below n56.below).grown hg57 hFl'19 (by decide)) (Ne.symm (Ne.symm d2_b1))
    have hEn'9:=u58.own2 (Zh (Za (Za (Za (u54.own2 (u53.own2 (Za (Za (Za (u49.own2 (u8.own2 (Za hEn n7.below) n7.blk (by decide)) k5_b2'9 (by decide)) hb50) n51.below) n52.below) k51 (by decide)) k52 (by decide)) (Zb W54)) hb55) n56.below) hg57 hFl'19 (by decide)) k49'2 (by decide)
    have hBl'14:=u58.own2 (Zh (Za (Za (Za (u54.own2 (u53.own2 (Za (Za (Za hBl'13 hb50) n51.below) n52.below) k51 (by decide)) k52 (by decide)) (Zb W54)) hb55) n56.below) hg57 hFl'19 (by decide)) k49'2 (by decide)
    have o57'1:=u58.own2 o57 k49'2 (by decide)
    have hI'7:=(((((((((hI'6.below hb50).below n51.below).below n52.below).only (Ze.of_upd (T:=[220]) u53 k51 (by decide)) (by decide)).only (Ze.of_upd (T:=[33]) u54 k52 (by decide)) (by decide)).below (Zb W54)).below hb55).below n56.below).only (Ze.of_grown (T:=[33]) hg57 hFl'19 (by decide)) (by decide)).only (Ze.of_upd (T:=[106]) u58 k49'2 (by decide)) (by decide)
    refine ze 0 (hJ5 _ _ _ ⟨(Yh t.way [t.no] (Zw l t.way t.no tree t.lo t.hi s.deep) { s with looked:=s.looked+1 }),r,pe,pb,px57,ce,cb,cx57,(fv++[(Ft.mk (t.way++[t.no]) (Zw l t.way t.no tree t.lo t.hi s.deep) fa2 fc2)]),(Vd aw 1 cw 5),(cw-1),rfl,rfl,hB'34,k5_b1'9,k58,hEn'9,hBl'14,o57'1,(Mt.tail hWs'5 htr),(Yd.note (f:=(Ft.mk (t.way++[t.no]) (Zw l t.way t.no tree t.lo t.hi s.deep) fa2 fc2)) hKt'17 (hNB'9.mono hszA) hNp),hI'7,hwo1.err hft hfs hle,Xy hfv⟩ ?_)
    show 20*(fuel.toNat-(s.looked+1))+r.length<20*(fuel.toNat-s.looked)+ts.length
    omega
   have k54'3:=k54.below (Zb W54)
   refine xlv 0 k54'3.rp ?_
   refine xm2 0 1 5 ?_ ?_
   ·have k49'3:=(u54.blkT (u53.blkT (((k49.below hb50).below n51.below).below n52.below) k51 (by decide)) k52 (by decide)).below (Zb W54)
    refine xb 0 4 k49'3 ?_
    have hKt'18:=(((((hKt'15.below hb50).below n51.below).below n52.below).only (Ze.of_upd (T:=[220]) u53 k51 (by decide)) (by decide)).only (Ze.of_upd (T:=[33]) u54 k52 (by decide)) (by decide)).below (Zb W54)
    have hNA'2:=((((hNA.below n51.below).below n52.below).only (Ze.of_upd (T:=[220]) u53 k51 (by decide)) (by decide)).only (Ze.of_upd (T:=[33]) u54 k52 (by decide)) (by decide)).below (Zb W54)
    refine yc (.o [] 5) (args:=#[.slice t.wa t.way.length t.wc,.agg #[.slice fa 1 fc,.int .i64 (Zw l t.way t.no tree t.lo t.hi s.deep)]]) (.t w.heap.size [33,106]) (Ql t.wa t.wc t.way (Zw l t.way t.no tree t.lo t.hi s.deep) _ fa fc t.no _ hle (Yd.hd hKt'18).ints (by omega) hNA'2) ?_
    rintro _ W59 ⟨fa2,fc2,rfl,hb59,hNB⟩
    refine⟨(SF.of_below _ hb59),?_⟩
    have hNp:=hNB.apart hBlA (Nat.le_refl _)
    refine xbs (.o [] 6) 1 [.slice fa2 ((t.way++[t.no]).length) fc2,.int .i64 (Zw l t.way t.no tree t.lo t.hi s.deep)] 33 fun b60 W60 n60=>?_
    have k54'4:=k54'3.below hb59
    have d60_b52:=n60.ne k54'4
    have hB'35:=bln (bln (u54.below (u53.below (bln hB'31 n52.below) g51) g52) (Zb W54)) hb59
    have g60:=n60.ge hB'35
    have hFl'20:=Za (Za (u54.own3 (u53.own2 (Za hFl'17 n52.below) k51 (by decide)) r52_hFl) (Zb W54)) hb59
    have r60_hFl:=Zp hFl'20 n60
    have hFl'21:=Za hFl'20 n60.below
    have hB'36:=bln hB'35 n60.below
    refine ybi (.o [] 7) (.t w.heap.size [33,106]) fun _ _ _ _ zJ zQ zo zx zy zK=>Zt (m:=1) (news:=[.slice fa2 ((t.way++[t.no]).length) fc2,.int .i64 (Zw l t.way t.no tree t.lo t.hi s.deep)]) (.agg #[.slice none 0 0,.int .i64 0]) 2 32 ((fv++[(Ft.mk (t.way++[t.no]) (Zw l t.way t.no tree t.lo t.hi s.deep) fa2 fc2)]).length) (((fv++[(Ft.mk (t.way++[t.no]) (Zw l t.way t.no tree t.lo t.hi s.deep) fa2 fc2)]).flatMap Ar)) zo Tryz.underlying104 (by kernel_rfl) rfl (by decide) zx hFl'21 zy (n60.blk.sl 1 1 (by decide) (by decide)) rfl (by simp[Value.oneCell']) (by unfold maxLen;omega) (by omega) hB'36.size (by simp) (by rw[List.flatMap_append];rfl) fun px61 cx61 W61 o61 hg61 hb61=>?_
    refine zK _ _ (Zr hb61 hg61 hFl'21 (by decide)) ?_
    have k49'4:=((k49'3.below hb59).below n60.below).grown hg61 hFl'21 (by decide)
    refine ys (.o [8] 9) k49'4 [.slice pe s.es.length ce,.slice pb s.bs.length cb,.int .i64 s.deep,.int .i64 (↑(s.looked+1):Int),.slice px61 ((fv++[(Ft.mk (t.way++[t.no]) (Zw l t.way t.no tree t.lo t.hi s.deep) fa2 fc2)]).length) cx61] (.t w.heap.size [33,106]) fun W62 u62 k62=>⟨(Zm u62 k49'4 g2 (by decide)),?_⟩
    refine xv1 5 10 (show(.slice (Vd aw 1 cw 5) (ts.length-1) (cw-1):Value)=.slice (Vd aw 1 cw 5) r.length (cw-1) from by rw[htr];rfl) ?_
    have hWs'6:=((((((((((((hWs.below n7.below).updN u8 n7 rfl).only (Ze.of_upd (T:=[106]) u49 k5_b2'9 (by decide)) (by decide)).below hb50).below n51.below).below n52.below).only (Ze.of_upd (T:=[220]) u53 k51 (by decide)) (by decide)).only (Ze.of_upd (T:=[33]) u54 k52 (by decide)) (by decide)).below (Zb W54)).below hb59).below n60.below).only (Ze.of_grown (T:=[33]) hg61 hFl'21 (by decide)) (by decide)).only (Ze.of_upd (T:=[106]) u62 k49'4 (by decide)) (by decide)
    have hKt'19:=(((hKt'18.below hb59).below n60.below).only (Ze.of_grown (T:=[33]) hg61 hFl'21 (by decide)) (by decide)).only (Ze.of_upd (T:=[106]) u62 k49'4 (by decide)) (by decide)
    have hNB'10:=((hNB.below n60.below).only (Ze.of_grown (T:=[33]) hg61 hFl'21 (by decide)) (by decide)).only (Ze.of_upd (T:=[106]) u62 k49'4 (by decide)) (by decide)
    have hB'37:=u62.below (hB'36.trans hb61) g2
    have k5_b1'10:=u62.blk (((((u54.blkT (u53.blkT ((((u49.blk (u8.blkT (k5_b1.below n7.below) n7.blk (by decide)) (Ne.symm (Ne.symm d2_b1))).below hb50).below n51.below).below n52.below) k51 (by decide)) k52 (by decide)).below (Zb W54)).below hb59).below n60.below).grown hg61 hFl'21 (by decide)) (Ne.symm (Ne.symm d2_b1))
    have hEn'10:=u62.own2 (Zh (Za (Za (Za (u54.own2 (u53.own2 (Za (Za (Za (u49.own2 (u8.own2 (Za hEn n7.below) n7.blk (by decide)) k5_b2'9 (by decide)) hb50) n51.below) n52.below) k51 (by decide)) k52 (by decide)) (Zb W54)) hb59) n60.below) hg61 hFl'21 (by decide)) k49'4 (by decide)
    have hBl'15:=u62.own2 (Zh (Za (Za (Za (u54.own2 (u53.own2 (Za (Za (Za hBl'13 hb50) n51.below) n52.below) k51 (by decide)) k52 (by decide)) (Zb W54)) hb59) n60.below) hg61 hFl'21 (by decide)) k49'4 (by decide)
    have o61'1:=u62.own2 o61 k49'4 (by decide)
    have hI'8:=(((((((((hI'6.below hb50).below n51.below).below n52.below).only (Ze.of_upd (T:=[220]) u53 k51 (by decide)) (by decide)).only (Ze.of_upd (T:=[33]) u54 k52 (by decide)) (by decide)).below (Zb W54)).below hb59).below n60.below).only (Ze.of_grown (T:=[33]) hg61 hFl'21 (by decide)) (by decide)).only (Ze.of_upd (T:=[106]) u62 k49'4 (by decide)) (by decide)
    refine ze 0 (hJ5 _ _ _ ⟨(Yh t.way [t.no] (Zw l t.way t.no tree t.lo t.hi s.deep) { s with looked:=s.looked+1 }),r,pe,pb,px61,ce,cb,cx61,(fv++[(Ft.mk (t.way++[t.no]) (Zw l t.way t.no tree t.lo t.hi s.deep) fa2 fc2)]),(Vd aw 1 cw 5),(cw-1),rfl,rfl,hB'37,k5_b1'10,k62,hEn'10,hBl'15,o61'1,(Mt.tail hWs'6 htr),(Yd.note (f:=(Ft.mk (t.way++[t.no]) (Zw l t.way t.no tree t.lo t.hi s.deep) fa2 fc2)) hKt'19 (hNB'10.mono hszA) hNp),hI'8,hwo1.err hft hfs hle,Xy hfv⟩ ?_)
    show 20*(fuel.toNat-(s.looked+1))+r.length<20*(fuel.toNat-s.looked)+ts.length
    omega
   have hKt'20:=(((((hKt'15.below hb50).below n51.below).below n52.below).only (Ze.of_upd (T:=[220]) u53 k51 (by decide)) (by decide)).only (Ze.of_upd (T:=[33]) u54 k52 (by decide)) (by decide)).below (Zb W54)
   have hNA'3:=((((hNA.below n51.below).below n52.below).only (Ze.of_upd (T:=[220]) u53 k51 (by decide)) (by decide)).only (Ze.of_upd (T:=[33]) u54 k52 (by decide)) (by decide)).below (Zb W54)
   refine yc 0 (args:=#[.slice t.wa t.way.length t.wc,.agg #[.slice fa 1 fc,.int .i64 (Zw l t.way t.no tree t.lo t.hi s.deep)]]) (.t w.heap.size [33,106]) (Ql t.wa t.wc t.way (Zw l t.way t.no tree t.lo t.hi s.deep) _ fa fc t.no _ hle (Yd.hd hKt'20).ints (by omega) hNA'3) ?_
   rintro _ W63 ⟨fa2,fc2,rfl,hb63,hNB⟩
   refine⟨(SF.of_below _ hb63),?_⟩
   have hNp:=hNB.apart hBlA (Nat.le_refl _)
   refine xm2 0 1 6 ?_ ?_
   ·have k49'5:=((u54.blkT (u53.blkT (((k49.below hb50).below n51.below).below n52.below) k51 (by decide)) k52 (by decide)).below (Zb W54)).below hb63
    refine xb 0 4 k49'5 ?_
    refine xbs (.o [] 6) 1 [.slice fa2 ((t.way++[t.no]).length) fc2,.int .i64 (Zw l t.way t.no tree t.lo t.hi s.deep)] 33 fun b64 W64 n64=>?_
    have k54'5:=k54'3.below hb63
    have d64_b52:=n64.ne k54'5
    have hB'38:=bln (bln (u54.below (u53.below (bln hB'31 n52.below) g51) g52) (Zb W54)) hb63
    have g64:=n64.ge hB'38
    have hFl'22:=Za (Za (u54.own3 (u53.own2 (Za hFl'17 n52.below) k51 (by decide)) r52_hFl) (Zb W54)) hb63
    have r64_hFl:=Zp hFl'22 n64
    have hFl'23:=Za hFl'22 n64.below
    have hB'39:=bln hB'38 n64.below
    refine ybi (.o [] 7) (.t w.heap.size [33,106]) fun _ _ _ _ zJ zQ zo zx zy zK=>Zt (m:=1) (news:=[.slice fa2 ((t.way++[t.no]).length) fc2,.int .i64 (Zw l t.way t.no tree t.lo t.hi s.deep)]) (.agg #[.slice none 0 0,.int .i64 0]) 2 32 ((fv++[(Ft.mk (t.way++[t.no]) (Zw l t.way t.no tree t.lo t.hi s.deep) fa2 fc2)]).length) (((fv++[(Ft.mk (t.way++[t.no]) (Zw l t.way t.no tree t.lo t.hi s.deep) fa2 fc2)]).flatMap Ar)) zo Tryz.underlying104 (by kernel_rfl) rfl (by decide) zx hFl'23 zy (n64.blk.sl 1 1 (by decide) (by decide)) rfl (by simp[Value.oneCell']) (by unfold maxLen;omega) (by omega) hB'39.size (by simp) (by rw[List.flatMap_append];rfl) fun px65 cx65 W65 o65 hg65 hb65=>?_
    refine zK _ _ (Zr hb65 hg65 hFl'23 (by decide)) ?_
    have k49'6:=(k49'5.below n64.below).grown hg65 hFl'23 (by decide)
    refine ys (.o [8] 9) k49'6 [.slice pe s.es.length ce,.slice pb s.bs.length cb,.int .i64 s.deep,.int .i64 (↑(s.looked+1):Int),.slice px65 ((fv++[(Ft.mk (t.way++[t.no]) (Zw l t.way t.no tree t.lo t.hi s.deep) fa2 fc2)]).length) cx65] (.t w.heap.size [33,106]) fun W66 u66 k66=>⟨(Zm u66 k49'6 g2 (by decide)),?_⟩
    refine xv1 5 10 (show(.slice (Vd aw 1 cw 5) (ts.length-1) (cw-1):Value)=.slice (Vd aw 1 cw 5) r.length (cw-1) from by rw[htr];rfl) ?_
    have hWs'7:=((((((((((((hWs.below n7.below).updN u8 n7 rfl).only (Ze.of_upd (T:=[106]) u49 k5_b2'9 (by decide)) (by decide)).below hb50).below n51.below).below n52.below).only (Ze.of_upd (T:=[220]) u53 k51 (by decide)) (by decide)).only (Ze.of_upd (T:=[33]) u54 k52 (by decide)) (by decide)).below (Zb W54)).below hb63).below n64.below).only (Ze.of_grown (T:=[33]) hg65 hFl'23 (by decide)) (by decide)).only (Ze.of_upd (T:=[106]) u66 k49'6 (by decide)) (by decide)
    have hKt'21:=(((hKt'20.below hb63).below n64.below).only (Ze.of_grown (T:=[33]) hg65 hFl'23 (by decide)) (by decide)).only (Ze.of_upd (T:=[106]) u66 k49'6 (by decide)) (by decide)
    have hNB'11:=((hNB.below n64.below).only (Ze.of_grown (T:=[33]) hg65 hFl'23 (by decide)) (by decide)).only (Ze.of_upd (T:=[106]) u66 k49'6 (by decide)) (by decide)
    have hB'40:=u66.below (hB'39.trans hb65) g2
    have k5_b1'11:=u66.blk (((((u54.blkT (u53.blkT ((((u49.blk (u8.blkT (k5_b1.below n7.below) n7.blk (by decide)) (Ne.symm (Ne.symm d2_b1))).below hb50).below n51.below).below n52.below) k51 (by decide)) k52 (by decide)).below (Zb W54)).below hb63).below n64.below).grown hg65 hFl'23 (by decide)) (Ne.symm (Ne.symm d2_b1))
    have hEn'11:=u66.own2 (Zh (Za (Za (Za (u54.own2 (u53.own2 (Za (Za (Za (u49.own2 (u8.own2 (Za hEn n7.below) n7.blk (by decide)) k5_b2'9 (by decide)) hb50) n51.below) n52.below) k51 (by decide)) k52 (by decide)) (Zb W54)) hb63) n64.below) hg65 hFl'23 (by decide)) k49'6 (by decide)
    have hBl'16:=u66.own2 (Zh (Za (Za (Za (u54.own2 (u53.own2 (Za (Za (Za hBl'13 hb50) n51.below) n52.below) k51 (by decide)) k52 (by decide)) (Zb W54)) hb63) n64.below) hg65 hFl'23 (by decide)) k49'6 (by decide)
    have o65'1:=u66.own2 o65 k49'6 (by decide)
    have hI'9:=(((((((((hI'6.below hb50).below n51.below).below n52.below).only (Ze.of_upd (T:=[220]) u53 k51 (by decide)) (by decide)).only (Ze.of_upd (T:=[33]) u54 k52 (by decide)) (by decide)).below (Zb W54)).below hb63).below n64.below).only (Ze.of_grown (T:=[33]) hg65 hFl'23 (by decide)) (by decide)).only (Ze.of_upd (T:=[106]) u66 k49'6 (by decide)) (by decide)
    refine ze 0 (hJ5 _ _ _ ⟨(Yh t.way [t.no] (Zw l t.way t.no tree t.lo t.hi s.deep) { s with looked:=s.looked+1 }),r,pe,pb,px65,ce,cb,cx65,(fv++[(Ft.mk (t.way++[t.no]) (Zw l t.way t.no tree t.lo t.hi s.deep) fa2 fc2)]),(Vd aw 1 cw 5),(cw-1),rfl,rfl,hB'40,k5_b1'11,k66,hEn'11,hBl'16,o65'1,(Mt.tail hWs'7 htr),(Yd.note (f:=(Ft.mk (t.way++[t.no]) (Zw l t.way t.no tree t.lo t.hi s.deep) fa2 fc2)) hKt'21 (hNB'11.mono hszA) hNp),hI'9,hwo1.err hft hfs hle,Xy hfv⟩ ?_)
    show 20*(fuel.toNat-(s.looked+1))+r.length<20*(fuel.toNat-s.looked)+ts.length
    omega
   refine xbs 0 1 [.slice fa2 ((t.way++[t.no]).length) fc2,.int .i64 (Zw l t.way t.no tree t.lo t.hi s.deep)] 33 fun b67 W67 n67=>?_
   have k54'6:=k54'3.below hb63
   have d67_b52:=n67.ne k54'6
   have hB'41:=bln (bln (u54.below (u53.below (bln hB'31 n52.below) g51) g52) (Zb W54)) hb63
   have g67:=n67.ge hB'41
   have hFl'24:=Za (Za (u54.own3 (u53.own2 (Za hFl'17 n52.below) k51 (by decide)) r52_hFl) (Zb W54)) hb63
   have r67_hFl:=Zp hFl'24 n67
   have k49'7:=(((u54.blkT (u53.blkT (((k49.below hb50).below n51.below).below n52.below) k51 (by decide)) k52 (by decide)).below (Zb W54)).below hb63).below n67.below
   refine xb (.o [] 1) 4 k49'7 ?_
   have hFl'25:=Za hFl'24 n67.below
   have hB'42:=bln hB'41 n67.below
   refine ybi (.o [] 7) (.t w.heap.size [33,106]) fun _ _ _ _ zJ zQ zo zx zy zK=>Zt (m:=1) (news:=[.slice fa2 ((t.way++[t.no]).length) fc2,.int .i64 (Zw l t.way t.no tree t.lo t.hi s.deep)]) (.agg #[.slice none 0 0,.int .i64 0]) 2 32 ((fv++[(Ft.mk (t.way++[t.no]) (Zw l t.way t.no tree t.lo t.hi s.deep) fa2 fc2)]).length) (((fv++[(Ft.mk (t.way++[t.no]) (Zw l t.way t.no tree t.lo t.hi s.deep) fa2 fc2)]).flatMap Ar)) zo Tryz.underlying104 (by kernel_rfl) rfl (by decide) zx hFl'25 zy (n67.blk.sl 1 1 (by decide) (by decide)) rfl (by simp[Value.oneCell']) (by unfold maxLen;omega) (by omega) hB'42.size (by simp) (by rw[List.flatMap_append];rfl) fun px68 cx68 W68 o68 hg68 hb68=>?_
   refine zK _ _ (Zr hb68 hg68 hFl'25 (by decide)) ?_
   have k49'8:=k49'7.grown hg68 hFl'25 (by decide)
   refine ys (.o [8] 9) k49'8 [.slice pe s.es.length ce,.slice pb s.bs.length cb,.int .i64 s.deep,.int .i64 (↑(s.looked+1):Int),.slice px68 ((fv++[(Ft.mk (t.way++[t.no]) (Zw l t.way t.no tree t.lo t.hi s.deep) fa2 fc2)]).length) cx68] (.t w.heap.size [33,106]) fun W69 u69 k69=>⟨(Zm u69 k49'8 g2 (by decide)),?_⟩
   refine xv1 5 10 (show(.slice (Vd aw 1 cw 5) (ts.length-1) (cw-1):Value)=.slice (Vd aw 1 cw 5) r.length (cw-1) from by rw[htr];rfl) ?_
   have hWs'8:=((((((((((((hWs.below n7.below).updN u8 n7 rfl).only (Ze.of_upd (T:=[106]) u49 k5_b2'9 (by decide)) (by decide)).below hb50).below n51.below).below n52.below).only (Ze.of_upd (T:=[220]) u53 k51 (by decide)) (by decide)).only (Ze.of_upd (T:=[33]) u54 k52 (by decide)) (by decide)).below (Zb W54)).below hb63).below n67.below).only (Ze.of_grown (T:=[33]) hg68 hFl'25 (by decide)) (by decide)).only (Ze.of_upd (T:=[106]) u69 k49'8 (by decide)) (by decide)
   have hKt'22:=(((hKt'20.below hb63).below n67.below).only (Ze.of_grown (T:=[33]) hg68 hFl'25 (by decide)) (by decide)).only (Ze.of_upd (T:=[106]) u69 k49'8 (by decide)) (by decide)
   have hNB'12:=((hNB.below n67.below).only (Ze.of_grown (T:=[33]) hg68 hFl'25 (by decide)) (by decide)).only (Ze.of_upd (T:=[106]) u69 k49'8 (by decide)) (by decide)
   have hB'43:=u69.below (hB'42.trans hb68) g2
   have k5_b1'12:=u69.blk (((((u54.blkT (u53.blkT ((((u49.blk (u8.blkT (k5_b1.below n7.below) n7.blk (by decide)) (Ne.symm (Ne.symm d2_b1))).below hb50).below n51.below).below n52.below) k51 (by decide)) k52 (by decide)).below (Zb W54)).below hb63).below n67.below).grown hg68 hFl'25 (by decide)) (Ne.symm (Ne.symm d2_b1))
   have hEn'12:=u69.own2 (Zh (Za (Za (Za (u54.own2 (u53.own2 (Za (Za (Za (u49.own2 (u8.own2 (Za hEn n7.below) n7.blk (by decide)) k5_b2'9 (by decide)) hb50) n51.below) n52.below) k51 (by decide)) k52 (by decide)) (Zb W54)) hb63) n67.below) hg68 hFl'25 (by decide)) k49'8 (by decide)
   have hBl'17:=u69.own2 (Zh (Za (Za (Za (u54.own2 (u53.own2 (Za (Za (Za hBl'13 hb50) n51.below) n52.below) k51 (by decide)) k52 (by decide)) (Zb W54)) hb63) n67.below) hg68 hFl'25 (by decide)) k49'8 (by decide)
   have o68'1:=u69.own2 o68 k49'8 (by decide)
   have hI'10:=(((((((((hI'6.below hb50).below n51.below).below n52.below).only (Ze.of_upd (T:=[220]) u53 k51 (by decide)) (by decide)).only (Ze.of_upd (T:=[33]) u54 k52 (by decide)) (by decide)).below (Zb W54)).below hb63).below n67.below).only (Ze.of_grown (T:=[33]) hg68 hFl'25 (by decide)) (by decide)).only (Ze.of_upd (T:=[106]) u69 k49'8 (by decide)) (by decide)
   refine ze 0 (hJ5 _ _ _ ⟨(Yh t.way [t.no] (Zw l t.way t.no tree t.lo t.hi s.deep) { s with looked:=s.looked+1 }),r,pe,pb,px68,ce,cb,cx68,(fv++[(Ft.mk (t.way++[t.no]) (Zw l t.way t.no tree t.lo t.hi s.deep) fa2 fc2)]),(Vd aw 1 cw 5),(cw-1),rfl,rfl,hB'43,k5_b1'12,k69,hEn'12,hBl'17,o68'1,(Mt.tail hWs'8 htr),(Yd.note (f:=(Ft.mk (t.way++[t.no]) (Zw l t.way t.no tree t.lo t.hi s.deep) fa2 fc2)) hKt'22 (hNB'12.mono hszA) hNp),hI'10,hwo1.err hft hfs hle,Xy hfv⟩ ?_)
   show 20*(fuel.toNat-(s.looked+1))+r.length<20*(fuel.toNat-s.looked)+ts.length
   omega
  have hnc:Zn (inB l t.no)≤18:=(Hj hle).2.2
  refine xa 3 [.int .i64 0,.bool false,.slice none 0 0,.slice none 0 0] 220 fun b70 W70 n70=>?_
  have hB'44:=bln hB'29 hb50
  have g70:=n70.ge hB'44
  refine xa 0 [.slice none 0 0,.int .i64 0] 33 fun b71 W71 n71=>?_
  have hB'45:=bln hB'44 n70.below
  have g71:=n71.ge hB'45
  have hFl'26:=Za (Za (u49.own2 (u8.own2 (Za hFl n7.below) n7.blk (by decide)) k5_b2'9 (by decide)) hb50) n70.below
  have r71_hFl:=Zp hFl'26 n71
  have k70:=n70.blk.below n71.below
  refine xsv 0 k70 [.int .i64 (Xt (inB l t.no)),.bool (Xk (inB l t.no)),.slice kp (Zn (inB l t.no)) kc,.slice vp (Zn (inB l t.no)) vc] fun W72 u72 k72=>?_
  have k71:=u72.blkT n71.blk k70 (by decide)
  refine xsv 0 k71 [.slice none 0 0,.int .i64 0] fun W73 u73 k73=>?_
  refine xb 6 1 k73 ?_
  have k49'9:=u73.blkT (u72.blkT (((k49.below hb50).below n70.below).below n71.below) k70 (by decide)) k71 (by decide)
  refine xb 9 1 k49'9 ?_
  have k8'5:=u73.blkT (u72.blkT (((k8'3.below hb50).below n70.below).below n71.below) k70 (by decide)) k71 (by decide)
  refine xb 1 0 k8'5 ?_
  refine xbs 0 1 [.int .i64 t.no] 3 fun b74 W74 n74=>?_
  have hB'46:=u73.below (u72.below (bln hB'45 n71.below) g70) g71
  have g74:=n74.ge hB'46
  have hBl'18:=u73.own2 (u72.own2 (Za (Za (Za hBl'13 hb50) n70.below) n71.below) k70 (by decide)) k71 (by decide)
  have r74_hBl:=Zp hBl'18 n74
  have hk'1:=u73.own2 (u72.own2 (Za (Za (Zf hk hB'29.size) n70.below) n71.below) k70 (by decide)) k71 (by decide)
  have r74_hk:=Zp hk'1 n74
  have hBl'19:=Za hBl'18 n74.below
  have hB'47:=bln hB'46 n74.below
  refine xbi 0 fun _ _ _ _ zJ zQ zo zx zy zK=>Cz (b:=b74) (c:=1) (m:=1) (news:=[.int .i64 t.no]) (.int .i64 0) 1 8 ((s.bs++[t.no]).length) (((s.bs++[t.no]).map (Value.int .i64))) zo Tryz.underlying31 (by kernel_rfl) rfl (by decide) zx hBl'19 zy n74.blk rfl (by simp[Value.oneCell']) (by unfold maxLen;omega) (by omega) hB'47.size (by simp) (by simp) fun px75 cx75 W75 o75 hg75 hb75 ha75=>?_
  have hk'2:=Za hk'1 n74.below
  have q75_hk:=hApk.row hk'2 hg75
  replace hApk:=(hApk.grow hk'2 ha75)
  have hkq75:=q75_hk
  refine zK _ _ ?_
  have k49'10:=(k49'9.below n74.below).grown hg75 hBl'19 (by decide)
  refine xs 1 k49'10 [.slice pe s.es.length ce,.slice px75 ((s.bs++[t.no]).length) cx75,.int .i64 s.deep,.int .i64 (↑(s.looked+1):Int),.slice pf fv.length cf] fun W76 u76 k76=>?_
  have k72'1:=u76.blkT (((u73.blkT k72 k71 (by decide)).below n74.below).grown hg75 hBl'19 (by decide)) k49'10 (by decide)
  refine xb 6 1 k72'1 ?_
  refine xi 2 (Xk (inB l t.no)) (fun hc77=>?_) (fun hc77=>?_)
  ·have hlf:=hc77
   have k8'6:=u76.blkT ((k8'5.below n74.below).grown hg75 hBl'19 (by decide)) k49'10 (by decide)
   refine xb 3 3 k8'6 ?_
   refine xwm 1 ((↑t.way.length:Int)+1) (↑(t.way.length+1):Int) ?_
   refine xs 1 k76 [.slice pe s.es.length ce,.slice px75 ((s.bs++[t.no]).length) cx75,.int .i64 (↑(t.way.length+1):Int),.int .i64 (↑(s.looked+1):Int),.slice pf fv.length cf] fun W78 u78 k78=>?_
   have hWs'9:=(((((((((((hWs.below n7.below).updN u8 n7 rfl).only (Ze.of_upd (T:=[106]) u49 k5_b2'9 (by decide)) (by decide)).below hb50).below n70.below).below n71.below).only (Ze.of_upd (T:=[220]) u72 k70 (by decide)) (by decide)).only (Ze.of_upd (T:=[33]) u73 k71 (by decide)) (by decide)).below n74.below).only (Ze.of_grown (T:=[3]) hg75 hBl'19 (by decide)) (by decide)).only (Ze.of_upd (T:=[106]) u76 k49'10 (by decide)) (by decide)).only (Ze.of_upd (T:=[106]) u78 k76 (by decide)) (by decide)
   have hWu:=hWs'9.un
   have hgl:=(hwo1.leaf hft hfs hle hlf).grow.1
   have hgl2:s.es.length+Zn (inB l t.no)≤1000000:=by have q:=Nat.le_trans hgl hfe;simpa [Hr] using q
   have hEn'13:=u78.own2 (u76.own2 (Zh (Za (u73.own2 (u72.own2 (Za (Za (Za (u49.own2 (u8.own2 (Za hEn n7.below) n7.blk (by decide)) k5_b2'9 (by decide)) hb50) n70.below) n71.below) k70 (by decide)) k71 (by decide)) n74.below) hg75 hBl'19 (by decide)) k49'10 (by decide)) k76 (by decide)
   have hI'11:=((((((((hI'6.below hb50).below n70.below).below n71.below).only (Ze.of_upd (T:=[220]) u72 k70 (by decide)) (by decide)).only (Ze.of_upd (T:=[33]) u73 k71 (by decide)) (by decide)).below n74.below).only (Ze.of_grown (T:=[3]) hg75 hBl'19 (by decide)) (by decide)).only (Ze.of_upd (T:=[106]) u76 k49'10 (by decide)) (by decide)).only (Ze.of_upd (T:=[106]) u78 k76 (by decide)) (by decide)
   have hFl'27:=u78.own2 (u76.own2 (Zh (Za (u73.own3 (u72.own2 (Za hFl'26 n71.below) k70 (by decide)) r71_hFl) n74.below) hg75 hBl'19 (by decide)) k49'10 (by decide)) k76 (by decide)
   have hKt'23:=((((((((hKt'15.below hb50).below n70.below).below n71.below).only (Ze.of_upd (T:=[220]) u72 k70 (by decide)) (by decide)).only (Ze.of_upd (T:=[33]) u73 k71 (by decide)) (by decide)).below n74.below).grow hBl'19 hg75 ha75).only (Ze.of_upd (T:=[106]) u76 k49'10 (by decide)) (by decide)).only (Ze.of_upd (T:=[106]) u78 k76 (by decide)) (by decide)
   have hv_'1:=u78.own2 (u76.own2 (Zh (Za (u73.own2 (u72.own2 (Za (Za (Zf hv_ hB'29.size) n70.below) n71.below) k70 (by decide)) k71 (by decide)) n74.below) hg75 hBl'19 (by decide)) k49'10 (by decide)) k76 (by decide)
   have hk'3:=u78.own2 (u76.own2 hkq75 k49'10 (by decide)) k76 (by decide)
   have o75'1:=u78.own2 (u76.own2 o75 k49'10 (by decide)) k76 (by decide)
   have hB'48:=u78.below (u76.below (hB'47.trans hb75) g2) g2
   have k5_b1'13:=u78.blk (u76.blk (((u73.blkT (u72.blkT ((((u49.blk (u8.blkT (k5_b1.below n7.below) n7.blk (by decide)) (Ne.symm (Ne.symm d2_b1))).below hb50).below n70.below).below n71.below) k70 (by decide)) k71 (by decide)).below n74.below).grown hg75 hBl'19 (by decide)) (Ne.symm (Ne.symm d2_b1))) (Ne.symm (Ne.symm d2_b1))
   have k8'7:=u78.blkT k8'6 k76 (by decide)
   have k72'2:=u78.blkT k72'1 k76 (by decide)
   have k73'1:=u78.blkT (u76.blkT ((k73.below n74.below).grown hg75 hBl'19 (by decide)) k49'10 (by decide)) k76 (by decide)
   refine zl 9 186 (fun zm zkv V=>∃ (i:Nat) (pe2:Option Addr) (ce2:Nat),zkv=[(0,.pointer (some ⟨bm,0,none⟩)),(2,.int .i64 tree),(3,.int .i64 fuel),(8,.pointer (some ⟨b1,0,none⟩)),(9,.pointer (some ⟨b2,0,none⟩)),(10,.slice (Vd aw 1 cw 5) (ts.length-1) (cw-1)),(11,.pointer (some ⟨b7,0,none⟩)),(12,.pointer (some ⟨b70,0,none⟩)),(14,.int .i64 (↑i:Int))]∧zm=(Zn (inB l t.no))-((↑i:Int)).toNat∧Below w.heap.size w V∧Blk V b1 ([.slice none 0 0,.slice none 0 0,.int .i64 0,.int .i64 0,.slice none 0 0]) 106∧Blk V b2 ([.slice pe2 (s.es.length+i) ce2,.slice px75 ((s.bs++[t.no]).length) cx75,.int .i64 (↑(t.way.length+1):Int),.int .i64 (↑(s.looked+1):Int),.slice pf fv.length cf]) 106∧Blk V b7 ([.int .i64 t.no,.int .i64 t.lo,.int .i64 t.hi,.slice t.wa t.way.length t.wc,.int .i64 t.ft]) 239∧Blk V b70 ([.int .i64 (Xt (inB l t.no)),.bool (Xk (inB l t.no)),.slice kp (Zn (inB l t.no)) kc,.slice vp (Zn (inB l t.no)) vc]) 220∧Blk V b71 ([.slice none 0 0,.int .i64 0]) 33∧V.ownsRow w.heap.size 74 3 (.slice pe2 (s.es.length+i) ce2) (s.es.length+i) ((s.es++Ki (Xu l t.no) (Qw l t.no) t.no i).flatMap Ky)∧RefI B bm p k c l V∧V.ownsRow w.heap.size 33 2 (.slice pf fv.length cf) fv.length (fv.flatMap Ar)∧Bc w.heap.size V aw cw ts∧Yd w.heap.size V (.slice px75 ((s.bs++[t.no]).length) cx75) ((t::r).map Zcx++fv.map fltK)∧V.ownsRow w.heap.size 9 1 (.slice vp (Zn (inB l t.no)) vc) (Zn (inB l t.no)) ((Qw l t.no).map sv)∧V.ownsRow w.heap.size 3 1 (.slice kp (Zn (inB l t.no)) kc) (Zn (inB l t.no)) ((Xu l t.no).map (Value.int .i64))∧V.ownsRow w.heap.size 3 1 (.slice px75 ((s.bs++[t.no]).length) cx75) ((s.bs++[t.no]).length) ((s.bs++[t.no]).map (Value.int .i64))∧i≤(Zn (inB l t.no))) ⟨0,pe,ce,rfl,rfl,hB'48,k5_b1'13,k78,k8'7,k72'2,k73'1,(by simpa [Ki] using hEn'13),hI'11,hFl'27,hWu,hKt'23,hv_'1,hk'3,o75'1,Nat.zero_le _⟩ ?_
   rintro _ _ W79 ⟨i,pe2,ce2,rfl,rfl,hB_79,k79_b1,k79_b2,k79_b7,k79_b70,k79_b71,hE,hI,hFl,hWu,hKt,hv_,hk,o75,hi⟩ J79 hJ79 r79
   refine xb 5 2 k79_b70 ?_
   refine xid 4 ((↑i:Int)<(↑(Zn (inB l t.no)):Int)) (fun hc80=>?_) (fun hc80=>?_)
   ·refine xd 4 (.t w.heap.size [74,106]) ?_
    have k79_b70'1:=k79_b70.below (Zb W79)
    refine xbt (.e [0,2] 3) 2 w.heap.size [74,106] k79_b70'1 ?_
    have hk'4:=Za hk (Zb W79)
    refine xx (.e [4] 5) _ (Zn (inB l t.no)) i 1 (IntsN.elem (l:=Xu l t.no) (Zg hk'4) (Ym _ _) (k:=i) (by omega)).1 ?_
    refine xlt (.e [] 6) (.t w.heap.size [74,106]) (fun V hV=>(IntsN.elem (l:=Xu l t.no) (Zg (Zl hk'4 hV.2 (by decide))) (Ym _ _) (k:=i) (by omega)).2) ?_
    refine xbt (.e [7] 8) 3 w.heap.size [74,106] k79_b70'1 ?_
    have hv_'2:=Za hv_ (Zb W79)
    refine xx (.e [9] 10) _ (Zn (inB l t.no)) i 1 (Strs.elem (V:=Qw l t.no) (Zg hv_'2) (Ve _ _) (k:=i) (by omega)).1 ?_
    refine xlt (.e [] 11) (.t w.heap.size [74,106]) (fun V hV=>(Strs.elem (V:=Qw l t.no) (Zg (Zl hv_'2 hV.2 (by decide))) (Ve _ _) (k:=i) (by omega)).2) ?_
    have k79_b7'1:=k79_b7.below (Zb W79)
    refine xbt (.e [12] 13) 0 w.heap.size [74,106] k79_b7'1 ?_
    refine xm2 (.b [14]) 1 15 ?_ ?_
    ·have k79_b2'1:=k79_b2.below (Zb W79)
     refine xb 0 0 k79_b2'1 ?_
     refine xbs (.o [] 15) 1 [.int .i64 ((Xu l t.no).getD i 0),.string ⟨((Qw l t.no).getD i []).toArray⟩,.int .i64 t.no] 74 fun b81 W81 n81=>?_
     have hB'49:=bln hB_79 (Zb W79)
     have g81:=n81.ge hB'49
     have hE'1:=Za hE (Zb W79)
     have r81_hE:=Zp hE'1 n81
     have hE'2:=Za hE'1 n81.below
     have hB'50:=bln hB'49 n81.below
     refine ybi (.o [] 16) (.t w.heap.size [74,106]) fun _ _ _ _ zJ zQ zo zx zy zK=>Zt (m:=1) (news:=[.int .i64 ((Xu l t.no).getD i 0),.string ⟨((Qw l t.no).getD i []).toArray⟩,.int .i64 t.no]) (.agg #[.int .i64 0,.string ⟨#[]⟩,.int .i64 0]) 3 32 ((s.es.length+(i+1))) (((s.es++Ki (Xu l t.no) (Qw l t.no) t.no (i+1)).flatMap Ky)) zo Tryz.underlying75 (by kernel_rfl) rfl (by decide) zx hE'2 zy (n81.blk.sl 1 1 (by decide) (by decide)) rfl (by simp[Value.oneCell']) (by unfold maxLen;omega) (by omega) hB'50.size (by omega) (Cj _ _ _ _ _) fun px82 cx82 W82 o82 hg82 hb82=>?_
     refine zK _ _ (Zr hb82 hg82 hE'2 (by decide)) ?_
     have k79_b2'2:=(k79_b2'1.below n81.below).grown hg82 hE'2 (by decide)
     refine ys (.o [17] 18) k79_b2'2 [.slice px82 (s.es.length+(i+1)) cx82,.slice px75 ((s.bs++[t.no]).length) cx75,.int .i64 (↑(t.way.length+1):Int),.int .i64 (↑(s.looked+1):Int),.slice pf fv.length cf] (.t w.heap.size [74,106]) fun W83 u83 k83=>⟨(Zm u83 k79_b2'2 g2 (by decide)),?_⟩
     refine xwm 5 ((↑i:Int)+1) (↑(i+1):Int) ?_
     have hB'51:=u83.below (hB'50.trans hb82) g2
     have k79_b1'1:=u83.blk (((k79_b1.below (Zb W79)).below n81.below).grown hg82 hE'2 (by decide)) (Ne.symm (Ne.symm d2_b1))
     have k79_b7'2:=u83.blkT ((k79_b7'1.below n81.below).grown hg82 hE'2 (by decide)) k79_b2'2 (by decide)
     have k79_b70'2:=u83.blkT ((k79_b70'1.below n81.below).grown hg82 hE'2 (by decide)) k79_b2'2 (by decide)
     have k79_b71'1:=u83.blkT (((k79_b71.below (Zb W79)).below n81.below).grown hg82 hE'2 (by decide)) k79_b2'2 (by decide)
     have o82'1:=u83.own2 o82 k79_b2'2 (by decide)
     have hI'12:=(((hI.below (Zb W79)).below n81.below).only (Ze.of_grown (T:=[74]) hg82 hE'2 (by decide)) (by decide)).only (Ze.of_upd (T:=[106]) u83 k79_b2'2 (by decide)) (by decide)
     have hFl'28:=u83.own2 (Zh (Za (Za hFl (Zb W79)) n81.below) hg82 hE'2 (by decide)) k79_b2'2 (by decide)
     have hWu'1:=(((hWu.below (Zb W79)).below n81.below).only (Ze.of_grown (T:=[74]) hg82 hE'2 (by decide)) (by decide)).only (Ze.of_upd (T:=[106]) u83 k79_b2'2 (by decide)) (by decide)
     have hKt'24:=(((hKt.below (Zb W79)).below n81.below).only (Ze.of_grown (T:=[74]) hg82 hE'2 (by decide)) (by decide)).only (Ze.of_upd (T:=[106]) u83 k79_b2'2 (by decide)) (by decide)
     have hv_'3:=u83.own2 (Zh (Za hv_'2 n81.below) hg82 hE'2 (by decide)) k79_b2'2 (by decide)
     have hk'5:=u83.own2 (Zh (Za hk'4 n81.below) hg82 hE'2 (by decide)) k79_b2'2 (by decide)
     have o75'2:=u83.own2 (Zh (Za (Za o75 (Zb W79)) n81.below) hg82 hE'2 (by decide)) k79_b2'2 (by decide)
     exact ze 2 (hJ79 _ _ _ ⟨i+1,_,_,rfl,rfl,hB'51,k79_b1'1,k83,k79_b7'2,k79_b70'2,k79_b71'1,o82'1,hI'12,hFl'28,hWu'1,hKt'24,hv_'3,hk'5,o75'2,by omega⟩ (by omega))
    refine xbs 0 1 [.int .i64 ((Xu l t.no).getD i 0),.string ⟨((Qw l t.no).getD i []).toArray⟩,.int .i64 t.no] 74 fun b84 W84 n84=>?_
    have hB'52:=bln hB_79 (Zb W79)
    have g84:=n84.ge hB'52
    have hE'3:=Za hE (Zb W79)
    have r84_hE:=Zp hE'3 n84
    have k79_b2'3:=(k79_b2.below (Zb W79)).below n84.below
    refine xb (.o [] 1) 0 k79_b2'3 ?_
    have hE'4:=Za hE'3 n84.below
    have hB'53:=bln hB'52 n84.below
    refine ybi (.o [] 16) (.t w.heap.size [74,106]) fun _ _ _ _ zJ zQ zo zx zy zK=>Zt (m:=1) (news:=[.int .i64 ((Xu l t.no).getD i 0),.string ⟨((Qw l t.no).getD i []).toArray⟩,.int .i64 t.no]) (.agg #[.int .i64 0,.string ⟨#[]⟩,.int .i64 0]) 3 32 ((s.es.length+(i+1))) (((s.es++Ki (Xu l t.no) (Qw l t.no) t.no (i+1)).flatMap Ky)) zo Tryz.underlying75 (by kernel_rfl) rfl (by decide) zx hE'4 zy (n84.blk.sl 1 1 (by decide) (by decide)) rfl (by simp[Value.oneCell']) (by unfold maxLen;omega) (by omega) hB'53.size (by omega) (Cj _ _ _ _ _) fun px85 cx85 W85 o85 hg85 hb85=>?_
    refine zK _ _ (Zr hb85 hg85 hE'4 (by decide)) ?_
    have k79_b2'4:=k79_b2'3.grown hg85 hE'4 (by decide)
    refine ys (.o [17] 18) k79_b2'4 [.slice px85 (s.es.length+(i+1)) cx85,.slice px75 ((s.bs++[t.no]).length) cx75,.int .i64 (↑(t.way.length+1):Int),.int .i64 (↑(s.looked+1):Int),.slice pf fv.length cf] (.t w.heap.size [74,106]) fun W86 u86 k86=>⟨(Zm u86 k79_b2'4 g2 (by decide)),?_⟩
    refine xwm 5 ((↑i:Int)+1) (↑(i+1):Int) ?_
    have hB'54:=u86.below (hB'53.trans hb85) g2
    have k79_b1'2:=u86.blk (((k79_b1.below (Zb W79)).below n84.below).grown hg85 hE'4 (by decide)) (Ne.symm (Ne.symm d2_b1))
    have k79_b7'3:=u86.blkT ((k79_b7'1.below n84.below).grown hg85 hE'4 (by decide)) k79_b2'4 (by decide)
    have k79_b70'3:=u86.blkT ((k79_b70'1.below n84.below).grown hg85 hE'4 (by decide)) k79_b2'4 (by decide)
    have k79_b71'2:=u86.blkT (((k79_b71.below (Zb W79)).below n84.below).grown hg85 hE'4 (by decide)) k79_b2'4 (by decide)
    have o85'1:=u86.own2 o85 k79_b2'4 (by decide)
    have hI'13:=(((hI.below (Zb W79)).below n84.below).only (Ze.of_grown (T:=[74]) hg85 hE'4 (by decide)) (by decide)).only (Ze.of_upd (T:=[106]) u86 k79_b2'4 (by decide)) (by decide)
    have hFl'29:=u86.own2 (Zh (Za (Za hFl (Zb W79)) n84.below) hg85 hE'4 (by decide)) k79_b2'4 (by decide)
    have hWu'2:=(((hWu.below (Zb W79)).below n84.below).only (Ze.of_grown (T:=[74]) hg85 hE'4 (by decide)) (by decide)).only (Ze.of_upd (T:=[106]) u86 k79_b2'4 (by decide)) (by decide)
    have hKt'25:=(((hKt.below (Zb W79)).below n84.below).only (Ze.of_grown (T:=[74]) hg85 hE'4 (by decide)) (by decide)).only (Ze.of_upd (T:=[106]) u86 k79_b2'4 (by decide)) (by decide)
    have hv_'4:=u86.own2 (Zh (Za hv_'2 n84.below) hg85 hE'4 (by decide)) k79_b2'4 (by decide)
    have hk'6:=u86.own2 (Zh (Za hk'4 n84.below) hg85 hE'4 (by decide)) k79_b2'4 (by decide)
    have o75'3:=u86.own2 (Zh (Za (Za o75 (Zb W79)) n84.below) hg85 hE'4 (by decide)) k79_b2'4 (by decide)
    exact ze 2 (hJ79 _ _ _ ⟨i+1,_,_,rfl,rfl,hB'54,k79_b1'2,k86,k79_b7'3,k79_b70'3,k79_b71'2,o85'1,hI'13,hFl'29,hWu'2,hKt'25,hv_'4,hk'6,o75'3,by omega⟩ (by omega))
   refine xv1 8 10 (show(.slice (Vd aw 1 cw 5) (ts.length-1) (cw-1):Value)=.slice (Vd aw 1 cw 5) r.length (cw-1) from by rw[htr];rfl) ?_
   have hin:i=(Zn (inB l t.no)):=by omega
   have hk9:=k79_b2
   have hEe:=hE
   rw[hin] at hk9 hEe
   refine ze 0 (hJ5 _ _ _ ⟨{ s with looked:=s.looked+1,bs:=s.bs++[t.no],deep:=((t.way.length+1:Nat):Int),es:=s.es++Ki (Xu l t.no) (Qw l t.no) t.no (Zn (inB l t.no)) },r,pe2,px75,pf,ce2,cx75,cf,fv,(Vd aw 1 cw 5),(cw-1),rfl,rfl,hB_79,k79_b1,(by simpa [Hr] using hk9),(by simpa [Hr] using hEe),o75,hFl,(Mt.tail (Bc.at_ hWu) htr),hKt.drop1,hI,hwo1.leaf hft hfs hle hlf,hfv⟩ ?_)
   show 20*(fuel.toNat-(s.looked+1))+r.length<20*(fuel.toNat-s.looked)+ts.length
   omega
  have hlf:=hc77
  have o75'4:=u76.own2 o75 k49'10 (by decide)
  have hBlF:=o75'4
  have hKt'26:=(((((((hKt'15.below hb50).below n70.below).below n71.below).only (Ze.of_upd (T:=[220]) u72 k70 (by decide)) (by decide)).only (Ze.of_upd (T:=[33]) u73 k71 (by decide)) (by decide)).below n74.below).grow hBl'19 hg75 ha75).only (Ze.of_upd (T:=[106]) u76 k49'10 (by decide)) (by decide)
  have hway0:=(Yd.hd hKt'26).ints
  have hB'55:=u76.below (hB'47.trans hb75) g2
  have hF87:=hB'55
  refine xd 3 (.t W76.heap.size [3]) ?_
  have k8_hF87:=u76.blkT ((k8'5.below n74.below).grown hg75 hBl'19 (by decide)) k49'10 (by decide)
  have hB:=(Zb W76)
  refine xlt (.e [1] 2) (.t W76.heap.size [3]) (fun V hV=>((k8_hF87.below (Ku hB hV (Nat.le_refl _))).cell (i:=3) rfl)) ?_
  refine xlt (.e [4] 5) (.t W76.heap.size [3]) (fun V hV=>((k8_hF87.below (Ku hB hV (Nat.le_refl _))).cell (i:=0) rfl)) ?_
  refine xm2 0 0 6 ?_ ?_
  ·refine xb0 0 3 fun b88 W88 n88=>?_
   have g88:=n88.ge hB
   refine xm2 0 3 6 ?_ ?_
   ·have o88:=Xb (size:=1) (n:=0) n88.blk g88 rfl (by decide)
    have hB'56:=bln hB n88.below
    refine ybi 0 (.t W76.heap.size [3]) fun _ _ _ _ zJ zQ zo zx zy zK=>Zt (m:=t.way.length) (news:=(t.way.map (Value.int .i64))) (.int .i64 0) 1 8 (t.way.length) ((t.way.map (Value.int .i64))) zo Tryz.underlying31 (by kernel_rfl) rfl (by decide) zx o88 zy (hway0.below hB'56) (by simp) (Kn _) (by unfold maxLen;omega) (by omega) hB'56.size (by omega) (by rfl) fun px89 cx89 W89 o89 hg89 hb89=>?_
    refine zK _ _ (Zr hb89 hg89 o88 (by decide)) ?_
    refine xbs (.o [] 6) 1 [.int .i64 t.no] 3 fun b90 W90 n90=>?_
    have hB'57:=hB'56.trans hb89
    have g90:=n90.ge hB'57
    have r90_o89:=Zp o89 n90
    have o89'1:=Za o89 n90.below
    have hB'58:=bln hB'57 n90.below
    refine ybi (.o [] 7) (.t W76.heap.size [3]) fun _ _ _ _ zJ zQ zo zx zy zK=>Zt (m:=1) (news:=[.int .i64 t.no]) (.int .i64 0) 1 8 ((t.way++[t.no]).length) (((t.way++[t.no]).map (Value.int .i64))) zo Tryz.underlying31 (by kernel_rfl) rfl (by decide) zx o89'1 zy (n90.blk.sl 1 1 (by decide) (by decide)) rfl (by simp[Value.oneCell']) (by unfold maxLen;omega) (by omega) hB'58.size (by simp) (by simp) fun px91 cx91 W91 o91 hg91 hb91=>?_
    refine zK _ _ (Zr hb91 hg91 o89'1 (by decide)) ?_
    have hB'59:=hB'58.trans hb91
    refine zl (.r [8] 14) 186 (fun zm zkv V=>∃ (i:Nat) (pq:Option Addr) (cq:Nat),zkv=[(0,.pointer (some ⟨bm,0,none⟩)),(2,.int .i64 tree),(3,.int .i64 fuel),(8,.pointer (some ⟨b1,0,none⟩)),(9,.pointer (some ⟨b2,0,none⟩)),(10,.slice (Vd aw 1 cw 5) (ts.length-1) (cw-1)),(11,.pointer (some ⟨b7,0,none⟩)),(12,.pointer (some ⟨b70,0,none⟩)),(15,.slice px91 ((t.way++[t.no]).length) cx91),(16,.slice pq i cq),(17,.int .i64 (↑i:Int))]∧zm=(Zn (inB l t.no))-((↑i:Int)).toNat∧Below W76.heap.size W76 V∧V.ownsRow W76.heap.size 239 5 (.slice pq i cq) i ((Yl l t px91 cx91 i).flatMap wtC)∧V.ownsRow W76.heap.size 3 1 (.slice px91 ((t.way++[t.no]).length) cx91) ((t.way++[t.no]).length) ((t.way++[t.no]).map (Value.int .i64))∧i≤(Zn (inB l t.no))) ⟨0,_,_,rfl,rfl,hB'59,World.ownsRow_nil _ _ _ _,o91,Nat.zero_le _⟩ ?_
    rintro _ _ W92 ⟨i,pq,cq,rfl,rfl,hB_92,hB_,o91,hi⟩ J92 hJ92 r92
    refine xl 5 ((k72'1.below hB_92).cell (i:=2) rfl) ?_
    refine xid 4 ((↑i:Int)<(↑(Zn (inB l t.no)):Int)) (fun hc93=>?_) (fun hc93=>?_)
    ·refine xl 7 ((k72'1.below hB_92).cell (i:=3) rfl) ?_
     have hv__hF87:=Zg (u76.own2 (Zh (Za (u73.own2 (u72.own2 (Za (Za (Zf hv_ hB'29.size) n70.below) n71.below) k70 (by decide)) k71 (by decide)) n74.below) hg75 hBl'19 (by decide)) k49'10 (by decide))
     refine xx 1 _ (Zn (inB l t.no)) i 1 (Strs.elem (V:=Qw l t.no) hv__hF87 (Ve _ _) (k:=i) (by omega)).1 ?_
     refine xl 0 ((Strs.elem (V:=Qw l t.no) (hv__hF87.below hB_92) (Ve _ _) (k:=i) (by omega)).2) ?_
     refine xr 0 (args:=#[.string ⟨((Qw l t.no).getD i []).toArray⟩]) (Gl ((Qw l t.no).getD i []) _ (Hq _ _ _)) fun W94 hb94=>?_
     refine xin 14 (Xw ((Qw l t.no).getD i [])) (0:Int) (fun hc95=>?_) (fun hc95=>?_)
     ·have hrt:=hc95
      have hB'60:=bln hB_92 hb94
      refine xl 4 ((k8_hF87.below hB'60).cell (i:=0) rfl) ?_
      refine xl 1 ((k8_hF87.below hB'60).cell (i:=3) rfl) ?_
      refine xbs 2 1 [.int .i64 t.no,.int .i64 0,.int .i64 0,.slice t.wa t.way.length t.wc,.int .i64 (Xw ((Qw l t.no).getD i []))] 239 fun b96 W96 n96=>?_
      have g96:=n96.ge hB'60
      have hB_'1:=Za hB_ hb94
      have r96_hB_:=Zp hB_'1 n96
      have hB_'2:=Za hB_'1 n96.below
      have hB'61:=bln hB'60 n96.below
      refine xbi 0 fun _ _ _ _ zJ zQ zo zx zy zK=>Zt (m:=1) (news:=[.int .i64 t.no,.int .i64 0,.int .i64 0,.slice t.wa t.way.length t.wc,.int .i64 (Xw ((Qw l t.no).getD i []))]) (.agg #[.int .i64 0,.int .i64 0,.int .i64 0,.slice none 0 0,.int .i64 0]) 5 56 (i+1) (((Yl l t px91 cx91 (i+1)).flatMap wtC)) zo Tryz.underlying240 (by kernel_rfl) rfl (by decide) zx hB_'2 zy (n96.blk.sl 1 1 (by decide) (by decide)) rfl (by simp[Value.oneCell']) (by unfold maxLen;omega) (by omega) hB'61.size (by rfl) (by rw[Jc,List.flatMap_append,show Vr l t px91 cx91 i=⟨t.no,0,0,t.way,Xw ((Qw l t.no).getD i []),t.wa,t.wc⟩ from by unfold Vr;rw[if_neg hrt]];rfl) fun px97 cx97 W97 o97 hg97 hb97=>?_
      refine zK _ _ ?_
      refine xwm 9 ((↑i:Int)+1) (↑(i+1):Int) ?_
      have hB'62:=hB'61.trans hb97
      have o91'1:=Zh (Za (Za o91 hb94) n96.below) hg97 hB_'2 (by decide)
      exact ze 2 (hJ92 _ _ _ ⟨i+1,_,_,rfl,rfl,hB'62,o97,o91'1,by omega⟩ (by omega))
     have hrt:=hc95
     have hB'63:=bln hB_92 hb94
     refine xlv 5 ((k8_hF87.below hB'63).rpp 1 2) ?_
     refine xl 1 ((k72'1.below hB'63).cell (i:=2) rfl) ?_
     have hkl:(Xu l t.no).length=(Zn (inB l t.no)):=Ym _ _
     have hci:=Cx (Hj hle).2.1 (i:=i) (by rw[hkl];omega)
     have hk_hF87:=Zg (u76.own2 hkq75 k49'10 (by decide))
     refine xr 1 (args:=#[.agg #[.int .i64 t.lo,.int .i64 t.hi],.slice kp (Zn (inB l t.no)) kc,.int .i64 (↑i:Int)]) ((Um t.lo t.hi (↑i:Int) _ (Xu l t.no) _ ⟨by omega,by omega⟩ (by rw[hkl];omega) (Ws (hk_hF87.below hB'63) hkl)).mono (fun _ _ h=>by rw[hci] at h;exact h)) fun W98 hb98=>?_
     refine xa 3 [.int .i64 0,.int .i64 0] 232 fun b99 W99 n99=>?_
     have hB'64:=bln hB'63 hb98
     have g99:=n99.ge hB'64
     refine xsv 0 n99.blk [.int .i64 ((Xa t.hi (Xu l t.no) i).1),.int .i64 ((Xa t.hi (Xu l t.no) i).2)] fun W100 u100 k100=>?_
     refine xlv 6 k100.rp ?_
     refine xbs 2 1 [.int .i64 (↑(Yz ((Qw l t.no).getD i [])):Int),.int .i64 ((Xa t.hi (Xu l t.no) i).1),.int .i64 ((Xa t.hi (Xu l t.no) i).2),.slice px91 ((t.way++[t.no]).length) cx91,.int .i64 0] 239 fun b101 W101 n101=>?_
     have hB'65:=u100.below (bln hB'64 n99.below) g99
     have g101:=n101.ge hB'65
     have hB_'3:=u100.own2 (Za (Za (Za hB_ hb94) hb98) n99.below) n99.blk (by decide)
     have r101_hB_:=Zp hB_'3 n101
     have hB_'4:=Za hB_'3 n101.below
     have hB'66:=bln hB'65 n101.below
     refine xbi 0 fun _ _ _ _ zJ zQ zo zx zy zK=>Zt (m:=1) (news:=[.int .i64 (↑(Yz ((Qw l t.no).getD i [])):Int),.int .i64 ((Xa t.hi (Xu l t.no) i).1),.int .i64 ((Xa t.hi (Xu l t.no) i).2),.slice px91 ((t.way++[t.no]).length) cx91,.int .i64 0]) (.agg #[.int .i64 0,.int .i64 0,.int .i64 0,.slice none 0 0,.int .i64 0]) 5 56 (i+1) (((Yl l t px91 cx91 (i+1)).flatMap wtC)) zo Tryz.underlying240 (by kernel_rfl) rfl (by decide) zx hB_'4 zy (n101.blk.sl 1 1 (by decide) (by decide)) rfl (by simp[Value.oneCell']) (by unfold maxLen;omega) (by omega) hB'66.size (by rfl) (by rw[Jc,List.flatMap_append,show Vr l t px91 cx91 i=⟨Yz ((Qw l t.no).getD i []),(Xa t.hi (Xu l t.no) i).1,(Xa t.hi (Xu l t.no) i).2,t.way++[t.no],0,px91,cx91⟩ from by unfold Vr;rw[if_pos hrt]];rfl) fun px102 cx102 W102 o102 hg102 hb102=>?_
     refine zK _ _ ?_
     refine xwm 6 ((↑i:Int)+1) (↑(i+1):Int) ?_
     have hB'67:=hB'66.trans hb102
     have o91'2:=Zh (Za (u100.own2 (Za (Za (Za o91 hb94) hb98) n99.below) n99.blk (by decide)) n101.below) hg102 hB_'4 (by decide)
     exact ze 2 (hJ92 _ _ _ ⟨i+1,_,_,rfl,rfl,hB'67,o102,o91'2,by omega⟩ (by omega))
    have hWs_hF87:=((((((((((hWs.below n7.below).updN u8 n7 rfl).only (Ze.of_upd (T:=[106]) u49 k5_b2'9 (by decide)) (by decide)).below hb50).below n70.below).below n71.below).only (Ze.of_upd (T:=[220]) u72 k70 (by decide)) (by decide)).only (Ze.of_upd (T:=[33]) u73 k71 (by decide)) (by decide)).below n74.below).only (Ze.of_grown (T:=[3]) hg75 hBl'19 (by decide)) (by decide)).only (Ze.of_upd (T:=[106]) u76 k49'10 (by decide)) (by decide)
    refine xbi 8 fun _ _ _ _ zJ zQ zo zx zy zK=>Zt (m:=(ts.length-1)) (news:=(r.flatMap wtC)) (.agg #[.int .i64 0,.int .i64 0,.int .i64 0,.slice none 0 0,.int .i64 0]) 5 56 ((Yl l t px91 cx91 (Zn (inB l t.no))++r).length) (((Yl l t px91 cx91 (Zn (inB l t.no))++r).flatMap wtC)) zo Tryz.underlying240 (by kernel_rfl) rfl (by decide) zx hB_ zy ((hWs_hF87.below hB_92).slN htr) (by rw[Ht Li,htl];rfl) (Zgp r) (by unfold maxLen;omega) (by omega) hB_92.size (by rw[List.length_append,Jb,htl];omega) (by rw[List.flatMap_append,show i=(Zn (inB l t.no)) by omega]) fun px103 cx103 W103 o103 hg103 hb103=>?_
    refine zK _ _ ?_
    have o91'3:=Zh o91 hg103 hB_ (by decide)
    have hApW:=(Kd.of_lt hBlF o91'3 (Nat.le_refl _)).symm
    have hB'68:=hB_92.trans hb103
    have hT104:Below W76.heap.size W76 W103:=hB'68
    have hs104:w.heap.size≤W76.heap.size:=hF87.size
    have o103'1:=Zf o103 hs104
    have hKt'27:=hKt'26.below hT104
    have o91'4:=Zf o91'3 hs104
    have hB:=bln hF87 hT104
    have k5_b1'14:=(u76.blk (((u73.blkT (u72.blkT ((((u49.blk (u8.blkT (k5_b1.below n7.below) n7.blk (by decide)) (Ne.symm (Ne.symm d2_b1))).below hb50).below n70.below).below n71.below) k70 (by decide)) k71 (by decide)).below n74.below).grown hg75 hBl'19 (by decide)) (Ne.symm (Ne.symm d2_b1))).below hT104
    have k76'1:=k76.below hT104
    have hEn'14:=Za (u76.own2 (Zh (Za (u73.own2 (u72.own2 (Za (Za (Za (u49.own2 (u8.own2 (Za hEn n7.below) n7.blk (by decide)) k5_b2'9 (by decide)) hb50) n70.below) n71.below) k70 (by decide)) k71 (by decide)) n74.below) hg75 hBl'19 (by decide)) k49'10 (by decide)) hT104
    have o75'5:=Za o75'4 hT104
    have hFl'30:=Za (u76.own2 (Zh (Za (u73.own3 (u72.own2 (Za hFl'26 n71.below) k70 (by decide)) r71_hFl) n74.below) hg75 hBl'19 (by decide)) k49'10 (by decide)) hT104
    have hI'14:=((((((((hI'6.below hb50).below n70.below).below n71.below).only (Ze.of_upd (T:=[220]) u72 k70 (by decide)) (by decide)).only (Ze.of_upd (T:=[33]) u73 k71 (by decide)) (by decide)).below n74.below).only (Ze.of_grown (T:=[3]) hg75 hBl'19 (by decide)) (by decide)).only (Ze.of_upd (T:=[106]) u76 k49'10 (by decide)) (by decide)).below hT104
    refine ze 3 (hJ5 _ _ _ ⟨{ s with looked:=s.looked+1,bs:=s.bs++[t.no] },(Yl l t px91 cx91 (Zn (inB l t.no))++r),pe,px75,pf,ce,cx75,cf,fv,px103,cx103,rfl,rfl,hB,k5_b1'14,k76'1,hEn'14,o75'5,hFl'30,(Bc.of o103'1 rfl),(Yd.below_visits hKt'27 o91'4 hApW),hI'14,hwo1.inner px91 cx91 hft hfs hle hlf,hfv⟩ ?_)
    show 20*(fuel.toNat-(s.looked+1))+(Yl l t px91 cx91 (Zn (inB l t.no))++r).length<20*(fuel.toNat-s.looked)+ts.length
    rw[List.length_append,Jb,htl]
    omega
   refine xbs 0 1 [.int .i64 t.no] 3 fun b105 W105 n105=>?_
   have hB'69:=bln hB n88.below
   have g105:=n105.ge hB'69
   have o88:=Xb (size:=1) (n:=0) n88.blk g88 rfl (by decide)
   have r105_o88:=Zp o88 n105
   have o88'1:=Za o88 n105.below
   have hB'70:=bln hB'69 n105.below
   refine ybi (.o [] 3) (.t W76.heap.size [3]) fun _ _ _ _ zJ zQ zo zx zy zK=>Zt (m:=t.way.length) (news:=(t.way.map (Value.int .i64))) (.int .i64 0) 1 8 (t.way.length) ((t.way.map (Value.int .i64))) zo Tryz.underlying31 (by kernel_rfl) rfl (by decide) zx o88'1 zy (hway0.below hB'70) (by simp) (Kn _) (by unfold maxLen;omega) (by omega) hB'70.size (by omega) (by rfl) fun px106 cx106 W106 o106 hg106 hb106=>?_
   refine zK _ _ (Zr hb106 hg106 o88'1 (by decide)) ?_
   have k105:=n105.blk.grown3 hg106 r105_o88
   have hB'71:=hB'70.trans hb106
   refine ybi (.o [] 7) (.t W76.heap.size [3]) fun _ _ _ _ zJ zQ zo zx zy zK=>Zt (m:=1) (news:=[.int .i64 t.no]) (.int .i64 0) 1 8 ((t.way++[t.no]).length) (((t.way++[t.no]).map (Value.int .i64))) zo Tryz.underlying31 (by kernel_rfl) rfl (by decide) zx o106 zy (k105.sl 1 1 (by decide) (by decide)) rfl (by simp[Value.oneCell']) (by unfold maxLen;omega) (by omega) hB'71.size (by simp) (by simp) fun px107 cx107 W107 o107 hg107 hb107=>?_
   refine zK _ _ (Zr hb107 hg107 o106 (by decide)) ?_
   have hB'72:=hB'71.trans hb107
   refine zl (.r [8] 14) 186 (fun zm zkv V=>∃ (i:Nat) (pq:Option Addr) (cq:Nat),zkv=[(0,.pointer (some ⟨bm,0,none⟩)),(2,.int .i64 tree),(3,.int .i64 fuel),(8,.pointer (some ⟨b1,0,none⟩)),(9,.pointer (some ⟨b2,0,none⟩)),(10,.slice (Vd aw 1 cw 5) (ts.length-1) (cw-1)),(11,.pointer (some ⟨b7,0,none⟩)),(12,.pointer (some ⟨b70,0,none⟩)),(15,.slice px107 ((t.way++[t.no]).length) cx107),(16,.slice pq i cq),(17,.int .i64 (↑i:Int))]∧zm=(Zn (inB l t.no))-((↑i:Int)).toNat∧Below W76.heap.size W76 V∧V.ownsRow W76.heap.size 239 5 (.slice pq i cq) i ((Yl l t px107 cx107 i).flatMap wtC)∧V.ownsRow W76.heap.size 3 1 (.slice px107 ((t.way++[t.no]).length) cx107) ((t.way++[t.no]).length) ((t.way++[t.no]).map (Value.int .i64))∧i≤(Zn (inB l t.no))) ⟨0,_,_,rfl,rfl,hB'72,World.ownsRow_nil _ _ _ _,o107,Nat.zero_le _⟩ ?_
   rintro _ _ W108 ⟨i,pq,cq,rfl,rfl,hB_108,hB_,o107,hi⟩ J108 hJ108 r108
   refine xl 5 ((k72'1.below hB_108).cell (i:=2) rfl) ?_
   refine xid 4 ((↑i:Int)<(↑(Zn (inB l t.no)):Int)) (fun hc109=>?_) (fun hc109=>?_)
   ·refine xl 7 ((k72'1.below hB_108).cell (i:=3) rfl) ?_
    have hv__hF87:=Zg (u76.own2 (Zh (Za (u73.own2 (u72.own2 (Za (Za (Zf hv_ hB'29.size) n70.below) n71.below) k70 (by decide)) k71 (by decide)) n74.below) hg75 hBl'19 (by decide)) k49'10 (by decide))
    refine xx 1 _ (Zn (inB l t.no)) i 1 (Strs.elem (V:=Qw l t.no) hv__hF87 (Ve _ _) (k:=i) (by omega)).1 ?_
    refine xl 0 ((Strs.elem (V:=Qw l t.no) (hv__hF87.below hB_108) (Ve _ _) (k:=i) (by omega)).2) ?_
    refine xr 0 (args:=#[.string ⟨((Qw l t.no).getD i []).toArray⟩]) (Gl ((Qw l t.no).getD i []) _ (Hq _ _ _)) fun W110 hb110=>?_
    refine xin 14 (Xw ((Qw l t.no).getD i [])) (0:Int) (fun hc111=>?_) (fun hc111=>?_)
    ·have hrt:=hc111
     have hB'73:=bln hB_108 hb110
     refine xl 4 ((k8_hF87.below hB'73).cell (i:=0) rfl) ?_
     refine xl 1 ((k8_hF87.below hB'73).cell (i:=3) rfl) ?_
     refine xbs 2 1 [.int .i64 t.no,.int .i64 0,.int .i64 0,.slice t.wa t.way.length t.wc,.int .i64 (Xw ((Qw l t.no).getD i []))] 239 fun b112 W112 n112=>?_
     have g112:=n112.ge hB'73
     have hB_'5:=Za hB_ hb110
     have r112_hB_:=Zp hB_'5 n112
     have hB_'6:=Za hB_'5 n112.below
     have hB'74:=bln hB'73 n112.below
     refine xbi 0 fun _ _ _ _ zJ zQ zo zx zy zK=>Zt (m:=1) (news:=[.int .i64 t.no,.int .i64 0,.int .i64 0,.slice t.wa t.way.length t.wc,.int .i64 (Xw ((Qw l t.no).getD i []))]) (.agg #[.int .i64 0,.int .i64 0,.int .i64 0,.slice none 0 0,.int .i64 0]) 5 56 (i+1) (((Yl l t px107 cx107 (i+1)).flatMap wtC)) zo Tryz.underlying240 (by kernel_rfl) rfl (by decide) zx hB_'6 zy (n112.blk.sl 1 1 (by decide) (by decide)) rfl (by simp[Value.oneCell']) (by unfold maxLen;omega) (by omega) hB'74.size (by rfl) (by rw[Jc,List.flatMap_append,show Vr l t px107 cx107 i=⟨t.no,0,0,t.way,Xw ((Qw l t.no).getD i []),t.wa,t.wc⟩ from by unfold Vr;rw[if_neg hrt]];rfl) fun px113 cx113 W113 o113 hg113 hb113=>?_
     refine zK _ _ ?_
     refine xwm 9 ((↑i:Int)+1) (↑(i+1):Int) ?_
     have hB'75:=hB'74.trans hb113
     have o107'1:=Zh (Za (Za o107 hb110) n112.below) hg113 hB_'6 (by decide)
     exact ze 2 (hJ108 _ _ _ ⟨i+1,_,_,rfl,rfl,hB'75,o113,o107'1,by omega⟩ (by omega))
    have hrt:=hc111
    have hB'76:=bln hB_108 hb110
    refine xlv 5 ((k8_hF87.below hB'76).rpp 1 2) ?_
    refine xl 1 ((k72'1.below hB'76).cell (i:=2) rfl) ?_
    have hkl:(Xu l t.no).length=(Zn (inB l t.no)):=Ym _ _
    have hci:=Cx (Hj hle).2.1 (i:=i) (by rw[hkl];omega)
    have hk_hF87:=Zg (u76.own2 hkq75 k49'10 (by decide))
    refine xr 1 (args:=#[.agg #[.int .i64 t.lo,.int .i64 t.hi],.slice kp (Zn (inB l t.no)) kc,.int .i64 (↑i:Int)]) ((Um t.lo t.hi (↑i:Int) _ (Xu l t.no) _ ⟨by omega,by omega⟩ (by rw[hkl];omega) (Ws (hk_hF87.below hB'76) hkl)).mono (fun _ _ h=>by rw[hci] at h;exact h)) fun W114 hb114=>?_
    refine xa 3 [.int .i64 0,.int .i64 0] 232 fun b115 W115 n115=>?_
    have hB'77:=bln hB'76 hb114
    have g115:=n115.ge hB'77
    refine xsv 0 n115.blk [.int .i64 ((Xa t.hi (Xu l t.no) i).1),.int .i64 ((Xa t.hi (Xu l t.no) i).2)] fun W116 u116 k116=>?_
    refine xlv 6 k116.rp ?_
    refine xbs 2 1 [.int .i64 (↑(Yz ((Qw l t.no).getD i [])):Int),.int .i64 ((Xa t.hi (Xu l t.no) i).1),.int .i64 ((Xa t.hi (Xu l t.no) i).2),.slice px107 ((t.way++[t.no]).length) cx107,.int .i64 0] 239 fun b117 W117 n117=>?_
    have hB'78:=u116.below (bln hB'77 n115.below) g115
    have g117:=n117.ge hB'78
    have hB_'7:=u116.own2 (Za (Za (Za hB_ hb110) hb114) n115.below) n115.blk (by decide)
    have r117_hB_:=Zp hB_'7 n117
    have hB_'8:=Za hB_'7 n117.below
    have hB'79:=bln hB'78 n117.below
    refine xbi 0 fun _ _ _ _ zJ zQ zo zx zy zK=>Zt (m:=1) (news:=[.int .i64 (↑(Yz ((Qw l t.no).getD i [])):Int),.int .i64 ((Xa t.hi (Xu l t.no) i).1),.int .i64 ((Xa t.hi (Xu l t.no) i).2),.slice px107 ((t.way++[t.no]).length) cx107,.int .i64 0]) (.agg #[.int .i64 0,.int .i64 0,.int .i64 0,.slice none 0 0,.int .i64 0]) 5 56 (i+1) (((Yl l t px107 cx107 (i+1)).flatMap wtC)) zo Tryz.underlying240 (by kernel_rfl) rfl (by decide) zx hB_'8 zy (n117.blk.sl 1 1 (by decide) (by decide)) rfl (by simp[Value.oneCell']) (by unfold maxLen;omega) (by omega) hB'79.size (by rfl) (by rw[Jc,List.flatMap_append,show Vr l t px107 cx107 i=⟨Yz ((Qw l t.no).getD i []),(Xa t.hi (Xu l t.no) i).1,(Xa t.hi (Xu l t.no) i).2,t.way++[t.no],0,px107,cx107⟩ from by unfold Vr;rw[if_pos hrt]];rfl) fun px118 cx118 W118 o118 hg118 hb118=>?_
    refine zK _ _ ?_
    refine xwm 6 ((↑i:Int)+1) (↑(i+1):Int) ?_
    have hB'80:=hB'79.trans hb118
    have o107'2:=Zh (Za (u116.own2 (Za (Za (Za o107 hb110) hb114) n115.below) n115.blk (by decide)) n117.below) hg118 hB_'8 (by decide)
    exact ze 2 (hJ108 _ _ _ ⟨i+1,_,_,rfl,rfl,hB'80,o118,o107'2,by omega⟩ (by omega))
   have hWs_hF87:=((((((((((hWs.below n7.below).updN u8 n7 rfl).only (Ze.of_upd (T:=[106]) u49 k5_b2'9 (by decide)) (by decide)).below hb50).below n70.below).below n71.below).only (Ze.of_upd (T:=[220]) u72 k70 (by decide)) (by decide)).only (Ze.of_upd (T:=[33]) u73 k71 (by decide)) (by decide)).below n74.below).only (Ze.of_grown (T:=[3]) hg75 hBl'19 (by decide)) (by decide)).only (Ze.of_upd (T:=[106]) u76 k49'10 (by decide)) (by decide)
   refine xbi 8 fun _ _ _ _ zJ zQ zo zx zy zK=>Zt (m:=(ts.length-1)) (news:=(r.flatMap wtC)) (.agg #[.int .i64 0,.int .i64 0,.int .i64 0,.slice none 0 0,.int .i64 0]) 5 56 ((Yl l t px107 cx107 (Zn (inB l t.no))++r).length) (((Yl l t px107 cx107 (Zn (inB l t.no))++r).flatMap wtC)) zo Tryz.underlying240 (by kernel_rfl) rfl (by decide) zx hB_ zy ((hWs_hF87.below hB_108).slN htr) (by rw[Ht Li,htl];rfl) (Zgp r) (by unfold maxLen;omega) (by omega) hB_108.size (by rw[List.length_append,Jb,htl];omega) (by rw[List.flatMap_append,show i=(Zn (inB l t.no)) by omega]) fun px119 cx119 W119 o119 hg119 hb119=>?_
   refine zK _ _ ?_
   have o107'3:=Zh o107 hg119 hB_ (by decide)
   have hApW:=(Kd.of_lt hBlF o107'3 (Nat.le_refl _)).symm
   have hB'81:=hB_108.trans hb119
   have hT120:Below W76.heap.size W76 W119:=hB'81
   have hs120:w.heap.size≤W76.heap.size:=hF87.size
   have o119'1:=Zf o119 hs120
   have hKt'28:=hKt'26.below hT120
   have o107'4:=Zf o107'3 hs120
   have hB:=bln hF87 hT120
   have k5_b1'15:=(u76.blk (((u73.blkT (u72.blkT ((((u49.blk (u8.blkT (k5_b1.below n7.below) n7.blk (by decide)) (Ne.symm (Ne.symm d2_b1))).below hb50).below n70.below).below n71.below) k70 (by decide)) k71 (by decide)).below n74.below).grown hg75 hBl'19 (by decide)) (Ne.symm (Ne.symm d2_b1))).below hT120
   have k76'2:=k76.below hT120
   have hEn'15:=Za (u76.own2 (Zh (Za (u73.own2 (u72.own2 (Za (Za (Za (u49.own2 (u8.own2 (Za hEn n7.below) n7.blk (by decide)) k5_b2'9 (by decide)) hb50) n70.below) n71.below) k70 (by decide)) k71 (by decide)) n74.below) hg75 hBl'19 (by decide)) k49'10 (by decide)) hT120
   have o75'6:=Za o75'4 hT120
   have hFl'31:=Za (u76.own2 (Zh (Za (u73.own3 (u72.own2 (Za hFl'26 n71.below) k70 (by decide)) r71_hFl) n74.below) hg75 hBl'19 (by decide)) k49'10 (by decide)) hT120
   have hI'15:=((((((((hI'6.below hb50).below n70.below).below n71.below).only (Ze.of_upd (T:=[220]) u72 k70 (by decide)) (by decide)).only (Ze.of_upd (T:=[33]) u73 k71 (by decide)) (by decide)).below n74.below).only (Ze.of_grown (T:=[3]) hg75 hBl'19 (by decide)) (by decide)).only (Ze.of_upd (T:=[106]) u76 k49'10 (by decide)) (by decide)).below hT120
   refine ze 3 (hJ5 _ _ _ ⟨{ s with looked:=s.looked+1,bs:=s.bs++[t.no] },(Yl l t px107 cx107 (Zn (inB l t.no))++r),pe,px75,pf,ce,cx75,cf,fv,px119,cx119,rfl,rfl,hB,k5_b1'15,k76'2,hEn'15,o75'6,hFl'31,(Bc.of o119'1 rfl),(Yd.below_visits hKt'28 o107'4 hApW),hI'15,hwo1.inner px107 cx107 hft hfs hle hlf,hfv⟩ ?_)
   show 20*(fuel.toNat-(s.looked+1))+(Yl l t px107 cx107 (Zn (inB l t.no))++r).length<20*(fuel.toNat-s.looked)+ts.length
   rw[List.length_append,Jb,htl]
   omega
  refine xbs 0 1 [.int .i64 t.no] 3 fun b121 W121 n121=>?_
  have g121:=n121.ge hB
  refine xb0 (.o [] 0) 3 fun b122 W122 n122=>?_
  have d122_b121:=n122.ne n121.blk
  have hB'82:=bln hB n121.below
  have g122:=n122.ge hB'82
  have o122:=Xb (size:=1) (n:=0) n122.blk g122 rfl (by decide)
  have hB'83:=bln hB'82 n122.below
  refine ybi (.o [] 3) (.t W76.heap.size [3]) fun _ _ _ _ zJ zQ zo zx zy zK=>Zt (m:=t.way.length) (news:=(t.way.map (Value.int .i64))) (.int .i64 0) 1 8 (t.way.length) ((t.way.map (Value.int .i64))) zo Tryz.underlying31 (by kernel_rfl) rfl (by decide) zx o122 zy (hway0.below hB'83) (by simp) (Kn _) (by unfold maxLen;omega) (by omega) hB'83.size (by omega) (by rfl) fun px123 cx123 W123 o123 hg123 hb123=>?_
  refine zK _ _ (Zr hb123 hg123 o122 (by decide)) ?_
  have k121'1:=(n121.blk.below n122.below).grown3 hg123 (fun j hj=>by obtain rfl:b122=j:=Option.some.inj hj;exact(Ne.symm d122_b121))
  have hB'84:=hB'83.trans hb123
  refine ybi (.o [] 7) (.t W76.heap.size [3]) fun _ _ _ _ zJ zQ zo zx zy zK=>Zt (m:=1) (news:=[.int .i64 t.no]) (.int .i64 0) 1 8 ((t.way++[t.no]).length) (((t.way++[t.no]).map (Value.int .i64))) zo Tryz.underlying31 (by kernel_rfl) rfl (by decide) zx o123 zy (k121'1.sl 1 1 (by decide) (by decide)) rfl (by simp[Value.oneCell']) (by unfold maxLen;omega) (by omega) hB'84.size (by simp) (by simp) fun px124 cx124 W124 o124 hg124 hb124=>?_
  refine zK _ _ (Zr hb124 hg124 o123 (by decide)) ?_
  have hB'85:=hB'84.trans hb124
  refine zl (.r [8] 14) 186 (fun zm zkv V=>∃ (i:Nat) (pq:Option Addr) (cq:Nat),zkv=[(0,.pointer (some ⟨bm,0,none⟩)),(2,.int .i64 tree),(3,.int .i64 fuel),(8,.pointer (some ⟨b1,0,none⟩)),(9,.pointer (some ⟨b2,0,none⟩)),(10,.slice (Vd aw 1 cw 5) (ts.length-1) (cw-1)),(11,.pointer (some ⟨b7,0,none⟩)),(12,.pointer (some ⟨b70,0,none⟩)),(15,.slice px124 ((t.way++[t.no]).length) cx124),(16,.slice pq i cq),(17,.int .i64 (↑i:Int))]∧zm=(Zn (inB l t.no))-((↑i:Int)).toNat∧Below W76.heap.size W76 V∧V.ownsRow W76.heap.size 239 5 (.slice pq i cq) i ((Yl l t px124 cx124 i).flatMap wtC)∧V.ownsRow W76.heap.size 3 1 (.slice px124 ((t.way++[t.no]).length) cx124) ((t.way++[t.no]).length) ((t.way++[t.no]).map (Value.int .i64))∧i≤(Zn (inB l t.no))) ⟨0,_,_,rfl,rfl,hB'85,World.ownsRow_nil _ _ _ _,o124,Nat.zero_le _⟩ ?_
  rintro _ _ W125 ⟨i,pq,cq,rfl,rfl,hB_125,hB_,o124,hi⟩ J125 hJ125 r125
  refine xl 5 ((k72'1.below hB_125).cell (i:=2) rfl) ?_
  refine xid 4 ((↑i:Int)<(↑(Zn (inB l t.no)):Int)) (fun hc126=>?_) (fun hc126=>?_)
  ·refine xl 7 ((k72'1.below hB_125).cell (i:=3) rfl) ?_
   have hv__hF87:=Zg (u76.own2 (Zh (Za (u73.own2 (u72.own2 (Za (Za (Zf hv_ hB'29.size) n70.below) n71.below) k70 (by decide)) k71 (by decide)) n74.below) hg75 hBl'19 (by decide)) k49'10 (by decide))
   refine xx 1 _ (Zn (inB l t.no)) i 1 (Strs.elem (V:=Qw l t.no) hv__hF87 (Ve _ _) (k:=i) (by omega)).1 ?_
   refine xl 0 ((Strs.elem (V:=Qw l t.no) (hv__hF87.below hB_125) (Ve _ _) (k:=i) (by omega)).2) ?_
   refine xr 0 (args:=#[.string ⟨((Qw l t.no).getD i []).toArray⟩]) (Gl ((Qw l t.no).getD i []) _ (Hq _ _ _)) fun W127 hb127=>?_
   refine xin 14 (Xw ((Qw l t.no).getD i [])) (0:Int) (fun hc128=>?_) (fun hc128=>?_)
   ·have hrt:=hc128
    have hB'86:=bln hB_125 hb127
    refine xl 4 ((k8_hF87.below hB'86).cell (i:=0) rfl) ?_
    refine xl 1 ((k8_hF87.below hB'86).cell (i:=3) rfl) ?_
    refine xbs 2 1 [.int .i64 t.no,.int .i64 0,.int .i64 0,.slice t.wa t.way.length t.wc,.int .i64 (Xw ((Qw l t.no).getD i []))] 239 fun b129 W129 n129=>?_
    have g129:=n129.ge hB'86
    have hB_'9:=Za hB_ hb127
    have r129_hB_:=Zp hB_'9 n129
    have hB_'10:=Za hB_'9 n129.below
    have hB'87:=bln hB'86 n129.below
    refine xbi 0 fun _ _ _ _ zJ zQ zo zx zy zK=>Zt (m:=1) (news:=[.int .i64 t.no,.int .i64 0,.int .i64 0,.slice t.wa t.way.length t.wc,.int .i64 (Xw ((Qw l t.no).getD i []))]) (.agg #[.int .i64 0,.int .i64 0,.int .i64 0,.slice none 0 0,.int .i64 0]) 5 56 (i+1) (((Yl l t px124 cx124 (i+1)).flatMap wtC)) zo Tryz.underlying240 (by kernel_rfl) rfl (by decide) zx hB_'10 zy (n129.blk.sl 1 1 (by decide) (by decide)) rfl (by simp[Value.oneCell']) (by unfold maxLen;omega) (by omega) hB'87.size (by rfl) (by rw[Jc,List.flatMap_append,show Vr l t px124 cx124 i=⟨t.no,0,0,t.way,Xw ((Qw l t.no).getD i []),t.wa,t.wc⟩ from by unfold Vr;rw[if_neg hrt]];rfl) fun px130 cx130 W130 o130 hg130 hb130=>?_
    refine zK _ _ ?_
    refine xwm 9 ((↑i:Int)+1) (↑(i+1):Int) ?_
    have hB'88:=hB'87.trans hb130
    have o124'1:=Zh (Za (Za o124 hb127) n129.below) hg130 hB_'10 (by decide)
    exact ze 2 (hJ125 _ _ _ ⟨i+1,_,_,rfl,rfl,hB'88,o130,o124'1,by omega⟩ (by omega))
   have hrt:=hc128
   have hB'89:=bln hB_125 hb127
   refine xlv 5 ((k8_hF87.below hB'89).rpp 1 2) ?_
   refine xl 1 ((k72'1.below hB'89).cell (i:=2) rfl) ?_
   have hkl:(Xu l t.no).length=(Zn (inB l t.no)):=Ym _ _
   have hci:=Cx (Hj hle).2.1 (i:=i) (by rw[hkl];omega)
   have hk_hF87:=Zg (u76.own2 hkq75 k49'10 (by decide))
   refine xr 1 (args:=#[.agg #[.int .i64 t.lo,.int .i64 t.hi],.slice kp (Zn (inB l t.no)) kc,.int .i64 (↑i:Int)]) ((Um t.lo t.hi (↑i:Int) _ (Xu l t.no) _ ⟨by omega,by omega⟩ (by rw[hkl];omega) (Ws (hk_hF87.below hB'89) hkl)).mono (fun _ _ h=>by rw[hci] at h;exact h)) fun W131 hb131=>?_
   refine xa 3 [.int .i64 0,.int .i64 0] 232 fun b132 W132 n132=>?_
   have hB'90:=bln hB'89 hb131
   have g132:=n132.ge hB'90
   refine xsv 0 n132.blk [.int .i64 ((Xa t.hi (Xu l t.no) i).1),.int .i64 ((Xa t.hi (Xu l t.no) i).2)] fun W133 u133 k133=>?_
   refine xlv 6 k133.rp ?_
   refine xbs 2 1 [.int .i64 (↑(Yz ((Qw l t.no).getD i [])):Int),.int .i64 ((Xa t.hi (Xu l t.no) i).1),.int .i64 ((Xa t.hi (Xu l t.no) i).2),.slice px124 ((t.way++[t.no]).length) cx124,.int .i64 0] 239 fun b134 W134 n134=>?_
   have hB'91:=u133.below (bln hB'90 n132.below) g132
   have g134:=n134.ge hB'91
   have hB_'11:=u133.own2 (Za (Za (Za hB_ hb127) hb131) n132.below) n132.blk (by decide)
   have r134_hB_:=Zp hB_'11 n134
   have hB_'12:=Za hB_'11 n134.below
   have hB'92:=bln hB'91 n134.below
   refine xbi 0 fun _ _ _ _ zJ zQ zo zx zy zK=>Zt (m:=1) (news:=[.int .i64 (↑(Yz ((Qw l t.no).getD i [])):Int),.int .i64 ((Xa t.hi (Xu l t.no) i).1),.int .i64 ((Xa t.hi (Xu l t.no) i).2),.slice px124 ((t.way++[t.no]).length) cx124,.int .i64 0]) (.agg #[.int .i64 0,.int .i64 0,.int .i64 0,.slice none 0 0,.int .i64 0]) 5 56 (i+1) (((Yl l t px124 cx124 (i+1)).flatMap wtC)) zo Tryz.underlying240 (by kernel_rfl) rfl (by decide) zx hB_'12 zy (n134.blk.sl 1 1 (by decide) (by decide)) rfl (by simp[Value.oneCell']) (by unfold maxLen;omega) (by omega) hB'92.size (by rfl) (by rw[Jc,List.flatMap_append,show Vr l t px124 cx124 i=⟨Yz ((Qw l t.no).getD i []),(Xa t.hi (Xu l t.no) i).1,(Xa t.hi (Xu l t.no) i).2,t.way++[t.no],0,px124,cx124⟩ from by unfold Vr;rw[if_pos hrt]];rfl) fun px135 cx135 W135 o135 hg135 hb135=>?_
   refine zK _ _ ?_
   refine xwm 6 ((↑i:Int)+1) (↑(i+1):Int) ?_
   have hB'93:=hB'92.trans hb135
   have o124'2:=Zh (Za (u133.own2 (Za (Za (Za o124 hb127) hb131) n132.below) n132.blk (by decide)) n134.below) hg135 hB_'12 (by decide)
   exact ze 2 (hJ125 _ _ _ ⟨i+1,_,_,rfl,rfl,hB'93,o135,o124'2,by omega⟩ (by omega))
  have hWs_hF87:=((((((((((hWs.below n7.below).updN u8 n7 rfl).only (Ze.of_upd (T:=[106]) u49 k5_b2'9 (by decide)) (by decide)).below hb50).below n70.below).below n71.below).only (Ze.of_upd (T:=[220]) u72 k70 (by decide)) (by decide)).only (Ze.of_upd (T:=[33]) u73 k71 (by decide)) (by decide)).below n74.below).only (Ze.of_grown (T:=[3]) hg75 hBl'19 (by decide)) (by decide)).only (Ze.of_upd (T:=[106]) u76 k49'10 (by decide)) (by decide)
  refine xbi 8 fun _ _ _ _ zJ zQ zo zx zy zK=>Zt (m:=(ts.length-1)) (news:=(r.flatMap wtC)) (.agg #[.int .i64 0,.int .i64 0,.int .i64 0,.slice none 0 0,.int .i64 0]) 5 56 ((Yl l t px124 cx124 (Zn (inB l t.no))++r).length) (((Yl l t px124 cx124 (Zn (inB l t.no))++r).flatMap wtC)) zo Tryz.underlying240 (by kernel_rfl) rfl (by decide) zx hB_ zy ((hWs_hF87.below hB_125).slN htr) (by rw[Ht Li,htl];rfl) (Zgp r) (by unfold maxLen;omega) (by omega) hB_125.size (by rw[List.length_append,Jb,htl];omega) (by rw[List.flatMap_append,show i=(Zn (inB l t.no)) by omega]) fun px136 cx136 W136 o136 hg136 hb136=>?_
  refine zK _ _ ?_
  have o124'3:=Zh o124 hg136 hB_ (by decide)
  have hApW:=(Kd.of_lt hBlF o124'3 (Nat.le_refl _)).symm
  have hB'94:=hB_125.trans hb136
  have hT137:Below W76.heap.size W76 W136:=hB'94
  have hs137:w.heap.size≤W76.heap.size:=hF87.size
  have o136'1:=Zf o136 hs137
  have hKt'29:=hKt'26.below hT137
  have o124'4:=Zf o124'3 hs137
  have hB:=bln hF87 hT137
  have k5_b1'16:=(u76.blk (((u73.blkT (u72.blkT ((((u49.blk (u8.blkT (k5_b1.below n7.below) n7.blk (by decide)) (Ne.symm (Ne.symm d2_b1))).below hb50).below n70.below).below n71.below) k70 (by decide)) k71 (by decide)).below n74.below).grown hg75 hBl'19 (by decide)) (Ne.symm (Ne.symm d2_b1))).below hT137
  have k76'3:=k76.below hT137
  have hEn'16:=Za (u76.own2 (Zh (Za (u73.own2 (u72.own2 (Za (Za (Za (u49.own2 (u8.own2 (Za hEn n7.below) n7.blk (by decide)) k5_b2'9 (by decide)) hb50) n70.below) n71.below) k70 (by decide)) k71 (by decide)) n74.below) hg75 hBl'19 (by decide)) k49'10 (by decide)) hT137
  have o75'7:=Za o75'4 hT137
  have hFl'32:=Za (u76.own2 (Zh (Za (u73.own3 (u72.own2 (Za hFl'26 n71.below) k70 (by decide)) r71_hFl) n74.below) hg75 hBl'19 (by decide)) k49'10 (by decide)) hT137
  have hI'16:=((((((((hI'6.below hb50).below n70.below).below n71.below).only (Ze.of_upd (T:=[220]) u72 k70 (by decide)) (by decide)).only (Ze.of_upd (T:=[33]) u73 k71 (by decide)) (by decide)).below n74.below).only (Ze.of_grown (T:=[3]) hg75 hBl'19 (by decide)) (by decide)).only (Ze.of_upd (T:=[106]) u76 k49'10 (by decide)) (by decide)).below hT137
  refine ze 3 (hJ5 _ _ _ ⟨{ s with looked:=s.looked+1,bs:=s.bs++[t.no] },(Yl l t px124 cx124 (Zn (inB l t.no))++r),pe,px75,pf,ce,cx75,cf,fv,px136,cx136,rfl,rfl,hB,k5_b1'16,k76'3,hEn'16,o75'7,hFl'32,(Bc.of o136'1 rfl),(Yd.below_visits hKt'29 o124'4 hApW),hI'16,hwo1.inner px124 cx124 hft hfs hle hlf,hfv⟩ ?_)
  show 20*(fuel.toNat-(s.looked+1))+(Yl l t px124 cx124 (Zn (inB l t.no))++r).length<20*(fuel.toNat-s.looked)+ts.length
  rw[List.length_append,Jb,htl]
  omega
 have hcE:=hc6
 refine xlv 7 k5_b2.rp ?_
 refine xsv 0 k5_b1 [.slice pe s.es.length ce,.slice pb s.bs.length cb,.int .i64 s.deep,.int .i64 (↑s.looked:Int),.slice pf fv.length cf] fun W138 u138 k138=>?_
 have g1:=n1.ge (Below.refl w.heap.size _)
 have hB'95:=u138.below hB_5 g1
 have hEn'17:=u138.own2 hEn k5_b1 (by decide)
 have hBl'20:=u138.own2 hBl k5_b1 (by decide)
 have hFl'33:=u138.own2 hFl k5_b1 (by decide)
 have hKi'1:=hKi.only (Ze.of_upd (T:=[106]) u138 k5_b1 (by decide)) (by decide)
 refine xec 3 k138 (.agg #[.slice pe s.es.length ce,.slice pb s.bs.length cb,.int .i64 s.deep,.int .i64 (↑s.looked:Int),.slice pf fv.length cf]) ?_
 obtain rfl:ts=[]:=by cases ts with
  | nil=>rfl
  | cons t r=>simp at hcE
 rw[hwo.nil]
 exact⟨pe,pb,pf,ce,cb,cf,fv,rfl,hB'95,hEn'17,hBl'20,hFl'33,hfv,hKi'1⟩
theorem ImgR.mono{B B' b:Nat}{p:Option Addr}{n c:Nat}{l:List UInt8}{w:World}(h:ImgR B b p n c l w)(hB:B'≤B):ImgR B' b p n c l w:=⟨h.blk,Zf h.row hB,h.hn⟩
theorem image_OfR(a:Option Addr)(c n m:Nat)(l:List UInt8)(w:World)(hn:l.length=n)(hm:min (n/256) 14400*256=m)(h:Bys w (.slice a n c) l)(hl:n≤100000000)(hc:n≤c) :
 Calls Tryz.prog 9 #[.slice a n c] w (Vx (fun w' r=>∃ b p c2,r=.pointer (some ⟨b,0,none⟩)∧w.heap.size≤b∧ImgR w.heap.size b p m c2 (l.take m) w') w):=by
 subst hn hm
 refine(Zcb a c l w h hl hc).mono ?_
 rintro e W ⟨_,rfl,hb,b,p,c2,rfl,h1,h2,h3⟩
 exact⟨_,rfl,hb,b,p,c2,rfl,h1,h2,h3,by omega⟩
theorem Rg(l:List UInt8)(tree fuel:Int):∀ (d:Nat) (way:List Int) (no lo hi:Int) (s:WS),way.length+d≤20→(∀ f∈s.fs,f.1.length≤40)→∀ f∈(Zy l tree fuel d way no lo hi s).fs,f.1.length≤40
 | 0,_,_,_,_,s,_,h=>h
 | d+1,way,no,lo,hi,s,hw,h=>by
  have hnote:∀ (c:Int) (s:WS),(∀ f∈s.fs,f.1.length≤40)→∀ f∈(Yh way [no] c s).fs,f.1.length≤40:=by
   intro c s h f hf
   simp only[Yh,List.mem_append,List.mem_singleton] at hf
   rcases hf with hf|rfl
   ·exact h f hf
   ·simp;omega
  unfold Zy
  split
  ·exact hnote _ _ h
  ·split
   ·exact hnote _ _ h
   ·split
    ·exact h
    ·refine Nz (V:=Zy l tree fuel d) (l:=l) (way:=way) (no:=no) (hi:=hi) (s:={ s with looked:=s.looked+1,bs:=s.bs++[no] }) (fun _ t=>∀ f∈t.fs,f.1.length≤40) h (Zn (inB l no)) ?_ fun _ _ _ _ q=>q
     intro i t _ _ q
     unfold Ja
     split
     ·exact Rg l tree fuel d (way++[no]) _ _ _ t (by simp;omega) q
     ·exact hnote _ _ q
theorem Oc(l:List UInt8)(root tree fuel:Int):∀ f∈(Zd l root tree fuel).fs,f.1.length≤40:=Rg l tree fuel 17 [] root _ _ ws0 (by decide) (by simp[ws0])
theorem Eo{α:Type}{l:List α}{d:α}{i:Nat}(h:i<l.length):l.getD i d∈l:=by simp[List.getD,h]
theorem Ha.at{w:World}:∀ {fs:List (List Int×Int)} {vs:List Value},Ha w fs vs→∀ {j:Nat},j<fs.length→∃ ty x,vs[j]? = some (.iface ty x)∧Vu w ((fs.getD j ([],0)).1.map some) (some (fs.getD j ([],0)).2) (.iface ty x)
 | f::r,v::q,h,0,_=>by
  obtain⟨ty,x,rfl⟩:=h.1.iface
  exact⟨ty,x,rfl,h.1⟩
 | f::r,v::q,h,j+1,hj=>by
  obtain⟨ty,x,h1,h2⟩:=h.2.at (j:=j) (by simpa using hj)
  exact⟨ty,x,by simpa using h1,by simpa using h2⟩
 | [],_,_,j,hj=>absurd hj (by simp)
 | _::_,[],h,_,_=>h.elim
theorem Sl.elem1{w:World}{b:Option Addr}{n c:Nat}{xs:List Value}(h:Sl w (.slice b n c) n xs){j:Nat}{x:Value}(hj:xs[j]? = some x):b.isSome=true∧w.cell? (Xi b (j*1))=some x:=by rw[Nat.mul_one];exact Sl.elem h hj
theorem Tw(l:List Int):Vi (l.map some)=l:=by unfold Vi;simp[List.filterMap_map]
theorem Tf(l:List UInt8)(root tree fuel:Int):(Zd l root tree fuel).looked≤fuel.toNat∧(Zd l root tree fuel).bs.length≤(Zd l root tree fuel).looked∧(∀ x∈(Zd l root tree fuel).es,InBlk l tree x) ∧
 (Zd l root tree fuel).es.Pairwise (fun x y=>x.1<y.1)∧∀ f∈(Zd l root tree fuel).fs,f.1≠[]∧f.1.getD 0 0=root:=by
 obtain⟨es,fs,h⟩:=Wy l root tree fuel
 have h1:(Zd l root tree fuel).es=es:=by rw[h.esE];rfl
 have h2:(Zd l root tree fuel).fs=fs:=by rw[h.fsE];rfl
 have h3:=h.blks
 refine⟨Bb _ _ _ _,by simpa [ws0] using h3,fun x hx=>h.inb x (h1▸hx),by rw[h1];exact h.rise.1,fun f hf=>?_⟩
 obtain⟨q1,q2,_⟩:=h.flt f (h2▸hf)
 refine⟨q2,?_⟩
 cases e:f.1 with
 | nil=>exact absurd e q2
 | cons a r=>rw[e] at q1;simpa using q1
theorem Za5(l:List Int)(c:Int):Lr (l.map some) (some c)=c:=by simp[Lr,Nb]
def ft0:Ft:=⟨[],0,none,0⟩
structure WalkS(t:WS)(pe pb pf:Option Addr)(ce cb cf:Nat)(fv:List Value)(w:World):Prop where
 ents:Sts Ky w (.slice pe t.es.length ce) t.es
 blks:Ints w (.slice pb t.bs.length cb) t.bs
 flts:Sl w (.slice pf t.fs.length cf) t.fs.length fv
 fltv:Ha w t.fs fv
theorem WalkS.below{t:WS}{pe pb pf:Option Addr}{ce cb cf:Nat}{fv:List Value}{w W:World}(h:WalkS t pe pb pf ce cb cf fv w)(hb:Below w.heap.size w W):WalkS t pe pb pf ce cb cf fv W :=
 ⟨Sl.below h.ents hb,Sl.below h.blks hb,Sl.below h.flts hb,h.fltv.below hb⟩
structure RWalkS(t:WS)(pe pb pf:Option Addr)(ce cb cf:Nat)(fv:List Ft)(w:World):Prop where
 ents:Sts Ky w (.slice pe t.es.length ce) t.es
 blks:Ints w (.slice pb t.bs.length cb) t.bs
 flts:Sts Ar w (.slice pf fv.length cf) fv
 map:fv.map fltP=t.fs
 kept:∀ f∈fv,Ints w (.slice f.fa f.bl.length f.fc) f.bl
theorem RWalkS.below{t:WS}{pe pb pf:Option Addr}{ce cb cf:Nat}{fv:List Ft}{w W:World}(h:RWalkS t pe pb pf ce cb cf fv w)(hb:Below w.heap.size w W):RWalkS t pe pb pf ce cb cf fv W :=
 ⟨Sl.below h.ents hb,Sl.below h.blks hb,Sl.below h.flts hb,h.map,fun f hf=>Sl.below (h.kept f hf) hb⟩
theorem RWalkS.at_{t:WS}{pe pb pf:Option Addr}{ce cb cf:Nat}{fv:List Ft}{w:World}(h:RWalkS t pe pb pf ce cb cf fv w){i:Nat}(hi:i<fv.length):t.fs.getD i ([],0)=((fv.getD i ft0).bl,(fv.getD i ft0).c):=by
 rw[←h.map];simp[List.getD,hi,fltP]
theorem RWalkS.len{t:WS}{pe pb pf:Option Addr}{ce cb cf:Nat}{fv:List Ft}{w:World}(h:RWalkS t pe pb pf ce cb cf fv w):fv.length=t.fs.length:=by rw[←h.map];simp
def eL (S:WS):List (Option Int):=if S.fs=[] then [] else(S.fs.getD 0 ([],0)).1.map some
def eT (S:WS):Option Int:=if S.fs=[] then none else some (S.fs.getD 0 ([],0)).2
def Ss(S:WS):WS:=if S.fs=[] then S else ws0
def Xo(S:WS):List Int×Int:=if S.fs=[] then([],0) else S.fs.getD 0 ([],0)
def FirstP(fs:List (List Int×Int))(w:World)(e:Ending)(w':World):Prop :=
 (fs=[]∧e=.returned .nilIface∧Below w.heap.size w w')∨(fs≠[]∧∃ ty x,e=.returned (.iface ty x)∧Below w.heap.size w w'∧Vu w' ((fs.getD 0 ([],0)).1.map some) (some (fs.getD 0 ([],0)).2) (.iface ty x))
theorem Cb(p:Option Addr)(n c:Nat)(fv:List Value)(ty:TypeId)(x:Value)(w:World)(hn:0<n)(hS:Sl w (.slice p n c) n fv)(hx:fv[0]? = some (.iface ty x)) :
 Calls Tryz.prog 69 #[.slice p n c] w (Ret (.iface ty x) w):=by
 refine zin 15 Tryz.func69 ?_
 refine xu 14 1 ?_
 refine xk 6 (show(decide ((0:Int)<(↑n:Int)):Bool)=true from decide_eq_true (by omega)) ?_
 refine xx 6 _ n 0 1 (Sl.elem1 hS hx).1 ?_
 refine xl 0 ((Sl.elem1 hS hx).2) ?_
 exact xe 22 (.iface ty (x)) ⟨rfl,(Below.refl w.heap.size _)⟩
theorem Ce(p:Option Addr)(c:Nat)(w:World) :
 Calls Tryz.prog 69 #[.slice p 0 c] w (Ret .nilIface w):=by
 refine zin 15 Tryz.func69 ?_
 refine xu 14 1 ?_
 exact xe 18 .nilIface ⟨rfl,(Below.refl w.heap.size _)⟩
theorem Aw(p:Option Addr)(n c:Nat)(fs:List (List Int×Int))(fv:List Value)(w:World)(hn:fs.length=n)(hS:Sl w (.slice p n c) n fv)(hF:Ha w fs fv):Calls Tryz.prog 69 #[.slice p n c] w (FirstP fs w):=by
 subst hn
 match fs,hS,hF with
 | [],hS,hF =>
  refine(Ce p c w).mono ?_
  rintro e W ⟨rfl,hb⟩
  exact .inl ⟨rfl,rfl,hb⟩
 | f::r,hS,hF =>
  obtain⟨ty,x,h1,h2⟩:=hF.at (j:=0) (by simp)
  refine(Cb p _ c fv ty x w (by simp) hS h1).mono ?_
  rintro e W ⟨rfl,hb⟩
  exact .inr ⟨by simp,ty,x,rfl,hb,h2.below hb⟩
theorem WalkV.mono{B B':Nat}{t:WS}{pe pb pf:Option Addr}{ce cb cf:Nat}{fv:List Value}{w:World}(h:WalkV B t pe pb pf ce cb cf fv w)(hB:B'≤B):WalkV B' t pe pb pf ce cb cf fv w:=⟨Zf h.ents hB,Zf h.blks hB,Zf h.flts hB,h.fltv⟩
theorem WalkV.below{B:Nat}{t:WS}{pe pb pf:Option Addr}{ce cb cf:Nat}{fv:List Value}{w W:World}(h:WalkV B t pe pb pf ce cb cf fv w)(hb:Below w.heap.size w W):WalkV B t pe pb pf ce cb cf fv W:=⟨Za h.ents hb,Za h.blks hb,Za h.flts hb,h.fltv.below hb⟩
theorem WalkV.only{B:Nat}{T:List TypeId}{t:WS}{pe pb pf:Option Addr}{ce cb cf:Nat}{fv:List Value}{w W:World}(h:WalkV B t pe pb pf ce cb cf fv w)(hO:Ze T w W)(hT:T.contains 74=false∧T.contains 3=false∧T.contains 26=false∧T.contains 182=false):WalkV B t pe pb pf ce cb cf fv W:=⟨Zl h.ents hO hT.1,Zl h.blks hO hT.2.1,Zl h.flts hO hT.2.2.1,h.fltv.only hO hT.2.2.2⟩
structure RWalkV(B:Nat)(t:WS)(pe pb pf:Option Addr)(ce cb cf:Nat)(fv:List Ft)(w:World):Prop where
 ents:w.ownsRow B 74 3 (.slice pe t.es.length ce) t.es.length (t.es.flatMap Ky)
 blks:w.ownsRow B 3 1 (.slice pb t.bs.length cb) t.bs.length (t.bs.map (Value.int .i64))
 flts:w.ownsRow B 33 2 (.slice pf fv.length cf) fv.length (fv.flatMap Ar)
 map:fv.map fltP=t.fs
 kept:∀ f∈fv,Vc B w f.fa f.fc f.bl
theorem RWalkV.s{B:Nat}{t:WS}{pe pb pf:Option Addr}{ce cb cf:Nat}{fv:List Ft}{w:World}(h:RWalkV B t pe pb pf ce cb cf fv w):RWalkS t pe pb pf ce cb cf fv w:=⟨Zg h.ents,Zg h.blks,Zg h.flts,h.map,fun f hf=>(h.kept f hf).ints⟩
theorem RWalkV.mono{B B':Nat}{t:WS}{pe pb pf:Option Addr}{ce cb cf:Nat}{fv:List Ft}{w:World}(h:RWalkV B t pe pb pf ce cb cf fv w)(hB:B'≤B):RWalkV B' t pe pb pf ce cb cf fv w:=⟨Zf h.ents hB,Zf h.blks hB,Zf h.flts hB,h.map,fun f hf=>(h.kept f hf).mono hB⟩
theorem RWalkV.below{B:Nat}{t:WS}{pe pb pf:Option Addr}{ce cb cf:Nat}{fv:List Ft}{w W:World}(h:RWalkV B t pe pb pf ce cb cf fv w)(hb:Below w.heap.size w W):RWalkV B t pe pb pf ce cb cf fv W:=⟨Za h.ents hb,Za h.blks hb,Za h.flts hb,h.map,fun f hf=>(h.kept f hf).below hb⟩
theorem RWalkV.only{B:Nat}{T:List TypeId}{t:WS}{pe pb pf:Option Addr}{ce cb cf:Nat}{fv:List Ft}{w W:World}(h:RWalkV B t pe pb pf ce cb cf fv w)(hO:Ze T w W)(hT:T.contains 74=false∧T.contains 3=false∧T.contains 33=false):RWalkV B t pe pb pf ce cb cf fv W:=⟨Zl h.ents hO hT.1,Zl h.blks hO hT.2.1,Zl h.flts hO hT.2.2,h.map,fun f hf=>(h.kept f hf).only hO hT.2.1⟩
theorem RWalkV.updF{B b:Nat}{cs:List Value}{t:WS}{pe pb pf:Option Addr}{ce cb cf:Nat}{fv:List Ft}{w W:World}(h:RWalkV B t pe pb pf ce cb cf fv w)(u:Upd w b W)(k:Blk w b cs 33)(hs:∀ j,(Value.slice pf fv.length cf).ownBlock=some j→j≠b):RWalkV B t pe pb pf ce cb cf fv W :=
 ⟨u.own2 h.ents k (by decide),u.own2 h.blks k (by decide),u.own3 h.flts hs,h.map,fun f hf=>u.own2 (h.kept f hf) k (by decide)⟩
theorem WalkV.s{B:Nat}{t:WS}{pe pb pf:Option Addr}{ce cb cf:Nat}{fv:List Value}{w:World}(h:WalkV B t pe pb pf ce cb cf fv w):WalkS t pe pb pf ce cb cf fv w:=⟨Zg h.ents,Zg h.blks,Zg h.flts,h.fltv⟩
theorem WalkV.zero(B:Nat)(w:World):WalkV B ws0 none none none 0 0 0 [] w:=⟨World.ownsRow_nil _ _ _ _,World.ownsRow_nil _ _ _ _,World.ownsRow_nil _ _ _ _,trivial⟩
theorem RWalkV.zero(B:Nat)(w:World):RWalkV B ws0 none none none 0 0 0 [] w:=⟨World.ownsRow_nil _ _ _ _,World.ownsRow_nil _ _ _ _,World.ownsRow_nil _ _ _ _,rfl,fun _ h=>by cases h⟩
theorem Hy{S:WS}(h:S.fs=[]):Ss S=S∧Xo S=([],0)∧eL S=[]∧eT S=none:=by unfold Ss Xo eL eT;simp[h]
theorem Qe{S:WS}(h:S.fs≠[]):Ss S=ws0∧Xo S=S.fs.getD 0 ([],0)∧eL S=(S.fs.getD 0 ([],0)).1.map some∧eT S=some (S.fs.getD 0 ([],0)).2:=by unfold Ss Xo eL eT;simp[h]
def WholeP(S:WS)(w:World)(e:Ending)(w':World):Prop:=∃ t pe pb pf ce cb cf fv v,t=Ss S∧e=.returned (.tuple #[.agg (walkC t pe pb pf ce cb cf).toArray,v])∧Below w.heap.size w w'∧WalkV w.heap.size t pe pb pf ce cb cf fv w'∧Vu w' (eL S) (eT S) v
def rwalkC(t:WS)(pe pb pf:Option Addr)(n ce cb cf:Nat):List Value:=[.slice pe t.es.length ce,.slice pb t.bs.length cb,.int .i64 t.deep,.int .i64 (t.looked:Int),.slice pf n cf]
def RWholeP(S:WS)(w:World)(e:Ending)(w':World):Prop:=∃ t pe pb pf ce cb cf fv a c,t=Ss S∧e=.returned (.tuple #[.agg (rwalkC t pe pb pf fv.length ce cb cf).toArray,.agg #[.slice a (Xo S).1.length c,.int .i64 (Xo S).2]])∧Below w.heap.size w w'∧RWalkV w.heap.size t pe pb pf ce cb cf fv w'∧Vc w.heap.size w' a c (Xo S).1
theorem Zbs(Bi b:Nat)(pi:Option Addr)(ni ci:Nat)(l:List UInt8)(root tree fuel:Int)(w:World)(hfu:fuel≤1000)(hI:ImgR Bi b pi ni ci l w) :
 Calls Tryz.prog 30 #[.pointer (some ⟨b,0,none⟩),.int .i64 root,.int .i64 tree,.int .i64 fuel] w (WholeP (Zd l root tree fuel) w):=by
 refine zin 25 Tryz.func30 ?_
 refine xa 2 [.slice none 0 0,.slice none 0 0,.int .i64 0,.int .i64 0,.slice none 0 0] 87 fun b1 W1 n1=>?_
 have hsz:=n1.below.size
 refine xc 9 (args:=#[.pointer (some ⟨b,0,none⟩),.int .i64 root,.int .i64 tree,.int .i64 fuel]) (walk_Scan Bi b pi ni ci l root tree fuel _ hfu (hI.below n1.below)) ?_
 rintro _ W2 ⟨pe,pb,pf,ce,cb,cf,fv,rfl,hb2,hW0⟩
 have hW:=hW0.mono hsz
 refine xa 0 [.slice none 0 0,.slice none 0 0,.int .i64 0,.int .i64 0,.slice none 0 0] 87 fun b3 W3 n3=>?_
 have k1:=n1.blk.below hb2
 have d3_b1:=n3.ne k1
 have hB'1:=bln n1.below hb2
 have g3:=n3.ge hB'1
 refine xsv 0 n3.blk [.slice pe ((Zd l root tree fuel).es.length) ce,.slice pb ((Zd l root tree fuel).bs.length) cb,.int .i64 ((Zd l root tree fuel).deep),.int .i64 (↑(Zd l root tree fuel).looked:Int),.slice pf ((Zd l root tree fuel).fs.length) cf] fun W4 u4 k4=>?_
 refine xb 6 4 k4 ?_
 have hW'1:=(hW.below n3.below).only (Ze.of_upd (T:=[87]) u4 n3.blk (by decide)) (by decide)
 refine xc 0 (args:=#[.slice pf ((Zd l root tree fuel).fs.length) cf]) (Aw pf _ cf (Zd l root tree fuel).fs fv _ rfl (Zg hW'1.flts) hW'1.fltv) ?_
 rintro e W5 hq5
 rcases hq5 with ⟨hz,rfl,hb5⟩|⟨hz,ty,x,rfl,hb5,hv⟩
 ·have hwo:=Hy hz
  have k4'1:=k4.below hb5
  refine xlv 14 k4'1.rp ?_
  have k1'1:=(u4.blk (k1.below n3.below) (Ne.symm (Ne.symm d3_b1))).below hb5
  refine xsv 0 k1'1 [.slice pe ((Zd l root tree fuel).es.length) ce,.slice pb ((Zd l root tree fuel).bs.length) cb,.int .i64 ((Zd l root tree fuel).deep),.int .i64 (↑(Zd l root tree fuel).looked:Int),.slice pf ((Zd l root tree fuel).fs.length) cf] fun W6 u6 k6=>?_
  have g1:=n1.ge (Below.refl w.heap.size _)
  have hB'2:=u6.below (bln (u4.below (bln hB'1 n3.below) g3) hb5) g1
  have hW'2:=(hW'1.below hb5).only (Ze.of_upd (T:=[87]) u6 k1'1 (by decide)) (by decide)
  exact xec 4 k6 (.tuple #[.agg #[.slice pe ((Zd l root tree fuel).es.length) ce,.slice pb ((Zd l root tree fuel).bs.length) cb,.int .i64 ((Zd l root tree fuel).deep),.int .i64 (↑(Zd l root tree fuel).looked:Int),.slice pf ((Zd l root tree fuel).fs.length) cf],.nilIface]) ⟨_,pe,pb,pf,ce,cb,cf,fv,_,rfl,by rw[hwo.1];rfl,hB'2,by rw[hwo.1];exact hW'2,by rw[hwo.2.2.1,hwo.2.2.2];rfl⟩
 have hwo:=Qe hz
 have k1'2:=(u4.blk (k1.below n3.below) (Ne.symm (Ne.symm d3_b1))).below hb5
 refine xsv 14 k1'2 [.slice none 0 0,.slice none 0 0,.int .i64 0,.int .i64 0,.slice none 0 0] fun W7 u7 k7=>?_
 have g1:=n1.ge (Below.refl w.heap.size _)
 have hB'3:=u7.below (bln (u4.below (bln hB'1 n3.below) g3) hb5) g1
 have hv'1:=hv.upd u7 k1'2 (by decide)
 exact xec 5 k7 (.tuple #[.agg #[.slice none 0 0,.slice none 0 0,.int .i64 0,.int .i64 0,.slice none 0 0],.iface ty (x)]) ⟨_,none,none,none,0,0,0,[],_,rfl,by rw[hwo.1];rfl,hB'3,by rw[hwo.1];exact WalkV.zero _ _,by rw[hwo.2.2.1,hwo.2.2.2];exact hv'1⟩
theorem Zc2.s{S:WS}{w:World}{e:Ending}{w':World}(h:Zc2 S w e w'):∃ (pe pb pf:Option Addr) (ce cb cf:Nat) (fv:List Ft),e=.returned (.agg (rwalkC S pe pb pf fv.length ce cb cf).toArray)∧Below w.heap.size w w'∧RWalkV w.heap.size S pe pb pf ce cb cf fv w':=by
 obtain⟨pe,pb,pf,ce,cb,cf,fv,rfl,hb,h1,h2,h3,h4,h5⟩:=h
 exact⟨pe,pb,pf,ce,cb,cf,fv,rfl,hb,h1,h2,h3,h4,fun f hf=>(h5 (fltK f) (List.mem_map_of_mem hf)).1⟩
theorem RWalkS.first{t:WS}{pe pb pf:Option Addr}{ce cb cf:Nat}{fv:List Ft}{w:World}(h:RWalkS t pe pb pf ce cb cf fv w)(hi:0<fv.length):Xo t=((fv.getD 0 ft0).bl,(fv.getD 0 ft0).c)∧t.fs≠[]:=by
 have h1:=h.at_ hi
 have hz:t.fs≠[]:=by intro q;have:=h.len;rw[q,List.length_nil] at this;omega
 exact⟨by rw[(Qe hz).2.1,h1],hz⟩
theorem RWalkS.none{t:WS}{pe pb pf:Option Addr}{ce cb cf:Nat}{fv:List Ft}{w:World}(h:RWalkS t pe pb pf ce cb cf fv w)(hi:¬ 0<fv.length):t.fs=[]:=by
 have:=h.len;exact List.length_eq_zero_iff.1 (by omega)
theorem Oj(B bm:Nat)(p:Option Addr)(k c:Nat)(l:List UInt8)(root tree fuel:Int)(w:World)(hfu:fuel≤1000)(hI:RefI B bm p k c l w) :
 Calls Tryz.prog 35 #[.pointer (some ⟨bm,0,none⟩),.int .i64 root,.int .i64 tree,.int .i64 fuel] w (RWholeP (Zd l root tree fuel) w):=by
 refine zin 27 Tryz.func35 ?_
 refine xa 2 [.slice none 0 0,.slice none 0 0,.int .i64 0,.int .i64 0,.slice none 0 0] 106 fun b1 W1 n1=>?_
 refine xa 0 [.slice none 0 0,.int .i64 0] 33 fun b2 W2 n2=>?_
 have hB:=bln n1.below n2.below
 have hsz:=hB.size
 have hltF:=n2.blk.lt
 refine xc 8 (args:=#[.pointer (some ⟨bm,0,none⟩),.int .i64 root,.int .i64 tree,.int .i64 fuel]) ((Zer B bm p k c l root tree fuel _ (hI.below hB) hfu).mono (fun _ _ h=>Zc2.s h)) ?_
 rintro _ W3 ⟨pe,pb,pf,ce,cb,cf,fv,rfl,hb3,hQ0⟩
 have hsF:∀ j,(Value.slice pf fv.length cf).ownBlock=some j→j≠b2:=fun j hj=>by have q:=(hQ0.flts.lt j hj).1;omega
 have hQ:=hQ0.mono hsz
 refine xa 0 [.slice none 0 0,.slice none 0 0,.int .i64 0,.int .i64 0,.slice none 0 0] 106 fun b4 W4 n4=>?_
 have k1:=(n1.blk.below n2.below).below hb3
 have d4_b1:=n4.ne k1
 have hB'1:=bln hB hb3
 have g4:=n4.ge hB'1
 refine xsv 0 n4.blk [.slice pe ((Zd l root tree fuel).es.length) ce,.slice pb ((Zd l root tree fuel).bs.length) cb,.int .i64 ((Zd l root tree fuel).deep),.int .i64 (↑(Zd l root tree fuel).looked:Int),.slice pf fv.length cf] fun W5 u5 k5=>?_
 refine xb 6 4 k5 ?_
 refine xid 4 ((↑fv.length:Int)>(0:Int)) (fun hc6=>?_) (fun hc6=>?_)
 ·refine xd 1 (.t w.heap.size [106,33]) ?_
  refine xm2 (.b [0,1]) 2 5 ?_ ?_
  ·have k5'1:=k5.below (Zb W5)
   refine xb 0 4 k5'1 ?_
   have hQ'1:=((hQ.below n4.below).only (Ze.of_upd (T:=[106]) u5 n4.blk (by decide)) (by decide)).below (Zb W5)
   refine xx (.e [] 3) _ fv.length 0 2 (Sts.cell (Zg hQ'1.flts) Nx ft0 (k:=0) (i:=0) (by omega) rfl).1 ?_
   refine xm2 0 4 5 ?_ ?_
   ·refine xlv 0 (Sts.rp (k:=0) (Zg hQ'1.flts) Nx ft0 (by omega) (by decide)) ?_
    have k1'1:=(u5.blk (k1.below n4.below) (Ne.symm (Ne.symm d4_b1))).below (Zb W5)
    have g1:=n1.ge (Below.refl w.heap.size _)
    refine ysv (.o [] 5) k1'1 [.slice none 0 0,.slice none 0 0,.int .i64 0,.int .i64 0,.slice none 0 0] (.t w.heap.size [106,33]) fun W7 u7 k7=>⟨(Zm u7 k1'1 g1 (by decide)),?_⟩
    have k2'1:=u7.blkT ((u5.blkT ((n2.blk.below hb3).below n4.below) n4.blk (by decide)).below (Zb W5)) k1'1 (by decide)
    have g2:=n2.ge n1.below
    refine ysv (.o [] 6) k2'1 [.slice ((fv.getD 0 ft0).fa) ((fv.getD 0 ft0).bl.length) ((fv.getD 0 ft0).fc),.int .i64 ((fv.getD 0 ft0).c)] (.t w.heap.size [106,33]) fun W8 u8 k8=>⟨(Zm u8 k2'1 g2 (by decide)),?_⟩
    have hQ'2:=(hQ'1.only (Ze.of_upd (T:=[106]) u7 k1'1 (by decide)) (by decide)).updF u8 k2'1 hsF
    have hB'2:=u8.below (u7.below (bln (u5.below (bln hB'1 n4.below) g4) (Zb W5)) g1) g2
    have k7'1:=u8.blkT k7 k2'1 (by decide)
    refine Fw 4 [(b1,[.slice none 0 0,.slice none 0 0,.int .i64 0,.int .i64 0,.slice none 0 0]),(b2,[.slice ((fv.getD 0 ft0).fa) ((fv.getD 0 ft0).bl.length) ((fv.getD 0 ft0).fc),.int .i64 ((fv.getD 0 ft0).c)])] ⟨⟨_,k7'1⟩,⟨_,k8⟩,trivial⟩ (.tuple #[.agg #[.slice none 0 0,.slice none 0 0,.int .i64 0,.int .i64 0,.slice none 0 0],.agg #[.slice ((fv.getD 0 ft0).fa) ((fv.getD 0 ft0).bl.length) ((fv.getD 0 ft0).fc),.int .i64 ((fv.getD 0 ft0).c)]]) ?_
    obtain⟨hf1,hz⟩:=hQ'2.s.first (by omega)
    refine⟨_,none,none,none,0,0,0,[],_,_,rfl,by rw[(Qe hz).1,hf1];rfl,hB'2,by rw[(Qe hz).1];exact RWalkV.zero _ _,?_⟩
    rw[hf1]
    exact hQ'2.kept (fv.getD 0 ft0) (Eo (by omega))
   have k1'2:=(u5.blk (k1.below n4.below) (Ne.symm (Ne.symm d4_b1))).below (Zb W5)
   have g1:=n1.ge (Below.refl w.heap.size _)
   refine ysv 0 k1'2 [.slice none 0 0,.slice none 0 0,.int .i64 0,.int .i64 0,.slice none 0 0] (.t w.heap.size [106,33]) fun W9 u9 k9=>⟨(Zm u9 k1'2 g1 (by decide)),?_⟩
   have hQ'3:=hQ'1.only (Ze.of_upd (T:=[106]) u9 k1'2 (by decide)) (by decide)
   refine xlv (.o [] 4) (Sts.rp (k:=0) (Zg hQ'3.flts) Nx ft0 (by omega) (by decide)) ?_
   have k2'2:=u9.blkT ((u5.blkT ((n2.blk.below hb3).below n4.below) n4.blk (by decide)).below (Zb W5)) k1'2 (by decide)
   have g2:=n2.ge n1.below
   refine ysv (.o [] 6) k2'2 [.slice ((fv.getD 0 ft0).fa) ((fv.getD 0 ft0).bl.length) ((fv.getD 0 ft0).fc),.int .i64 ((fv.getD 0 ft0).c)] (.t w.heap.size [106,33]) fun W10 u10 k10=>⟨(Zm u10 k2'2 g2 (by decide)),?_⟩
   have hQ'4:=hQ'3.updF u10 k2'2 hsF
   have hB'3:=u10.below (u9.below (bln (u5.below (bln hB'1 n4.below) g4) (Zb W5)) g1) g2
   have k9'1:=u10.blkT k9 k2'2 (by decide)
   refine Fw 4 [(b1,[.slice none 0 0,.slice none 0 0,.int .i64 0,.int .i64 0,.slice none 0 0]),(b2,[.slice ((fv.getD 0 ft0).fa) ((fv.getD 0 ft0).bl.length) ((fv.getD 0 ft0).fc),.int .i64 ((fv.getD 0 ft0).c)])] ⟨⟨_,k9'1⟩,⟨_,k10⟩,trivial⟩ (.tuple #[.agg #[.slice none 0 0,.slice none 0 0,.int .i64 0,.int .i64 0,.slice none 0 0],.agg #[.slice ((fv.getD 0 ft0).fa) ((fv.getD 0 ft0).bl.length) ((fv.getD 0 ft0).fc),.int .i64 ((fv.getD 0 ft0).c)]]) ?_
   obtain⟨hf1,hz⟩:=hQ'4.s.first (by omega)
   refine⟨_,none,none,none,0,0,0,[],_,_,rfl,by rw[(Qe hz).1,hf1];rfl,hB'3,by rw[(Qe hz).1];exact RWalkV.zero _ _,?_⟩
   rw[hf1]
   exact hQ'4.kept (fv.getD 0 ft0) (Eo (by omega))
  have k1'3:=(u5.blk (k1.below n4.below) (Ne.symm (Ne.symm d4_b1))).below (Zb W5)
  have g1:=n1.ge (Below.refl w.heap.size _)
  refine ysv 0 k1'3 [.slice none 0 0,.slice none 0 0,.int .i64 0,.int .i64 0,.slice none 0 0] (.t w.heap.size [106,33]) fun W11 u11 k11=>⟨(Zm u11 k1'3 g1 (by decide)),?_⟩
  have k5'2:=u11.blk (k5.below (Zb W5)) (Ne.symm d4_b1)
  refine xb (.o [] 2) 4 k5'2 ?_
  have hQ'5:=(((hQ.below n4.below).only (Ze.of_upd (T:=[106]) u5 n4.blk (by decide)) (by decide)).below (Zb W5)).only (Ze.of_upd (T:=[106]) u11 k1'3 (by decide)) (by decide)
  refine xx (.e [] 3) _ fv.length 0 2 (Sts.cell (Zg hQ'5.flts) Nx ft0 (k:=0) (i:=0) (by omega) rfl).1 ?_
  refine xlv (.o [] 4) (Sts.rp (k:=0) (Zg hQ'5.flts) Nx ft0 (by omega) (by decide)) ?_
  have k2'3:=u11.blkT ((u5.blkT ((n2.blk.below hb3).below n4.below) n4.blk (by decide)).below (Zb W5)) k1'3 (by decide)
  have g2:=n2.ge n1.below
  refine ysv (.o [] 6) k2'3 [.slice ((fv.getD 0 ft0).fa) ((fv.getD 0 ft0).bl.length) ((fv.getD 0 ft0).fc),.int .i64 ((fv.getD 0 ft0).c)] (.t w.heap.size [106,33]) fun W12 u12 k12=>⟨(Zm u12 k2'3 g2 (by decide)),?_⟩
  have hQ'6:=hQ'5.updF u12 k2'3 hsF
  have hB'4:=u12.below (u11.below (bln (u5.below (bln hB'1 n4.below) g4) (Zb W5)) g1) g2
  have k11'1:=u12.blkT k11 k2'3 (by decide)
  refine Fw 4 [(b1,[.slice none 0 0,.slice none 0 0,.int .i64 0,.int .i64 0,.slice none 0 0]),(b2,[.slice ((fv.getD 0 ft0).fa) ((fv.getD 0 ft0).bl.length) ((fv.getD 0 ft0).fc),.int .i64 ((fv.getD 0 ft0).c)])] ⟨⟨_,k11'1⟩,⟨_,k12⟩,trivial⟩ (.tuple #[.agg #[.slice none 0 0,.slice none 0 0,.int .i64 0,.int .i64 0,.slice none 0 0],.agg #[.slice ((fv.getD 0 ft0).fa) ((fv.getD 0 ft0).bl.length) ((fv.getD 0 ft0).fc),.int .i64 ((fv.getD 0 ft0).c)]]) ?_
  obtain⟨hf1,hz⟩:=hQ'6.s.first (by omega)
  refine⟨_,none,none,none,0,0,0,[],_,_,rfl,by rw[(Qe hz).1,hf1];rfl,hB'4,by rw[(Qe hz).1];exact RWalkV.zero _ _,?_⟩
  rw[hf1]
  exact hQ'6.kept (fv.getD 0 ft0) (Eo (by omega))
 refine xlv 4 k5.rp ?_
 have k1'4:=u5.blk (k1.below n4.below) (Ne.symm (Ne.symm d4_b1))
 refine xsv 1 k1'4 [.slice pe ((Zd l root tree fuel).es.length) ce,.slice pb ((Zd l root tree fuel).bs.length) cb,.int .i64 ((Zd l root tree fuel).deep),.int .i64 (↑(Zd l root tree fuel).looked:Int),.slice pf fv.length cf] fun W13 u13 k13=>?_
 have g1:=n1.ge (Below.refl w.heap.size _)
 have k2'4:=u13.blkT (u5.blkT ((n2.blk.below hb3).below n4.below) n4.blk (by decide)) k1'4 (by decide)
 refine xsv 0 k2'4 [.slice none 0 0,.int .i64 0] fun W14 u14 k14=>?_
 have g2:=n2.ge n1.below
 have hQ'7:=(((hQ.below n4.below).only (Ze.of_upd (T:=[106]) u5 n4.blk (by decide)) (by decide)).only (Ze.of_upd (T:=[106]) u13 k1'4 (by decide)) (by decide)).updF u14 k2'4 hsF
 have hB'5:=u14.below (u13.below (u5.below (bln hB'1 n4.below) g4) g1) g2
 have k13'1:=u14.blkT k13 k2'4 (by decide)
 refine Fw 3 [(b1,[.slice pe ((Zd l root tree fuel).es.length) ce,.slice pb ((Zd l root tree fuel).bs.length) cb,.int .i64 ((Zd l root tree fuel).deep),.int .i64 (↑(Zd l root tree fuel).looked:Int),.slice pf fv.length cf]),(b2,[.slice none 0 0,.int .i64 0])] ⟨⟨_,k13'1⟩,⟨_,k14⟩,trivial⟩ (.tuple #[.agg #[.slice pe ((Zd l root tree fuel).es.length) ce,.slice pb ((Zd l root tree fuel).bs.length) cb,.int .i64 ((Zd l root tree fuel).deep),.int .i64 (↑(Zd l root tree fuel).looked:Int),.slice pf fv.length cf],.agg #[.slice none 0 0,.int .i64 0]]) ?_
 have hz:=hQ'7.s.none (by omega)
 exact⟨_,pe,pb,pf,ce,cb,cf,fv,none,0,rfl,by rw[(Hy hz).1,(Hy hz).2.1];rfl,hB'5,by rw[(Hy hz).1];exact hQ'7,by rw[(Hy hz).2.1];exact World.ownsRow_nil _ _ _ _⟩
theorem ref_OfM(a:Option Addr)(c n k:Nat)(l:List UInt8)(w:World)(hn:l.length=n)(hk:min (n/256) 14400=k)(h:Bys w (.slice a n c) l)(hl:n≤100000000) :
 Calls Tryz.prog 11 #[.slice a n c] w (Vx (fun w' r=>∃ bm p c2,r=.pointer (some ⟨bm,0,none⟩)∧w.heap.size≤bm∧RefI w.heap.size bm p k c2 (l.take (k*256)) w') w):=by
 subst hn hk;exact ref_Of a c l w h hl
def Kj:List Pb:=[(8,0,1099511627775)]
theorem mapP_ok:Gh Kj:=by
 refine⟨by decide,fun i hi=>?_⟩
 have hi':i<1:=hi
 obtain rfl:i=0:=by omega
 simp[Kj,List.getD]
def Kv:List Pb:=[(8,0,16384),(8,0,2147483647),(4,0,16777215),(4,0,16777215)]
theorem Zbx:Gh Kv:=by
 refine⟨by decide,fun i hi=>?_⟩
 have hi':i<4:=hi
 obtain rfl|rfl|rfl|rfl:i=0∨i=1∨i=2∨i=3:=by omega
 all_goals simp[Kv,List.getD]
def Zbq(v:List UInt8):Nat:=(Qb Kj v).getD 0 0
def Wo(v:List UInt8):Nat:=Zbq v/16777216
def Mj(v:List UInt8):Nat:=Zbq v%16777216
theorem mapN_bd(v:List UInt8):Zbq v≤1099511627775:=by
 unfold Zbq Qb
 by_cases h:Xl Kj v=0
 ·rw[if_pos h]
  unfold Xl at h
  split at h
  ·split at h
   ·rename_i h1 h2
    unfold Ub Pc at h2
    rw[List.all_eq_true] at h2
    have h3:=of_decide_eq_true (h2 0 (List.mem_range.2 (by decide)))
    rw[show((Pg Kj v).map fun n:Nat=>(n:Int)).getD 0 0=(((Pg Kj v).getD 0 0:Nat):Int) by simp[List.getD,show 0<(Pg Kj v).length by rw[Fm];decide]] at h3
    have h4:(((Pg Kj v).getD 0 0:Nat):Int)≤1099511627775:=h3.2
    omega
   ·simp at h
  ·simp at h
 ·rw[if_neg h];decide
def Ip(data:Int)(v:List UInt8):Int:=if Xl Kj v≠0 then Xl Kj v else if data≤(Wo v:Int) then 2 else 0
abbrev Mp:=Int×Int×Int
def Zdj(x:Ent):Mp:=(x.1,(Wo x.2.1:Int),(Mj x.2.1:Int))
def Ux(m:Mp):List Value:=[.int .i64 m.1,.int .i64 m.2.1,.int .i64 m.2.2]
theorem Wp(m:Mp):(Ux m).length=3:=rfl
def Zbr(data:Int)(es:List Ent)(i:Nat):Prop:=∀ j,j<i→Ip data (es.getD j Zi).2.1=0
theorem Wr{data:Int}{es:List Ent}{i:Nat}(h:Zbr data es i)(h2:Ip data (es.getD i Zi).2.1=0):Zbr data es (i+1):=fun j hj=>by
 by_cases e:j=i
 ·subst e;exact h2
 ·exact h j (by omega)
def Ov(es:List Ent)(data:Int):List Int×Int×List Mp :=
 match (List.range es.length).find? (fun i=>Ip data (es.getD i Zi).2.1 != 0) with
 | some i=>([(es.getD i Zi).2.2],Ip data (es.getD i Zi).2.1,[])
 | none=>([],0,es.map Zdj)
theorem Up{es:List Ent}{data:Int}{i:Nat}(hi:i<es.length)(h:Zbr data es i)(hb:Ip data (es.getD i Zi).2.1≠0):Ov es data=([(es.getD i Zi).2.2],Ip data (es.getD i Zi).2.1,[]):=by
 unfold Ov
 rw[show(List.range es.length).find? (fun i=>Ip data (es.getD i Zi).2.1 != 0)=some i from by
  rw[List.find?_range_eq_some]
  exact⟨by simpa using hb,List.mem_range.2 hi,fun m hm=>by simpa using h m hm⟩]
theorem Cw{es:List Ent}{data:Int}(h:Zbr data es es.length):Ov es data=([],0,es.map Zdj):=by
 unfold Ov
 rw[show(List.range es.length).find? (fun i=>Ip data (es.getD i Zi).2.1 != 0)=none from by
  rw[List.find?_eq_none]
  intro i hi
  have:=h i (List.mem_range.1 hi)
  simpa using this]
def Zab(l:List UInt8)(root data fuel:Int):List Int×Int×List Mp :=
 if(Zd l root 2 fuel).fs≠[] then((Xo (Zd l root 2 fuel)).1,(Xo (Zd l root 2 fuel)).2,[])
 else Ov (Zd l root 2 fuel).es data
theorem Fd{l:List UInt8}{root data fuel:Int}(h:(Zd l root 2 fuel).fs≠[]):Zab l root data fuel=((Xo (Zd l root 2 fuel)).1,(Xo (Zd l root 2 fuel)).2,[]):=if_pos h
theorem Jz{l:List UInt8}{root data fuel:Int}(h:(Zd l root 2 fuel).fs=[]):Zab l root data fuel=Ov (Zd l root 2 fuel).es data:=if_neg (fun q=>q h)
def Yi(v:List UInt8)(i:Nat):Nat:=(Qb Kv v).getD i 0
abbrev Dv:=(Int×Int×Int×Int)×List Mp
def Ys(l:List UInt8)(y:Ent)(data fuel:Int):List Int×Int×List Mp:=Zab l (Yz y.2.1:Int) data fuel
def Cs(l:List UInt8)(x y:Ent)(data fuel:Int)(sum:Nat):List Int×Int :=
 if 16777215<x.1 then([x.2.2],9)
 else if Xl Kv x.2.1≠0 then([x.2.2],Xl Kv x.2.1)
 else if Xw y.2.1≠0 then([y.2.2],Xw y.2.1)
 else if(Ys l y data fuel).2.1≠0 then(y.2.2::(Ys l y data fuel).1,(Ys l y data fuel).2.1)
 else if(Ys l y data fuel).2.2.length≠Yi x.2.1 0 then([x.2.2],13)
 else if 16384<sum+(Ys l y data fuel).2.2.length then([y.2.2],2)
 else([],0)
def Zcz(l:List UInt8)(x y:Ent)(data fuel:Int):Dv:=((x.1,(Yi x.2.1 1:Int),(Yi x.2.1 2:Int),(Yi x.2.1 3:Int)),(Ys l y data fuel).2.2)
def Au(l:List UInt8)(T:List Ent)(data fuel:Int):Nat→Nat
 | 0=>0
 | i+1=>Au l T data fuel i+(Ys l (T.getD i Zi) data fuel).2.2.length
def Ch(l:List UInt8)(D T:List Ent)(data fuel:Int)(i:Nat):List Int×Int:=Cs l (D.getD i Zi) (T.getD i Zi) data fuel (Au l T data fuel i)
def devL(l:List UInt8)(D T:List Ent)(data fuel:Int)(i:Nat):List Dv:=(List.range i).map fun k=>Zcz l (D.getD k Zi) (T.getD k Zi) data fuel
theorem Md(l:List UInt8)(D T:List Ent)(data fuel:Int)(i:Nat):devL l D T data fuel (i+1)=devL l D T data fuel i++[Zcz l (D.getD i Zi) (T.getD i Zi) data fuel]:=by simp[devL,List.range_succ]
def devK(l:List UInt8)(D T:List Ent)(data fuel:Int)(i:Nat):Prop:=∀ j,j<i→(Ch l D T data fuel j).2=0
theorem Mf{l:List UInt8}{D T:List Ent}{data fuel:Int}{i:Nat}(h:devK l D T data fuel i)(h2:(Ch l D T data fuel i).2=0):devK l D T data fuel (i+1):=fun j hj=>by
 by_cases e:j=i
 ·subst e;exact h2
 ·exact h j (by omega)
def Zbw(l:List UInt8)(D T:List Ent)(data fuel:Int):List Int×Int×List Dv :=
 match (List.range D.length).find? (fun i=>(Ch l D T data fuel i).2 != 0) with
 | some i=>((Ch l D T data fuel i).1,(Ch l D T data fuel i).2,[])
 | none=>([],0,devL l D T data fuel D.length)
theorem Yw{l:List UInt8}{D T:List Ent}{data fuel:Int}{i:Nat}(hi:i<D.length)(h:devK l D T data fuel i)(hb:(Ch l D T data fuel i).2≠0):Zbw l D T data fuel=((Ch l D T data fuel i).1,(Ch l D T data fuel i).2,[]):=by
 unfold Zbw
 rw[show(List.range D.length).find? (fun i=>(Ch l D T data fuel i).2 != 0)=some i from by
  rw[List.find?_range_eq_some]
  exact⟨by simpa using hb,List.mem_range.2 hi,fun m hm=>by simpa using h m hm⟩]
theorem Mi{l:List UInt8}{D T:List Ent}{data fuel:Int}(h:devK l D T data fuel D.length):Zbw l D T data fuel=([],0,devL l D T data fuel D.length):=by
 unfold Zbw
 rw[show(List.range D.length).find? (fun i=>(Ch l D T data fuel i).2 != 0)=none from by
  rw[List.find?_eq_none]
  intro i hi
  have:=h i (List.mem_range.1 hi)
  simpa using this]
def Yu:List Ent→List Ent→Nat
 | [],[]=>0
 | [],_::_=>1
 | _::_,[]=>2
 | x::a,y::b=>if x.1=y.1 then Yu a b else if x.1<y.1 then 2 else 1
theorem Lj{D T:List Ent}(h:Yu D T=0):D.length=T.length∧∀ i,i<D.length→(D.getD i Zi).1=(T.getD i Zi).1:=by
 induction D generalizing T with
 | nil =>
  cases T with
  | nil=>exact⟨rfl,fun i hi=>absurd hi (by simp)⟩
  | cons y b=>simp[Yu] at h
 | cons x a ih =>
  cases T with
  | nil=>simp[Yu] at h
  | cons y b =>
   by_cases e:x.1=y.1
   ·have h2:Yu a b=0:=by simpa [Yu,e] using h
    obtain⟨h3,h4⟩:=ih h2
    refine⟨by simp[h3],fun i hi=>?_⟩
    cases i with
    | zero=>simpa [List.getD] using e
    | succ i=>simpa [List.getD] using h4 i (by simpa using hi)
   ·by_cases q:x.1<y.1<;>simp[Yu,e,q] at h
def Qv(l:List UInt8)(top details data fuel:Int):List Int×Int×List Dv :=
 if(Zd l details 3 fuel).fs≠[] then((Xo (Zd l details 3 fuel)).1,(Xo (Zd l details 3 fuel)).2,[])
 else if(Zd l top 1 fuel).fs≠[] then((Xo (Zd l top 1 fuel)).1,(Xo (Zd l top 1 fuel)).2,[])
 else if 4096<(Zd l details 3 fuel).es.length then([details],2,[])
 else if Yu (Zd l details 3 fuel).es (Zd l top 1 fuel).es=1 then([details],18,[])
 else if Yu (Zd l details 3 fuel).es (Zd l top 1 fuel).es=2 then([top],18,[])
 else Zbw l (Zd l details 3 fuel).es (Zd l top 1 fuel).es data fuel
theorem Ph(w:World) :
 Calls Tryz.prog 65 #[] w (Vx (fun w' r=>∃ b,r=.slice (some ⟨b,0,none⟩) 1 1∧w.heap.size≤b∧Blk w' b [.int .i64 8,.int .i64 0,.int .i64 1099511627775] 223) w):=by
 refine zin 3 Tryz.func65 ?_
 refine xbs 8 1 [.int .i64 8,.int .i64 0,.int .i64 1099511627775] 223 fun b1 W1 n1=>?_
 exact xe 4 (.slice (some ⟨b1,0,none⟩) 1 1) ⟨_,rfl,n1.below,b1,rfl,(n1.ge (Below.refl w.heap.size _)),n1.blk⟩
theorem map_shr(s:List UInt8):Int.fdiv (↑((Qb Kj s).getD 0 0):Int) (2 ^ 24)=(Wo s:Int):=by
 show Int.fdiv ((Zbq s:Nat):Int) ((16777216:Nat):Int)=_
 rw[Int.fdiv_eq_ediv_of_nonneg _ (by omega)]
 unfold Wo;omega
theorem map_and(s:List UInt8):IntKind.i64.wrap (↑(BitVec.ofInt 64 (↑((Qb Kj s).getD 0 0):Int) &&& BitVec.ofInt 64 (16777215:Int)).toNat:Int)=(Mj s:Int):=by
 show IntKind.i64.wrap (↑(BitVec.ofInt 64 (Zbq s:Int) &&& BitVec.ofInt 64 (16777215:Int)).toNat:Int)=(Mj s:Int)
 have:=mapN_bd s
 rw[show(16777215:Int)=((16777215:Nat):Int) from rfl,BitVec.ofInt_natCast,BitVec.ofInt_natCast,BitVec.toNat_and,BitVec.toNat_ofNat,BitVec.toNat_ofNat,Nat.mod_eq_of_lt (by omega),Nat.mod_eq_of_lt (by omega)]
 rw[show Zbq s &&& 16777215=Zbq s%16777216 from Nat.and_two_pow_sub_one_eq_mod (Zbq s) 24]
 exact Hi (by omega)
theorem Ab(s:List UInt8)(w:World)(hs:s.length≤1000) :
 Calls Tryz.prog 165 #[.string ⟨s.toArray⟩] w (Ret (.tuple #[.int .i64 (↑(Wo s):Int),.int .i64 (↑(Mj s):Int),.int .i64 (Xl Kj s)]) w):=by
 refine zin 22 Tryz.func165 ?_
 refine xc 9 (args:=#[]) (Ph _) ?_
 rintro _ W1 ⟨_,rfl,hb1,gl,rfl,gg,kl⟩
 refine xc 1 (args:=#[.slice (some ⟨gl,0,none⟩) 1 1,.string ⟨s.toArray⟩]) (Fl Kj s (some ⟨gl,0,none⟩) 1 _ mapP_ok (by decide) (by omega) (kl.sl 1 1 (by decide) (by decide))) ?_
 rintro _ W2 ⟨_,rfl,hb2,p5,c5,rfl,h5⟩
 refine xd 8 .z ?_
 have h5'1:=Za (Zf h5 hb1.size) (Zb W2)
 refine xx (.e [0] 1) _ 1 0 1 (Zo (l:=Qb Kj s) (Zg h5'1) (Qt _ _) (k:=0) (by decide)).1 ?_
 refine xl (.e [] 2) ((Zo (l:=Qb Kj s) (Zg h5'1) (Qt _ _) (k:=0) (by decide)).2) ?_
 refine xq (.e [] 3) (congrArg (Value.int .i64) (show(Int.fdiv (↑((Qb Kj s).getD 0 0):Int) (2 ^ 24):Int)=(↑(Wo s):Int) from map_shr s)) ?_
 refine xx (.e [4] 5) _ 1 0 1 (Zo (l:=Qb Kj s) (Zg h5'1) (Qt _ _) (k:=0) (by decide)).1 ?_
 refine xl (.e [] 6) ((Zo (l:=Qb Kj s) (Zg h5'1) (Qt _ _) (k:=0) (by decide)).2) ?_
 refine xq (.e [] 7) (congrArg (Value.int .i64) (show(IntKind.i64.wrap (↑(BitVec.ofInt 64 (↑((Qb Kj s).getD 0 0):Int) &&& BitVec.ofInt 64 (16777215:Int)).toNat:Int):Int)=(↑(Mj s):Int) from map_and s)) ?_
 have hB:=bln (bln hb1 hb2) (Zb W2)
 exact xe (.r [8,9,10,11] 3) (.tuple #[.int .i64 (↑(Wo s):Int),.int .i64 (↑(Mj s):Int),.int .i64 (Xl Kj s)]) ⟨rfl,hB⟩
theorem Gg(w:World) :
 Calls Tryz.prog 67 #[] w (Vx (fun w' r=>∃ b,r=.slice (some ⟨b,0,none⟩) 4 4∧w.heap.size≤b∧Blk w' b [.int .i64 8,.int .i64 0,.int .i64 16384,.int .i64 8,.int .i64 0,.int .i64 2147483647,.int .i64 4,.int .i64 0,.int .i64 16777215,.int .i64 4,.int .i64 0,.int .i64 16777215] 223) w):=by
 refine zin 6 Tryz.func67 ?_
 refine xbs 11 4 [.int .i64 8,.int .i64 0,.int .i64 16384,.int .i64 8,.int .i64 0,.int .i64 2147483647,.int .i64 4,.int .i64 0,.int .i64 16777215,.int .i64 4,.int .i64 0,.int .i64 16777215] 223 fun b1 W1 n1=>?_
 exact xe 4 (.slice (some ⟨b1,0,none⟩) 4 4) ⟨_,rfl,n1.below,b1,rfl,(n1.ge (Below.refl w.heap.size _)),n1.blk⟩
theorem Cf(s:List UInt8)(w:World)(hs:s.length≤1000) :
 Calls Tryz.prog 72 #[.string ⟨s.toArray⟩] w (Ret (.tuple #[.agg #[.int .i64 (↑(Yi s 0):Int),.int .i64 (↑(Yi s 1):Int),.int .i64 (↑(Yi s 2):Int),.int .i64 (↑(Yi s 3):Int)],.int .i64 (Xl Kv s)]) w):=by
 refine zin 26 Tryz.func72 ?_
 refine xa 2 [.int .i64 0,.int .i64 0,.int .i64 0,.int .i64 0] 79 fun b1 W1 n1=>?_
 refine xc 5 (args:=#[]) (Gg _) ?_
 rintro _ W2 ⟨_,rfl,hb2,gl,rfl,gg,kl⟩
 refine xc 1 (args:=#[.slice (some ⟨gl,0,none⟩) 4 4,.string ⟨s.toArray⟩]) (Fl Kv s (some ⟨gl,0,none⟩) 4 _ Zbx (by decide) (by omega) (kl.sl 4 4 (by decide) (by decide))) ?_
 rintro _ W3 ⟨_,rfl,hb3,p5,c5,rfl,h5⟩
 have hs3:=(bln n1.below hb2).size
 refine xd 8 (.t w.heap.size [79]) ?_
 have h5'1:=Za (Zf h5 hs3) (Zb W3)
 refine xx (.e [0] 1) _ 4 0 1 (Zo (l:=Qb Kv s) (Zg h5'1) (Qt _ _) (k:=0) (by decide)).1 ?_
 refine xlt (.e [] 2) (.t w.heap.size [79]) (fun V hV=>(Zo (l:=Qb Kv s) (Zg (Zl h5'1 hV.2 (by decide))) (Qt _ _) (k:=0) (by decide)).2) ?_
 refine xx (.e [3] 4) _ 4 1 1 (Zo (l:=Qb Kv s) (Zg h5'1) (Qt _ _) (k:=1) (by decide)).1 ?_
 refine xlt (.e [] 5) (.t w.heap.size [79]) (fun V hV=>(Zo (l:=Qb Kv s) (Zg (Zl h5'1 hV.2 (by decide))) (Qt _ _) (k:=1) (by decide)).2) ?_
 refine xx (.e [6] 7) _ 4 2 1 (Zo (l:=Qb Kv s) (Zg h5'1) (Qt _ _) (k:=2) (by decide)).1 ?_
 refine xlt (.e [] 8) (.t w.heap.size [79]) (fun V hV=>(Zo (l:=Qb Kv s) (Zg (Zl h5'1 hV.2 (by decide))) (Qt _ _) (k:=2) (by decide)).2) ?_
 refine xx (.e [9] 10) _ 4 3 1 (Zo (l:=Qb Kv s) (Zg h5'1) (Qt _ _) (k:=3) (by decide)).1 ?_
 refine xlt (.e [] 11) (.t w.heap.size [79]) (fun V hV=>(Zo (l:=Qb Kv s) (Zg (Zl h5'1 hV.2 (by decide))) (Qt _ _) (k:=3) (by decide)).2) ?_
 have k1:=((n1.blk.below hb2).below hb3).below (Zb W3)
 have g1:=n1.ge (Below.refl w.heap.size _)
 refine ysv (.o [12,13] 14) k1 [.int .i64 (↑((Qb Kv s).getD 0 0):Int),.int .i64 (↑((Qb Kv s).getD 1 0):Int),.int .i64 (↑((Qb Kv s).getD 2 0):Int),.int .i64 (↑((Qb Kv s).getD 3 0):Int)] (.t w.heap.size [79]) fun W4 u4 k4=>⟨(Zm u4 k1 g1 (by decide)),?_⟩
 have hB:=u4.below (bln (bln (bln n1.below hb2) hb3) (Zb W3)) g1
 exact xec (.r [15] 3) k4 (.tuple #[.agg #[.int .i64 (↑((Qb Kv s).getD 0 0):Int),.int .i64 (↑((Qb Kv s).getD 1 0):Int),.int .i64 (↑((Qb Kv s).getD 2 0):Int),.int .i64 (↑((Qb Kv s).getD 3 0):Int)],.int .i64 (Xl Kv s)]) ⟨rfl,hB⟩
theorem Qc(l:List UInt8)(root tree fuel:Int):∀ i,i<(Zd l root tree fuel).es.length→((Zd l root tree fuel).es.getD i Zi).2.1.length≤1000:=fun i hi=>by
 have hx:(Zd l root tree fuel).es.getD i Zi∈(Zd l root tree fuel).es:=by rw[show(Zd l root tree fuel).es.getD i Zi=(Zd l root tree fuel).es[i] from by simp[List.getD,hi]];exact List.getElem_mem hi
 obtain⟨_,_,k,_,_,h,_⟩:=(Tf l root tree fuel).2.2.1 _ hx
 rw[←h]
 exact Hq _ _ _
theorem Ud(Bi b:Nat)(pi:Option Addr)(ni ci:Nat)(l:List UInt8)(root tree fuel:Int)(w:World)(hfu:fuel≤1000)(hI:ImgR Bi b pi ni ci l w) :
 Calls Tryz.prog 30 #[.pointer (some ⟨b,0,none⟩),.int .i64 root,.int .i64 tree,.int .i64 fuel] w (fun e w' =>
 ((Zd l root tree fuel).fs≠[]∧∃ pe ce pb cb pf cf ty x,e=.returned (.tuple #[.agg #[.slice pe 0 ce,.slice pb 0 cb,.int .i64 0,.int .i64 0,.slice pf 0 cf],.iface ty x])∧Below w.heap.size w w'∧Vu w' ((Xo (Zd l root tree fuel)).1.map some) (some (Xo (Zd l root tree fuel)).2) (.iface ty x)) ∨
 ((Zd l root tree fuel).fs=[]∧∃ pe ce pb nb cb dp lk pf cf,e=.returned (.tuple #[.agg #[.slice pe (Zd l root tree fuel).es.length ce,.slice pb nb cb,.int .i64 dp,.int .i64 lk,.slice pf 0 cf],.nilIface])∧Below w.heap.size w w'∧w'.ownsRow w.heap.size 74 3 (.slice pe (Zd l root tree fuel).es.length ce) (Zd l root tree fuel).es.length ((Zd l root tree fuel).es.flatMap Ky))):=by
 refine(Zbs Bi b pi ni ci l root tree fuel w hfu hI).mono ?_
 rintro e W ⟨t,pe,pb,pf,ce,cb,cf,fv,v,ht,rfl,hb,hW,hv⟩
 by_cases h:(Zd l root tree fuel).fs=[]
 ·obtain⟨h1,_,h3,h4⟩:=Hy h
  rw[h1] at ht
  rw[h3,h4] at hv
  subst ht
  have hv2:v=.nilIface:=hv
  subst hv2
  refine .inr ⟨h,pe,ce,pb,(Zd l root tree fuel).bs.length,cb,(Zd l root tree fuel).deep,((Zd l root tree fuel).looked:Int),pf,cf,?_,hb,hW.ents⟩
  unfold walkC
  rw[h];rfl
 ·obtain⟨h1,h2,h3,h4⟩:=Qe h
  rw[h1] at ht
  rw[h3,h4,←h2] at hv
  subst ht
  rcases hv.nil_or with ⟨hz,_⟩|⟨_,ty,x,rfl⟩
  ·simp[Nb] at hz
  ·exact .inl ⟨h,pe,ce,pb,cb,pf,cf,ty,x,rfl,hb,hv⟩
theorem Ox(no er:Int)(bl:List Int)(v:Value)(w:World)(hv:Vu w (bl.map some) (some er) v) :
 Calls Tryz.prog 70 #[.int .i64 no,v] w (fun e w'=>∃ ty x,e=.returned (.iface ty x)∧Below w.heap.size w w'∧Vu w' ((no::bl).map some) (some er) (.iface ty x)):=by
 refine(Qq no (some er) (bl.map some) v w hv).mono ?_
 rintro e W ⟨r,rfl,hb,hr⟩
 rw[show atL no (bl.map some) (some er)=(no::bl).map some from by unfold atL Nb;simp] at hr
 have hr2:Vu W (some no::bl.map some) (some er) r:=hr
 obtain⟨blk,v',rfl,h1,h2⟩:=hr2
 exact⟨_,_,rfl,hb,blk,v',rfl,h1,h2⟩
theorem Vq{l:List UInt8}{root tree fuel:Int}(h:(Zd l root tree fuel).fs≠[]):(Xo (Zd l root tree fuel)).2≠0:=by
 obtain⟨es,fs,hw⟩:=Wy l root tree fuel
 have h2:(Zd l root tree fuel).fs=fs:=by rw[hw.fsE];rfl
 rw[(Qe h).2.1]
 rw[h2] at h ⊢
 cases fs with
 | nil=>exact absurd rfl h
 | cons f r=>exact(hw.flt f (by simp)).2.2
theorem Jt(no er:Int)(w:World)(he:er≠0) :
 Calls Tryz.prog 31 #[.int .i64 no,.int .i64 er] w ((fun e w'=>∃ ty x,e=.returned (.iface ty x)∧Below w.heap.size w w'∧Vu w' (([no]:List Int).map some) (some er) (.iface ty x))):=by
 refine zin 11 Tryz.func31 ?_
 refine xk 12 (show((er==(0:Int)):Bool)=false from beq_false_of_ne he) ?_
 refine xc 7 (args:=#[.int .i64 no,.iface 91 (.int .i64 er)]) (Ox no er [] _ _ rfl) ?_
 rintro _ W1 ⟨ty1,v1,rfl,hb1,hva⟩
 exact xe 4 (.iface ty1 (v1)) ⟨_,_,rfl,hb1,hva⟩
def MapP(data:Int)(x:Ent)(w:World)(e:Ending)(w':World):Prop :=
 (Ip data x.2.1≠0∧∃ ty v,e=.returned (.tuple #[.agg #[.int .i64 0,.int .i64 0,.int .i64 0],.iface ty v])∧Below w.heap.size w w'∧Vu w' (([x.2.2]:List Int).map some) (some (Ip data x.2.1)) (.iface ty v)) ∨
 (Ip data x.2.1=0∧e=.returned (.tuple #[.agg #[.int .i64 x.1,.int .i64 (Wo x.2.1:Int),.int .i64 (Mj x.2.1:Int)],.nilIface])∧Below w.heap.size w w')
theorem Hp{data:Int}{v:List UInt8}(h:Xl Kj v≠0):Ip data v=Xl Kj v:=if_pos h
theorem Nw{data:Int}{v:List UInt8}(h:Xl Kj v=0)(h2:data≤(Wo v:Int)):Ip data v=2:=by unfold Ip;rw[if_neg (fun q=>q h),if_pos h2]
theorem Dy{data:Int}{v:List UInt8}(h:Xl Kj v=0)(h2:¬ data≤(Wo v:Int)):Ip data v=0:=by unfold Ip;rw[if_neg (fun q=>q h),if_neg h2]
theorem Bz(bx b:Nat)(data fuel sum:Int)(x:Ent)(w:World)(hk:Blk w bx [.pointer (some ⟨b,0,none⟩),.int .i64 data,.int .i64 fuel,.int .i64 sum] 98)(hs:x.2.1.length≤1000) :
 Calls Tryz.prog 114 #[.pointer (some ⟨bx,0,none⟩),.agg #[.int .i64 x.1,.string ⟨x.2.1.toArray⟩,.int .i64 x.2.2]] w (MapP data x w):=by
 refine zin 38 Tryz.func114 ?_
 refine xa 2 [.int .i64 x.1,.string ⟨x.2.1.toArray⟩,.int .i64 x.2.2] 74 fun b1 W1 n1=>?_
 refine xa 0 [.int .i64 0,.int .i64 0,.int .i64 0] 84 fun b2 W2 n2=>?_
 have k1:=n1.blk.below n2.below
 refine xb 6 1 k1 ?_
 refine xr 0 (args:=#[.string ⟨x.2.1.toArray⟩]) (Ab x.2.1 _ hs) fun W3 hb3=>?_
 refine xg 15 [17,18] ((Xl Kj x.2.1)==(0:Int)) (fun hc4=>?_) (fun hc4=>?_)
 ·have hc4:=eq_of_beq hc4
  have hk'1:=((hk.below n1.below).below n2.below).below hb3
  refine xb 4 1 hk'1 ?_
  refine xid 4 ((↑(Wo x.2.1):Int)≥data) (fun hc5=>?_) (fun hc5=>?_)
  ·have k1'1:=k1.below hb3
   refine xb 16 2 k1'1 ?_
   refine xc 1 (args:=#[.int .i64 x.2.2,.int .i64 2]) (Jt x.2.2 2 _ (by omega)) ?_
   rintro _ W6 ⟨ty6,v6,rfl,hb6,hva⟩
   have k2:=(n2.blk.below hb3).below hb6
   refine xsv 0 k2 [.int .i64 0,.int .i64 0,.int .i64 0] fun W7 u7 k7=>?_
   have g2:=n2.ge n1.below
   have hB:=u7.below (bln (bln (bln n1.below n2.below) hb3) hb6) g2
   have hva'1:=hva.only (Ze.of_upd (T:=[84]) u7 k2 (by decide)) (by decide)
   refine xec 5 k7 (.tuple #[.agg #[.int .i64 0,.int .i64 0,.int .i64 0],.iface ty6 (v6)]) ?_
   first|(have e9:=Nw (data:=data) (v:=x.2.1) (by omega) (by omega);exact .inl ⟨by rw[e9];decide,_,_,rfl,hB,by rw[e9];exact hva'1⟩)|(have e9:=Hp (data:=data) (v:=x.2.1) (by omega);exact .inl ⟨by rw[e9];omega,_,_,rfl,hB,by rw[e9];exact hva'1⟩)
  refine xin 9 (Xl Kj x.2.1) (0:Int) (fun hc8=>?_) (fun hc8=>?_)
  ·have k1'2:=k1.below hb3
   refine xb 4 2 k1'2 ?_
   refine xc 1 (args:=#[.int .i64 x.2.2,.int .i64 (Xl Kj x.2.1)]) (Jt x.2.2 (Xl Kj x.2.1) _ (by omega)) ?_
   rintro _ W9 ⟨ty9,v9,rfl,hb9,hva⟩
   have k2:=(n2.blk.below hb3).below hb9
   refine xsv 0 k2 [.int .i64 0,.int .i64 0,.int .i64 0] fun W10 u10 k10=>?_
   have g2:=n2.ge n1.below
   have hB:=u10.below (bln (bln (bln n1.below n2.below) hb3) hb9) g2
   have hva'2:=hva.only (Ze.of_upd (T:=[84]) u10 k2 (by decide)) (by decide)
   refine xec 5 k10 (.tuple #[.agg #[.int .i64 0,.int .i64 0,.int .i64 0],.iface ty9 (v9)]) ?_
   first|(have e9:=Nw (data:=data) (v:=x.2.1) (by omega) (by omega);exact .inl ⟨by rw[e9];decide,_,_,rfl,hB,by rw[e9];exact hva'2⟩)|(have e9:=Hp (data:=data) (v:=x.2.1) (by omega);exact .inl ⟨by rw[e9];omega,_,_,rfl,hB,by rw[e9];exact hva'2⟩)
  have k1'3:=k1.below hb3
  refine xb 5 0 k1'3 ?_
  have k2:=n2.blk.below hb3
  refine xsv 3 k2 [.int .i64 x.1,.int .i64 (↑(Wo x.2.1):Int),.int .i64 (↑(Mj x.2.1):Int)] fun W11 u11 k11=>?_
  have g2:=n2.ge n1.below
  have hB:=u11.below (bln (bln n1.below n2.below) hb3) g2
  exact xec 4 k11 (.tuple #[.agg #[.int .i64 x.1,.int .i64 (↑(Wo x.2.1):Int),.int .i64 (↑(Mj x.2.1):Int)],.nilIface]) (.inr ⟨Dy (by omega) (by omega),rfl,hB⟩)
 have hc4:=Xz hc4
 refine xin 19 (Xl Kj x.2.1) (0:Int) (fun hc12=>?_) (fun hc12=>?_)
 ·have k1'4:=k1.below hb3
  refine xb 4 2 k1'4 ?_
  refine xc 1 (args:=#[.int .i64 x.2.2,.int .i64 (Xl Kj x.2.1)]) (Jt x.2.2 (Xl Kj x.2.1) _ (by omega)) ?_
  rintro _ W13 ⟨ty13,v13,rfl,hb13,hva⟩
  have k2:=(n2.blk.below hb3).below hb13
  refine xsv 0 k2 [.int .i64 0,.int .i64 0,.int .i64 0] fun W14 u14 k14=>?_
  have g2:=n2.ge n1.below
  have hB:=u14.below (bln (bln (bln n1.below n2.below) hb3) hb13) g2
  have hva'3:=hva.only (Ze.of_upd (T:=[84]) u14 k2 (by decide)) (by decide)
  refine xec 5 k14 (.tuple #[.agg #[.int .i64 0,.int .i64 0,.int .i64 0],.iface ty13 (v13)]) ?_
  first|(have e9:=Nw (data:=data) (v:=x.2.1) (by omega) (by omega);exact .inl ⟨by rw[e9];decide,_,_,rfl,hB,by rw[e9];exact hva'3⟩)|(have e9:=Hp (data:=data) (v:=x.2.1) (by omega);exact .inl ⟨by rw[e9];omega,_,_,rfl,hB,by rw[e9];exact hva'3⟩)
 have k1'5:=k1.below hb3
 refine xb 5 0 k1'5 ?_
 have k2:=n2.blk.below hb3
 refine xsv 3 k2 [.int .i64 x.1,.int .i64 (↑(Wo x.2.1):Int),.int .i64 (↑(Mj x.2.1):Int)] fun W15 u15 k15=>?_
 have g2:=n2.ge n1.below
 have hB:=u15.below (bln (bln n1.below n2.below) hb3) g2
 exact xec 4 k15 (.tuple #[.agg #[.int .i64 x.1,.int .i64 (↑(Wo x.2.1):Int),.int .i64 (↑(Mj x.2.1):Int)],.nilIface]) (.inr ⟨Dy (by omega) (by omega),rfl,hB⟩)
def TellP(O:List Int×Int×List Mp)(w:World)(e:Ending)(w':World):Prop :=
 (O.2.1≠0∧∃ ty v,e=.returned (.tuple #[.slice none 0 0,.iface ty v])∧Below w.heap.size w w'∧Vu w' (O.1.map some) (some O.2.1) (.iface ty v)) ∨
 (O.2.1=0∧∃ p c,e=.returned (.tuple #[.slice p O.2.2.length c,.nilIface])∧Below w.heap.size w w'∧w'.ownsRow w.heap.size 84 3 (.slice p O.2.2.length c) O.2.2.length (O.2.2.flatMap Ux))
theorem Co{O:List Int×Int×List Mp}{bl:List Int}{er:Int}{w W:World}{ty:TypeId}{v:Value}(h:O=(bl,er,[]))(her:er≠0)(hb:Below w.heap.size w W)(hv:Vu W (bl.map some) (some er) (.iface ty v)):TellP O w (.returned (.tuple #[.slice none 0 0,.iface ty v])) W:=by
 subst h;exact .inl ⟨her,ty,v,rfl,hb,hv⟩
theorem Zgr{O:List Int×Int×List Mp}{L:List Mp}{n:Nat}{w W:World}{p:Option Addr}{c:Nat}(h:O=([],0,L))(hn:L.length=n)(hb:Below w.heap.size w W)(ho:W.ownsRow w.heap.size 84 3 (.slice p n c) n (L.flatMap Ux)):TellP O w (.returned (.tuple #[.slice p n c,.nilIface])) W:=by
 subst h hn;exact .inr ⟨rfl,p,c,rfl,hb,ho⟩
theorem Nv{es:List Ent}{i:Nat}(hi:i<es.length):((es.take (i+1)).map Zdj).flatMap Ux=((es.take i).map Zdj).flatMap Ux++Ux (Zdj (es.getD i Zi)):=by
 rw[List.take_succ_eq_append_getElem hi,List.map_append,List.flatMap_append,show es.getD i Zi=es[i] from by simp[List.getD,hi]]
 simp only[List.map_cons,List.map_nil,List.flatMap_cons,List.flatMap_nil,List.append_nil]
theorem load_maps(Bi bx b:Nat)(pi:Option Addr)(ni ci:Nat)(l:List UInt8)(data fuel sum root:Int)(w:World)(hI:ImgR Bi b pi ni ci l w)(hk:Blk w bx [.pointer (some ⟨b,0,none⟩),.int .i64 data,.int .i64 fuel,.int .i64 sum] 98)(hfu:fuel≤1000) :
 Calls Tryz.prog 74 #[.pointer (some ⟨bx,0,none⟩),.int .i64 root] w (TellP (Zab l root data fuel) w):=by
 have hfew:=(Ko l root 2 fuel hfu).1
 refine zin 51 Tryz.func74 ?_
 refine xd 7 (.t w.heap.size [87]) ?_
 have hk'1:=hk.below (Zb w)
 refine xbt (.e [0,1,2] 3) 0 w.heap.size [87] hk'1 ?_
 refine xbt (.e [4,5,6,7] 8) 2 w.heap.size [87] hk'1 ?_
 refine xm2 0 9 13 ?_ ?_
 ·have hB:=(Zb w)
  refine yc 0 (args:=#[.pointer (some ⟨b,0,none⟩),.int .i64 root,.int .i64 2,.int .i64 fuel]) (.t w.heap.size [87]) (Ud Bi b pi ni ci l root 2 fuel _ hfu (hI.below hB)) ?_
  rintro e W1 hq1
  rcases hq1 with ⟨hfs,pe,ce,pb,cb,pf,cf,tyw,vw,rfl,hb1,hv9⟩|⟨hfs,pe,ce,pb,nb,cb,dp,lk,pf,cf,rfl,hb1,hen⟩
  ·refine⟨(SF.of_below _ hb1),?_⟩
   refine xa (.o [10,11,12] 13) [.slice none 0 0,.slice none 0 0,.int .i64 0,.int .i64 0,.slice none 0 0] 87 fun b2 W2 n2=>?_
   have hB'1:=bln hB hb1
   have g2:=n2.ge hB'1
   refine ysv (.o [] 14) n2.blk [.slice pe 0 ce,.slice pb 0 cb,.int .i64 0,.int .i64 0,.slice pf 0 cf] (.t w.heap.size [87]) fun W3 u3 k3=>⟨(Zm u3 n2.blk g2 (by decide)),?_⟩
   have hv9'1:=(hv9.below n2.below).only (Ze.of_upd (T:=[87]) u3 n2.blk (by decide)) (by decide)
   have hB'2:=u3.below (bln hB'1 n2.below) g2
   exact xe (.r [15] 19) (.tuple #[.slice none 0 0,.iface tyw (vw)]) (Co (Fd hfs) (Vq hfs) hB'2 hv9'1)
  have hs1:=(Zb w).size
  refine⟨(SF.of_below _ hb1),?_⟩
  refine xa (.o [10,11,12] 13) [.slice none 0 0,.slice none 0 0,.int .i64 0,.int .i64 0,.slice none 0 0] 87 fun b4 W4 n4=>?_
  have hB'3:=bln hB hb1
  have g4:=n4.ge hB'3
  refine ysv (.o [] 14) n4.blk [.slice pe ((Zd l root 2 fuel).es.length) ce,.slice pb nb cb,.int .i64 dp,.int .i64 lk,.slice pf 0 cf] (.t w.heap.size [87]) fun W5 u5 k5=>⟨(Zm u5 n4.blk g4 (by decide)),?_⟩
  refine xb (.r [15] 21) 0 k5 ?_
  have hen'1:=u5.own2 (Za (Zf hen hs1) n4.below) n4.blk (by decide)
  have hB'4:=u5.below (bln hB'3 n4.below) g4
  have hk'2:=u5.blkT ((hk'1.below hb1).below n4.below) n4.blk (by decide)
  refine zl 5 51 (fun zm zkv V=>∃ (i:Nat) (p:Option Addr) (c:Nat),zkv=[(0,.pointer (some ⟨bx,0,none⟩)),(8,.slice p i c),(30,.slice pe ((Zd l root 2 fuel).es.length) ce),(31,.int .i64 (↑((Zd l root 2 fuel).es.length):Int)),(32,.int .i64 (↑i:Int))]∧zm=(Zd l root 2 fuel).es.length-((↑i:Int)).toNat∧Below w.heap.size w V∧Blk V bx ([.pointer (some ⟨b,0,none⟩),.int .i64 data,.int .i64 fuel,.int .i64 sum]) 98∧Blk V b4 ([.slice pe ((Zd l root 2 fuel).es.length) ce,.slice pb nb cb,.int .i64 dp,.int .i64 lk,.slice pf 0 cf]) 87∧V.ownsRow w.heap.size 74 3 (.slice pe (Zd l root 2 fuel).es.length ce) (Zd l root 2 fuel).es.length ((Zd l root 2 fuel).es.flatMap Ky)∧V.ownsRow w.heap.size 84 3 (.slice p i c) i ((((Zd l root 2 fuel).es.take i).map Zdj).flatMap Ux)∧i≤(Zd l root 2 fuel).es.length∧Zbr data (Zd l root 2 fuel).es i) ⟨0,none,0,rfl,rfl,hB'4,hk'2,k5,hen'1,World.ownsRow_nil _ _ _ _,Nat.zero_le _,fun j hj=>absurd hj (by omega)⟩ ?_
  rintro _ _ W6 ⟨i,p,c,rfl,rfl,hB_6,k6_bx,k6_b4,hen,ho,hi,hmk⟩ J6 hJ6 r6
  refine xid 6 ((↑i:Int)<(↑((Zd l root 2 fuel).es.length):Int)) (fun hc7=>?_) (fun hc7=>?_)
  ·refine xx 6 _ ((Zd l root 2 fuel).es.length) i 3 (Sts.cell (f:=Ky) (Zg hen) Xm Zi (k:=i) (i:=0) (by omega) rfl).1 ?_
   refine xlv 0 (Sts.rp (k:=i) (Zg hen) Xm Zi (by omega) (by decide)) ?_
   refine xa 0 [.int .i64 0,.string ⟨#[]⟩,.int .i64 0] 74 fun b8 W8 n8=>?_
   have g8:=n8.ge hB_6
   have r8_hen:=Zp hen n8
   refine xsv 0 n8.blk [.int .i64 (((Zd l root 2 fuel).es.getD i Zi).1),.string ⟨(((Zd l root 2 fuel).es.getD i Zi).2.1).toArray⟩,.int .i64 (((Zd l root 2 fuel).es.getD i Zi).2.2)] fun W9 u9 k9=>?_
   refine xlv 5 k9.rp ?_
   have k6_bx'1:=u9.blkT (k6_bx.below n8.below) n8.blk (by decide)
   refine xc 0 (args:=#[.pointer (some ⟨bx,0,none⟩),.agg #[.int .i64 (((Zd l root 2 fuel).es.getD i Zi).1),.string ⟨(((Zd l root 2 fuel).es.getD i Zi).2.1).toArray⟩,.int .i64 (((Zd l root 2 fuel).es.getD i Zi).2.2)]]) (Bz bx b data fuel sum ((Zd l root 2 fuel).es.getD i Zi) _ k6_bx'1 (Qc _ _ _ _ i (by omega))) ?_
   rintro e W10 hq10
   rcases hq10 with ⟨hme,tym,vm,rfl,hb10,hv9⟩|⟨hme,rfl,hb10⟩
   ·refine xa 3 [.int .i64 0,.int .i64 0,.int .i64 0] 84 fun b11 W11 n11=>?_
    have hB'5:=bln (u9.below (bln hB_6 n8.below) g8) hb10
    have g11:=n11.ge hB'5
    have ho'1:=Za (u9.own2 (Za ho n8.below) n8.blk (by decide)) hb10
    have r11_ho:=Zp ho'1 n11
    refine xsv 0 n11.blk [.int .i64 0,.int .i64 0,.int .i64 0] fun W12 u12 k12=>?_
    have hv9'2:=(hv9.below n11.below).only (Ze.of_upd (T:=[84]) u12 n11.blk (by decide)) (by decide)
    have hB'6:=u12.below (bln hB'5 n11.below) g11
    exact xe 25 (.tuple #[.slice none 0 0,.iface tym (vm)]) (Co ((Jz hfs).trans (Up (by omega) hmk hme)) hme hB'6 hv9'2)
   refine xa 3 [.int .i64 0,.int .i64 0,.int .i64 0] 84 fun b13 W13 n13=>?_
   have hB'7:=bln (u9.below (bln hB_6 n8.below) g8) hb10
   have g13:=n13.ge hB'7
   have ho'2:=Za (u9.own2 (Za ho n8.below) n8.blk (by decide)) hb10
   have r13_ho:=Zp ho'2 n13
   refine xsv 0 n13.blk [.int .i64 (((Zd l root 2 fuel).es.getD i Zi).1),.int .i64 (↑(Wo ((Zd l root 2 fuel).es.getD i Zi).2.1):Int),.int .i64 (↑(Mj ((Zd l root 2 fuel).es.getD i Zi).2.1):Int)] fun W14 u14 k14=>?_
   refine xlv 15 k14.rp ?_
   refine xbs 0 1 [.int .i64 (((Zd l root 2 fuel).es.getD i Zi).1),.int .i64 (↑(Wo ((Zd l root 2 fuel).es.getD i Zi).2.1):Int),.int .i64 (↑(Mj ((Zd l root 2 fuel).es.getD i Zi).2.1):Int)] 84 fun b15 W15 n15=>?_
   have d15_b13:=n15.ne k14
   have hB'8:=u14.below (bln hB'7 n13.below) g13
   have g15:=n15.ge hB'8
   have ho'3:=u14.own3 (Za ho'2 n13.below) r13_ho
   have r15_ho:=Zp ho'3 n15
   have ho'4:=Za ho'3 n15.below
   have hB'9:=bln hB'8 n15.below
   refine xbi 0 fun _ _ _ _ zJ zQ zo zx zy zK=>Zt (m:=1) (news:=[.int .i64 (((Zd l root 2 fuel).es.getD i Zi).1),.int .i64 (↑(Wo ((Zd l root 2 fuel).es.getD i Zi).2.1):Int),.int .i64 (↑(Mj ((Zd l root 2 fuel).es.getD i Zi).2.1):Int)]) (.agg #[.int .i64 0,.int .i64 0,.int .i64 0]) 3 24 (i+1) (((((Zd l root 2 fuel).es.take (i+1)).map Zdj).flatMap Ux)) zo Tryz.underlying80 (by kernel_rfl) rfl (by decide) zx ho'4 zy (n15.blk.sl 1 1 (by decide) (by decide)) rfl (by simp[Value.oneCell']) (by unfold maxLen;omega) (by omega) hB'9.size (rfl) (by rw[Nv (by omega)];rfl) fun px16 cx16 W16 o16 hg16 hb16=>?_
   refine zK _ _ ?_
   refine xwm 5 ((↑i:Int)+1) (↑(i+1):Int) ?_
   have hB'10:=hB'9.trans hb16
   have k6_bx'2:=((u14.blkT ((k6_bx'1.below hb10).below n13.below) n13.blk (by decide)).below n15.below).grown hg16 ho'4 (by decide)
   have k6_b4'1:=((u14.blkT (((u9.blkT (k6_b4.below n8.below) n8.blk (by decide)).below hb10).below n13.below) n13.blk (by decide)).below n15.below).grown hg16 ho'4 (by decide)
   have hen'2:=Zh (Za (u14.own2 (Za (Za (u9.own3 (Za hen n8.below) r8_hen) hb10) n13.below) n13.blk (by decide)) n15.below) hg16 ho'4 (by decide)
   exact ze 2 (hJ6 _ _ _ ⟨i+1,_,_,rfl,rfl,hB'10,k6_bx'2,k6_b4'1,hen'2,o16,by omega,Wr hmk hme⟩ (by omega))
  refine xe 13 (.tuple #[.slice p i c,.nilIface]) ?_
  obtain rfl:i=(Zd l root 2 fuel).es.length:=by omega
  rw[List.take_of_length_le (Nat.le_refl _)] at ho
  exact Zgr ((Jz hfs).trans (Cw hmk)) (List.length_map _) hB_6 ho
 refine xa 0 [.slice none 0 0,.slice none 0 0,.int .i64 0,.int .i64 0,.slice none 0 0] 87 fun b17 W17 n17=>?_
 have hB:=bln (Zb w) n17.below
 refine yc (.o [] 9) (args:=#[.pointer (some ⟨b,0,none⟩),.int .i64 root,.int .i64 2,.int .i64 fuel]) (.t w.heap.size [87]) (Ud Bi b pi ni ci l root 2 fuel _ hfu (hI.below hB)) ?_
 rintro e W18 hq18
 rcases hq18 with ⟨hfs,pe,ce,pb,cb,pf,cf,tyw,vw,rfl,hb18,hv9⟩|⟨hfs,pe,ce,pb,nb,cb,dp,lk,pf,cf,rfl,hb18,hen⟩
 ·refine⟨(SF.of_below _ hb18),?_⟩
  have k17:=n17.blk.below hb18
  have g17:=n17.ge (Zb w)
  refine ysv (.o [10,11,12] 14) k17 [.slice pe 0 ce,.slice pb 0 cb,.int .i64 0,.int .i64 0,.slice pf 0 cf] (.t w.heap.size [87]) fun W19 u19 k19=>⟨(Zm u19 k17 g17 (by decide)),?_⟩
  have hv9'3:=hv9.only (Ze.of_upd (T:=[87]) u19 k17 (by decide)) (by decide)
  have hB'11:=u19.below (bln hB hb18) g17
  exact xe (.r [15] 19) (.tuple #[.slice none 0 0,.iface tyw (vw)]) (Co (Fd hfs) (Vq hfs) hB'11 hv9'3)
 have hs18:=(bln (Zb w) n17.below).size
 refine⟨(SF.of_below _ hb18),?_⟩
 have k17:=n17.blk.below hb18
 have g17:=n17.ge (Zb w)
 refine ysv (.o [10,11,12] 14) k17 [.slice pe ((Zd l root 2 fuel).es.length) ce,.slice pb nb cb,.int .i64 dp,.int .i64 lk,.slice pf 0 cf] (.t w.heap.size [87]) fun W20 u20 k20=>⟨(Zm u20 k17 g17 (by decide)),?_⟩
 refine xb (.r [15] 21) 0 k20 ?_
 have hen'3:=u20.own2 (Zf hen hs18) k17 (by decide)
 have hB'12:=u20.below (bln hB hb18) g17
 have hk'3:=u20.blkT ((hk'1.below n17.below).below hb18) k17 (by decide)
 refine zl 5 51 (fun zm zkv V=>∃ (i:Nat) (p:Option Addr) (c:Nat),zkv=[(0,.pointer (some ⟨bx,0,none⟩)),(8,.slice p i c),(30,.slice pe ((Zd l root 2 fuel).es.length) ce),(31,.int .i64 (↑((Zd l root 2 fuel).es.length):Int)),(32,.int .i64 (↑i:Int))]∧zm=(Zd l root 2 fuel).es.length-((↑i:Int)).toNat∧Below w.heap.size w V∧Blk V bx ([.pointer (some ⟨b,0,none⟩),.int .i64 data,.int .i64 fuel,.int .i64 sum]) 98∧Blk V b17 ([.slice pe ((Zd l root 2 fuel).es.length) ce,.slice pb nb cb,.int .i64 dp,.int .i64 lk,.slice pf 0 cf]) 87∧V.ownsRow w.heap.size 74 3 (.slice pe (Zd l root 2 fuel).es.length ce) (Zd l root 2 fuel).es.length ((Zd l root 2 fuel).es.flatMap Ky)∧V.ownsRow w.heap.size 84 3 (.slice p i c) i ((((Zd l root 2 fuel).es.take i).map Zdj).flatMap Ux)∧i≤(Zd l root 2 fuel).es.length∧Zbr data (Zd l root 2 fuel).es i) ⟨0,none,0,rfl,rfl,hB'12,hk'3,k20,hen'3,World.ownsRow_nil _ _ _ _,Nat.zero_le _,fun j hj=>absurd hj (by omega)⟩ ?_
 rintro _ _ W21 ⟨i,p,c,rfl,rfl,hB_21,k21_bx,k21_b17,hen,ho,hi,hmk⟩ J21 hJ21 r21
 refine xid 6 ((↑i:Int)<(↑((Zd l root 2 fuel).es.length):Int)) (fun hc22=>?_) (fun hc22=>?_)
 ·refine xx 6 _ ((Zd l root 2 fuel).es.length) i 3 (Sts.cell (f:=Ky) (Zg hen) Xm Zi (k:=i) (i:=0) (by omega) rfl).1 ?_
  refine xlv 0 (Sts.rp (k:=i) (Zg hen) Xm Zi (by omega) (by decide)) ?_
  refine xa 0 [.int .i64 0,.string ⟨#[]⟩,.int .i64 0] 74 fun b23 W23 n23=>?_
  have g23:=n23.ge hB_21
  have r23_hen:=Zp hen n23
  refine xsv 0 n23.blk [.int .i64 (((Zd l root 2 fuel).es.getD i Zi).1),.string ⟨(((Zd l root 2 fuel).es.getD i Zi).2.1).toArray⟩,.int .i64 (((Zd l root 2 fuel).es.getD i Zi).2.2)] fun W24 u24 k24=>?_
  refine xlv 5 k24.rp ?_
  have k21_bx'1:=u24.blkT (k21_bx.below n23.below) n23.blk (by decide)
  refine xc 0 (args:=#[.pointer (some ⟨bx,0,none⟩),.agg #[.int .i64 (((Zd l root 2 fuel).es.getD i Zi).1),.string ⟨(((Zd l root 2 fuel).es.getD i Zi).2.1).toArray⟩,.int .i64 (((Zd l root 2 fuel).es.getD i Zi).2.2)]]) (Bz bx b data fuel sum ((Zd l root 2 fuel).es.getD i Zi) _ k21_bx'1 (Qc _ _ _ _ i (by omega))) ?_
  rintro e W25 hq25
  rcases hq25 with ⟨hme,tym,vm,rfl,hb25,hv9⟩|⟨hme,rfl,hb25⟩
  ·refine xa 3 [.int .i64 0,.int .i64 0,.int .i64 0] 84 fun b26 W26 n26=>?_
   have hB'13:=bln (u24.below (bln hB_21 n23.below) g23) hb25
   have g26:=n26.ge hB'13
   have ho'5:=Za (u24.own2 (Za ho n23.below) n23.blk (by decide)) hb25
   have r26_ho:=Zp ho'5 n26
   refine xsv 0 n26.blk [.int .i64 0,.int .i64 0,.int .i64 0] fun W27 u27 k27=>?_
   have hv9'4:=(hv9.below n26.below).only (Ze.of_upd (T:=[84]) u27 n26.blk (by decide)) (by decide)
   have hB'14:=u27.below (bln hB'13 n26.below) g26
   exact xe 25 (.tuple #[.slice none 0 0,.iface tym (vm)]) (Co ((Jz hfs).trans (Up (by omega) hmk hme)) hme hB'14 hv9'4)
  refine xa 3 [.int .i64 0,.int .i64 0,.int .i64 0] 84 fun b28 W28 n28=>?_
  have hB'15:=bln (u24.below (bln hB_21 n23.below) g23) hb25
  have g28:=n28.ge hB'15
  have ho'6:=Za (u24.own2 (Za ho n23.below) n23.blk (by decide)) hb25
  have r28_ho:=Zp ho'6 n28
  refine xsv 0 n28.blk [.int .i64 (((Zd l root 2 fuel).es.getD i Zi).1),.int .i64 (↑(Wo ((Zd l root 2 fuel).es.getD i Zi).2.1):Int),.int .i64 (↑(Mj ((Zd l root 2 fuel).es.getD i Zi).2.1):Int)] fun W29 u29 k29=>?_
  refine xlv 15 k29.rp ?_
  refine xbs 0 1 [.int .i64 (((Zd l root 2 fuel).es.getD i Zi).1),.int .i64 (↑(Wo ((Zd l root 2 fuel).es.getD i Zi).2.1):Int),.int .i64 (↑(Mj ((Zd l root 2 fuel).es.getD i Zi).2.1):Int)] 84 fun b30 W30 n30=>?_
  have d30_b28:=n30.ne k29
  have hB'16:=u29.below (bln hB'15 n28.below) g28
  have g30:=n30.ge hB'16
  have ho'7:=u29.own3 (Za ho'6 n28.below) r28_ho
  have r30_ho:=Zp ho'7 n30
  have ho'8:=Za ho'7 n30.below
  have hB'17:=bln hB'16 n30.below
  refine xbi 0 fun _ _ _ _ zJ zQ zo zx zy zK=>Zt (m:=1) (news:=[.int .i64 (((Zd l root 2 fuel).es.getD i Zi).1),.int .i64 (↑(Wo ((Zd l root 2 fuel).es.getD i Zi).2.1):Int),.int .i64 (↑(Mj ((Zd l root 2 fuel).es.getD i Zi).2.1):Int)]) (.agg #[.int .i64 0,.int .i64 0,.int .i64 0]) 3 24 (i+1) (((((Zd l root 2 fuel).es.take (i+1)).map Zdj).flatMap Ux)) zo Tryz.underlying80 (by kernel_rfl) rfl (by decide) zx ho'8 zy (n30.blk.sl 1 1 (by decide) (by decide)) rfl (by simp[Value.oneCell']) (by unfold maxLen;omega) (by omega) hB'17.size (rfl) (by rw[Nv (by omega)];rfl) fun px31 cx31 W31 o31 hg31 hb31=>?_
  refine zK _ _ ?_
  refine xwm 5 ((↑i:Int)+1) (↑(i+1):Int) ?_
  have hB'18:=hB'17.trans hb31
  have k21_bx'2:=((u29.blkT ((k21_bx'1.below hb25).below n28.below) n28.blk (by decide)).below n30.below).grown hg31 ho'8 (by decide)
  have k21_b17'1:=((u29.blkT (((u24.blkT (k21_b17.below n23.below) n23.blk (by decide)).below hb25).below n28.below) n28.blk (by decide)).below n30.below).grown hg31 ho'8 (by decide)
  have hen'4:=Zh (Za (u29.own2 (Za (Za (u24.own3 (Za hen n23.below) r23_hen) hb25) n28.below) n28.blk (by decide)) n30.below) hg31 ho'8 (by decide)
  exact ze 2 (hJ21 _ _ _ ⟨i+1,_,_,rfl,rfl,hB'18,k21_bx'2,k21_b17'1,hen'4,o31,by omega,Wr hmk hme⟩ (by omega))
 refine xe 13 (.tuple #[.slice p i c,.nilIface]) ?_
 obtain rfl:i=(Zd l root 2 fuel).es.length:=by omega
 rw[List.take_of_length_le (Nat.le_refl _)] at ho
 exact Zgr ((Jz hfs).trans (Cw hmk)) (List.length_map _) hB_21 ho
theorem Ze4(Bi bx b:Nat)(pi:Option Addr)(ni ci:Nat)(l:List UInt8)(data fuel sum:Int)(y:Ent)(w:World)(hI:ImgR Bi b pi ni ci l w)(hk:Blk w bx [.pointer (some ⟨b,0,none⟩),.int .i64 data,.int .i64 fuel,.int .i64 sum] 98)(hfu:fuel≤1000):Calls Tryz.prog 74 #[.pointer (some ⟨bx,0,none⟩),.int .i64 (↑(Yz y.2.1):Int)] w (TellP (Ys l y data fuel) w):=load_maps Bi bx b pi ni ci l data fuel sum (↑(Yz y.2.1):Int) w hI hk hfu
theorem Zao(l:List UInt8)(y:Ent)(data fuel:Int)(hf:fuel≤1000):(Ys l y data fuel).2.2.length≤1000000:=by
 have h:=(Ko l (Yz y.2.1:Int) 2 fuel hf).1
 unfold Ys Zab Ov
 split
 ·exact Nat.zero_le _
 ·split
  ·exact Nat.zero_le _
  ·rw[List.length_map];exact h
theorem dev_1{l:List UInt8}{x y:Ent}{data fuel:Int}{sum:Nat}(h:16777215<x.1):Cs l x y data fuel sum=([x.2.2],9):=if_pos h
theorem dev_2{l:List UInt8}{x y:Ent}{data fuel:Int}{sum:Nat}(h:¬ 16777215<x.1)(h2:Xl Kv x.2.1≠0):Cs l x y data fuel sum=([x.2.2],Xl Kv x.2.1):=by unfold Cs;rw[if_neg h,if_pos h2]
theorem dev_3{l:List UInt8}{x y:Ent}{data fuel:Int}{sum:Nat}(h:¬ 16777215<x.1)(h2:Xl Kv x.2.1=0)(h3:Xw y.2.1≠0):Cs l x y data fuel sum=([y.2.2],Xw y.2.1):=by unfold Cs;rw[if_neg h,if_neg (fun q=>q h2),if_pos h3]
theorem dev_4{l:List UInt8}{x y:Ent}{data fuel:Int}{sum:Nat}(h:¬ 16777215<x.1)(h2:Xl Kv x.2.1=0)(h3:Xw y.2.1=0)(h4:(Ys l y data fuel).2.1≠0):Cs l x y data fuel sum=(y.2.2::(Ys l y data fuel).1,(Ys l y data fuel).2.1):=by unfold Cs;rw[if_neg h,if_neg (fun q=>q h2),if_neg (fun q=>q h3),if_pos h4]
theorem dev_5{l:List UInt8}{x y:Ent}{data fuel:Int}{sum:Nat}(h:¬ 16777215<x.1)(h2:Xl Kv x.2.1=0)(h3:Xw y.2.1=0)(h4:(Ys l y data fuel).2.1=0)(h5:(Ys l y data fuel).2.2.length≠Yi x.2.1 0):Cs l x y data fuel sum=([x.2.2],13):=by unfold Cs;rw[if_neg h,if_neg (fun q=>q h2),if_neg (fun q=>q h3),if_neg (fun q=>q h4),if_pos h5]
theorem dev_6{l:List UInt8}{x y:Ent}{data fuel:Int}{sum:Nat}(h:¬ 16777215<x.1)(h2:Xl Kv x.2.1=0)(h3:Xw y.2.1=0)(h4:(Ys l y data fuel).2.1=0)(h5:(Ys l y data fuel).2.2.length=Yi x.2.1 0)(h6:16384<sum+(Ys l y data fuel).2.2.length):Cs l x y data fuel sum=([y.2.2],2):=by unfold Cs;rw[if_neg h,if_neg (fun q=>q h2),if_neg (fun q=>q h3),if_neg (fun q=>q h4),if_neg (fun q=>q h5),if_pos h6]
theorem dev_7{l:List UInt8}{x y:Ent}{data fuel:Int}{sum:Nat}(h:¬ 16777215<x.1)(h2:Xl Kv x.2.1=0)(h3:Xw y.2.1=0)(h4:(Ys l y data fuel).2.1=0)(h5:(Ys l y data fuel).2.2.length=Yi x.2.1 0)(h6:¬ 16384<sum+(Ys l y data fuel).2.2.length):Cs l x y data fuel sum=([],0):=by unfold Cs;rw[if_neg h,if_neg (fun q=>q h2),if_neg (fun q=>q h3),if_neg (fun q=>q h4),if_neg (fun q=>q h5),if_neg h6]
def DevP(B bx b:Nat)(l:List UInt8)(x y:Ent)(data fuel:Int)(sum:Nat)(w:World)(e:Ending)(w':World):Prop :=
 ((Cs l x y data fuel sum).2≠0∧∃ ty v,e=.returned (.tuple #[.agg #[.int .i64 0,.int .i64 0,.int .i64 0,.int .i64 0,.slice none 0 0],.iface ty v])∧Below B w w'∧Ze [98] w w'∧Fr [bx] w w'∧Vu w' ((Cs l x y data fuel sum).1.map some) (some (Cs l x y data fuel sum).2) (.iface ty v)) ∨
 ((Cs l x y data fuel sum).2=0∧∃ p c,e=.returned (.tuple #[.agg #[.int .i64 x.1,.int .i64 (Yi x.2.1 1:Int),.int .i64 (Yi x.2.1 2:Int),.int .i64 (Yi x.2.1 3:Int),.slice p (Ys l y data fuel).2.2.length c],.nilIface])∧Below B w w'∧Ze [98] w w'∧Fr [bx] w w'∧Blk w' bx [.pointer (some ⟨b,0,none⟩),.int .i64 data,.int .i64 fuel,.int .i64 ((sum+(Ys l y data fuel).2.2.length:Nat):Int)] 98∧w'.ownsRow w.heap.size 84 3 (.slice p (Ys l y data fuel).2.2.length c) (Ys l y data fuel).2.2.length ((Ys l y data fuel).2.2.flatMap Ux))
theorem Wl{B bx b:Nat}{l:List UInt8}{x y:Ent}{data fuel:Int}{sum:Nat}{w W:World}{ty:TypeId}{v:Value}{bl:List Int}{er:Int}(h:Cs l x y data fuel sum=(bl,er))(her:er≠0)(hb:Below B w W)(hO:Ze [98] w W)(hX:Fr [bx] w W)(hv:Vu W (bl.map some) (some er) (.iface ty v)):DevP B bx b l x y data fuel sum w (.returned (.tuple #[.agg #[.int .i64 0,.int .i64 0,.int .i64 0,.int .i64 0,.slice none 0 0],.iface ty v])) W:=by
 unfold DevP;rw[h];exact .inl ⟨her,ty,v,rfl,hb,hO,hX,hv⟩
theorem Ef(B Bi bx b:Nat)(pi:Option Addr)(ni ci:Nat)(l:List UInt8)(data fuel:Int)(sum:Nat)(x y:Ent)(w:World)(hI:ImgR Bi b pi ni ci l w)(hk:Blk w bx [.pointer (some ⟨b,0,none⟩),.int .i64 data,.int .i64 fuel,.int .i64 (↑sum:Int)] 98)(hfu:fuel≤1000)(hx:x.2.1.length≤1000)(hy:y.2.1.length≤1000)(hsm:sum≤16384)(hB0:B≤bx)(hBw:B≤w.heap.size) :
 Calls Tryz.prog 33 #[.pointer (some ⟨bx,0,none⟩),.agg #[.int .i64 x.1,.string ⟨x.2.1.toArray⟩,.int .i64 x.2.2],.agg #[.int .i64 y.1,.string ⟨y.2.1.toArray⟩,.int .i64 y.2.2]] w (DevP B bx b l x y data fuel sum w):=by
 have hfew:=Zao l y data fuel hfu
 refine zin 96 Tryz.func33 ?_
 refine xa 2 [.int .i64 x.1,.string ⟨x.2.1.toArray⟩,.int .i64 x.2.2] 74 fun b1 W1 n1=>?_
 refine xa 0 [.int .i64 y.1,.string ⟨y.2.1.toArray⟩,.int .i64 y.2.2] 74 fun b2 W2 n2=>?_
 have d2_b1:=n2.ne n1.blk
 refine xa 0 [.int .i64 0,.int .i64 0,.int .i64 0,.int .i64 0,.slice none 0 0] 82 fun b3 W3 n3=>?_
 have k1'1:=(n1.blk.below n2.below).below n3.below
 refine xb 7 0 k1'1 ?_
 refine xid 3 (x.1>(16777215:Int)) (fun hc4=>?_) (fun hc4=>?_)
 ·refine xb 4 2 k1'1 ?_
  refine xc 0 (args:=#[.int .i64 x.2.2,.int .i64 9]) (Jt x.2.2 9 _ (by omega)) ?_
  rintro _ W5 ⟨ty5,v5,rfl,hb5,hva⟩
  have k3:=n3.blk.below hb5
  refine xsv 0 k3 [.int .i64 0,.int .i64 0,.int .i64 0,.int .i64 0,.slice none 0 0] fun W6 u6 k6=>?_
  have g3:=n3.ge0 (blB (blB (Below.refl B w) hBw n1.below) hBw n2.below)
  have hva'1:=hva.only (Ze.of_upd (T:=[82]) u6 k3 (by decide)) (by decide)
  have hB:=u6.below (blB (blB (blB (blB (Below.refl B w) hBw n1.below) hBw n2.below) hBw n3.below) hBw hb5) (Nat.le_trans hBw g3)
  have hO:=(Ze.upd_new ((((show Ze [98] w _ from(Ze.of_below n1.below)).trans (Ze.of_below n2.below)).trans (Ze.of_below n3.below)).trans (Ze.of_below hb5)) u6 g3)
  have hX:=(Fr.upd_new ((((show Fr [bx] w _ from(Fr.of_below n1.below)).trans (Fr.of_below n2.below)).trans (Fr.of_below n3.below)).trans (Fr.of_below hb5)) u6 g3)
  exact xec 5 k6 (.tuple #[.agg #[.int .i64 0,.int .i64 0,.int .i64 0,.int .i64 0,.slice none 0 0],.iface ty5 (v5)]) (Wl (dev_1 (by omega)) (by decide) hB hO hX hva'1)
 refine xb 5 1 k1'1 ?_
 refine xr 0 (args:=#[.string ⟨x.2.1.toArray⟩]) (Cf x.2.1 _ hx) fun W7 hb7=>?_
 refine xa 3 [.int .i64 0,.int .i64 0,.int .i64 0,.int .i64 0] 79 fun b8 W8 n8=>?_
 refine xsv 0 n8.blk [.int .i64 (↑(Yi x.2.1 0):Int),.int .i64 (↑(Yi x.2.1 1):Int),.int .i64 (↑(Yi x.2.1 2):Int),.int .i64 (↑(Yi x.2.1 3):Int)] fun W9 u9 k9=>?_
 have g8:=n8.ge0 (blB (blB (blB (blB (Below.refl B w) hBw n1.below) hBw n2.below) hBw n3.below) hBw hb7)
 refine xin 10 (Xl Kv x.2.1) (0:Int) (fun hc10=>?_) (fun hc10=>?_)
 ·have k1'2:=u9.blkT ((k1'1.below hb7).below n8.below) n8.blk (by decide)
  refine xb 4 2 k1'2 ?_
  refine xc 1 (args:=#[.int .i64 x.2.2,.int .i64 (Xl Kv x.2.1)]) (Jt x.2.2 (Xl Kv x.2.1) _ (by omega)) ?_
  rintro _ W11 ⟨ty11,v11,rfl,hb11,hva⟩
  have k3:=(u9.blkT ((n3.blk.below hb7).below n8.below) n8.blk (by decide)).below hb11
  refine xsv 0 k3 [.int .i64 0,.int .i64 0,.int .i64 0,.int .i64 0,.slice none 0 0] fun W12 u12 k12=>?_
  have g3:=n3.ge0 (blB (blB (Below.refl B w) hBw n1.below) hBw n2.below)
  have hva'2:=hva.only (Ze.of_upd (T:=[82]) u12 k3 (by decide)) (by decide)
  have hB:=u12.below (blB (u9.below (blB (blB (blB (blB (blB (Below.refl B w) hBw n1.below) hBw n2.below) hBw n3.below) hBw hb7) hBw n8.below) (Nat.le_trans hBw g8)) hBw hb11) (Nat.le_trans hBw g3)
  have hO:=(Ze.upd_new ((Ze.upd_new (((((show Ze [98] w _ from(Ze.of_below n1.below)).trans (Ze.of_below n2.below)).trans (Ze.of_below n3.below)).trans (Ze.of_below hb7)).trans (Ze.of_below n8.below)) u9 g8).trans (Ze.of_below hb11)) u12 g3)
  have hX:=(Fr.upd_new ((Fr.upd_new (((((show Fr [bx] w _ from(Fr.of_below n1.below)).trans (Fr.of_below n2.below)).trans (Fr.of_below n3.below)).trans (Fr.of_below hb7)).trans (Fr.of_below n8.below)) u9 g8).trans (Fr.of_below hb11)) u12 g3)
  exact xec 5 k12 (.tuple #[.agg #[.int .i64 0,.int .i64 0,.int .i64 0,.int .i64 0,.slice none 0 0],.iface ty11 (v11)]) (Wl (dev_2 (by omega) (by omega)) (by omega) hB hO hX hva'2)
 have k2:=u9.blkT (((n2.blk.below n3.below).below hb7).below n8.below) n8.blk (by decide)
 refine xb 5 1 k2 ?_
 refine xr 0 (args:=#[.string ⟨y.2.1.toArray⟩]) (Pp y.2.1 _ hy) fun W13 hb13=>?_
 refine xin 14 (Xw y.2.1) (0:Int) (fun hc14=>?_) (fun hc14=>?_)
 ·have k2'1:=k2.below hb13
  refine xb 4 2 k2'1 ?_
  refine xc 1 (args:=#[.int .i64 y.2.2,.int .i64 (Xw y.2.1)]) (Jt y.2.2 (Xw y.2.1) _ (by omega)) ?_
  rintro _ W15 ⟨ty15,v15,rfl,hb15,hva⟩
  have k3:=((u9.blkT ((n3.blk.below hb7).below n8.below) n8.blk (by decide)).below hb13).below hb15
  refine xsv 0 k3 [.int .i64 0,.int .i64 0,.int .i64 0,.int .i64 0,.slice none 0 0] fun W16 u16 k16=>?_
  have g3:=n3.ge0 (blB (blB (Below.refl B w) hBw n1.below) hBw n2.below)
  have hva'3:=hva.only (Ze.of_upd (T:=[82]) u16 k3 (by decide)) (by decide)
  have hB:=u16.below (blB (blB (u9.below (blB (blB (blB (blB (blB (Below.refl B w) hBw n1.below) hBw n2.below) hBw n3.below) hBw hb7) hBw n8.below) (Nat.le_trans hBw g8)) hBw hb13) hBw hb15) (Nat.le_trans hBw g3)
  have hO:=(Ze.upd_new (((Ze.upd_new (((((show Ze [98] w _ from(Ze.of_below n1.below)).trans (Ze.of_below n2.below)).trans (Ze.of_below n3.below)).trans (Ze.of_below hb7)).trans (Ze.of_below n8.below)) u9 g8).trans (Ze.of_below hb13)).trans (Ze.of_below hb15)) u16 g3)
  have hX:=(Fr.upd_new (((Fr.upd_new (((((show Fr [bx] w _ from(Fr.of_below n1.below)).trans (Fr.of_below n2.below)).trans (Fr.of_below n3.below)).trans (Fr.of_below hb7)).trans (Fr.of_below n8.below)) u9 g8).trans (Fr.of_below hb13)).trans (Fr.of_below hb15)) u16 g3)
  exact xec 5 k16 (.tuple #[.agg #[.int .i64 0,.int .i64 0,.int .i64 0,.int .i64 0,.slice none 0 0],.iface ty15 (v15)]) (Wl (dev_3 (by omega) (by omega) (by omega)) (by omega) hB hO hX hva'3)
 have hI'1:=((((((hI.below n1.below).below n2.below).below n3.below).below hb7).below n8.below).only (Ze.of_upd (T:=[79]) u9 n8.blk (by decide)) (by decide)).below hb13
 have hk'1:=(u9.blkT (((((hk.below n1.below).below n2.below).below n3.below).below hb7).below n8.below) n8.blk (by decide)).below hb13
 refine xc 6 (args:=#[.pointer (some ⟨bx,0,none⟩),.int .i64 (↑(Yz y.2.1):Int)]) (Ze4 Bi bx b pi ni ci l data fuel (↑sum:Int) y _ hI'1 hk'1 hfu) ?_
 rintro e W17 hq17
 rcases hq17 with ⟨hoe,tyo,vo,rfl,hb17,hv9⟩|⟨hoe,po,co,rfl,hb17,hom⟩
 ·have k2'2:=(k2.below hb13).below hb17
  refine xb 19 2 k2'2 ?_
  refine xc 1 (args:=#[.int .i64 y.2.2,.iface tyo (vo)]) (Ox y.2.2 (Ys l y data fuel).2.1 (Ys l y data fuel).1 _ _ hv9) ?_
  rintro _ W18 ⟨ty18,v18,rfl,hb18,hva⟩
  have k3:=(((u9.blkT ((n3.blk.below hb7).below n8.below) n8.blk (by decide)).below hb13).below hb17).below hb18
  refine xsv 0 k3 [.int .i64 0,.int .i64 0,.int .i64 0,.int .i64 0,.slice none 0 0] fun W19 u19 k19=>?_
  have g3:=n3.ge0 (blB (blB (Below.refl B w) hBw n1.below) hBw n2.below)
  have hva'4:=hva.only (Ze.of_upd (T:=[82]) u19 k3 (by decide)) (by decide)
  have hB:=u19.below (blB (blB (blB (u9.below (blB (blB (blB (blB (blB (Below.refl B w) hBw n1.below) hBw n2.below) hBw n3.below) hBw hb7) hBw n8.below) (Nat.le_trans hBw g8)) hBw hb13) hBw hb17) hBw hb18) (Nat.le_trans hBw g3)
  have hO:=(Ze.upd_new ((((Ze.upd_new (((((show Ze [98] w _ from(Ze.of_below n1.below)).trans (Ze.of_below n2.below)).trans (Ze.of_below n3.below)).trans (Ze.of_below hb7)).trans (Ze.of_below n8.below)) u9 g8).trans (Ze.of_below hb13)).trans (Ze.of_below hb17)).trans (Ze.of_below hb18)) u19 g3)
  have hX:=(Fr.upd_new ((((Fr.upd_new (((((show Fr [bx] w _ from(Fr.of_below n1.below)).trans (Fr.of_below n2.below)).trans (Fr.of_below n3.below)).trans (Fr.of_below hb7)).trans (Fr.of_below n8.below)) u9 g8).trans (Fr.of_below hb13)).trans (Fr.of_below hb17)).trans (Fr.of_below hb18)) u19 g3)
  exact xec 5 k19 (.tuple #[.agg #[.int .i64 0,.int .i64 0,.int .i64 0,.int .i64 0,.slice none 0 0],.iface ty18 (v18)]) (Wl (dev_4 (by omega) (by omega) (by omega) hoe) hoe hB hO hX hva'4)
 have hs17:=(blB (u9.below (blB (blB (blB (blB (blB (Below.refl B w) hBw n1.below) hBw n2.below) hBw n3.below) hBw hb7) hBw n8.below) (Nat.le_trans hBw g8)) hBw hb13).size
 have k9'1:=(k9.below hb13).below hb17
 refine xb 23 0 k9'1 ?_
 refine xin 3 (↑((Ys l y data fuel).2.2.length):Int) (↑(Yi x.2.1 0):Int) (fun hc20=>?_) (fun hc20=>?_)
 ·have k1'3:=((u9.blkT ((k1'1.below hb7).below n8.below) n8.blk (by decide)).below hb13).below hb17
  refine xb 4 2 k1'3 ?_
  refine xc 0 (args:=#[.int .i64 x.2.2,.int .i64 13]) (Jt x.2.2 13 _ (by omega)) ?_
  rintro _ W21 ⟨ty21,v21,rfl,hb21,hva⟩
  have k3:=(((u9.blkT ((n3.blk.below hb7).below n8.below) n8.blk (by decide)).below hb13).below hb17).below hb21
  refine xsv 0 k3 [.int .i64 0,.int .i64 0,.int .i64 0,.int .i64 0,.slice none 0 0] fun W22 u22 k22=>?_
  have g3:=n3.ge0 (blB (blB (Below.refl B w) hBw n1.below) hBw n2.below)
  have hva'5:=hva.only (Ze.of_upd (T:=[82]) u22 k3 (by decide)) (by decide)
  have hB:=u22.below (blB (blB (blB (u9.below (blB (blB (blB (blB (blB (Below.refl B w) hBw n1.below) hBw n2.below) hBw n3.below) hBw hb7) hBw n8.below) (Nat.le_trans hBw g8)) hBw hb13) hBw hb17) hBw hb21) (Nat.le_trans hBw g3)
  have hO:=(Ze.upd_new ((((Ze.upd_new (((((show Ze [98] w _ from(Ze.of_below n1.below)).trans (Ze.of_below n2.below)).trans (Ze.of_below n3.below)).trans (Ze.of_below hb7)).trans (Ze.of_below n8.below)) u9 g8).trans (Ze.of_below hb13)).trans (Ze.of_below hb17)).trans (Ze.of_below hb21)) u22 g3)
  have hX:=(Fr.upd_new ((((Fr.upd_new (((((show Fr [bx] w _ from(Fr.of_below n1.below)).trans (Fr.of_below n2.below)).trans (Fr.of_below n3.below)).trans (Fr.of_below hb7)).trans (Fr.of_below n8.below)) u9 g8).trans (Fr.of_below hb13)).trans (Fr.of_below hb17)).trans (Fr.of_below hb21)) u22 g3)
  exact xec 5 k22 (.tuple #[.agg #[.int .i64 0,.int .i64 0,.int .i64 0,.int .i64 0,.slice none 0 0],.iface ty21 (v21)]) (Wl (dev_5 (by omega) (by omega) (by omega) hoe (by omega)) (by decide) hB hO hX hva'5)
 have hk'2:=hk'1.below hb17
 refine xb 8 3 hk'2 ?_
 refine xwm 2 ((↑sum:Int)+(↑((Ys l y data fuel).2.2.length):Int)) (↑(sum+((Ys l y data fuel).2.2.length)):Int) ?_
 refine xs 2 hk'2 [.pointer (some ⟨b,0,none⟩),.int .i64 data,.int .i64 fuel,.int .i64 (↑(sum+((Ys l y data fuel).2.2.length)):Int)] fun W23 u23 k23=>?_
 refine xb 7 3 k23 ?_
 refine xid 3 ((↑(sum+((Ys l y data fuel).2.2.length)):Int)>(16384:Int)) (fun hc24=>?_) (fun hc24=>?_)
 ·have k2'3:=u23.blkT ((k2.below hb13).below hb17) hk'2 (by decide)
  refine xb 4 2 k2'3 ?_
  refine xc 0 (args:=#[.int .i64 y.2.2,.int .i64 2]) (Jt y.2.2 2 _ (by omega)) ?_
  rintro _ W25 ⟨ty25,v25,rfl,hb25,hva⟩
  have k3:=(u23.blkT (((u9.blkT ((n3.blk.below hb7).below n8.below) n8.blk (by decide)).below hb13).below hb17) hk'2 (by decide)).below hb25
  refine xsv 0 k3 [.int .i64 0,.int .i64 0,.int .i64 0,.int .i64 0,.slice none 0 0] fun W26 u26 k26=>?_
  have g3:=n3.ge0 (blB (blB (Below.refl B w) hBw n1.below) hBw n2.below)
  have hva'6:=hva.only (Ze.of_upd (T:=[82]) u26 k3 (by decide)) (by decide)
  have hB:=u26.below (blB (u23.below (blB (blB (u9.below (blB (blB (blB (blB (blB (Below.refl B w) hBw n1.below) hBw n2.below) hBw n3.below) hBw hb7) hBw n8.below) (Nat.le_trans hBw g8)) hBw hb13) hBw hb17) hB0) hBw hb25) (Nat.le_trans hBw g3)
  have hO:=(Ze.upd_new (((((Ze.upd_new (((((show Ze [98] w _ from(Ze.of_below n1.below)).trans (Ze.of_below n2.below)).trans (Ze.of_below n3.below)).trans (Ze.of_below hb7)).trans (Ze.of_below n8.below)) u9 g8).trans (Ze.of_below hb13)).trans (Ze.of_below hb17)).trans (Ze.of_upd u23 hk'2 (by decide))).trans (Ze.of_below hb25)) u26 g3)
  have hX:=(Fr.upd_new (((((Fr.upd_new (((((show Fr [bx] w _ from(Fr.of_below n1.below)).trans (Fr.of_below n2.below)).trans (Fr.of_below n3.below)).trans (Fr.of_below hb7)).trans (Fr.of_below n8.below)) u9 g8).trans (Fr.of_below hb13)).trans (Fr.of_below hb17)).trans (Fr.of_upd u23 (by simp))).trans (Fr.of_below hb25)) u26 g3)
  exact xec 5 k26 (.tuple #[.agg #[.int .i64 0,.int .i64 0,.int .i64 0,.int .i64 0,.slice none 0 0],.iface ty25 (v25)]) (Wl (dev_6 (by omega) (by omega) (by omega) hoe (by omega) (by omega)) (by decide) hB hO hX hva'6)
 have k1'4:=u23.blkT (((u9.blkT ((k1'1.below hb7).below n8.below) n8.blk (by decide)).below hb13).below hb17) hk'2 (by decide)
 refine xb 5 0 k1'4 ?_
 have k9'2:=u23.blkT k9'1 hk'2 (by decide)
 refine xb 1 1 k9'2 ?_
 refine xb 1 2 k9'2 ?_
 refine xb 1 3 k9'2 ?_
 have k3:=u23.blkT (((u9.blkT ((n3.blk.below hb7).below n8.below) n8.blk (by decide)).below hb13).below hb17) hk'2 (by decide)
 refine xsv 2 k3 [.int .i64 x.1,.int .i64 (↑(Yi x.2.1 1):Int),.int .i64 (↑(Yi x.2.1 2):Int),.int .i64 (↑(Yi x.2.1 3):Int),.slice po ((Ys l y data fuel).2.2.length) co] fun W27 u27 k27=>?_
 have g3:=n3.ge0 (blB (blB (Below.refl B w) hBw n1.below) hBw n2.below)
 have k23'1:=u27.blkT k23 k3 (by decide)
 have hB:=u27.below (u23.below (blB (blB (u9.below (blB (blB (blB (blB (blB (Below.refl B w) hBw n1.below) hBw n2.below) hBw n3.below) hBw hb7) hBw n8.below) (Nat.le_trans hBw g8)) hBw hb13) hBw hb17) hB0) (Nat.le_trans hBw g3)
 have hO:=(Ze.upd_new ((((Ze.upd_new (((((show Ze [98] w _ from(Ze.of_below n1.below)).trans (Ze.of_below n2.below)).trans (Ze.of_below n3.below)).trans (Ze.of_below hb7)).trans (Ze.of_below n8.below)) u9 g8).trans (Ze.of_below hb13)).trans (Ze.of_below hb17)).trans (Ze.of_upd u23 hk'2 (by decide))) u27 g3)
 have hX:=(Fr.upd_new ((((Fr.upd_new (((((show Fr [bx] w _ from(Fr.of_below n1.below)).trans (Fr.of_below n2.below)).trans (Fr.of_below n3.below)).trans (Fr.of_below hb7)).trans (Fr.of_below n8.below)) u9 g8).trans (Fr.of_below hb13)).trans (Fr.of_below hb17)).trans (Fr.of_upd u23 (by simp))) u27 g3)
 have hom'1:=u27.own2 (u23.own2 (Zf hom hs17) hk'2 (by decide)) k3 (by decide)
 exact xec 4 k27 (.tuple #[.agg #[.int .i64 x.1,.int .i64 (↑(Yi x.2.1 1):Int),.int .i64 (↑(Yi x.2.1 2):Int),.int .i64 (↑(Yi x.2.1 3):Int),.slice po ((Ys l y data fuel).2.2.length) co],.nilIface]) (.inr ⟨by rw[dev_7 (by omega) (by omega) (by omega) hoe (by omega) (by omega)],_,_,rfl,hB,hO,hX,k23'1,hom'1⟩)
def mpD:Mp:=(0,0,0)
theorem run_mapne{a:Act}{o:Oper}{p q:Operand}(x:Mp)(ho:o.op=.binOp .neq 84 p q 84)(hx:a.eval p=.agg (Ux x).toArray)(hy:a.eval q=.agg (Ux x).toArray)(V:World) :
 (execOp a.eval o).run Tryz.prog V=.ok (.value (.bool false)) V:=by
 have h1:=Tryz.underlying84
 have h2:=Tryz.underlying3
 have h4:Tryz.prog.stoodInHeld 84=false:=by kernel_rfl
 have hb:(binOp .neq 84 (.agg (Ux x).toArray) (.agg (Ux x).toArray)).run Tryz.prog V=.ok (.bool false) V:=by
  obtain⟨x0,x1,x2⟩:=x
  simp[go_sem,Program.fieldsOf,h1,h2,h4,Op.eqFields,Ux]
 have hg:=run_eqGuard_agg (P:=Tryz.prog) (w:=V) .neq 84 p q (Ux x).toArray (Ux x).toArray (by kernel_rfl)
 simp only[execOp,ho,hx,hy,Sem.run_bind,hg,Result.andThen_ok,hb]
 rfl
theorem Fu(a b:Option Addr)(ca cb:Nat)(L:List Mp)(w:World)(ha:Sts Ux w (.slice a L.length ca) L)(hb:Sts Ux w (.slice b L.length cb) L) :
 Calls Tryz.prog 104 #[.slice a L.length ca,.slice b L.length cb] w (Ret (.bool true) w):=by
 have hLa:=Sl.len ha
 refine zin 26 Tryz.func104 ?_
 refine xk 15 (show(((↑L.length:Int) != (↑L.length:Int)):Bool)=false from by simp) ?_
 have hB:=Below.refl w.heap.size w
 refine zl 9 26 (fun zm zkv V=>∃ (i:Nat),zkv=[(0,.slice a L.length ca),(1,.slice b L.length cb),(5,.int .i64 (↑i:Int))]∧zm=L.length-((↑i:Int)).toNat∧Below w.heap.size w V∧i≤L.length) ⟨0,rfl,rfl,hB,Nat.zero_le _⟩ ?_
 rintro _ _ W1 ⟨i,rfl,rfl,hB_1,hi⟩ J1 hJ1 r1
 refine xid 9 ((↑i:Int)<(↑L.length:Int)) (fun hc2=>?_) (fun hc2=>?_)
 ·refine xd 5 .z ?_
  refine xx (.e [0,1] 2) _ L.length i 3 (Sts.cell ha Wp mpD (k:=i) (i:=0) (by omega) rfl).1 ?_
  have hB'1:=bln hB_1 (Zb W1)
  refine xlv (.e [] 3) (Sts.rp (k:=i) (ha.below hB'1) Wp mpD (by omega) (by decide)) ?_
  refine xx (.e [4,5] 6) _ L.length i 3 (Sts.cell hb Wp mpD (k:=i) (i:=0) (by omega) rfl).1 ?_
  refine xlv (.e [] 7) (Sts.rp (k:=i) (hb.below hB'1) Wp mpD (by omega) (by decide)) ?_
  refine xbo (.e [] 8) (t:=84) (t2:=84) (fun _ _ _ _ zo zx zy V hV=>run_mapne (L.getD i mpD) zo zx zy V) ?_
  refine xwm 8 ((↑i:Int)+1) (↑(i+1):Int) ?_
  exact ze 2 (hJ1 _ _ _ ⟨i+1,rfl,rfl,hB'1,by omega⟩ (by omega))
 exact xe 11 (.bool true) ⟨rfl,hB_1⟩
theorem Cc(a b:Option Addr)(ca cb:Nat)(d:Dv)(w:World)(ha:Sts Ux w (.slice a d.2.length ca) d.2)(hb:Sts Ux w (.slice b d.2.length cb) d.2) :
 Calls Tryz.prog 55 #[.agg #[.int .i64 d.1.1,.int .i64 d.1.2.1,.int .i64 d.1.2.2.1,.int .i64 d.1.2.2.2,.slice a d.2.length ca],.agg #[.int .i64 d.1.1,.int .i64 d.1.2.1,.int .i64 d.1.2.2.1,.int .i64 d.1.2.2.2,.slice b d.2.length cb]] w (Ret (.bool true) w):=by
 refine zin 38 Tryz.func55 ?_
 refine xa 2 [.int .i64 d.1.1,.int .i64 d.1.2.1,.int .i64 d.1.2.2.1,.int .i64 d.1.2.2.2,.slice a d.2.length ca] 82 fun b1 W1 n1=>?_
 refine xa 0 [.int .i64 d.1.1,.int .i64 d.1.2.1,.int .i64 d.1.2.2.1,.int .i64 d.1.2.2.2,.slice b d.2.length cb] 82 fun b2 W2 n2=>?_
 have d2_b1:=n2.ne n1.blk
 have k1'1:=n1.blk.below n2.below
 refine xb 6 0 k1'1 ?_
 refine xb 1 0 n2.blk ?_
 refine xgk 2 [9,10] (show((d.1.1==d.1.1):Bool)=true from by simp) ?_
 refine xb 1 1 k1'1 ?_
 refine xb 1 1 n2.blk ?_
 refine xgk 3 [15,16,17] (show((d.1.2.1==d.1.2.1):Bool)=true from by simp) ?_
 refine xb 1 2 k1'1 ?_
 refine xb 1 2 n2.blk ?_
 refine xgk 3 [22,23,24] (show((d.1.2.2.1==d.1.2.2.1):Bool)=true from by simp) ?_
 refine xb 1 3 k1'1 ?_
 refine xb 1 3 n2.blk ?_
 refine xgk 3 [29,30,31] (show((d.1.2.2.2==d.1.2.2.2):Bool)=true from by simp) ?_
 refine xb 1 4 k1'1 ?_
 refine xb 1 4 n2.blk ?_
 have hB:=bln n1.below n2.below
 refine xr 0 (args:=#[.slice a d.2.length ca,.slice b d.2.length cb]) (Fu a b ca cb d.2 _ (ha.below hB) (hb.below hB)) fun W7 hb7=>?_
 have hB'1:=bln hB hb7
 exact xe 5 (.bool true) ⟨rfl,hB'1⟩
abbrev Zv:=Dv×Option Addr×Nat
def zvD:Zv:=(((0,0,0,0),[]),none,0)
def Ll(z:Zv):List Value:=[.int .i64 z.1.1.1,.int .i64 z.1.1.2.1,.int .i64 z.1.1.2.2.1,.int .i64 z.1.1.2.2.2,.slice z.2.1 z.1.2.length z.2.2]
theorem Jw(z:Zv):(Ll z).length=5:=rfl
structure DevsR(w:World)(p:Option Addr)(c:Nat)(Z:List Zv):Prop where
 row:Sts Ll w (.slice p Z.length c) Z
 each:∀ i,i<Z.length→Sts Ux w (.slice (Z.getD i zvD).2.1 (Z.getD i zvD).1.2.length (Z.getD i zvD).2.2) (Z.getD i zvD).1.2
theorem DevsR.below{w W:World}{p:Option Addr}{c:Nat}{Z:List Zv}(h:DevsR w p c Z)(hb:Below w.heap.size w W):DevsR W p c Z:=⟨h.row.below hb,fun i hi=>(h.each i hi).below hb⟩
theorem DevsR.rowN{w:World}{p:Option Addr}{c n:Nat}{Z:List Zv}(h:DevsR w p c Z)(hn:Z.length=n):Sl w (.slice p n c) n (Z.flatMap Ll):=by subst hn;exact h.row
theorem DevsR.someN{w:World}{p:Option Addr}{c n i:Nat}{Z:List Zv}(h:DevsR w p c Z)(hn:Z.length=n)(hi:i<n):p.isSome=true:=by subst hn;exact(Sts.cell h.row Jw zvD (k:=i) (i:=0) hi rfl).1
theorem Mz(a b:Option Addr)(ca cb:Nat)(d e:Dv)(w:World)(h:d=e)(ha:Sts Ux w (.slice a d.2.length ca) d.2)(hb:Sts Ux w (.slice b e.2.length cb) e.2) :
 Calls Tryz.prog 55 #[.agg #[.int .i64 d.1.1,.int .i64 d.1.2.1,.int .i64 d.1.2.2.1,.int .i64 d.1.2.2.2,.slice a d.2.length ca],.agg #[.int .i64 e.1.1,.int .i64 e.1.2.1,.int .i64 e.1.2.2.1,.int .i64 e.1.2.2.2,.slice b e.2.length cb]] w (Ret (.bool true) w):=by
 subst h;exact Cc a b ca cb d w ha hb
theorem Ze2(p q:Option Addr)(c d n:Nat)(t u v x:Int)(Z Y:List Zv)(w:World)(hZ:Z.length=n)(hY:Y.length=n)(hZY:∀ i,i<n→(Z.getD i zvD).1=(Y.getD i zvD).1)(hP:DevsR w p c Z)(hQ:DevsR w q d Y) :
 Calls Tryz.prog 21 #[.agg #[.int .i64 t,.int .i64 u,.int .i64 v,.int .i64 x,.slice p n c],.agg #[.int .i64 t,.int .i64 u,.int .i64 v,.int .i64 x,.slice q n d]] w (Ret (.bool true) w):=by
 have hLa:=Sl.len (hP.rowN hZ)
 refine zin 60 Tryz.func21 ?_
 refine xa 2 [.int .i64 t,.int .i64 u,.int .i64 v,.int .i64 x,.slice p n c] 51 fun b1 W1 n1=>?_
 refine xa 0 [.int .i64 t,.int .i64 u,.int .i64 v,.int .i64 x,.slice q n d] 51 fun b2 W2 n2=>?_
 have d2_b1:=n2.ne n1.blk
 have k1'1:=n1.blk.below n2.below
 refine xb 7 0 k1'1 ?_
 refine xb 1 0 n2.blk ?_
 refine xgk 2 [10,11] (show((t != t):Bool)=false from by simp) ?_
 refine xb 1 1 k1'1 ?_
 refine xb 1 1 n2.blk ?_
 refine xgk 3 [16,17,18] (show((u != u):Bool)=false from by simp) ?_
 refine xb 1 2 k1'1 ?_
 refine xb 1 2 n2.blk ?_
 refine xgk 3 [23,24,25] (show((v != v):Bool)=false from by simp) ?_
 refine xb 1 3 k1'1 ?_
 refine xb 1 3 n2.blk ?_
 refine xgk 3 [30,31,32] (show((x != x):Bool)=false from by simp) ?_
 refine xb 1 4 k1'1 ?_
 refine xb 2 4 n2.blk ?_
 refine xk 5 (show(((↑n:Int) != (↑n:Int)):Bool)=false from by simp) ?_
 have hP'1:=(hP.below n1.below).below n2.below
 have hQ'1:=(hQ.below n1.below).below n2.below
 have hB:=bln n1.below n2.below
 refine zl 9 60 (fun zm zkv V=>∃ (i:Nat),zkv=[(2,.pointer (some ⟨b1,0,none⟩)),(3,.pointer (some ⟨b2,0,none⟩)),(5,.int .i64 (↑i:Int))]∧zm=n-((↑i:Int)).toNat∧Below w.heap.size w V∧Blk V b1 ([.int .i64 t,.int .i64 u,.int .i64 v,.int .i64 x,.slice p n c]) 51∧Blk V b2 ([.int .i64 t,.int .i64 u,.int .i64 v,.int .i64 x,.slice q n d]) 51∧DevsR V p c Z∧DevsR V q d Y∧i≤n) ⟨0,rfl,rfl,hB,k1'1,n2.blk,hP'1,hQ'1,Nat.zero_le _⟩ ?_
 rintro _ _ W7 ⟨i,rfl,rfl,hB_7,k7_b1,k7_b2,hP,hQ,hi⟩ J7 hJ7 r7
 refine xb 5 4 k7_b1 ?_
 refine xid 4 ((↑i:Int)<(↑n:Int)) (fun hc8=>?_) (fun hc8=>?_)
 ·refine xd 5 .z ?_
  have k7_b1'1:=k7_b1.below (Zb W7)
  refine xb (.e [0] 1) 4 k7_b1'1 ?_
  have hP'2:=hP.below (Zb W7)
  refine xx (.e [2] 3) _ n i 5 (hP'2.someN hZ (i:=i) (by omega)) ?_
  refine xlv (.e [] 4) (Sts.rp (k:=i) hP'2.row Jw zvD (by omega) (by decide)) ?_
  have k7_b2'1:=k7_b2.below (Zb W7)
  refine xb (.e [5] 6) 4 k7_b2'1 ?_
  have hQ'2:=hQ.below (Zb W7)
  refine xx (.e [7] 8) _ n i 5 (hQ'2.someN hY (i:=i) (by omega)) ?_
  refine xlv (.e [] 9) (Sts.rp (k:=i) hQ'2.row Jw zvD (by omega) (by decide)) ?_
  refine xr (.o [] 10) (args:=#[.agg #[.int .i64 ((Z.getD i zvD).1.1.1),.int .i64 ((Z.getD i zvD).1.1.2.1),.int .i64 ((Z.getD i zvD).1.1.2.2.1),.int .i64 ((Z.getD i zvD).1.1.2.2.2),.slice ((Z.getD i zvD).2.1) ((Z.getD i zvD).1.2.length) ((Z.getD i zvD).2.2)],.agg #[.int .i64 ((Y.getD i zvD).1.1.1),.int .i64 ((Y.getD i zvD).1.1.2.1),.int .i64 ((Y.getD i zvD).1.1.2.2.1),.int .i64 ((Y.getD i zvD).1.1.2.2.2),.slice ((Y.getD i zvD).2.1) ((Y.getD i zvD).1.2.length) ((Y.getD i zvD).2.2)]]) (Mz (Z.getD i zvD).2.1 (Y.getD i zvD).2.1 (Z.getD i zvD).2.2 (Y.getD i zvD).2.2 (Z.getD i zvD).1 (Y.getD i zvD).1 _ (hZY i (by omega)) (hP'2.each i (by omega)) (hQ'2.each i (by omega))) fun W9 hb9=>?_
  refine xwm (.r [11] 8) ((↑i:Int)+1) (↑(i+1):Int) ?_
  have hB'1:=bln (bln hB_7 (Zb W7)) hb9
  have k7_b1'2:=k7_b1'1.below hb9
  have k7_b2'2:=k7_b2'1.below hb9
  have hP'3:=hP'2.below hb9
  have hQ'3:=hQ'2.below hb9
  exact ze 2 (hJ7 _ _ _ ⟨i+1,rfl,rfl,hB'1,k7_b1'2,k7_b2'2,hP'3,hQ'3,by omega⟩ (by omega))
 exact xe 11 (.bool true) ⟨rfl,hB_7⟩
def Sb(l:List Ent)(k:Int):Bool:=l.any fun y=>y.1==k
theorem Wv{l:List Ent}{k:Int}:Sb l k=true↔∃ y∈l,y.1=k:=by unfold Sb;simp
def Jd(a b:List Ent):Option Int:=(a.find? fun x=>!Sb b x.1).map fun x=>x.1
theorem Oz{a b:List Ent}{k:Int}(h:Jd a b=some k):∃ x∈a,x.1=k:=by
 unfold Jd at h
 rw[Option.map_eq_some_iff] at h
 obtain⟨x,hx,rfl⟩:=h
 exact⟨x,List.mem_of_find?_eq_some hx,rfl⟩
def docE(D T:List Ent):Nat :=
 match Jd D T,Jd T D with
 | none,none=>0
 | some _,none=>2
 | none,some _=>1
 | some a,some b=>if a<b then 2 else 1
theorem Zag(b:List Ent):Jd [] b=none:=rfl
theorem Qy{x:Ent}{a b:List Ent}:Jd (x::a) b=if Sb b x.1 then Jd a b else some x.1:=by
 unfold Jd
 by_cases h:Sb b x.1=true
 ·simp[List.find?,h]
 ·simp[List.find?,h]
theorem Sr{y:Ent}{a b:List Ent}(h:∀ x∈a,y.1<x.1):Jd a (y::b)=Jd a b:=by
 induction a with
 | nil=>rfl
 | cons x a ih =>
  have hx:=h x (by simp)
  have e:Sb (y::b) x.1=Sb b x.1:=by
   unfold Sb
   rw[List.any_cons,show(y.1==x.1)=false from beq_false_of_ne (by omega),Bool.false_or]
  rw[Qy,Qy,e,ih fun z hz=>h z (by simp[hz])]
theorem Zaa:∀ {D T:List Ent},D.Pairwise (fun x y=>x.1<y.1)→T.Pairwise (fun x y=>x.1<y.1)→docE D T=Yu D T
  | [],[],_,_=>rfl
  | [],y::b,_,_=>by
    have e:Jd (y::b) []=some y.1:=by rw[Qy,if_neg (by simp[Sb])]
    unfold docE
    rw[Zag,e]
    rfl
  | x::a,[],_,_=>by
    have e:Jd (x::a) []=some x.1:=by rw[Qy,if_neg (by simp[Sb])]
    unfold docE
    rw[Zag,e]
    rfl
  | x :: a, y :: b, hD, hT => by
    obtain⟨hx,hD'⟩:=List.pairwise_cons.1 hD
    obtain⟨hy,hT'⟩:=List.pairwise_cons.1 hT
    by_cases e:x.1=y.1
    · have e1:Jd (x::a) (y::b)=Jd a b:=by
        rw[Qy,if_pos (Wv.2 ⟨y,by simp,e.symm⟩),Sr fun z hz=>by have:=hx z hz;omega]
      have e2:Jd (y::b) (x::a)=Jd b a:=by
        rw[Qy,if_pos (Wv.2 ⟨x,by simp,e⟩),Sr fun z hz=>by have:=hy z hz;omega]
      have ih:=Zaa hD' hT'
      unfold docE at ih ⊢
      rw[e1,e2,ih]
      show _=(if x.1=y.1 then Yu a b else _)
      rw[if_pos e]
    · by_cases q:x.1<y.1
      · have h1:Jd (x::a) (y::b)=some x.1:=by
          rw[Qy,if_neg]
          rw[Wv]
          rintro⟨z,hz,hk⟩
          rcases List.mem_cons.1 hz with rfl|hz
          · omega
          · have:=hy z hz;omega
        have hp:Yu (x::a) (y::b)=2:=by
          show(if x.1=y.1 then _ else if x.1<y.1 then 2 else 1)=2
          rw[if_neg e,if_pos q]
        rw[hp]
        unfold docE
        rw[h1]
        cases h2:Jd (y::b) (x::a) with
        | none=>rfl
        | some k =>
          obtain⟨z,hz,rfl⟩:=Oz h2
          have:y.1≤z.1:=by
            rcases List.mem_cons.1 hz with rfl|hz
            · exact Int.le_refl _
            · have:=hy z hz;omega
          show(if x.1<z.1 then 2 else 1)=2
          rw[if_pos (by omega)]
      · have h1:Jd (y::b) (x::a)=some y.1:=by
          rw[Qy,if_neg]
          rw[Wv]
          rintro⟨z,hz,hk⟩
          rcases List.mem_cons.1 hz with rfl|hz
          · omega
          · have:=hx z hz;omega
        have hp:Yu (x::a) (y::b)=1:=by
          show(if x.1=y.1 then _ else if x.1<y.1 then 2 else 1)=1
          rw[if_neg e,if_neg q]
        rw[hp]
        unfold docE
        rw[h1]
        cases h2:Jd (x::a) (y::b) with
        | none=>rfl
        | some k =>
          obtain⟨z,hz,rfl⟩:=Oz h2
          have:x.1≤z.1:=by
            rcases List.mem_cons.1 hz with rfl|hz
            · exact Int.le_refl _
            · have:=hx z hz;omega
          show(if z.1<y.1 then 2 else 1)=1
          rw[if_neg (by omega)]
def Xs(B:Nat)(w:World)(Z:List Zv):Prop:=∀ i,i<Z.length→w.ownsRow B 84 3 (.slice (Z.getD i zvD).2.1 (Z.getD i zvD).1.2.length (Z.getD i zvD).2.2) (Z.getD i zvD).1.2.length ((Z.getD i zvD).1.2.flatMap Ux)
theorem Xs.nil(B:Nat)(w:World):Xs B w []:=fun i hi=>absurd hi (by simp)
theorem Xs.below{B:Nat}{w W:World}{Z:List Zv}(h:Xs B w Z)(hb:Below w.heap.size w W):Xs B W Z:=fun i hi=>Za (h i hi) hb
theorem Xs.only{B:Nat}{w W:World}{Z:List Zv}{T:List TypeId}(h:Xs B w Z)(hO:Ze T w W)(hT:T.contains 84=false):Xs B W Z:=fun i hi=>Zl (h i hi) hO hT
theorem Xs.snoc{B n:Nat}{w:World}{Z:List Zv}{d:Dv}{p:Option Addr}{c:Nat}(h:Xs B w Z)(hn:d.2.length=n)(ho:w.ownsRow B 84 3 (.slice p n c) n (d.2.flatMap Ux)):Xs B w (Z++[(d,p,c)]):=by
 subst hn
 intro i hi
 by_cases e:i<Z.length
 ·have:=h i e
  rw[show(Z++[(d,p,c)]).getD i zvD=Z.getD i zvD from by simp[List.getD,List.getElem?_append_left e]];exact this
 ·obtain rfl:i=Z.length:=by simp at hi;omega
  rw[show(Z++[(d,p,c)]).getD Z.length zvD=(d,p,c) from by simp[List.getD]];exact ho
theorem devs_read{B:Nat}{w:World}{p:Option Addr}{c:Nat}{Z:List Zv}(hM:Xs B w Z)(ho:w.ownsRow B 82 5 (.slice p Z.length c) Z.length (Z.flatMap Ll)):DevsR w p c Z:=⟨Zg ho,fun i hi=>Zg (hM i hi)⟩
theorem Zg9{l:List UInt8}{top details data fuel:Int}(h:(Zd l details 3 fuel).fs≠[]):Qv l top details data fuel=((Xo (Zd l details 3 fuel)).1,(Xo (Zd l details 3 fuel)).2,[]):=if_pos h
theorem devsO_t{l:List UInt8}{top details data fuel:Int}(h:(Zd l details 3 fuel).fs=[])(h2:(Zd l top 1 fuel).fs≠[]):Qv l top details data fuel=((Xo (Zd l top 1 fuel)).1,(Xo (Zd l top 1 fuel)).2,[]):=by unfold Qv;rw[if_neg (fun q=>q h),if_pos h2]
theorem Rp{l:List UInt8}{top details data fuel:Int}(h:(Zd l details 3 fuel).fs=[])(h2:(Zd l top 1 fuel).fs=[])(h3:4096<(Zd l details 3 fuel).es.length):Qv l top details data fuel=([details],2,[]):=by unfold Qv;rw[if_neg (fun q=>q h),if_neg (fun q=>q h2),if_pos h3]
theorem Cl{l:List UInt8}{top details data fuel:Int}(h:(Zd l details 3 fuel).fs=[])(h2:(Zd l top 1 fuel).fs=[])(h3:¬ 4096<(Zd l details 3 fuel).es.length)(h4:Yu (Zd l details 3 fuel).es (Zd l top 1 fuel).es=1):Qv l top details data fuel=([details],18,[]):=by unfold Qv;rw[if_neg (fun q=>q h),if_neg (fun q=>q h2),if_neg h3,if_pos h4]
theorem Te{l:List UInt8}{top details data fuel:Int}(h:(Zd l details 3 fuel).fs=[])(h2:(Zd l top 1 fuel).fs=[])(h3:¬ 4096<(Zd l details 3 fuel).es.length)(h4:Yu (Zd l details 3 fuel).es (Zd l top 1 fuel).es=2):Qv l top details data fuel=([top],18,[]):=by unfold Qv;rw[if_neg (fun q=>q h),if_neg (fun q=>q h2),if_neg h3,if_neg (by omega),if_pos h4]
theorem Yc{l:List UInt8}{top details data fuel:Int}(h:(Zd l details 3 fuel).fs=[])(h2:(Zd l top 1 fuel).fs=[])(h3:¬ 4096<(Zd l details 3 fuel).es.length)(h4:Yu (Zd l details 3 fuel).es (Zd l top 1 fuel).es=0):Qv l top details data fuel=Zbw l (Zd l details 3 fuel).es (Zd l top 1 fuel).es data fuel:=by unfold Qv;rw[if_neg (fun q=>q h),if_neg (fun q=>q h2),if_neg h3,if_neg (by omega),if_neg (by omega)]
end Go.Proofs.YtlmaglneeaecdaaGreatDoor
