/- What the document's scan keeps in memory: rows of numbers that lie apart, visits that wait, faults. -/
import Derived.Laws.StructEq
import Derived.Test.YtgphgaehfdfjjaaGreatDoorMg4
namespace Go.Proofs.YtgphgaehfdfjjaaGreatDoor
set_option maxHeartbeats 8000000
set_option maxRecDepth 100000
open Go.RowKit Go.Extern.Stop Go.Stop Go.Extern
set_option linter.unusedVariables false
structure Ft where
 bl:List Int
 c:Int
 fa:Option Addr
 fc:Nat
def Og(f:Ft):List Value:=[.slice f.fa f.bl.length f.fc,V0 f.c]
theorem Ms(f:Ft):(Og f).length=2:=rfl
def fltP(f:Ft):List Int×Int:=(f.bl,f.c)
def wtC (t:Wt):List Value:=[V0 t.no,V0 t.lo,V0 t.hi,.slice t.wa t.way.length t.wc,V0 t.ft]
theorem Lw(t:Wt):(wtC t).length=5:=rfl
def Vk(B:Nat)(w:World)(a:O0)(c:Nat)(l:List Int):Prop:=w.ownsRow B 3 1 (.slice a l.length c) l.length (l.map V0)
theorem Vk.below{B:Nat}{w W:World}{a:O0}{c:Nat}{l:List Int}(h:Vk B w a c l)(hb:B0 w W):Vk B W a c l:=Zb h hb
theorem Vk.only{B:Nat}{w W:World}{a:O0}{c:Nat}{l:List Int}{T:List TypeId}(h:Vk B w a c l)(hO:Zf T w W)(hT:T.contains 3=false):Vk B W a c l:=Zl h hO hT
theorem Vk.mono{B B':Nat}{w:World}{a:O0}{c:Nat}{l:List Int}(h:Vk B w a c l)(hB:B'≤B):Vk B' w a c l:=Zg h hB
theorem Vk.ints{B:Nat}{w:World}{a:O0}{c:Nat}{l:List Int}(h:Vk B w a c l):Ints w (.slice a l.length c) l:=Zh h
theorem own_size{w:World}{base e size n:Nat}{v:Value}{xs:List Value}(h:w.ownsRow base e size v n xs)(hn:0<n):base≤w.heap.size:=by
 rcases h.2 with ⟨_,h0⟩|⟨g,a0,a1,hv,hb,hh,_⟩
 ·omega
 ·have:=(Array.getElem?_eq_some_iff.1 hh).1
  omega
abbrev RowK:=List Int×O0×Nat
def Zdm(t:Wt):RowK:=(t.way,t.wa,t.wc)
def fltK(f:Ft):RowK:=(f.bl,f.fa,f.fc)
def Yg(B:Nat)(w:World)(u:Value)(L:List RowK):Prop:=∀ x∈L,Vk B w x.2.1 x.2.2 x.1∧Kn (.slice x.2.1 x.1.length x.2.2) u
theorem Yg.below{B:Nat}{w W:World}{u:Value}{L:List RowK}(h:Yg B w u L)(hb:B0 w W):Yg B W u L:=fun x hx=>⟨(h x hx).1.below hb,(h x hx).2⟩
theorem Yg.only{B:Nat}{w W:World}{u:Value}{L:List RowK}{T:List TypeId}(h:Yg B w u L)(hO:Zf T w W)(hT:T.contains 3=false):Yg B W u L:=fun x hx=>⟨(h x hx).1.only hO hT,(h x hx).2⟩
theorem Yg.grow{B base e size n:Nat}{w W:World}{u u':Value}{xs:List Value}{L:List RowK}(h:Yg B w u L)(k:w.ownsRow base e size u n xs)(hg:w.grownBy W u.ownBlock)(ha:u'.ownBlock=u.ownBlock∨u'.ownBlock=some w.heap.size):Yg B W u' L :=
 fun x hx=>⟨(h x hx).2.symm.row (h x hx).1 hg,((h x hx).2.symm.grow (h x hx).1 ha).symm⟩
theorem Yg.sub{B:Nat}{w:World}{u:Value}{L L':List RowK}(h:Yg B w u L)(hs:∀ x∈L',x∈L):Yg B w u L':=fun x hx=>h x (hs x hx)
theorem Yg.snoc{B:Nat}{w:World}{u:Value}{L:List RowK}{x:RowK}(h:Yg B w u L)(k:Vk B w x.2.1 x.2.2 x.1)(ha:Kn (.slice x.2.1 x.1.length x.2.2) u):Yg B w u (L++[x]):=fun y hy=>by
 rcases List.mem_append.1 hy with hy|hy
 ·exact h y hy
 ·rw[List.mem_singleton.1 hy];exact⟨k,ha⟩
def Cm(B:Nat)(w:World)(a:O0)(c:Nat)(ts:List Wt):Prop:=∃ v0 n0 xs0,w.ownsRow B 312 5 v0 n0 xs0∧∀ W,W.ownsRow B 312 5 v0 n0 xs0→Sts wtC W (.slice a ts.length c) ts
theorem Cm.below{B:Nat}{w W:World}{a:O0}{c:Nat}{ts:List Wt}(h:Cm B w a c ts)(hb:B0 w W):Cm B W a c ts:=by
 obtain⟨v0,n0,a0,h1,h2⟩:=h
 exact⟨v0,n0,a0,Zb h1 hb,h2⟩
theorem Cm.only{B:Nat}{w W:World}{a:O0}{c:Nat}{ts:List Wt}{T:List TypeId}(h:Cm B w a c ts)(hO:Zf T w W)(hT:T.contains 312=false):Cm B W a c ts:=by
 obtain⟨v0,n0,a0,h1,h2⟩:=h
 exact⟨v0,n0,a0,Zl h1 hO hT,h2⟩
theorem Cm.sts{B:Nat}{w:World}{a:O0}{c:Nat}{ts:List Wt}(h:Cm B w a c ts):Sts wtC w (.slice a ts.length c) ts:=by
 obtain⟨v0,n0,a0,h1,h2⟩:=h
 exact h2 w h1
theorem Cm.of{B:Nat}{w:World}{a:O0}{n c:Nat}{ts:List Wt}(h:w.ownsRow B 312 5 (.slice a n c) n (ts.flatMap wtC))(hn:n=ts.length):Cm B w a c ts:=by
 subst hn
 exact⟨_,_,_,h,fun W k=>Zh k⟩
theorem Cm.tail{B:Nat}{w:World}{a:O0}{c:Nat}{t:Wt}{ts:List Wt}(h:Cm B w a c (t::ts)):Cm B w (Qz a 1 c 5) (c-1) ts:=by
 obtain⟨v0,n0,a0,h1,h2⟩:=h
 exact⟨v0,n0,a0,h1,fun W k=>Sts.cut Lw (h2 W k) 1 (by simp)⟩
theorem sts_eq{w:World}{a:O0}{c:Nat}{ts us:List Wt}(h:Sts wtC w (.slice a ts.length c) ts)(e:ts=us):Sts wtC w (.slice a us.length c) us:=by subst e;exact h
theorem Zd4.or{base e size n:Nat}{u:Value}{xs:List Value}{l:Bl}{way:List Int}{no tree lo hi deep:Int}{w:World}{e':Ending}{w':World}(k:w.ownsRow base e size u n xs)(h:Zd4 l way no tree lo hi deep w e' w') :
 (Zy l way no tree lo hi deep≠0∧∃ a4 b4 k4 n4 c4 v4 m4 d4 a c,e'=.returned (.tuple #[.agg #[V0 a4,.bool b4,.slice k4 n4 c4,.slice v4 m4 d4],.agg #[.slice a 1 c,V0 (Zy l way no tree lo hi deep)]])∧B0 w w'∧Vk w.heap.size w' a c [no]) ∨
 (Zy l way no tree lo hi deep=0∧∃ kp kc vp vc,e'=.returned (.tuple #[.agg #[V0 (Xw (inB l no)),.bool (Xm (inB l no)),.slice kp (Zp (inB l no)) kc,.slice vp (Zp (inB l no)) vc],.agg #[S0,V0 0]])∧B0 w w' ∧
 w'.ownsRow w.heap.size 3 1 (.slice kp (Zp (inB l no)) kc) (Zp (inB l no)) ((Xv l no).map V0)∧Kn u (.slice kp (Zp (inB l no)) kc)∧w'.ownsRow w.heap.size 9 1 (.slice vp (Zp (inB l no)) vc) (Zp (inB l no)) ((Ve l no).map sv)):=by
 rcases h with ⟨h0,a4,b4,k4,n4,c4,v4,m4,d4,a,c,h1,h2,h3⟩|⟨h0,kp,kc,vp,vc,h1,h2,h3,h4⟩
 ·exact .inl ⟨h0,a4,b4,k4,n4,c4,v4,m4,d4,a,c,h1,h2,h3⟩
 ·exact .inr ⟨h0,kp,kc,vp,vc,h1,h2,h3,Kn.of_lt k h3 (Nat.le_refl _),h4⟩
theorem Va(wa:O0)(wc:Nat)(way:List Int)(er:Int)(B:Nat)(a0:O0)(c0:Nat)(no:Int)(w:World)(he:er≠0)(hw:Ints w (.slice wa way.length wc) way)(hwl:way.length≤100000)(h0:Vk B w a0 c0 [no]) :
 C0 188 #[.slice wa way.length wc,.agg #[.slice a0 1 c0,V0 er]] w (fun e w'=>∃ a c,e=.returned (.agg #[.slice a (way++[no]).length c,V0 er])∧B0 w w'∧Vk B w' a c (way++[no])):=by
 refine(Zfm B wa wc way er a0 1 c0 [no] w (own_size h0 (by simp)) he hw hwl rfl (by decide) h0).mono ?_
 rintro e W ⟨_,rfl,hb,a,n,c,rfl,hn,ho⟩
 obtain rfl:n=(way++[no]).length:=by simp[hn]
 exact⟨a,c,rfl,hb,ho⟩
theorem Xx(no er:Int)(w:World)(he:er≠0):C0 95 #[V0 no,V0 er] w (fun e w'=>∃ a c,e=.returned (.agg #[.slice a 1 c,V0 er])∧B0 w w'∧Vk w.heap.size w' a c [no]):=by
 refine(Qp no er w he).mono ?_
 rintro e W ⟨_,rfl,hb,a,c,rfl,ho⟩
 exact⟨a,c,rfl,hb,ho⟩
def Zen(S:WS)(w:World)(e:Ending)(w':World):Prop :=
 ∃ (pe pb pf:O0) (ce cb cf:Nat) (fv:List Ft),e=.returned (.agg #[.slice pe S.es.length ce,.slice pb S.bs.length cb,V0 S.deep,V0 (S.looked:Int),.slice pf fv.length cf])∧B0 w w' ∧
  w'.ownsRow w.heap.size 100 3 (.slice pe S.es.length ce) S.es.length (S.es.flatMap Ji)∧w'.ownsRow w.heap.size 3 1 (.slice pb S.bs.length cb) S.bs.length (S.bs.map V0) ∧
  w'.ownsRow w.heap.size 52 2 (.slice pf fv.length cf) fv.length (fv.flatMap Og)∧fv.map fltP=S.fs∧Yg w.heap.size w' (.slice pb S.bs.length cb) (fv.map fltK)
structure WaitOk(l:List UInt8)(tree fuel:Int)(G:WS)(ts:List Wt)(s:WS):Prop where
 dry:s.dry=false
 all:Fi l tree fuel ts s=G
 way:∀ t∈ts,t.way.length≤16
 right:∀ t∈ts,t.ft=0→Qq t.lo t.hi=true
 few:ts.length+20*(fuel.toNat-s.looked)≤20*fuel.toNat+1
theorem WaitOk.grow{l:Bl}{tree fuel:Int}{G:WS}{ts:List Wt}{s:WS}(h:WaitOk l tree fuel G ts s):Dn s G:=h.all▸Ti l tree fuel ts s
theorem WaitOk.nil{l:Bl}{tree fuel:Int}{G:WS}{s:WS}(h:WaitOk l tree fuel G [] s):G=s:=h.all.symm
theorem WaitOk.fault{l:Bl}{tree fuel:Int}{G:WS}{t:Wt}{ts:List Wt}{s:WS}(h:WaitOk l tree fuel G (t::ts) s)(hf:t.ft≠0):WaitOk l tree fuel G ts (Yo t.way [t.no] t.ft s) :=
 ⟨h.dry,by rw[←one_fault h.dry hf];exact h.all,fun x hx=>h.way x (List.mem_cons_of_mem _ hx),fun x hx=>h.right x (List.mem_cons_of_mem _ hx),by have q:=h.few;simp only[List.length_cons] at q;show ts.length+20*(fuel.toNat-s.looked)≤_;omega⟩
theorem WaitOk.fuel{l:Bl}{tree fuel:Int}{G:WS}{t:Wt}{ts:List Wt}{s:WS}(h:WaitOk l tree fuel G (t::ts) s)(hf:t.ft=0)(hs:fuel≤s.looked):G={ Yo t.way [t.no] 12 s with dry:=true }:=by
 rw[←h.all,Lu,one_fuel h.dry hf (h.way t List.mem_cons_self) hs,Zau _ _ _ _ _ rfl]
theorem WaitOk.err{l:Bl}{tree fuel:Int}{G:WS}{t:Wt}{ts:List Wt}{s:WS}(h:WaitOk l tree fuel G (t::ts) s)(hf:t.ft=0)(hs:¬ fuel≤s.looked)(he:Zy l t.way t.no tree t.lo t.hi s.deep≠0) :
 WaitOk l tree fuel G ts (Yo t.way [t.no] (Zy l t.way t.no tree t.lo t.hi s.deep) { s with looked:=s.looked+1 }) :=
 ⟨h.dry,by rw[←one_err h.dry hf (h.way t List.mem_cons_self) hs he];exact h.all,fun x hx=>h.way x (List.mem_cons_of_mem _ hx),fun x hx=>h.right x (List.mem_cons_of_mem _ hx),by have q:=h.few;simp only[List.length_cons] at q;show ts.length+20*(fuel.toNat-(s.looked+1))≤_;omega⟩
theorem WaitOk.leaf{l:Bl}{tree fuel:Int}{G:WS}{t:Wt}{ts:List Wt}{s:WS}(h:WaitOk l tree fuel G (t::ts) s)(hf:t.ft=0)(hs:¬ fuel≤s.looked)(he:Zy l t.way t.no tree t.lo t.hi s.deep=0)(hl:Xm (inB l t.no)=true) :
 WaitOk l tree fuel G ts { s with looked:=s.looked+1,bs:=s.bs++[t.no],deep:=((t.way.length+1:Nat):Int),es:=s.es++Ks (Xv l t.no) (Ve l t.no) t.no (Zp (inB l t.no)) } :=
 ⟨h.dry,by rw[←one_leaf h.dry hf hs he hl];exact h.all,fun x hx=>h.way x (List.mem_cons_of_mem _ hx),fun x hx=>h.right x (List.mem_cons_of_mem _ hx),by have q:=h.few;simp only[List.length_cons] at q;show ts.length+20*(fuel.toNat-(s.looked+1))≤_;omega⟩
theorem belowW_ok{l:Bl}{t:Wt}{p:O0}{c i:Nat}(hw:t.way.length≤15)(hf:Yt t.lo t.hi (Xv l t.no)=0)(hi:i<Zp (inB l t.no)):(Kb l t p c i).way.length≤16∧((Kb l t p c i).ft=0→Qq (Kb l t p c i).lo (Kb l t p c i).hi=true):=by
 unfold Kb
 split
 ·exact⟨by simp;omega,fun _=>Zhl hf (by simp[Xv,Yx];exact hi)⟩
 ·rename_i h
  refine⟨by show t.way.length≤16;omega,fun q=>?_⟩
  dsimp only at q
  exact absurd q h
theorem WaitOk.inner{l:Bl}{tree fuel:Int}{G:WS}{t:Wt}{ts:List Wt}{s:WS}(p:O0)(c:Nat)(h:WaitOk l tree fuel G (t::ts) s)(hf:t.ft=0)(hs:¬ fuel≤s.looked)(he:Zy l t.way t.no tree t.lo t.hi s.deep=0)(hl:Xm (inB l t.no)=false) :
 WaitOk l tree fuel G (Yw l t p c (Zp (inB l t.no))++ts) { s with looked:=s.looked+1,bs:=s.bs++[t.no] }:=by
 have hw:=El he
 obtain⟨hn,a0,hc⟩:=Hy he
 have hb:∀ x∈Yw l t p c (Zp (inB l t.no)),x.way.length≤16∧(x.ft=0→Qq x.lo x.hi=true):=by
  intro x hx
  obtain⟨i,hi,rfl⟩:=List.mem_map.1 hx
  exact belowW_ok (by omega) a0 (List.mem_range.1 hi)
 refine⟨h.dry,by rw[doneW_app,←one_inner p c h.dry hf hs he hl];exact h.all,fun x hx=>?_,fun x hx=>?_,?_⟩
 ·rcases List.mem_append.1 hx with hx|hx
  ·exact(hb x hx).1
  ·exact h.way x (List.mem_cons_of_mem _ hx)
 ·rcases List.mem_append.1 hx with hx|hx
  ·exact(hb x hx).2
  ·exact h.right x (List.mem_cons_of_mem _ hx)
 ·have q:=h.few
  simp only[List.length_cons] at q
  rw[List.length_append,Jm]
  show Zp (inB l t.no)+ts.length+20*(fuel.toNat-(s.looked+1))≤_
  omega
theorem wait0(l:Bl)(root tree fuel:Int):WaitOk l tree fuel (Zd l root tree fuel) [⟨root,0,281474976710656,[],0,none,0⟩] ws0 :=
 ⟨rfl,by rw[Lu,doneW_nil,Wu (show ws0.dry=false from rfl) (show(0:Int)=0 from rfl)];unfold Zd;rw[show 17-([]:List Int).length=17 from rfl],fun t ht=>by rw[List.mem_singleton.1 ht];exact Nat.zero_le _,fun t ht _=>by rw[List.mem_singleton.1 ht];rfl,by show 1+20*(fuel.toNat-0)≤20*fuel.toNat+1;omega⟩
theorem Yg.below_visits{B:Nat}{w:World}{u:Value}{l:Bl}{t:Wt}{ts:List Wt}{fv:List Ft}{p:O0}{c n:Nat}(h:Yg B w u ((t::ts).map Zdm++fv.map fltK))(k:Vk B w p c (t.way++[t.no]))(ha:Kn (.slice p (t.way++[t.no]).length c) u) :
 Yg B w u ((Yw l t p c n++ts).map Zdm++fv.map fltK):=by
 intro x hx
 rcases List.mem_append.1 hx with hx|hx
 ·obtain⟨y,hy,rfl⟩:=List.mem_map.1 hx
  rcases List.mem_append.1 hy with hy|hy
  ·obtain⟨i,_,rfl⟩:=List.mem_map.1 hy
   unfold Kb
   split
   ·exact⟨k,ha⟩
   ·exact h (Zdm t) (by simp)
  ·exact h (Zdm y) (List.mem_append.2 (.inl (List.mem_map.2 ⟨y,List.mem_cons_of_mem _ hy,rfl⟩)))
 ·exact h x (List.mem_append.2 (.inr hx))
theorem Yg.note{B:Nat}{w:World}{u:Value}{t:Wt}{ts:List Wt}{fv:List Ft}{f:Ft}(h:Yg B w u ((t::ts).map Zdm++fv.map fltK))(k:Vk B w f.fa f.fc f.bl)(ha:Kn (.slice f.fa f.bl.length f.fc) u) :
 Yg B w u (ts.map Zdm++(fv++[f]).map fltK):=by
 intro x hx
 rcases List.mem_append.1 hx with hx|hx
 ·exact h x (List.mem_append.2 (.inl (by rw[List.map_cons];exact List.mem_cons_of_mem _ hx)))
 ·rw[List.map_append] at hx
  rcases List.mem_append.1 hx with hx|hx
  ·exact h x (List.mem_append.2 (.inr hx))
  ·rw[List.map_cons,List.map_nil,List.mem_singleton] at hx;rw[hx];exact⟨k,ha⟩
theorem Yg.drop1{B:Nat}{w:World}{u:Value}{t:Wt}{ts:List Wt}{fv:List Ft}(h:Yg B w u ((t::ts).map Zdm++fv.map fltK)):Yg B w u (ts.map Zdm++fv.map fltK):=h.sub fun x hx=>by
 rcases List.mem_append.1 hx with hx|hx
 ·exact List.mem_append.2 (.inl (by rw[List.map_cons];exact List.mem_cons_of_mem _ hx))
 ·exact List.mem_append.2 (.inr hx)
theorem Xz{fv:List Ft}{fs:List (List Int×Int)}{f:Ft}(h:fv.map fltP=fs):(fv++[f]).map fltP=fs++[(f.bl,f.c)]:=by rw[List.map_append,h];rfl
theorem Vk.apart{B base e size n c:Nat}{w W:World}{u:Value}{xs:List Value}{a:O0}{l:List Int}(q:Vk B W a c l)(k:w.ownsRow base e size u n xs)(h:w.heap.size≤B):Kn (.slice a l.length c) u:=(Kn.of_lt k q h).symm
theorem Yg.hd{B:Nat}{w:World}{u:Value}{t:Wt}{ts:List Wt}{L:List RowK}(h:Yg B w u ((t::ts).map Zdm++L)):Vk B w t.wa t.wc t.way:=(h (Zdm t) (by simp)).1
def Lz(B N:Nat)(w:World)(a:O0)(c:Nat)(ts:List Wt):Prop:=∃ v0 n0 xs0,w.ownsRow B 312 5 v0 n0 xs0∧(∀ j,v0.ownBlock=some j→j<N)∧∀ W,W.ownsRow B 312 5 v0 n0 xs0→Sts wtC W (.slice a ts.length c) ts
theorem Cm.at_{B:Nat}{w:World}{a:O0}{c:Nat}{ts:List Wt}(h:Cm B w a c ts):Lz B w.heap.size w a c ts:=by
 obtain⟨v0,n0,a0,h1,h2⟩:=h
 exact⟨v0,n0,a0,h1,fun j hj=>(h1.lt j hj).2,h2⟩
theorem Lz.un{B N:Nat}{w:World}{a:O0}{c:Nat}{ts:List Wt}(h:Lz B N w a c ts):Cm B w a c ts:=by
 obtain⟨v0,n0,a0,h1,_,h2⟩:=h
 exact⟨v0,n0,a0,h1,h2⟩
theorem Lz.below{B N:Nat}{w W:World}{a:O0}{c:Nat}{ts:List Wt}(h:Lz B N w a c ts)(hb:B0 w W):Lz B N W a c ts:=by
 obtain⟨v0,n0,a0,h1,h3,h2⟩:=h
 exact⟨v0,n0,a0,Zb h1 hb,h3,h2⟩
theorem Lz.only{B N:Nat}{w W:World}{a:O0}{c:Nat}{ts:List Wt}{T:List TypeId}(h:Lz B N w a c ts)(hO:Zf T w W)(hT:T.contains 312=false):Lz B N W a c ts:=by
 obtain⟨v0,n0,a0,h1,h3,h2⟩:=h
 exact⟨v0,n0,a0,Zl h1 hO hT,h3,h2⟩
theorem Lz.updN{B N:Nat}{w w0 W W2:World}{b:Nat}{cs:List Value}{e:TypeId}{a:O0}{c:Nat}{ts:List Wt}(h:Lz B N w a c ts)(u:Upd w b W)(n:New w0 b cs e W2)(hN:N=w0.heap.size):Lz B N W a c ts:=by
 obtain⟨v0,n0,a0,h1,h3,h2⟩:=h
 exact⟨v0,n0,a0,u.own3 h1 (fun j hj=>by have:=h3 j hj;have:=n.at_;omega),h3,h2⟩
theorem Lz.sts{B N:Nat}{w:World}{a:O0}{c:Nat}{ts us:List Wt}(h:Lz B N w a c ts)(e:ts=us):Sts wtC w (.slice a us.length c) us:=sts_eq h.un.sts e
theorem Lz.tail{B N:Nat}{w:World}{a:O0}{c:Nat}{ts us:List Wt}{t:Wt}(h:Lz B N w a c ts)(e:ts=t::us):Cm B w (Qz a 1 c 5) (c-1) us:=by subst e;exact h.un.tail
theorem Lz.slN{B N:Nat}{w:World}{a:O0}{c:Nat}{ts us:List Wt}{t:Wt}(h:Lz B N w a c ts)(e:ts=t::us):Sl w (.slice (Qz a 1 c 5) (ts.length-1) (c-1)) (ts.length-1) (us.flatMap wtC):=by subst e;exact h.un.tail.sts
theorem wt_one(ts:List Wt):∀ u∈ts.flatMap wtC,u.oneCell'=true:=by
 intro u hu
 obtain⟨t,_,h⟩:=List.mem_flatMap.1 hu
 simp only[wtC,List.mem_cons,List.not_mem_nil,or_false] at h
 rcases h with rfl|rfl|rfl|rfl|rfl<;>rfl
end Go.Proofs.YtgphgaehfdfjjaaGreatDoor
namespace Go.Proofs.YtgphgaehfdfjjaaGreatDoor
set_option maxHeartbeats 8000000
set_option maxRecDepth 100000
open Go.RowKit Go.Extern.Stop Go.Stop Go.Extern
set_option linter.unusedVariables false
attribute [local irreducible] wpList wpAnyH Code.wp Oper.wp Go
theorem Zgh(B bm:Nat)(p:O0)(k c:Nat)(l:Bl)(root tree fuel:Int)(w:World)(hI:RefI B bm p k c l w)(hfu:fuel≤1000) :
 C0 154 #[P0 bm,V0 root,V0 tree,V0 fuel] w (Zen (Zd l root tree fuel) w):=by
 refine zin 186 Tryz.func154 ?_
 refine xa 2 [S0,S0,V0 0,V0 0,S0] 202 fun b1 W1 n1=>?_
 refine xa 5 [S0,S0,V0 0,V0 0,S0] 202 fun b2 W2 n2=>?_
 have a7:=n2.ne n1.blk
 refine xsv 0 n2.blk [S0,S0,V0 0,V0 0,S0] fun W3 u3 k3=>?_
 have g2:=n2.ge n1.below
 refine xbs 7 1 [V0 root,V0 0,V0 281474976710656,S0,V0 0] 312 fun b4 W4 n4=>?_
 have g4:=n4.ge (u3.below (bln n1.below n2.below) g2)
 have hw0:Cm w.heap.size W4 (S1 b4) 1 [⟨root,0,281474976710656,[],0,none,0⟩]:=Cm.of (Xa (size:=5) (n:=1) n4.blk g4 rfl (by decide)) rfl
 have tg:=(((hI.below n1.below).below n2.below).only (Zf.of_upd (T:=[202]) u3 n2.blk (by decide)) (by decide)).below n4.below
 have hB:=bln (u3.below (bln n1.below n2.below) g2) n4.below
 have sx:=(u3.blk (n1.blk.below n2.below) (Ne.symm (Ne.symm a7))).below n4.below
 have uw:=k3.below n4.below
 refine zl 5 186 (fun zm ax V=>∃ (s:WS) (ts:List Wt) (pe pb pf:O0) (ce cb cf:Nat) (fv:List Ft) (aw:O0) (cw:Nat),ax=[(0,P0 bm),(2,V0 tree),(3,V0 fuel),(8,P0 b1),(9,P0 b2),(10,.slice aw ts.length cw)]∧zm=20*(fuel.toNat-s.looked)+ts.length∧B0 w V∧Blk V b1 ([S0,S0,V0 0,V0 0,S0]) 202∧Blk V b2 ([.slice pe s.es.length ce,.slice pb s.bs.length cb,V0 s.deep,V0 (s.looked:Int),.slice pf fv.length cf]) 202∧V.ownsRow w.heap.size 100 3 (.slice pe s.es.length ce) s.es.length (s.es.flatMap Ji)∧V.ownsRow w.heap.size 3 1 (.slice pb s.bs.length cb) s.bs.length (s.bs.map V0)∧V.ownsRow w.heap.size 52 2 (.slice pf fv.length cf) fv.length (fv.flatMap Og)∧Cm w.heap.size V aw cw ts∧Yg w.heap.size V (.slice pb s.bs.length cb) (ts.map Zdm++fv.map fltK)∧RefI B bm p k c l V∧WaitOk l tree fuel (Zd l root tree fuel) ts s∧fv.map fltP=s.fs) ⟨ws0,[⟨root,0,281474976710656,[],0,none,0⟩],none,none,none,0,0,0,[],(S1 b4),1,rfl,rfl,hB,sx,uw,World.ownsRow_nil _ _ _ _,World.ownsRow_nil _ _ _ _,World.ownsRow_nil _ _ _ _,hw0,(fun x hx=>by rw[show x=Zdm ⟨root,0,281474976710656,[],0,none,0⟩ from List.mem_singleton.1 hx];exact⟨World.ownsRow_nil _ _ _ _,Kn.nil _⟩),tg,wait0 l root tree fuel,rfl⟩ ?_
 rintro _ _ W5 ⟨s,ts,pe,pb,pf,ce,cb,cf,fv,aw,cw,rfl,rfl,q2,b0,l9,o1,ix,q5,vx,vs,hI,rz,n8⟩ J5 v6 r5
 have td:=rz.grow
 obtain⟨wi,hfb,hff⟩:=Ja l root tree fuel hfu
 have hfl:fv.length=s.fs.length:=by rw[←n8];simp
 have hg1:=td.1
 have hg2:=td.2.1
 have hg3:=td.2.2
 have yl:=rz.few
 refine xid 8 ((ts.length:Int)>(0:Int)) (fun tn=>?_) (fun tn=>?_)
 ·obtain⟨t,r,j7⟩:∃ t r,ts=t::r:=by
   cases ts with
   | nil=>simp at tn
   | cons t r=>exact⟨t,r,rfl⟩
  have e4:WaitOk l tree fuel (Zd l root tree fuel) (t::r) s:=j7▸rz
  have hwl:t.way.length≤16:=e4.way t List.mem_cons_self
  have az:ts.length=r.length+1:=by rw[j7];rfl
  have r0:=Cm.at_ vx
  have z7:Yg w.heap.size W5 (.slice pb s.bs.length cb) ((t::r).map Zdm++fv.map fltK):=by rw[←j7];exact vs
  refine xx 6 _ ts.length 0 5 (Sts.cell (r0.sts j7) Lw t (k:=0) (i:=0) (by simp) rfl).1 ?_
  refine xlv 0 (Sts.rp (k:=0) (r0.sts j7) Lw t (by simp) (by decide)) ?_
  refine xa 0 [V0 0,V0 0,V0 0,S0,V0 0] 312 fun b7 W7 n7=>?_
  have g7:=n7.ge q2
  refine xsv 0 n7.blk [V0 t.no,V0 t.lo,V0 t.hi,.slice t.wa t.way.length t.wc,V0 t.ft] fun W8 u8 k8=>?_
  refine xsL 5 (fun _ _ _ _ zo zx zy V=>Yu (k:=1) (b:=aw) (n:=ts.length) (c:=cw) (i:=1) (ki:=.i64) 5 zo zx zy rfl (by omega) Tryz.underlying313 (by kernel_rfl) V) ?_
  refine xb 7 4 k8 ?_
  refine xin 3 t.ft (0:Int) (fun su=>?_) (fun su=>?_)
  ·have k6:=su
   refine xd 1 (.t w.heap.size [52,202]) ?_
   have ia:=k8.below (Za W8)
   refine xbt (.e [0,2] 3) 3 w.heap.size [52,202] ia ?_
   refine xbt (.e [4] 5) 0 w.heap.size [52,202] ia ?_
   refine xbt (.e [6] 7) 4 w.heap.size [52,202] ia ?_
   refine xm2 0 1 8 ?_ ?_
   ·have t1:=(u8.blkT (l9.below n7.below) n7.blk (by decide)).below (Za W8)
    refine xb 0 4 t1 ?_
    have bk:=Zb (u8.own2 (Zb ix n7.below) n7.blk (by decide)) (Za W8)
    have rh:=bln (u8.below (bln q2 n7.below) g7) (Za W8)
    have j5:=bk
    have g6:=rh.size
    refine yc (.o [] 8) (args:=#[V0 t.no,V0 t.ft]) (.t w.heap.size [52,202]) (Xx t.no t.ft _ k6) ?_
    rintro _ W10 ⟨fa,fc,rfl,l8,v0⟩
    refine⟨(SF.of_below _ l8),?_⟩
    have ch:=(((z7.below n7.below).only (Zf.of_upd (T:=[312]) u8 n7.blk (by decide)) (by decide)).below (Za W8)).below l8
    refine yc (.o [] 9) (args:=#[.slice t.wa t.way.length t.wc,.agg #[.slice fa 1 fc,V0 t.ft]]) (.t w.heap.size [52,202]) (Va t.wa t.wc t.way t.ft _ fa fc t.no _ k6 (Yg.hd ch).ints (by omega) v0) ?_
    rintro _ W11 ⟨a6,a5,rfl,l6,i7⟩
    refine⟨(SF.of_below _ l6),?_⟩
    have m2:=i7.apart j5 (Nat.le_refl _)
    refine xbs (.o [] 10) 1 [.slice a6 ((t.way++[t.no]).length) a5,V0 t.ft] 52 fun b12 W12 u0=>?_
    have lv:=bln (bln rh l8) l6
    have g12:=u0.ge lv
    have ez:=Zb (Zb (Zb (u8.own2 (Zb q5 n7.below) n7.blk (by decide)) (Za W8)) l8) l6
    have sj:=Zw ez u0
    have h4:=Zb ez u0.below
    have qi:=bln lv u0.below
    refine ybi (.o [] 11) (.t w.heap.size [52,202]) fun _ _ _ _ zJ zQ zo zx zy zK=>Zu (m:=1) (news:=[.slice a6 ((t.way++[t.no]).length) a5,V0 t.ft]) (.agg #[S0,V0 0]) 2 32 ((fv++[(Ft.mk (t.way++[t.no]) t.ft a6 a5)]).length) (((fv++[(Ft.mk (t.way++[t.no]) t.ft a6 a5)]).flatMap Og)) zo Tryz.underlying200 (by kernel_rfl) rfl (by decide) zx h4 zy (u0.blk.sl 1 1 (by decide) (by decide)) rfl (by simp[Value.oneCell']) (by unfold maxLen;omega) (by omega) qi.size (by simp) (by rw[List.flatMap_append];rfl) fun qq og W13 vu m9 mx=>?_
    refine zK _ _ (Zr mx m9 h4 (by decide)) ?_
    have c1:=(((t1.below l8).below l6).below u0.below).grown m9 h4 (by decide)
    refine ys (.o [12] 13) c1 [.slice pe s.es.length ce,.slice pb s.bs.length cb,V0 s.deep,V0 (s.looked:Int),.slice qq ((fv++[(Ft.mk (t.way++[t.no]) t.ft a6 a5)]).length) og] (.t w.heap.size [52,202]) fun W14 au wt=>⟨(Zo au c1 g2 (by decide)),?_⟩
    refine xv1 5 10 (show(.slice (Qz aw 1 cw 5) (ts.length-1) (cw-1):Value)=.slice (Qz aw 1 cw 5) r.length (cw-1) from by rw[j7];rfl) ?_
    have pa:=(((((((r0.below n7.below).updN u8 n7 rfl).below (Za W8)).below l8).below l6).below u0.below).only (Zf.of_grown (T:=[52]) m9 h4 (by decide)) (by decide)).only (Zf.of_upd (T:=[202]) au c1 (by decide)) (by decide)
    have ln:=(((ch.below l6).below u0.below).only (Zf.of_grown (T:=[52]) m9 h4 (by decide)) (by decide)).only (Zf.of_upd (T:=[202]) au c1 (by decide)) (by decide)
    have nj:=((i7.below u0.below).only (Zf.of_grown (T:=[52]) m9 h4 (by decide)) (by decide)).only (Zf.of_upd (T:=[202]) au c1 (by decide)) (by decide)
    have uf:=au.below (qi.trans mx) g2
    have bg:=au.blk ((((((u8.blkT (b0.below n7.below) n7.blk (by decide)).below (Za W8)).below l8).below l6).below u0.below).grown m9 h4 (by decide)) (Ne.symm (Ne.symm a7))
    have qf:=au.own2 (Zj (Zb (Zb (Zb (Zb (u8.own2 (Zb o1 n7.below) n7.blk (by decide)) (Za W8)) l8) l6) u0.below) m9 h4 (by decide)) c1 (by decide)
    have od:=au.own2 (Zj (Zb (Zb (Zb bk l8) l6) u0.below) m9 h4 (by decide)) c1 (by decide)
    have qe:=au.own2 vu c1 (by decide)
    have uq:=(((((((hI.below n7.below).only (Zf.of_upd (T:=[312]) u8 n7.blk (by decide)) (by decide)).below (Za W8)).below l8).below l6).below u0.below).only (Zf.of_grown (T:=[52]) m9 h4 (by decide)) (by decide)).only (Zf.of_upd (T:=[202]) au c1 (by decide)) (by decide)
    refine ze 0 (v6 _ _ _ ⟨(Yo t.way [t.no] t.ft s),r,pe,pb,qq,ce,cb,og,(fv++[(Ft.mk (t.way++[t.no]) t.ft a6 a5)]),(Qz aw 1 cw 5),(cw-1),rfl,rfl,uf,bg,wt,qf,od,qe,(Lz.tail pa j7),(Yg.note (f:=(Ft.mk (t.way++[t.no]) t.ft a6 a5)) ln (nj.mono g6) m2),uq,e4.fault k6,Xz n8⟩ ?_)
    show 20*(fuel.toNat-s.looked)+r.length<20*(fuel.toNat-s.looked)+ts.length
    omega
   have q7:=Zb (u8.own2 (Zb ix n7.below) n7.blk (by decide)) (Za W8)
   have bb:=bln (u8.below (bln q2 n7.below) g7) (Za W8)
   have j5:=q7
   have g6:=bb.size
   refine yc 0 (args:=#[V0 t.no,V0 t.ft]) (.t w.heap.size [52,202]) (Xx t.no t.ft _ k6) ?_
   rintro _ W15 ⟨fa,fc,rfl,b6,v0⟩
   refine⟨(SF.of_below _ b6),?_⟩
   refine xm2 0 1 9 ?_ ?_
   ·have s1:=((u8.blkT (l9.below n7.below) n7.blk (by decide)).below (Za W8)).below b6
    refine xb 0 4 s1 ?_
    have db:=(((z7.below n7.below).only (Zf.of_upd (T:=[312]) u8 n7.blk (by decide)) (by decide)).below (Za W8)).below b6
    refine yc (.o [] 9) (args:=#[.slice t.wa t.way.length t.wc,.agg #[.slice fa 1 fc,V0 t.ft]]) (.t w.heap.size [52,202]) (Va t.wa t.wc t.way t.ft _ fa fc t.no _ k6 (Yg.hd db).ints (by omega) v0) ?_
    rintro _ W16 ⟨a6,a5,rfl,l7,i7⟩
    refine⟨(SF.of_below _ l7),?_⟩
    have m2:=i7.apart j5 (Nat.le_refl _)
    refine xbs (.o [] 10) 1 [.slice a6 ((t.way++[t.no]).length) a5,V0 t.ft] 52 fun b17 W17 u9=>?_
    have mr:=bln (bln bb b6) l7
    have g17:=u9.ge mr
    have cs:=Zb (Zb (Zb (u8.own2 (Zb q5 n7.below) n7.blk (by decide)) (Za W8)) b6) l7
    have rt:=Zw cs u9
    have h3:=Zb cs u9.below
    have nl:=bln mr u9.below
    refine ybi (.o [] 11) (.t w.heap.size [52,202]) fun _ _ _ _ zJ zQ zo zx zy zK=>Zu (m:=1) (news:=[.slice a6 ((t.way++[t.no]).length) a5,V0 t.ft]) (.agg #[S0,V0 0]) 2 32 ((fv++[(Ft.mk (t.way++[t.no]) t.ft a6 a5)]).length) (((fv++[(Ft.mk (t.way++[t.no]) t.ft a6 a5)]).flatMap Og)) zo Tryz.underlying200 (by kernel_rfl) rfl (by decide) zx h3 zy (u9.blk.sl 1 1 (by decide) (by decide)) rfl (by simp[Value.oneCell']) (by unfold maxLen;omega) (by omega) nl.size (by simp) (by rw[List.flatMap_append];rfl) fun lu kf W18 yw n0 qy=>?_
    refine zK _ _ (Zr qy n0 h3 (by decide)) ?_
    have c0:=((s1.below l7).below u9.below).grown n0 h3 (by decide)
    refine ys (.o [12] 13) c0 [.slice pe s.es.length ce,.slice pb s.bs.length cb,V0 s.deep,V0 (s.looked:Int),.slice lu ((fv++[(Ft.mk (t.way++[t.no]) t.ft a6 a5)]).length) kf] (.t w.heap.size [52,202]) fun W19 al xp=>⟨(Zo al c0 g2 (by decide)),?_⟩
    refine xv1 5 10 (show(.slice (Qz aw 1 cw 5) (ts.length-1) (cw-1):Value)=.slice (Qz aw 1 cw 5) r.length (cw-1) from by rw[j7];rfl) ?_
    have kl:=(((((((r0.below n7.below).updN u8 n7 rfl).below (Za W8)).below b6).below l7).below u9.below).only (Zf.of_grown (T:=[52]) n0 h3 (by decide)) (by decide)).only (Zf.of_upd (T:=[202]) al c0 (by decide)) (by decide)
    have op:=(((db.below l7).below u9.below).only (Zf.of_grown (T:=[52]) n0 h3 (by decide)) (by decide)).only (Zf.of_upd (T:=[202]) al c0 (by decide)) (by decide)
    have pt:=((i7.below u9.below).only (Zf.of_grown (T:=[52]) n0 h3 (by decide)) (by decide)).only (Zf.of_upd (T:=[202]) al c0 (by decide)) (by decide)
    have uh:=al.below (nl.trans qy) g2
    have bc:=al.blk ((((((u8.blkT (b0.below n7.below) n7.blk (by decide)).below (Za W8)).below b6).below l7).below u9.below).grown n0 h3 (by decide)) (Ne.symm (Ne.symm a7))
    have js:=al.own2 (Zj (Zb (Zb (Zb (Zb (u8.own2 (Zb o1 n7.below) n7.blk (by decide)) (Za W8)) b6) l7) u9.below) n0 h3 (by decide)) c0 (by decide)
    have qm:=al.own2 (Zj (Zb (Zb (Zb q7 b6) l7) u9.below) n0 h3 (by decide)) c0 (by decide)
    have lm:=al.own2 yw c0 (by decide)
    have ua:=(((((((hI.below n7.below).only (Zf.of_upd (T:=[312]) u8 n7.blk (by decide)) (by decide)).below (Za W8)).below b6).below l7).below u9.below).only (Zf.of_grown (T:=[52]) n0 h3 (by decide)) (by decide)).only (Zf.of_upd (T:=[202]) al c0 (by decide)) (by decide)
    refine ze 0 (v6 _ _ _ ⟨(Yo t.way [t.no] t.ft s),r,pe,pb,lu,ce,cb,kf,(fv++[(Ft.mk (t.way++[t.no]) t.ft a6 a5)]),(Qz aw 1 cw 5),(cw-1),rfl,rfl,uh,bc,xp,js,qm,lm,(Lz.tail kl j7),(Yg.note (f:=(Ft.mk (t.way++[t.no]) t.ft a6 a5)) op (pt.mono g6) m2),ua,e4.fault k6,Xz n8⟩ ?_)
    show 20*(fuel.toNat-s.looked)+r.length<20*(fuel.toNat-s.looked)+ts.length
    omega
   have z9:=(((z7.below n7.below).only (Zf.of_upd (T:=[312]) u8 n7.blk (by decide)) (by decide)).below (Za W8)).below b6
   refine yc 0 (args:=#[.slice t.wa t.way.length t.wc,.agg #[.slice fa 1 fc,V0 t.ft]]) (.t w.heap.size [52,202]) (Va t.wa t.wc t.way t.ft _ fa fc t.no _ k6 (Yg.hd z9).ints (by omega) v0) ?_
   rintro _ W20 ⟨a6,a5,rfl,e2,i7⟩
   refine⟨(SF.of_below _ e2),?_⟩
   have m2:=i7.apart j5 (Nat.le_refl _)
   refine xm2 0 1 10 ?_ ?_
   ·have t3:=(((u8.blkT (l9.below n7.below) n7.blk (by decide)).below (Za W8)).below b6).below e2
    refine xb 0 4 t3 ?_
    refine xbs (.o [] 10) 1 [.slice a6 ((t.way++[t.no]).length) a5,V0 t.ft] 52 fun b21 W21 t7=>?_
    have jk:=bln (bln bb b6) e2
    have g21:=t7.ge jk
    have ck:=Zb (Zb (Zb (u8.own2 (Zb q5 n7.below) n7.blk (by decide)) (Za W8)) b6) e2
    have si:=Zw ck t7
    have g8:=Zb ck t7.below
    have dw:=bln jk t7.below
    refine ybi (.o [] 11) (.t w.heap.size [52,202]) fun _ _ _ _ zJ zQ zo zx zy zK=>Zu (m:=1) (news:=[.slice a6 ((t.way++[t.no]).length) a5,V0 t.ft]) (.agg #[S0,V0 0]) 2 32 ((fv++[(Ft.mk (t.way++[t.no]) t.ft a6 a5)]).length) (((fv++[(Ft.mk (t.way++[t.no]) t.ft a6 a5)]).flatMap Og)) zo Tryz.underlying200 (by kernel_rfl) rfl (by decide) zx g8 zy (t7.blk.sl 1 1 (by decide) (by decide)) rfl (by simp[Value.oneCell']) (by unfold maxLen;omega) (by omega) dw.size (by simp) (by rw[List.flatMap_append];rfl) fun pc nq W22 xo m7 qv=>?_
    refine zK _ _ (Zr qv m7 g8 (by decide)) ?_
    have c2:=(t3.below t7.below).grown m7 g8 (by decide)
    refine ys (.o [12] 13) c2 [.slice pe s.es.length ce,.slice pb s.bs.length cb,V0 s.deep,V0 (s.looked:Int),.slice pc ((fv++[(Ft.mk (t.way++[t.no]) t.ft a6 a5)]).length) nq] (.t w.heap.size [52,202]) fun W23 aq k23=>⟨(Zo aq c2 g2 (by decide)),?_⟩
    refine xv1 5 10 (show(.slice (Qz aw 1 cw 5) (ts.length-1) (cw-1):Value)=.slice (Qz aw 1 cw 5) r.length (cw-1) from by rw[j7];rfl) ?_
    have qp:=(((((((r0.below n7.below).updN u8 n7 rfl).below (Za W8)).below b6).below e2).below t7.below).only (Zf.of_grown (T:=[52]) m7 g8 (by decide)) (by decide)).only (Zf.of_upd (T:=[202]) aq c2 (by decide)) (by decide)
    have kt:=(((z9.below e2).below t7.below).only (Zf.of_grown (T:=[52]) m7 g8 (by decide)) (by decide)).only (Zf.of_upd (T:=[202]) aq c2 (by decide)) (by decide)
    have ke:=((i7.below t7.below).only (Zf.of_grown (T:=[52]) m7 g8 (by decide)) (by decide)).only (Zf.of_upd (T:=[202]) aq c2 (by decide)) (by decide)
    have na:=aq.below (dw.trans qv) g2
    have av:=aq.blk ((((((u8.blkT (b0.below n7.below) n7.blk (by decide)).below (Za W8)).below b6).below e2).below t7.below).grown m7 g8 (by decide)) (Ne.symm (Ne.symm a7))
    have qj:=aq.own2 (Zj (Zb (Zb (Zb (Zb (u8.own2 (Zb o1 n7.below) n7.blk (by decide)) (Za W8)) b6) e2) t7.below) m7 g8 (by decide)) c2 (by decide)
    have lr:=aq.own2 (Zj (Zb (Zb (Zb q7 b6) e2) t7.below) m7 g8 (by decide)) c2 (by decide)
    have jo:=aq.own2 xo c2 (by decide)
    have sz:=(((((((hI.below n7.below).only (Zf.of_upd (T:=[312]) u8 n7.blk (by decide)) (by decide)).below (Za W8)).below b6).below e2).below t7.below).only (Zf.of_grown (T:=[52]) m7 g8 (by decide)) (by decide)).only (Zf.of_upd (T:=[202]) aq c2 (by decide)) (by decide)
    refine ze 0 (v6 _ _ _ ⟨(Yo t.way [t.no] t.ft s),r,pe,pb,pc,ce,cb,nq,(fv++[(Ft.mk (t.way++[t.no]) t.ft a6 a5)]),(Qz aw 1 cw 5),(cw-1),rfl,rfl,na,av,k23,qj,lr,jo,(Lz.tail qp j7),(Yg.note (f:=(Ft.mk (t.way++[t.no]) t.ft a6 a5)) kt (ke.mono g6) m2),sz,e4.fault k6,Xz n8⟩ ?_)
    show 20*(fuel.toNat-s.looked)+r.length<20*(fuel.toNat-s.looked)+ts.length
    omega
   refine xbs 0 1 [.slice a6 ((t.way++[t.no]).length) a5,V0 t.ft] 52 fun b24 W24 u7=>?_
   have er:=bln (bln bb b6) e2
   have g24:=u7.ge er
   have fb:=Zb (Zb (Zb (u8.own2 (Zb q5 n7.below) n7.blk (by decide)) (Za W8)) b6) e2
   have ro:=Zw fb u7
   have q8:=((((u8.blkT (l9.below n7.below) n7.blk (by decide)).below (Za W8)).below b6).below e2).below u7.below
   refine xb (.o [] 1) 4 q8 ?_
   have g9:=Zb fb u7.below
   have di:=bln er u7.below
   refine ybi (.o [] 11) (.t w.heap.size [52,202]) fun _ _ _ _ zJ zQ zo zx zy zK=>Zu (m:=1) (news:=[.slice a6 ((t.way++[t.no]).length) a5,V0 t.ft]) (.agg #[S0,V0 0]) 2 32 ((fv++[(Ft.mk (t.way++[t.no]) t.ft a6 a5)]).length) (((fv++[(Ft.mk (t.way++[t.no]) t.ft a6 a5)]).flatMap Og)) zo Tryz.underlying200 (by kernel_rfl) rfl (by decide) zx g9 zy (u7.blk.sl 1 1 (by decide) (by decide)) rfl (by simp[Value.oneCell']) (by unfold maxLen;omega) (by omega) di.size (by simp) (by rw[List.flatMap_append];rfl) fun jj ni W25 zf n6 mm=>?_
   refine zK _ _ (Zr mm n6 g9 (by decide)) ?_
   have b9:=q8.grown n6 g9 (by decide)
   refine ys (.o [12] 13) b9 [.slice pe s.es.length ce,.slice pb s.bs.length cb,V0 s.deep,V0 (s.looked:Int),.slice jj ((fv++[(Ft.mk (t.way++[t.no]) t.ft a6 a5)]).length) ni] (.t w.heap.size [52,202]) fun W26 ar vw=>⟨(Zo ar b9 g2 (by decide)),?_⟩
   refine xv1 5 10 (show(.slice (Qz aw 1 cw 5) (ts.length-1) (cw-1):Value)=.slice (Qz aw 1 cw 5) r.length (cw-1) from by rw[j7];rfl) ?_
   have kz:=(((((((r0.below n7.below).updN u8 n7 rfl).below (Za W8)).below b6).below e2).below u7.below).only (Zf.of_grown (T:=[52]) n6 g9 (by decide)) (by decide)).only (Zf.of_upd (T:=[202]) ar b9 (by decide)) (by decide)
   have pn:=(((z9.below e2).below u7.below).only (Zf.of_grown (T:=[52]) n6 g9 (by decide)) (by decide)).only (Zf.of_upd (T:=[202]) ar b9 (by decide)) (by decide)
   have oa:=((i7.below u7.below).only (Zf.of_grown (T:=[52]) n6 g9 (by decide)) (by decide)).only (Zf.of_upd (T:=[202]) ar b9 (by decide)) (by decide)
   have qw:=ar.below (di.trans mm) g2
   have ay:=ar.blk ((((((u8.blkT (b0.below n7.below) n7.blk (by decide)).below (Za W8)).below b6).below e2).below u7.below).grown n6 g9 (by decide)) (Ne.symm (Ne.symm a7))
   have jr:=ar.own2 (Zj (Zb (Zb (Zb (Zb (u8.own2 (Zb o1 n7.below) n7.blk (by decide)) (Za W8)) b6) e2) u7.below) n6 g9 (by decide)) b9 (by decide)
   have nh:=ar.own2 (Zj (Zb (Zb (Zb q7 b6) e2) u7.below) n6 g9 (by decide)) b9 (by decide)
   have nn:=ar.own2 zf b9 (by decide)
   have tp:=(((((((hI.below n7.below).only (Zf.of_upd (T:=[312]) u8 n7.blk (by decide)) (by decide)).below (Za W8)).below b6).below e2).below u7.below).only (Zf.of_grown (T:=[52]) n6 g9 (by decide)) (by decide)).only (Zf.of_upd (T:=[202]) ar b9 (by decide)) (by decide)
   refine ze 0 (v6 _ _ _ ⟨(Yo t.way [t.no] t.ft s),r,pe,pb,jj,ce,cb,ni,(fv++[(Ft.mk (t.way++[t.no]) t.ft a6 a5)]),(Qz aw 1 cw 5),(cw-1),rfl,rfl,qw,ay,vw,jr,nh,nn,(Lz.tail kz j7),(Yg.note (f:=(Ft.mk (t.way++[t.no]) t.ft a6 a5)) pn (oa.mono g6) m2),tp,e4.fault k6,Xz n8⟩ ?_)
   show 20*(fuel.toNat-s.looked)+r.length<20*(fuel.toNat-s.looked)+ts.length
   omega
  have k6:=su
  have a0:=u8.blkT (l9.below n7.below) n7.blk (by decide)
  refine xb 6 3 a0 ?_
  refine xid 4 ((s.looked:Int)≥fuel) (fun tw=>?_) (fun tw=>?_)
  ·have t0:fuel≤s.looked:=by omega
   refine xd 1 (.t w.heap.size [52,202]) ?_
   have kn:=k8.below (Za W8)
   refine xbt (.e [0,2] 3) 3 w.heap.size [52,202] kn ?_
   refine xbt (.e [4] 5) 0 w.heap.size [52,202] kn ?_
   refine xm2 0 1 6 ?_ ?_
   ·have o6:=a0.below (Za W8)
    refine xb 0 4 o6 ?_
    have ds:=Zb (u8.own2 (Zb ix n7.below) n7.blk (by decide)) (Za W8)
    have ee:=bln (u8.below (bln q2 n7.below) g7) (Za W8)
    have j5:=ds
    have g6:=ee.size
    refine yc (.o [] 6) (args:=#[V0 t.no,V0 12]) (.t w.heap.size [52,202]) (Xx t.no 12 _ (by decide)) ?_
    rintro _ W28 ⟨fa,fc,rfl,o4,v0⟩
    refine⟨(SF.of_below _ o4),?_⟩
    have bi:=(((z7.below n7.below).only (Zf.of_upd (T:=[312]) u8 n7.blk (by decide)) (by decide)).below (Za W8)).below o4
    refine yc (.o [] 7) (args:=#[.slice t.wa t.way.length t.wc,.agg #[.slice fa 1 fc,V0 12]]) (.t w.heap.size [52,202]) (Va t.wa t.wc t.way 12 _ fa fc t.no _ (by decide) (Yg.hd bi).ints (by omega) v0) ?_
    rintro _ W29 ⟨a6,a5,rfl,o8,i7⟩
    refine⟨(SF.of_below _ o8),?_⟩
    have m2:=i7.apart j5 (Nat.le_refl _)
    refine xbs (.o [] 8) 1 [.slice a6 ((t.way++[t.no]).length) a5,V0 12] 52 fun b30 W30 w4=>?_
    have cc:=bln (bln ee o4) o8
    have g30:=w4.ge cc
    have da:=Zb (Zb (Zb (u8.own2 (Zb q5 n7.below) n7.blk (by decide)) (Za W8)) o4) o8
    have ru:=Zw da w4
    have e9:=Zb da w4.below
    have fd:=bln cc w4.below
    refine ybi (.o [] 9) (.t w.heap.size [52,202]) fun _ _ _ _ zJ zQ zo zx zy zK=>Zu (m:=1) (news:=[.slice a6 ((t.way++[t.no]).length) a5,V0 12]) (.agg #[S0,V0 0]) 2 32 ((fv++[(Ft.mk (t.way++[t.no]) 12 a6 a5)]).length) (((fv++[(Ft.mk (t.way++[t.no]) 12 a6 a5)]).flatMap Og)) zo Tryz.underlying200 (by kernel_rfl) rfl (by decide) zx e9 zy (w4.blk.sl 1 1 (by decide) (by decide)) rfl (by simp[Value.oneCell']) (by unfold maxLen;omega) (by omega) fd.size (by simp) (by rw[List.flatMap_append];rfl) fun fk gf W31 xh p9 rf=>?_
    refine zK _ _ (Zr rf p9 e9 (by decide)) ?_
    have d1:=(((o6.below o4).below o8).below w4.below).grown p9 e9 (by decide)
    refine ys (.o [10] 11) d1 [.slice pe s.es.length ce,.slice pb s.bs.length cb,V0 s.deep,V0 (s.looked:Int),.slice fk ((fv++[(Ft.mk (t.way++[t.no]) 12 a6 a5)]).length) gf] (.t w.heap.size [52,202]) fun W32 bl vv=>⟨(Zo bl d1 g2 (by decide)),?_⟩
    refine xlv 4 vv.rp ?_
    have g5:=bl.blk ((((((u8.blkT (b0.below n7.below) n7.blk (by decide)).below (Za W8)).below o4).below o8).below w4.below).grown p9 e9 (by decide)) (Ne.symm (Ne.symm a7))
    refine xsv 0 g5 [.slice pe s.es.length ce,.slice pb s.bs.length cb,V0 s.deep,V0 (s.looked:Int),.slice fk ((fv++[(Ft.mk (t.way++[t.no]) 12 a6 a5)]).length) gf] fun W33 iq vz=>?_
    have g1:=n1.ge (B3 w)
    have ny:=iq.below (bl.below (fd.trans rf) g2) g1
    have qd:=iq.own2 (bl.own2 (Zj (Zb (Zb (Zb (Zb (u8.own2 (Zb o1 n7.below) n7.blk (by decide)) (Za W8)) o4) o8) w4.below) p9 e9 (by decide)) d1 (by decide)) g5 (by decide)
    have kh:=iq.own2 (bl.own2 (Zj (Zb (Zb (Zb ds o4) o8) w4.below) p9 e9 (by decide)) d1 (by decide)) g5 (by decide)
    have mc:=iq.own2 (bl.own2 xh d1 (by decide)) g5 (by decide)
    have nx:=((((bi.below o8).below w4.below).only (Zf.of_grown (T:=[52]) p9 e9 (by decide)) (by decide)).only (Zf.of_upd (T:=[202]) bl d1 (by decide)) (by decide)).only (Zf.of_upd (T:=[202]) iq g5 (by decide)) (by decide)
    have jd:=(((i7.below w4.below).only (Zf.of_grown (T:=[52]) p9 e9 (by decide)) (by decide)).only (Zf.of_upd (T:=[202]) bl d1 (by decide)) (by decide)).only (Zf.of_upd (T:=[202]) iq g5 (by decide)) (by decide)
    refine xec 8 vz (.agg #[.slice pe s.es.length ce,.slice pb s.bs.length cb,V0 s.deep,V0 (s.looked:Int),.slice fk ((fv++[(Ft.mk (t.way++[t.no]) 12 a6 a5)]).length) gf]) ?_
    rw[e4.fuel k6 t0]
    exact⟨pe,pb,_,ce,cb,_,fv++[(Ft.mk (t.way++[t.no]) 12 a6 a5)],rfl,ny,qd,kh,mc,Xz n8,(Yg.note (f:=(Ft.mk (t.way++[t.no]) 12 a6 a5)) nx (jd.mono g6) m2).sub (fun x hx=>List.mem_append.2 (.inr hx))⟩
   have r1:=Zb (u8.own2 (Zb ix n7.below) n7.blk (by decide)) (Za W8)
   have s3:=bln (u8.below (bln q2 n7.below) g7) (Za W8)
   have j5:=r1
   have g6:=s3.size
   refine yc 0 (args:=#[V0 t.no,V0 12]) (.t w.heap.size [52,202]) (Xx t.no 12 _ (by decide)) ?_
   rintro _ W34 ⟨fa,fc,rfl,d7,v0⟩
   refine⟨(SF.of_below _ d7),?_⟩
   refine xm2 0 1 7 ?_ ?_
   ·have o9:=(a0.below (Za W8)).below d7
    refine xb 0 4 o9 ?_
    have y0:=(((z7.below n7.below).only (Zf.of_upd (T:=[312]) u8 n7.blk (by decide)) (by decide)).below (Za W8)).below d7
    refine yc (.o [] 7) (args:=#[.slice t.wa t.way.length t.wc,.agg #[.slice fa 1 fc,V0 12]]) (.t w.heap.size [52,202]) (Va t.wa t.wc t.way 12 _ fa fc t.no _ (by decide) (Yg.hd y0).ints (by omega) v0) ?_
    rintro _ W35 ⟨a6,a5,rfl,p1,i7⟩
    refine⟨(SF.of_below _ p1),?_⟩
    have m2:=i7.apart j5 (Nat.le_refl _)
    refine xbs (.o [] 8) 1 [.slice a6 ((t.way++[t.no]).length) a5,V0 12] 52 fun b36 W36 z6=>?_
    have eo:=bln (bln s3 d7) p1
    have g36:=z6.ge eo
    have ae:=Zb (Zb (Zb (u8.own2 (Zb q5 n7.below) n7.blk (by decide)) (Za W8)) d7) p1
    have sb:=Zw ae z6
    have f5:=Zb ae z6.below
    have cd:=bln eo z6.below
    refine ybi (.o [] 9) (.t w.heap.size [52,202]) fun _ _ _ _ zJ zQ zo zx zy zK=>Zu (m:=1) (news:=[.slice a6 ((t.way++[t.no]).length) a5,V0 12]) (.agg #[S0,V0 0]) 2 32 ((fv++[(Ft.mk (t.way++[t.no]) 12 a6 a5)]).length) (((fv++[(Ft.mk (t.way++[t.no]) 12 a6 a5)]).flatMap Og)) zo Tryz.underlying200 (by kernel_rfl) rfl (by decide) zx f5 zy (z6.blk.sl 1 1 (by decide) (by decide)) rfl (by simp[Value.oneCell']) (by unfold maxLen;omega) (by omega) cd.size (by simp) (by rw[List.flatMap_append];rfl) fun gd ie W37 wh q0 pv=>?_
    refine zK _ _ (Zr pv q0 f5 (by decide)) ?_
    have c9:=((o9.below p1).below z6.below).grown q0 f5 (by decide)
    refine ys (.o [10] 11) c9 [.slice pe s.es.length ce,.slice pb s.bs.length cb,V0 s.deep,V0 (s.looked:Int),.slice gd ((fv++[(Ft.mk (t.way++[t.no]) 12 a6 a5)]).length) ie] (.t w.heap.size [52,202]) fun W38 ew wj=>⟨(Zo ew c9 g2 (by decide)),?_⟩
    refine xlv 4 wj.rp ?_
    have g3:=ew.blk ((((((u8.blkT (b0.below n7.below) n7.blk (by decide)).below (Za W8)).below d7).below p1).below z6.below).grown q0 f5 (by decide)) (Ne.symm (Ne.symm a7))
    refine xsv 0 g3 [.slice pe s.es.length ce,.slice pb s.bs.length cb,V0 s.deep,V0 (s.looked:Int),.slice gd ((fv++[(Ft.mk (t.way++[t.no]) 12 a6 a5)]).length) ie] fun W39 iy wn=>?_
    have g1:=n1.ge (B3 w)
    have lz:=iy.below (ew.below (cd.trans pv) g2) g1
    have kb:=iy.own2 (ew.own2 (Zj (Zb (Zb (Zb (Zb (u8.own2 (Zb o1 n7.below) n7.blk (by decide)) (Za W8)) d7) p1) z6.below) q0 f5 (by decide)) c9 (by decide)) g3 (by decide)
    have fg:=iy.own2 (ew.own2 (Zj (Zb (Zb (Zb r1 d7) p1) z6.below) q0 f5 (by decide)) c9 (by decide)) g3 (by decide)
    have mh:=iy.own2 (ew.own2 wh c9 (by decide)) g3 (by decide)
    have gn:=((((y0.below p1).below z6.below).only (Zf.of_grown (T:=[52]) q0 f5 (by decide)) (by decide)).only (Zf.of_upd (T:=[202]) ew c9 (by decide)) (by decide)).only (Zf.of_upd (T:=[202]) iy g3 (by decide)) (by decide)
    have ko:=(((i7.below z6.below).only (Zf.of_grown (T:=[52]) q0 f5 (by decide)) (by decide)).only (Zf.of_upd (T:=[202]) ew c9 (by decide)) (by decide)).only (Zf.of_upd (T:=[202]) iy g3 (by decide)) (by decide)
    refine xec 8 wn (.agg #[.slice pe s.es.length ce,.slice pb s.bs.length cb,V0 s.deep,V0 (s.looked:Int),.slice gd ((fv++[(Ft.mk (t.way++[t.no]) 12 a6 a5)]).length) ie]) ?_
    rw[e4.fuel k6 t0]
    exact⟨pe,pb,_,ce,cb,_,fv++[(Ft.mk (t.way++[t.no]) 12 a6 a5)],rfl,lz,kb,fg,mh,Xz n8,(Yg.note (f:=(Ft.mk (t.way++[t.no]) 12 a6 a5)) gn (ko.mono g6) m2).sub (fun x hx=>List.mem_append.2 (.inr hx))⟩
   have p7:=(((z7.below n7.below).only (Zf.of_upd (T:=[312]) u8 n7.blk (by decide)) (by decide)).below (Za W8)).below d7
   refine yc 0 (args:=#[.slice t.wa t.way.length t.wc,.agg #[.slice fa 1 fc,V0 12]]) (.t w.heap.size [52,202]) (Va t.wa t.wc t.way 12 _ fa fc t.no _ (by decide) (Yg.hd p7).ints (by omega) v0) ?_
   rintro _ W40 ⟨a6,a5,rfl,h6,i7⟩
   refine⟨(SF.of_below _ h6),?_⟩
   have m2:=i7.apart j5 (Nat.le_refl _)
   refine xm2 0 1 8 ?_ ?_
   ·have o5:=((a0.below (Za W8)).below d7).below h6
    refine xb 0 4 o5 ?_
    refine xbs (.o [] 8) 1 [.slice a6 ((t.way++[t.no]).length) a5,V0 12] 52 fun b41 W41 af=>?_
    have eq:=bln (bln s3 d7) h6
    have g41:=af.ge eq
    have x6:=Zb (Zb (Zb (u8.own2 (Zb q5 n7.below) n7.blk (by decide)) (Za W8)) d7) h6
    have rs:=Zw x6 af
    have f2:=Zb x6 af.below
    have cm:=bln eq af.below
    refine ybi (.o [] 9) (.t w.heap.size [52,202]) fun _ _ _ _ zJ zQ zo zx zy zK=>Zu (m:=1) (news:=[.slice a6 ((t.way++[t.no]).length) a5,V0 12]) (.agg #[S0,V0 0]) 2 32 ((fv++[(Ft.mk (t.way++[t.no]) 12 a6 a5)]).length) (((fv++[(Ft.mk (t.way++[t.no]) 12 a6 a5)]).flatMap Og)) zo Tryz.underlying200 (by kernel_rfl) rfl (by decide) zx f2 zy (af.blk.sl 1 1 (by decide) (by decide)) rfl (by simp[Value.oneCell']) (by unfold maxLen;omega) (by omega) cm.size (by simp) (by rw[List.flatMap_append];rfl) fun gu hc W42 o42 q3 rj=>?_
    refine zK _ _ (Zr rj q3 f2 (by decide)) ?_
    have c5:=(o5.below af.below).grown q3 f2 (by decide)
    refine ys (.o [10] 11) c5 [.slice pe s.es.length ce,.slice pb s.bs.length cb,V0 s.deep,V0 (s.looked:Int),.slice gu ((fv++[(Ft.mk (t.way++[t.no]) 12 a6 a5)]).length) hc] (.t w.heap.size [52,202]) fun W43 dz zp=>⟨(Zo dz c5 g2 (by decide)),?_⟩
    refine xlv 4 zp.rp ?_
    have f8:=dz.blk ((((((u8.blkT (b0.below n7.below) n7.blk (by decide)).below (Za W8)).below d7).below h6).below af.below).grown q3 f2 (by decide)) (Ne.symm (Ne.symm a7))
    refine xsv 0 f8 [.slice pe s.es.length ce,.slice pb s.bs.length cb,V0 s.deep,V0 (s.looked:Int),.slice gu ((fv++[(Ft.mk (t.way++[t.no]) 12 a6 a5)]).length) hc] fun W44 ir zh=>?_
    have g1:=n1.ge (B3 w)
    have pm:=ir.below (dz.below (cm.trans rj) g2) g1
    have lk:=ir.own2 (dz.own2 (Zj (Zb (Zb (Zb (Zb (u8.own2 (Zb o1 n7.below) n7.blk (by decide)) (Za W8)) d7) h6) af.below) q3 f2 (by decide)) c5 (by decide)) f8 (by decide)
    have ib:=ir.own2 (dz.own2 (Zj (Zb (Zb (Zb r1 d7) h6) af.below) q3 f2 (by decide)) c5 (by decide)) f8 (by decide)
    have pl:=ir.own2 (dz.own2 o42 c5 (by decide)) f8 (by decide)
    have ih:=((((p7.below h6).below af.below).only (Zf.of_grown (T:=[52]) q3 f2 (by decide)) (by decide)).only (Zf.of_upd (T:=[202]) dz c5 (by decide)) (by decide)).only (Zf.of_upd (T:=[202]) ir f8 (by decide)) (by decide)
    have ps:=(((i7.below af.below).only (Zf.of_grown (T:=[52]) q3 f2 (by decide)) (by decide)).only (Zf.of_upd (T:=[202]) dz c5 (by decide)) (by decide)).only (Zf.of_upd (T:=[202]) ir f8 (by decide)) (by decide)
    refine xec 8 zh (.agg #[.slice pe s.es.length ce,.slice pb s.bs.length cb,V0 s.deep,V0 (s.looked:Int),.slice gu ((fv++[(Ft.mk (t.way++[t.no]) 12 a6 a5)]).length) hc]) ?_
    rw[e4.fuel k6 t0]
    exact⟨pe,pb,_,ce,cb,_,fv++[(Ft.mk (t.way++[t.no]) 12 a6 a5)],rfl,pm,lk,ib,pl,Xz n8,(Yg.note (f:=(Ft.mk (t.way++[t.no]) 12 a6 a5)) ih (ps.mono g6) m2).sub (fun x hx=>List.mem_append.2 (.inr hx))⟩
   refine xbs 0 1 [.slice a6 ((t.way++[t.no]).length) a5,V0 12] 52 fun b45 W45 w3=>?_
   have dt:=bln (bln s3 d7) h6
   have g45:=w3.ge dt
   have aa:=Zb (Zb (Zb (u8.own2 (Zb q5 n7.below) n7.blk (by decide)) (Za W8)) d7) h6
   have sm:=Zw aa w3
   have o7:=(((a0.below (Za W8)).below d7).below h6).below w3.below
   refine xb (.o [] 1) 4 o7 ?_
   have f0:=Zb aa w3.below
   have bj:=bln dt w3.below
   refine ybi (.o [] 9) (.t w.heap.size [52,202]) fun _ _ _ _ zJ zQ zo zx zy zK=>Zu (m:=1) (news:=[.slice a6 ((t.way++[t.no]).length) a5,V0 12]) (.agg #[S0,V0 0]) 2 32 ((fv++[(Ft.mk (t.way++[t.no]) 12 a6 a5)]).length) (((fv++[(Ft.mk (t.way++[t.no]) 12 a6 a5)]).flatMap Og)) zo Tryz.underlying200 (by kernel_rfl) rfl (by decide) zx f0 zy (w3.blk.sl 1 1 (by decide) (by decide)) rfl (by simp[Value.oneCell']) (by unfold maxLen;omega) (by omega) bj.size (by simp) (by rw[List.flatMap_append];rfl) fun fz hy W46 zv q4 ob=>?_
   refine zK _ _ (Zr ob q4 f0 (by decide)) ?_
   have c6:=o7.grown q4 f0 (by decide)
   refine ys (.o [10] 11) c6 [.slice pe s.es.length ce,.slice pb s.bs.length cb,V0 s.deep,V0 (s.looked:Int),.slice fz ((fv++[(Ft.mk (t.way++[t.no]) 12 a6 a5)]).length) hy] (.t w.heap.size [52,202]) fun W47 df ye=>⟨(Zo df c6 g2 (by decide)),?_⟩
   refine xlv 4 ye.rp ?_
   have g0:=df.blk ((((((u8.blkT (b0.below n7.below) n7.blk (by decide)).below (Za W8)).below d7).below h6).below w3.below).grown q4 f0 (by decide)) (Ne.symm (Ne.symm a7))
   refine xsv 0 g0 [.slice pe s.es.length ce,.slice pb s.bs.length cb,V0 s.deep,V0 (s.looked:Int),.slice fz ((fv++[(Ft.mk (t.way++[t.no]) 12 a6 a5)]).length) hy] fun W48 ip k48=>?_
   have g1:=n1.ge (B3 w)
   have mt:=ip.below (df.below (bj.trans ob) g2) g1
   have kx:=ip.own2 (df.own2 (Zj (Zb (Zb (Zb (Zb (u8.own2 (Zb o1 n7.below) n7.blk (by decide)) (Za W8)) d7) h6) w3.below) q4 f0 (by decide)) c6 (by decide)) g0 (by decide)
   have gg:=ip.own2 (df.own2 (Zj (Zb (Zb (Zb r1 d7) h6) w3.below) q4 f0 (by decide)) c6 (by decide)) g0 (by decide)
   have pd:=ip.own2 (df.own2 zv c6 (by decide)) g0 (by decide)
   have hu:=((((p7.below h6).below w3.below).only (Zf.of_grown (T:=[52]) q4 f0 (by decide)) (by decide)).only (Zf.of_upd (T:=[202]) df c6 (by decide)) (by decide)).only (Zf.of_upd (T:=[202]) ip g0 (by decide)) (by decide)
   have mn:=(((i7.below w3.below).only (Zf.of_grown (T:=[52]) q4 f0 (by decide)) (by decide)).only (Zf.of_upd (T:=[202]) df c6 (by decide)) (by decide)).only (Zf.of_upd (T:=[202]) ip g0 (by decide)) (by decide)
   refine xec 8 k48 (.agg #[.slice pe s.es.length ce,.slice pb s.bs.length cb,V0 s.deep,V0 (s.looked:Int),.slice fz ((fv++[(Ft.mk (t.way++[t.no]) 12 a6 a5)]).length) hy]) ?_
   rw[e4.fuel k6 t0]
   exact⟨pe,pb,_,ce,cb,_,fv++[(Ft.mk (t.way++[t.no]) 12 a6 a5)],rfl,mt,kx,gg,pd,Xz n8,(Yg.note (f:=(Ft.mk (t.way++[t.no]) 12 a6 a5)) hu (mn.mono g6) m2).sub (fun x hx=>List.mem_append.2 (.inr hx))⟩
  have t0:¬ fuel≤s.looked:=by omega
  refine xb 5 3 a0 ?_
  refine xwm 0 ((s.looked:Int)+1) (↑(s.looked+1):Int) ?_
  refine xs 1 a0 [.slice pe s.es.length ce,.slice pb s.bs.length cb,V0 s.deep,V0 (↑(s.looked+1):Int),.slice pf fv.length cf] fun W49 i1 ja=>?_
  have ht:=i1.blkT k8 a0 (by decide)
  refine xlv 5 ht.rp ?_
  refine xb 2 2 ja ?_
  have h8:=i1.own2 (u8.own2 (Zb ix n7.below) n7.blk (by decide)) a0 (by decide)
  have j9:=i1.below (u8.below (bln q2 n7.below) g7) g2
  have j5:=h8
  have g6:=j9.size
  have m3:=((hI.below n7.below).only (Zf.of_upd (T:=[312]) u8 n7.blk (by decide)) (by decide)).only (Zf.of_upd (T:=[202]) i1 a0 (by decide)) (by decide)
  have j4:=((z7.below n7.below).only (Zf.of_upd (T:=[312]) u8 n7.blk (by decide)) (by decide)).only (Zf.of_upd (T:=[202]) i1 a0 (by decide)) (by decide)
  refine xc 0 (args:=#[P0 bm,.agg #[V0 t.no,V0 t.lo,V0 t.hi,.slice t.wa t.way.length t.wc,V0 t.ft],V0 tree,V0 s.deep]) ((Zfs B bm p k c l t.no tree t.lo t.hi s.deep t.way t.wa t.wc (V0 t.ft) _ m3 (Yg.hd j4).ints (by omega) (e4.right t List.mem_cons_self k6)).mono (fun _ _ h=>Zd4.or h8 h)) ?_
  rintro e W50 uu
  rcases uu with ⟨n9,a4,b4,k4,n4,c4,v4,m4,d4,fa,fc,rfl,a3,v0⟩|⟨n9,kp,kc,vp,vc,rfl,a3,hk,gp,iz⟩
  ·refine xa 3 [V0 0,.bool false,S0,S0] 38 fun b51 W51 f3=>?_
   have bq:=bln j9 a3
   have sg:=f3.ge bq
   refine xa 0 [S0,V0 0] 52 fun b52 W52 d6=>?_
   have o0:=bln bq f3.below
   have rx:=d6.ge o0
   have l4:=Zb (Zb (i1.own2 (u8.own2 (Zb q5 n7.below) n7.blk (by decide)) a0 (by decide)) a3) f3.below
   have k7:=Zw l4 d6
   have e7:=f3.blk.below d6.below
   refine xsv 0 e7 [V0 a4,.bool b4,.slice k4 n4 c4,.slice v4 m4 d4] fun W53 e1 k53=>?_
   have h1:=e1.blkT d6.blk e7 (by decide)
   refine xsv 0 h1 [.slice fa 1 fc,V0 (Zy l t.way t.no tree t.lo t.hi s.deep)] fun e0 e3 ti=>?_
   refine xb 6 1 ti ?_
   refine xk 3 (show(((Zy l t.way t.no tree t.lo t.hi s.deep) != (0:Int)):Bool)=true from bne_iff_ne.2 n9) ?_
   refine xd 1 (.t w.heap.size [52,202]) ?_
   have tv:=(e3.blkT (e1.blkT (((ht.below a3).below f3.below).below d6.below) e7 (by decide)) h1 (by decide)).below (Za e0)
   refine xbt (.e [0,2] 3) 3 w.heap.size [52,202] tv ?_
   refine xm2 0 1 4 ?_ ?_
   ·have ca:=(e3.blkT (e1.blkT (((ja.below a3).below f3.below).below d6.below) e7 (by decide)) h1 (by decide)).below (Za e0)
    refine xb 0 4 ca ?_
    have de:=ti.below (Za e0)
    refine xlv (.o [] 4) de.rp ?_
    have x0:=(((((j4.below a3).below f3.below).below d6.below).only (Zf.of_upd (T:=[38]) e1 e7 (by decide)) (by decide)).only (Zf.of_upd (T:=[52]) e3 h1 (by decide)) (by decide)).below (Za e0)
    have rc:=((((v0.below f3.below).below d6.below).only (Zf.of_upd (T:=[38]) e1 e7 (by decide)) (by decide)).only (Zf.of_upd (T:=[52]) e3 h1 (by decide)) (by decide)).below (Za e0)
    refine yc (.o [] 5) (args:=#[.slice t.wa t.way.length t.wc,.agg #[.slice fa 1 fc,V0 (Zy l t.way t.no tree t.lo t.hi s.deep)]]) (.t w.heap.size [52,202]) (Va t.wa t.wc t.way (Zy l t.way t.no tree t.lo t.hi s.deep) _ fa fc t.no _ n9 (Yg.hd x0).ints (by omega) rc) ?_
    rintro _ W55 ⟨a6,a5,rfl,l1,i7⟩
    refine⟨(SF.of_below _ l1),?_⟩
    have m2:=i7.apart j5 (Nat.le_refl _)
    refine xbs (.o [] 6) 1 [.slice a6 ((t.way++[t.no]).length) a5,V0 (Zy l t.way t.no tree t.lo t.hi s.deep)] 52 fun b56 W56 r7=>?_
    have mi:=de.below l1
    have sa:=r7.ne mi
    have ek:=bln (bln (e3.below (e1.below (bln o0 d6.below) sg) rx) (Za e0)) l1
    have g56:=r7.ge ek
    have w9:=Zb (Zb (e3.own3 (e1.own2 (Zb l4 d6.below) e7 (by decide)) k7) (Za e0)) l1
    have sh:=Zw w9 r7
    have d8:=Zb w9 r7.below
    have em:=bln ek r7.below
    refine ybi (.o [] 7) (.t w.heap.size [52,202]) fun _ _ _ _ zJ zQ zo zx zy zK=>Zu (m:=1) (news:=[.slice a6 ((t.way++[t.no]).length) a5,V0 (Zy l t.way t.no tree t.lo t.hi s.deep)]) (.agg #[S0,V0 0]) 2 32 ((fv++[(Ft.mk (t.way++[t.no]) (Zy l t.way t.no tree t.lo t.hi s.deep) a6 a5)]).length) (((fv++[(Ft.mk (t.way++[t.no]) (Zy l t.way t.no tree t.lo t.hi s.deep) a6 a5)]).flatMap Og)) zo Tryz.underlying200 (by kernel_rfl) rfl (by decide) zx d8 zy (r7.blk.sl 1 1 (by decide) (by decide)) rfl (by simp[Value.oneCell']) (by unfold maxLen;omega) (by omega) em.size (by simp) (by rw[List.flatMap_append];rfl) fun km jw W57 yk m5 ka=>?_
    refine zK _ _ (Zr ka m5 d8 (by decide)) ?_
    have j0:=((ca.below l1).below r7.below).grown m5 d8 (by decide)
    refine ys (.o [8] 9) j0 [.slice pe s.es.length ce,.slice pb s.bs.length cb,V0 s.deep,V0 (↑(s.looked+1):Int),.slice km ((fv++[(Ft.mk (t.way++[t.no]) (Zy l t.way t.no tree t.lo t.hi s.deep) a6 a5)]).length) jw] (.t w.heap.size [52,202]) fun W58 ap yo=>⟨(Zo ap j0 g2 (by decide)),?_⟩
    refine xv1 5 10 (show(.slice (Qz aw 1 cw 5) (ts.length-1) (cw-1):Value)=.slice (Qz aw 1 cw 5) r.length (cw-1) from by rw[j7];rfl) ?_
    have nw:=((((((((((((r0.below n7.below).updN u8 n7 rfl).only (Zf.of_upd (T:=[202]) i1 a0 (by decide)) (by decide)).below a3).below f3.below).below d6.below).only (Zf.of_upd (T:=[38]) e1 e7 (by decide)) (by decide)).only (Zf.of_upd (T:=[52]) e3 h1 (by decide)) (by decide)).below (Za e0)).below l1).below r7.below).only (Zf.of_grown (T:=[52]) m5 d8 (by decide)) (by decide)).only (Zf.of_upd (T:=[202]) ap j0 (by decide)) (by decide)
    have hs:=(((x0.below l1).below r7.below).only (Zf.of_grown (T:=[52]) m5 d8 (by decide)) (by decide)).only (Zf.of_upd (T:=[202]) ap j0 (by decide)) (by decide)
    have jh:=((i7.below r7.below).only (Zf.of_grown (T:=[52]) m5 d8 (by decide)) (by decide)).only (Zf.of_upd (T:=[202]) ap j0 (by decide)) (by decide)
    have qu:=ap.below (em.trans ka) g2
    have bf:=ap.blk (((((e3.blkT (e1.blkT ((((i1.blk (u8.blkT (b0.below n7.below) n7.blk (by decide)) (Ne.symm (Ne.symm a7))).below a3).below f3.below).below d6.below) e7 (by decide)) h1 (by decide)).below (Za e0)).below l1).below r7.below).grown m5 d8 (by decide)) (Ne.symm (Ne.symm a7))
    have np:=ap.own2 (Zj (Zb (Zb (Zb (e3.own2 (e1.own2 (Zb (Zb (Zb (i1.own2 (u8.own2 (Zb o1 n7.below) n7.blk (by decide)) a0 (by decide)) a3) f3.below) d6.below) e7 (by decide)) h1 (by decide)) (Za e0)) l1) r7.below) m5 d8 (by decide)) j0 (by decide)
    have gc:=ap.own2 (Zj (Zb (Zb (Zb (e3.own2 (e1.own2 (Zb (Zb (Zb h8 a3) f3.below) d6.below) e7 (by decide)) h1 (by decide)) (Za e0)) l1) r7.below) m5 d8 (by decide)) j0 (by decide)
    have rg:=ap.own2 yk j0 (by decide)
    have ss:=(((((((((m3.below a3).below f3.below).below d6.below).only (Zf.of_upd (T:=[38]) e1 e7 (by decide)) (by decide)).only (Zf.of_upd (T:=[52]) e3 h1 (by decide)) (by decide)).below (Za e0)).below l1).below r7.below).only (Zf.of_grown (T:=[52]) m5 d8 (by decide)) (by decide)).only (Zf.of_upd (T:=[202]) ap j0 (by decide)) (by decide)
    refine ze 0 (v6 _ _ _ ⟨(Yo t.way [t.no] (Zy l t.way t.no tree t.lo t.hi s.deep) { s with looked:=s.looked+1 }),r,pe,pb,km,ce,cb,jw,(fv++[(Ft.mk (t.way++[t.no]) (Zy l t.way t.no tree t.lo t.hi s.deep) a6 a5)]),(Qz aw 1 cw 5),(cw-1),rfl,rfl,qu,bf,yo,np,gc,rg,(Lz.tail nw j7),(Yg.note (f:=(Ft.mk (t.way++[t.no]) (Zy l t.way t.no tree t.lo t.hi s.deep) a6 a5)) hs (jh.mono g6) m2),ss,e4.err k6 t0 n9,Xz n8⟩ ?_)
    show 20*(fuel.toNat-(s.looked+1))+r.length<20*(fuel.toNat-s.looked)+ts.length
    omega
   have s9:=ti.below (Za e0)
   refine xlv 0 s9.rp ?_
   refine xm2 0 1 5 ?_ ?_
   ·have bp:=(e3.blkT (e1.blkT (((ja.below a3).below f3.below).below d6.below) e7 (by decide)) h1 (by decide)).below (Za e0)
    refine xb 0 4 bp ?_
    have w5:=(((((j4.below a3).below f3.below).below d6.below).only (Zf.of_upd (T:=[38]) e1 e7 (by decide)) (by decide)).only (Zf.of_upd (T:=[52]) e3 h1 (by decide)) (by decide)).below (Za e0)
    have ku:=((((v0.below f3.below).below d6.below).only (Zf.of_upd (T:=[38]) e1 e7 (by decide)) (by decide)).only (Zf.of_upd (T:=[52]) e3 h1 (by decide)) (by decide)).below (Za e0)
    refine yc (.o [] 5) (args:=#[.slice t.wa t.way.length t.wc,.agg #[.slice fa 1 fc,V0 (Zy l t.way t.no tree t.lo t.hi s.deep)]]) (.t w.heap.size [52,202]) (Va t.wa t.wc t.way (Zy l t.way t.no tree t.lo t.hi s.deep) _ fa fc t.no _ n9 (Yg.hd w5).ints (by omega) ku) ?_
    rintro _ W59 ⟨a6,a5,rfl,l0,i7⟩
    refine⟨(SF.of_below _ l0),?_⟩
    have m2:=i7.apart j5 (Nat.le_refl _)
    refine xbs (.o [] 6) 1 [.slice a6 ((t.way++[t.no]).length) a5,V0 (Zy l t.way t.no tree t.lo t.hi s.deep)] 52 fun b60 W60 r3=>?_
    have ll:=s9.below l0
    have rq:=r3.ne ll
    have co:=bln (bln (e3.below (e1.below (bln o0 d6.below) sg) rx) (Za e0)) l0
    have g60:=r3.ge co
    have ai:=Zb (Zb (e3.own3 (e1.own2 (Zb l4 d6.below) e7 (by decide)) k7) (Za e0)) l0
    have sd:=Zw ai r3
    have d3:=Zb ai r3.below
    have dn:=bln co r3.below
    refine ybi (.o [] 7) (.t w.heap.size [52,202]) fun _ _ _ _ zJ zQ zo zx zy zK=>Zu (m:=1) (news:=[.slice a6 ((t.way++[t.no]).length) a5,V0 (Zy l t.way t.no tree t.lo t.hi s.deep)]) (.agg #[S0,V0 0]) 2 32 ((fv++[(Ft.mk (t.way++[t.no]) (Zy l t.way t.no tree t.lo t.hi s.deep) a6 a5)]).length) (((fv++[(Ft.mk (t.way++[t.no]) (Zy l t.way t.no tree t.lo t.hi s.deep) a6 a5)]).flatMap Og)) zo Tryz.underlying200 (by kernel_rfl) rfl (by decide) zx d3 zy (r3.blk.sl 1 1 (by decide) (by decide)) rfl (by simp[Value.oneCell']) (by unfold maxLen;omega) (by omega) dn.size (by simp) (by rw[List.flatMap_append];rfl) fun qx lg W61 o61 m8 qs=>?_
    refine zK _ _ (Zr qs m8 d3 (by decide)) ?_
    have i4:=((bp.below l0).below r3.below).grown m8 d3 (by decide)
    refine ys (.o [8] 9) i4 [.slice pe s.es.length ce,.slice pb s.bs.length cb,V0 s.deep,V0 (↑(s.looked+1):Int),.slice qx ((fv++[(Ft.mk (t.way++[t.no]) (Zy l t.way t.no tree t.lo t.hi s.deep) a6 a5)]).length) lg] (.t w.heap.size [52,202]) fun W62 aj wu=>⟨(Zo aj i4 g2 (by decide)),?_⟩
    refine xv1 5 10 (show(.slice (Qz aw 1 cw 5) (ts.length-1) (cw-1):Value)=.slice (Qz aw 1 cw 5) r.length (cw-1) from by rw[j7];rfl) ?_
    have kw:=((((((((((((r0.below n7.below).updN u8 n7 rfl).only (Zf.of_upd (T:=[202]) i1 a0 (by decide)) (by decide)).below a3).below f3.below).below d6.below).only (Zf.of_upd (T:=[38]) e1 e7 (by decide)) (by decide)).only (Zf.of_upd (T:=[52]) e3 h1 (by decide)) (by decide)).below (Za e0)).below l0).below r3.below).only (Zf.of_grown (T:=[52]) m8 d3 (by decide)) (by decide)).only (Zf.of_upd (T:=[202]) aj i4 (by decide)) (by decide)
    have gw:=(((w5.below l0).below r3.below).only (Zf.of_grown (T:=[52]) m8 d3 (by decide)) (by decide)).only (Zf.of_upd (T:=[202]) aj i4 (by decide)) (by decide)
    have ga:=((i7.below r3.below).only (Zf.of_grown (T:=[52]) m8 d3 (by decide)) (by decide)).only (Zf.of_upd (T:=[202]) aj i4 (by decide)) (by decide)
    have px:=aj.below (dn.trans qs) g2
    have x8:=aj.blk (((((e3.blkT (e1.blkT ((((i1.blk (u8.blkT (b0.below n7.below) n7.blk (by decide)) (Ne.symm (Ne.symm a7))).below a3).below f3.below).below d6.below) e7 (by decide)) h1 (by decide)).below (Za e0)).below l0).below r3.below).grown m8 d3 (by decide)) (Ne.symm (Ne.symm a7))
    have fo:=aj.own2 (Zj (Zb (Zb (Zb (e3.own2 (e1.own2 (Zb (Zb (Zb (i1.own2 (u8.own2 (Zb o1 n7.below) n7.blk (by decide)) a0 (by decide)) a3) f3.below) d6.below) e7 (by decide)) h1 (by decide)) (Za e0)) l0) r3.below) m8 d3 (by decide)) i4 (by decide)
    have gy:=aj.own2 (Zj (Zb (Zb (Zb (e3.own2 (e1.own2 (Zb (Zb (Zb h8 a3) f3.below) d6.below) e7 (by decide)) h1 (by decide)) (Za e0)) l0) r3.below) m8 d3 (by decide)) i4 (by decide)
    have rk:=aj.own2 o61 i4 (by decide)
    have tf:=(((((((((m3.below a3).below f3.below).below d6.below).only (Zf.of_upd (T:=[38]) e1 e7 (by decide)) (by decide)).only (Zf.of_upd (T:=[52]) e3 h1 (by decide)) (by decide)).below (Za e0)).below l0).below r3.below).only (Zf.of_grown (T:=[52]) m8 d3 (by decide)) (by decide)).only (Zf.of_upd (T:=[202]) aj i4 (by decide)) (by decide)
    refine ze 0 (v6 _ _ _ ⟨(Yo t.way [t.no] (Zy l t.way t.no tree t.lo t.hi s.deep) { s with looked:=s.looked+1 }),r,pe,pb,qx,ce,cb,lg,(fv++[(Ft.mk (t.way++[t.no]) (Zy l t.way t.no tree t.lo t.hi s.deep) a6 a5)]),(Qz aw 1 cw 5),(cw-1),rfl,rfl,px,x8,wu,fo,gy,rk,(Lz.tail kw j7),(Yg.note (f:=(Ft.mk (t.way++[t.no]) (Zy l t.way t.no tree t.lo t.hi s.deep) a6 a5)) gw (ga.mono g6) m2),tf,e4.err k6 t0 n9,Xz n8⟩ ?_)
    show 20*(fuel.toNat-(s.looked+1))+r.length<20*(fuel.toNat-s.looked)+ts.length
    omega
   have q1:=(((((j4.below a3).below f3.below).below d6.below).only (Zf.of_upd (T:=[38]) e1 e7 (by decide)) (by decide)).only (Zf.of_upd (T:=[52]) e3 h1 (by decide)) (by decide)).below (Za e0)
   have ns:=((((v0.below f3.below).below d6.below).only (Zf.of_upd (T:=[38]) e1 e7 (by decide)) (by decide)).only (Zf.of_upd (T:=[52]) e3 h1 (by decide)) (by decide)).below (Za e0)
   refine yc 0 (args:=#[.slice t.wa t.way.length t.wc,.agg #[.slice fa 1 fc,V0 (Zy l t.way t.no tree t.lo t.hi s.deep)]]) (.t w.heap.size [52,202]) (Va t.wa t.wc t.way (Zy l t.way t.no tree t.lo t.hi s.deep) _ fa fc t.no _ n9 (Yg.hd q1).ints (by omega) ns) ?_
   rintro _ W63 ⟨a6,a5,rfl,d2,i7⟩
   refine⟨(SF.of_below _ d2),?_⟩
   have m2:=i7.apart j5 (Nat.le_refl _)
   refine xm2 0 1 6 ?_ ?_
   ·have fe:=((e3.blkT (e1.blkT (((ja.below a3).below f3.below).below d6.below) e7 (by decide)) h1 (by decide)).below (Za e0)).below d2
    refine xb 0 4 fe ?_
    refine xbs (.o [] 6) 1 [.slice a6 ((t.way++[t.no]).length) a5,V0 (Zy l t.way t.no tree t.lo t.hi s.deep)] 52 fun b64 W64 s7=>?_
    have mz:=s9.below d2
    have se:=s7.ne mz
    have ev:=bln (bln (e3.below (e1.below (bln o0 d6.below) sg) rx) (Za e0)) d2
    have g64:=s7.ge ev
    have w0:=Zb (Zb (e3.own3 (e1.own2 (Zb l4 d6.below) e7 (by decide)) k7) (Za e0)) d2
    have rr:=Zw w0 s7
    have d5:=Zb w0 s7.below
    have ct:=bln ev s7.below
    refine ybi (.o [] 7) (.t w.heap.size [52,202]) fun _ _ _ _ zJ zQ zo zx zy zK=>Zu (m:=1) (news:=[.slice a6 ((t.way++[t.no]).length) a5,V0 (Zy l t.way t.no tree t.lo t.hi s.deep)]) (.agg #[S0,V0 0]) 2 32 ((fv++[(Ft.mk (t.way++[t.no]) (Zy l t.way t.no tree t.lo t.hi s.deep) a6 a5)]).length) (((fv++[(Ft.mk (t.way++[t.no]) (Zy l t.way t.no tree t.lo t.hi s.deep) a6 a5)]).flatMap Og)) zo Tryz.underlying200 (by kernel_rfl) rfl (by decide) zx d5 zy (s7.blk.sl 1 1 (by decide) (by decide)) rfl (by simp[Value.oneCell']) (by unfold maxLen;omega) (by omega) ct.size (by simp) (by rw[List.flatMap_append];rfl) fun lx kg W65 zd n3 pu=>?_
    refine zK _ _ (Zr pu n3 d5 (by decide)) ?_
    have i8:=(fe.below s7.below).grown n3 d5 (by decide)
    refine ys (.o [8] 9) i8 [.slice pe s.es.length ce,.slice pb s.bs.length cb,V0 s.deep,V0 (↑(s.looked+1):Int),.slice lx ((fv++[(Ft.mk (t.way++[t.no]) (Zy l t.way t.no tree t.lo t.hi s.deep) a6 a5)]).length) kg] (.t w.heap.size [52,202]) fun W66 ao k66=>⟨(Zo ao i8 g2 (by decide)),?_⟩
    refine xv1 5 10 (show(.slice (Qz aw 1 cw 5) (ts.length-1) (cw-1):Value)=.slice (Qz aw 1 cw 5) r.length (cw-1) from by rw[j7];rfl) ?_
    have mp:=((((((((((((r0.below n7.below).updN u8 n7 rfl).only (Zf.of_upd (T:=[202]) i1 a0 (by decide)) (by decide)).below a3).below f3.below).below d6.below).only (Zf.of_upd (T:=[38]) e1 e7 (by decide)) (by decide)).only (Zf.of_upd (T:=[52]) e3 h1 (by decide)) (by decide)).below (Za e0)).below d2).below s7.below).only (Zf.of_grown (T:=[52]) n3 d5 (by decide)) (by decide)).only (Zf.of_upd (T:=[202]) ao i8 (by decide)) (by decide)
    have fi:=(((q1.below d2).below s7.below).only (Zf.of_grown (T:=[52]) n3 d5 (by decide)) (by decide)).only (Zf.of_upd (T:=[202]) ao i8 (by decide)) (by decide)
    have ik:=((i7.below s7.below).only (Zf.of_grown (T:=[52]) n3 d5 (by decide)) (by decide)).only (Zf.of_upd (T:=[202]) ao i8 (by decide)) (by decide)
    have kj:=ao.below (ct.trans pu) g2
    have y3:=ao.blk (((((e3.blkT (e1.blkT ((((i1.blk (u8.blkT (b0.below n7.below) n7.blk (by decide)) (Ne.symm (Ne.symm a7))).below a3).below f3.below).below d6.below) e7 (by decide)) h1 (by decide)).below (Za e0)).below d2).below s7.below).grown n3 d5 (by decide)) (Ne.symm (Ne.symm a7))
    have ic:=ao.own2 (Zj (Zb (Zb (Zb (e3.own2 (e1.own2 (Zb (Zb (Zb (i1.own2 (u8.own2 (Zb o1 n7.below) n7.blk (by decide)) a0 (by decide)) a3) f3.below) d6.below) e7 (by decide)) h1 (by decide)) (Za e0)) d2) s7.below) n3 d5 (by decide)) i8 (by decide)
    have hm:=ao.own2 (Zj (Zb (Zb (Zb (e3.own2 (e1.own2 (Zb (Zb (Zb h8 a3) f3.below) d6.below) e7 (by decide)) h1 (by decide)) (Za e0)) d2) s7.below) n3 d5 (by decide)) i8 (by decide)
    have rd:=ao.own2 zd i8 (by decide)
    have uo:=(((((((((m3.below a3).below f3.below).below d6.below).only (Zf.of_upd (T:=[38]) e1 e7 (by decide)) (by decide)).only (Zf.of_upd (T:=[52]) e3 h1 (by decide)) (by decide)).below (Za e0)).below d2).below s7.below).only (Zf.of_grown (T:=[52]) n3 d5 (by decide)) (by decide)).only (Zf.of_upd (T:=[202]) ao i8 (by decide)) (by decide)
    refine ze 0 (v6 _ _ _ ⟨(Yo t.way [t.no] (Zy l t.way t.no tree t.lo t.hi s.deep) { s with looked:=s.looked+1 }),r,pe,pb,lx,ce,cb,kg,(fv++[(Ft.mk (t.way++[t.no]) (Zy l t.way t.no tree t.lo t.hi s.deep) a6 a5)]),(Qz aw 1 cw 5),(cw-1),rfl,rfl,kj,y3,k66,ic,hm,rd,(Lz.tail mp j7),(Yg.note (f:=(Ft.mk (t.way++[t.no]) (Zy l t.way t.no tree t.lo t.hi s.deep) a6 a5)) fi (ik.mono g6) m2),uo,e4.err k6 t0 n9,Xz n8⟩ ?_)
    show 20*(fuel.toNat-(s.looked+1))+r.length<20*(fuel.toNat-s.looked)+ts.length
    omega
   refine xbs 0 1 [.slice a6 ((t.way++[t.no]).length) a5,V0 (Zy l t.way t.no tree t.lo t.hi s.deep)] 52 fun b67 W67 t2=>?_
   have le:=s9.below d2
   have ry:=t2.ne le
   have cv:=bln (bln (e3.below (e1.below (bln o0 d6.below) sg) rx) (Za e0)) d2
   have g67:=t2.ge cv
   have x7:=Zb (Zb (e3.own3 (e1.own2 (Zb l4 d6.below) e7 (by decide)) k7) (Za e0)) d2
   have sf:=Zw x7 t2
   have dv:=(((e3.blkT (e1.blkT (((ja.below a3).below f3.below).below d6.below) e7 (by decide)) h1 (by decide)).below (Za e0)).below d2).below t2.below
   refine xb (.o [] 1) 4 dv ?_
   have d9:=Zb x7 t2.below
   have bz:=bln cv t2.below
   refine ybi (.o [] 7) (.t w.heap.size [52,202]) fun _ _ _ _ zJ zQ zo zx zy zK=>Zu (m:=1) (news:=[.slice a6 ((t.way++[t.no]).length) a5,V0 (Zy l t.way t.no tree t.lo t.hi s.deep)]) (.agg #[S0,V0 0]) 2 32 ((fv++[(Ft.mk (t.way++[t.no]) (Zy l t.way t.no tree t.lo t.hi s.deep) a6 a5)]).length) (((fv++[(Ft.mk (t.way++[t.no]) (Zy l t.way t.no tree t.lo t.hi s.deep) a6 a5)]).flatMap Og)) zo Tryz.underlying200 (by kernel_rfl) rfl (by decide) zx d9 zy (t2.blk.sl 1 1 (by decide) (by decide)) rfl (by simp[Value.oneCell']) (by unfold maxLen;omega) (by omega) bz.size (by simp) (by rw[List.flatMap_append];rfl) fun os oi W68 yv n5 rl=>?_
   refine zK _ _ (Zr rl n5 d9 (by decide)) ?_
   have i9:=dv.grown n5 d9 (by decide)
   refine ys (.o [8] 9) i9 [.slice pe s.es.length ce,.slice pb s.bs.length cb,V0 s.deep,V0 (↑(s.looked+1):Int),.slice os ((fv++[(Ft.mk (t.way++[t.no]) (Zy l t.way t.no tree t.lo t.hi s.deep) a6 a5)]).length) oi] (.t w.heap.size [52,202]) fun W69 ak yt=>⟨(Zo ak i9 g2 (by decide)),?_⟩
   refine xv1 5 10 (show(.slice (Qz aw 1 cw 5) (ts.length-1) (cw-1):Value)=.slice (Qz aw 1 cw 5) r.length (cw-1) from by rw[j7];rfl) ?_
   have jq:=((((((((((((r0.below n7.below).updN u8 n7 rfl).only (Zf.of_upd (T:=[202]) i1 a0 (by decide)) (by decide)).below a3).below f3.below).below d6.below).only (Zf.of_upd (T:=[38]) e1 e7 (by decide)) (by decide)).only (Zf.of_upd (T:=[52]) e3 h1 (by decide)) (by decide)).below (Za e0)).below d2).below t2.below).only (Zf.of_grown (T:=[52]) n5 d9 (by decide)) (by decide)).only (Zf.of_upd (T:=[202]) ak i9 (by decide)) (by decide)
   have ii:=(((q1.below d2).below t2.below).only (Zf.of_grown (T:=[52]) n5 d9 (by decide)) (by decide)).only (Zf.of_upd (T:=[202]) ak i9 (by decide)) (by decide)
   have gb:=((i7.below t2.below).only (Zf.of_grown (T:=[52]) n5 d9 (by decide)) (by decide)).only (Zf.of_upd (T:=[202]) ak i9 (by decide)) (by decide)
   have mv:=ak.below (bz.trans rl) g2
   have z1:=ak.blk (((((e3.blkT (e1.blkT ((((i1.blk (u8.blkT (b0.below n7.below) n7.blk (by decide)) (Ne.symm (Ne.symm a7))).below a3).below f3.below).below d6.below) e7 (by decide)) h1 (by decide)).below (Za e0)).below d2).below t2.below).grown n5 d9 (by decide)) (Ne.symm (Ne.symm a7))
   have fh:=ak.own2 (Zj (Zb (Zb (Zb (e3.own2 (e1.own2 (Zb (Zb (Zb (i1.own2 (u8.own2 (Zb o1 n7.below) n7.blk (by decide)) a0 (by decide)) a3) f3.below) d6.below) e7 (by decide)) h1 (by decide)) (Za e0)) d2) t2.below) n5 d9 (by decide)) i9 (by decide)
   have fy:=ak.own2 (Zj (Zb (Zb (Zb (e3.own2 (e1.own2 (Zb (Zb (Zb h8 a3) f3.below) d6.below) e7 (by decide)) h1 (by decide)) (Za e0)) d2) t2.below) n5 d9 (by decide)) i9 (by decide)
   have re:=ak.own2 yv i9 (by decide)
   have lp:=(((((((((m3.below a3).below f3.below).below d6.below).only (Zf.of_upd (T:=[38]) e1 e7 (by decide)) (by decide)).only (Zf.of_upd (T:=[52]) e3 h1 (by decide)) (by decide)).below (Za e0)).below d2).below t2.below).only (Zf.of_grown (T:=[52]) n5 d9 (by decide)) (by decide)).only (Zf.of_upd (T:=[202]) ak i9 (by decide)) (by decide)
   refine ze 0 (v6 _ _ _ ⟨(Yo t.way [t.no] (Zy l t.way t.no tree t.lo t.hi s.deep) { s with looked:=s.looked+1 }),r,pe,pb,os,ce,cb,oi,(fv++[(Ft.mk (t.way++[t.no]) (Zy l t.way t.no tree t.lo t.hi s.deep) a6 a5)]),(Qz aw 1 cw 5),(cw-1),rfl,rfl,mv,z1,yt,fh,fy,re,(Lz.tail jq j7),(Yg.note (f:=(Ft.mk (t.way++[t.no]) (Zy l t.way t.no tree t.lo t.hi s.deep) a6 a5)) ii (gb.mono g6) m2),lp,e4.err k6 t0 n9,Xz n8⟩ ?_)
   show 20*(fuel.toNat-(s.looked+1))+r.length<20*(fuel.toNat-s.looked)+ts.length
   omega
  have hnc:Zp (inB l t.no)≤18:=(Hy n9).2.2
  refine xa 3 [V0 0,.bool false,S0,S0] 38 fun ml W70 i2=>?_
  have ed:=bln j9 a3
  have xj:=i2.ge ed
  refine xa 0 [S0,V0 0] 52 fun xy W71 f6=>?_
  have cg:=bln ed i2.below
  have yh:=f6.ge cg
  have l5:=Zb (Zb (i1.own2 (u8.own2 (Zb q5 n7.below) n7.blk (by decide)) a0 (by decide)) a3) i2.below
  have k2:=Zw l5 f6
  have h2:=i2.blk.below f6.below
  refine xsv 0 h2 [V0 (Xw (inB l t.no)),.bool (Xm (inB l t.no)),.slice kp (Zp (inB l t.no)) kc,.slice vp (Zp (inB l t.no)) vc] fun W72 h0 yb=>?_
  have j1:=h0.blkT f6.blk h2 (by decide)
  refine xsv 0 j1 [S0,V0 0] fun W73 h5 vn=>?_
  refine xb 6 1 vn ?_
  have el:=h5.blkT (h0.blkT (((ja.below a3).below i2.below).below f6.below) h2 (by decide)) j1 (by decide)
  refine xb 9 1 el ?_
  have gx:=h5.blkT (h0.blkT (((ht.below a3).below i2.below).below f6.below) h2 (by decide)) j1 (by decide)
  refine xb 1 0 gx ?_
  refine xbs 0 1 [V0 t.no] 3 fun ws W74 e5=>?_
  have cr:=h5.below (h0.below (bln cg f6.below) xj) yh
  have g74:=e5.ge cr
  have w8:=h5.own2 (h0.own2 (Zb (Zb (Zb h8 a3) i2.below) f6.below) h2 (by decide)) j1 (by decide)
  have sc:=Zw w8 e5
  have kr:=h5.own2 (h0.own2 (Zb (Zb (Zg hk j9.size) i2.below) f6.below) h2 (by decide)) j1 (by decide)
  have uk:=Zw kr e5
  have a2:=Zb w8 e5.below
  have z8:=bln cr e5.below
  refine xbi 0 fun _ _ _ _ zJ zQ zo zx zy zK=>Dy (b:=ws) (c:=1) (m:=1) (news:=[V0 t.no]) (V0 0) 1 8 ((s.bs++[t.no]).length) (((s.bs++[t.no]).map V0)) zo Tryz.underlying28 (by kernel_rfl) rfl (by decide) zx a2 zy e5.blk rfl (by simp[Value.oneCell']) (by unfold maxLen;omega) (by omega) z8.size (by simp) (by simp) fun k9 l2 W75 iu b3 ma fu=>?_
  have pj:=Zb kr e5.below
  have ig:=gp.row pj b3
  replace gp:=(gp.grow pj fu)
  have s8:=ig
  refine zK _ _ ?_
  have a1:=(el.below e5.below).grown b3 a2 (by decide)
  refine xs 1 a1 [.slice pe s.es.length ce,.slice k9 ((s.bs++[t.no]).length) l2,V0 s.deep,V0 (↑(s.looked+1):Int),.slice pf fv.length cf] fun h7 e6 p4=>?_
  have f4:=e6.blkT (((h5.blkT yb j1 (by decide)).below e5.below).grown b3 a2 (by decide)) a1 (by decide)
  refine xb 6 1 f4 ?_
  refine xi 2 (Xm (inB l t.no)) (fun fj=>?_) (fun fj=>?_)
  ·have iv:=fj
   have li:=e6.blkT ((gx.below e5.below).grown b3 a2 (by decide)) a1 (by decide)
   refine xb 3 3 li ?_
   refine xwm 1 ((t.way.length:Int)+1) (↑(t.way.length+1):Int) ?_
   refine xs 1 p4 [.slice pe s.es.length ce,.slice k9 ((s.bs++[t.no]).length) l2,V0 (↑(t.way.length+1):Int),V0 (↑(s.looked+1):Int),.slice pf fv.length cf] fun W78 v5 k78=>?_
   have jz:=(((((((((((r0.below n7.below).updN u8 n7 rfl).only (Zf.of_upd (T:=[202]) i1 a0 (by decide)) (by decide)).below a3).below i2.below).below f6.below).only (Zf.of_upd (T:=[38]) h0 h2 (by decide)) (by decide)).only (Zf.of_upd (T:=[52]) h5 j1 (by decide)) (by decide)).below e5.below).only (Zf.of_grown (T:=[3]) b3 a2 (by decide)) (by decide)).only (Zf.of_upd (T:=[202]) e6 a1 (by decide)) (by decide)).only (Zf.of_upd (T:=[202]) v5 p4 (by decide)) (by decide)
   have nu:=jz.un
   have yj:=(e4.leaf k6 t0 n9 iv).grow.1
   have hgl2:s.es.length+Zp (inB l t.no)≤1000000:=by have q:=Nat.le_trans yj wi;simpa [Hu] using q
   have gm:=v5.own2 (e6.own2 (Zj (Zb (h5.own2 (h0.own2 (Zb (Zb (Zb (i1.own2 (u8.own2 (Zb o1 n7.below) n7.blk (by decide)) a0 (by decide)) a3) i2.below) f6.below) h2 (by decide)) j1 (by decide)) e5.below) b3 a2 (by decide)) a1 (by decide)) p4 (by decide)
   have jc:=((((((((m3.below a3).below i2.below).below f6.below).only (Zf.of_upd (T:=[38]) h0 h2 (by decide)) (by decide)).only (Zf.of_upd (T:=[52]) h5 j1 (by decide)) (by decide)).below e5.below).only (Zf.of_grown (T:=[3]) b3 a2 (by decide)) (by decide)).only (Zf.of_upd (T:=[202]) e6 a1 (by decide)) (by decide)).only (Zf.of_upd (T:=[202]) v5 p4 (by decide)) (by decide)
   have gl:=v5.own2 (e6.own2 (Zj (Zb (h5.own3 (h0.own2 (Zb l5 f6.below) h2 (by decide)) k2) e5.below) b3 a2 (by decide)) a1 (by decide)) p4 (by decide)
   have gs:=((((((((j4.below a3).below i2.below).below f6.below).only (Zf.of_upd (T:=[38]) h0 h2 (by decide)) (by decide)).only (Zf.of_upd (T:=[52]) h5 j1 (by decide)) (by decide)).below e5.below).grow a2 b3 fu).only (Zf.of_upd (T:=[202]) e6 a1 (by decide)) (by decide)).only (Zf.of_upd (T:=[202]) v5 p4 (by decide)) (by decide)
   have nc:=v5.own2 (e6.own2 (Zj (Zb (h5.own2 (h0.own2 (Zb (Zb (Zg iz j9.size) i2.below) f6.below) h2 (by decide)) j1 (by decide)) e5.below) b3 a2 (by decide)) a1 (by decide)) p4 (by decide)
   have sy:=v5.own2 (e6.own2 s8 a1 (by decide)) p4 (by decide)
   have oo:=v5.own2 (e6.own2 iu a1 (by decide)) p4 (by decide)
   have lc:=v5.below (e6.below (z8.trans ma) g2) g2
   have x1:=v5.blk (e6.blk (((h5.blkT (h0.blkT ((((i1.blk (u8.blkT (b0.below n7.below) n7.blk (by decide)) (Ne.symm (Ne.symm a7))).below a3).below i2.below).below f6.below) h2 (by decide)) j1 (by decide)).below e5.below).grown b3 a2 (by decide)) (Ne.symm (Ne.symm a7))) (Ne.symm (Ne.symm a7))
   have uc:=v5.blkT li p4 (by decide)
   have qh:=v5.blkT f4 p4 (by decide)
   have mw:=v5.blkT (e6.blkT ((vn.below e5.below).grown b3 a2 (by decide)) a1 (by decide)) p4 (by decide)
   refine zl 9 186 (fun zm ax V=>∃ (i:Nat) (sk:O0) (rv:Nat),ax=[(0,P0 bm),(2,V0 tree),(3,V0 fuel),(8,P0 b1),(9,P0 b2),(10,.slice (Qz aw 1 cw 5) (ts.length-1) (cw-1)),(11,P0 b7),(12,P0 ml),(14,V0 (i:Int))]∧zm=(Zp (inB l t.no))-((i:Int)).toNat∧B0 w V∧Blk V b1 ([S0,S0,V0 0,V0 0,S0]) 202∧Blk V b2 ([.slice sk (s.es.length+i) rv,.slice k9 ((s.bs++[t.no]).length) l2,V0 (↑(t.way.length+1):Int),V0 (↑(s.looked+1):Int),.slice pf fv.length cf]) 202∧Blk V b7 ([V0 t.no,V0 t.lo,V0 t.hi,.slice t.wa t.way.length t.wc,V0 t.ft]) 312∧Blk V ml ([V0 (Xw (inB l t.no)),.bool (Xm (inB l t.no)),.slice kp (Zp (inB l t.no)) kc,.slice vp (Zp (inB l t.no)) vc]) 38∧Blk V xy ([S0,V0 0]) 52∧V.ownsRow w.heap.size 100 3 (.slice sk (s.es.length+i) rv) (s.es.length+i) ((s.es++Ks (Xv l t.no) (Ve l t.no) t.no i).flatMap Ji)∧RefI B bm p k c l V∧V.ownsRow w.heap.size 52 2 (.slice pf fv.length cf) fv.length (fv.flatMap Og)∧Cm w.heap.size V aw cw ts∧Yg w.heap.size V (.slice k9 ((s.bs++[t.no]).length) l2) ((t::r).map Zdm++fv.map fltK)∧V.ownsRow w.heap.size 9 1 (.slice vp (Zp (inB l t.no)) vc) (Zp (inB l t.no)) ((Ve l t.no).map sv)∧V.ownsRow w.heap.size 3 1 (.slice kp (Zp (inB l t.no)) kc) (Zp (inB l t.no)) ((Xv l t.no).map V0)∧V.ownsRow w.heap.size 3 1 (.slice k9 ((s.bs++[t.no]).length) l2) ((s.bs++[t.no]).length) ((s.bs++[t.no]).map V0)∧i≤(Zp (inB l t.no))) ⟨0,pe,ce,rfl,rfl,lc,x1,k78,uc,qh,mw,(by simpa [Ks] using gm),jc,gl,nu,gs,nc,sy,oo,Nat.zero_le _⟩ ?_
   rintro _ _ k5 ⟨i,sk,rv,rfl,rfl,x3,p5,p6,hb,s2,r8,hE,hI,q5,nu,z7,iz,hk,iu,hi⟩ J79 ol r79
   refine xb 5 2 s2 ?_
   refine xid 4 ((i:Int)<(↑(Zp (inB l t.no)):Int)) (fun tb=>?_) (fun tb=>?_)
   ·refine xd 4 (.t w.heap.size [100,202]) ?_
    have f9:=s2.below (Za k5)
    refine xbt (.e [0,2] 3) 2 w.heap.size [100,202] f9 ?_
    have bd:=Zb hk (Za k5)
    refine xx (.e [4] 5) _ (Zp (inB l t.no)) i 1 (IntsN.elem (l:=Xv l t.no) (Zh bd) (Yv _ _) (k:=i) (by omega)).1 ?_
    refine xlt (.e [] 6) (.t w.heap.size [100,202]) (fun V hV=>(IntsN.elem (l:=Xv l t.no) (Zh (Zl bd hV.2 (by decide))) (Yv _ _) (k:=i) (by omega)).2) ?_
    refine xbt (.e [7] 8) 3 w.heap.size [100,202] f9 ?_
    have q6:=Zb iz (Za k5)
    refine xx (.e [9] 10) _ (Zp (inB l t.no)) i 1 (Strs.elem (V:=Ve l t.no) (Zh q6) (Vm _ _) (k:=i) (by omega)).1 ?_
    refine xlt (.e [] 11) (.t w.heap.size [100,202]) (fun V hV=>(Strs.elem (V:=Ve l t.no) (Zh (Zl q6 hV.2 (by decide))) (Vm _ _) (k:=i) (by omega)).2) ?_
    have l3:=hb.below (Za k5)
    refine xbt (.e [12] 13) 0 w.heap.size [100,202] l3 ?_
    refine xm2 (.b [14]) 1 15 ?_ ?_
    ·have o2:=p6.below (Za k5)
     refine xb 0 0 o2 ?_
     refine xbs (.o [] 15) 1 [V0 ((Xv l t.no).getD i 0),.string ⟨((Ve l t.no).getD i []).toArray⟩,V0 t.no] 100 fun b81 W81 o3=>?_
     have bx:=bln x3 (Za k5)
     have g81:=o3.ge bx
     have oc:=Zb hE (Za k5)
     have sq:=Zw oc o3
     have i5:=Zb oc o3.below
     have et:=bln bx o3.below
     refine ybi (.o [] 16) (.t w.heap.size [100,202]) fun _ _ _ _ zJ zQ zo zx zy zK=>Zu (m:=1) (news:=[V0 ((Xv l t.no).getD i 0),.string ⟨((Ve l t.no).getD i []).toArray⟩,V0 t.no]) (.agg #[V0 0,.string ⟨#[]⟩,V0 0]) 3 32 ((s.es.length+(i+1))) (((s.es++Ks (Xv l t.no) (Ve l t.no) t.no (i+1)).flatMap Ji)) zo Tryz.underlying101 (by kernel_rfl) rfl (by decide) zx i5 zy (o3.blk.sl 1 1 (by decide) (by decide)) rfl (by simp[Value.oneCell']) (by unfold maxLen;omega) (by omega) et.size (by omega) (Db _ _ _ _ _) fun tj sn W82 xz j3 ju=>?_
     refine zK _ _ (Zr ju j3 i5 (by decide)) ?_
     have a8:=(o2.below o3.below).grown j3 i5 (by decide)
     refine ys (.o [17] 18) a8 [.slice tj (s.es.length+(i+1)) sn,.slice k9 ((s.bs++[t.no]).length) l2,V0 (↑(t.way.length+1):Int),V0 (↑(s.looked+1):Int),.slice pf fv.length cf] (.t w.heap.size [100,202]) fun W83 t4 zg=>⟨(Zo t4 a8 g2 (by decide)),?_⟩
     refine xwm 5 ((i:Int)+1) (↑(i+1):Int) ?_
     have ji:=t4.below (et.trans ju) g2
     have w7:=t4.blk (((p5.below (Za k5)).below o3.below).grown j3 i5 (by decide)) (Ne.symm (Ne.symm a7))
     have v9:=t4.blkT ((l3.below o3.below).grown j3 i5 (by decide)) a8 (by decide)
     have t5:=t4.blkT ((f9.below o3.below).grown j3 i5 (by decide)) a8 (by decide)
     have v1:=t4.blkT (((r8.below (Za k5)).below o3.below).grown j3 i5 (by decide)) a8 (by decide)
     have mb:=t4.own2 xz a8 (by decide)
     have lt:=(((hI.below (Za k5)).below o3.below).only (Zf.of_grown (T:=[100]) j3 i5 (by decide)) (by decide)).only (Zf.of_upd (T:=[202]) t4 a8 (by decide)) (by decide)
     have fm:=t4.own2 (Zj (Zb (Zb q5 (Za k5)) o3.below) j3 i5 (by decide)) a8 (by decide)
     have py:=(((nu.below (Za k5)).below o3.below).only (Zf.of_grown (T:=[100]) j3 i5 (by decide)) (by decide)).only (Zf.of_upd (T:=[202]) t4 a8 (by decide)) (by decide)
     have hq:=(((z7.below (Za k5)).below o3.below).only (Zf.of_grown (T:=[100]) j3 i5 (by decide)) (by decide)).only (Zf.of_upd (T:=[202]) t4 a8 (by decide)) (by decide)
     have pr:=t4.own2 (Zj (Zb q6 o3.below) j3 i5 (by decide)) a8 (by decide)
     have tz:=t4.own2 (Zj (Zb bd o3.below) j3 i5 (by decide)) a8 (by decide)
     have ot:=t4.own2 (Zj (Zb (Zb iu (Za k5)) o3.below) j3 i5 (by decide)) a8 (by decide)
     exact ze 2 (ol _ _ _ ⟨i+1,_,_,rfl,rfl,ji,w7,zg,v9,t5,v1,mb,lt,fm,py,hq,pr,tz,ot,by omega⟩ (by omega))
    refine xbs 0 1 [V0 ((Xv l t.no).getD i 0),.string ⟨((Ve l t.no).getD i []).toArray⟩,V0 t.no] 100 fun b84 W84 p2=>?_
    have dm:=bln x3 (Za k5)
    have g84:=p2.ge dm
    have kv:=Zb hE (Za k5)
    have um:=Zw kv p2
    have p0:=(p6.below (Za k5)).below p2.below
    refine xb (.o [] 1) 0 p0 ?_
    have i6:=Zb kv p2.below
    have ef:=bln dm p2.below
    refine ybi (.o [] 16) (.t w.heap.size [100,202]) fun _ _ _ _ zJ zQ zo zx zy zK=>Zu (m:=1) (news:=[V0 ((Xv l t.no).getD i 0),.string ⟨((Ve l t.no).getD i []).toArray⟩,V0 t.no]) (.agg #[V0 0,.string ⟨#[]⟩,V0 0]) 3 32 ((s.es.length+(i+1))) (((s.es++Ks (Xv l t.no) (Ve l t.no) t.no (i+1)).flatMap Ji)) zo Tryz.underlying101 (by kernel_rfl) rfl (by decide) zx i6 zy (p2.blk.sl 1 1 (by decide) (by decide)) rfl (by simp[Value.oneCell']) (by unfold maxLen;omega) (by omega) ef.size (by omega) (Db _ _ _ _ _) fun ui tm W85 wb j2 lq=>?_
    refine zK _ _ (Zr lq j2 i6 (by decide)) ?_
    have a9:=p0.grown j2 i6 (by decide)
    refine ys (.o [17] 18) a9 [.slice ui (s.es.length+(i+1)) tm,.slice k9 ((s.bs++[t.no]).length) l2,V0 (↑(t.way.length+1):Int),V0 (↑(s.looked+1):Int),.slice pf fv.length cf] (.t w.heap.size [100,202]) fun W86 r9 wl=>⟨(Zo r9 a9 g2 (by decide)),?_⟩
    refine xwm 5 ((i:Int)+1) (↑(i+1):Int) ?_
    have pz:=r9.below (ef.trans lq) g2
    have y4:=r9.blk (((p5.below (Za k5)).below p2.below).grown j2 i6 (by decide)) (Ne.symm (Ne.symm a7))
    have ah:=r9.blkT ((l3.below p2.below).grown j2 i6 (by decide)) a9 (by decide)
    have v3:=r9.blkT ((f9.below p2.below).grown j2 i6 (by decide)) a9 (by decide)
    have u6:=r9.blkT (((r8.below (Za k5)).below p2.below).grown j2 i6 (by decide)) a9 (by decide)
    have jt:=r9.own2 wb a9 (by decide)
    have jv:=(((hI.below (Za k5)).below p2.below).only (Zf.of_grown (T:=[100]) j2 i6 (by decide)) (by decide)).only (Zf.of_upd (T:=[202]) r9 a9 (by decide)) (by decide)
    have gq:=r9.own2 (Zj (Zb (Zb q5 (Za k5)) p2.below) j2 i6 (by decide)) a9 (by decide)
    have jp:=(((nu.below (Za k5)).below p2.below).only (Zf.of_grown (T:=[100]) j2 i6 (by decide)) (by decide)).only (Zf.of_upd (T:=[202]) r9 a9 (by decide)) (by decide)
    have fp:=(((z7.below (Za k5)).below p2.below).only (Zf.of_grown (T:=[100]) j2 i6 (by decide)) (by decide)).only (Zf.of_upd (T:=[202]) r9 a9 (by decide)) (by decide)
    have je:=r9.own2 (Zj (Zb q6 p2.below) j2 i6 (by decide)) a9 (by decide)
    have tc:=r9.own2 (Zj (Zb bd p2.below) j2 i6 (by decide)) a9 (by decide)
    have pp:=r9.own2 (Zj (Zb (Zb iu (Za k5)) p2.below) j2 i6 (by decide)) a9 (by decide)
    exact ze 2 (ol _ _ _ ⟨i+1,_,_,rfl,rfl,pz,y4,wl,ah,v3,u6,jt,jv,gq,jp,fp,je,tc,pp,by omega⟩ (by omega))
   refine xv1 8 10 (show(.slice (Qz aw 1 cw 5) (ts.length-1) (cw-1):Value)=.slice (Qz aw 1 cw 5) r.length (cw-1) from by rw[j7];rfl) ?_
   have hin:i=(Zp (inB l t.no)):=by omega
   have vi:=p6
   have vg:=hE
   rw[hin] at vi vg
   refine ze 0 (v6 _ _ _ ⟨{ s with looked:=s.looked+1,bs:=s.bs++[t.no],deep:=((t.way.length+1:Nat):Int),es:=s.es++Ks (Xv l t.no) (Ve l t.no) t.no (Zp (inB l t.no)) },r,sk,k9,pf,rv,l2,cf,fv,(Qz aw 1 cw 5),(cw-1),rfl,rfl,x3,p5,(by simpa [Hu] using vi),(by simpa [Hu] using vg),iu,q5,(Lz.tail (Cm.at_ nu) j7),z7.drop1,hI,e4.leaf k6 t0 n9 iv,n8⟩ ?_)
   show 20*(fuel.toNat-(s.looked+1))+r.length<20*(fuel.toNat-s.looked)+ts.length
   omega
  have iv:=fj
  have r4:=e6.own2 iu a1 (by decide)
  have gi:=r4
  have m6:=(((((((j4.below a3).below i2.below).below f6.below).only (Zf.of_upd (T:=[38]) h0 h2 (by decide)) (by decide)).only (Zf.of_upd (T:=[52]) h5 j1 (by decide)) (by decide)).below e5.below).grow a2 b3 fu).only (Zf.of_upd (T:=[202]) e6 a1 (by decide)) (by decide)
  have z4:=(Yg.hd m6).ints
  have ky:=e6.below (z8.trans ma) g2
  have u1:=ky
  refine xd 3 (.t h7.heap.size [3]) ?_
  have b5:=e6.blkT ((gx.below e5.below).grown b3 a2 (by decide)) a1 (by decide)
  have hB:=(Za h7)
  refine xlt (.e [1] 2) (.t h7.heap.size [3]) (fun V hV=>((b5.below (Kv hB hV (Nat.le_refl _))).cell (i:=3) rfl)) ?_
  refine xlt (.e [4] 5) (.t h7.heap.size [3]) (fun V hV=>((b5.below (Kv hB hV (Nat.le_refl _))).cell (i:=0) rfl)) ?_
  refine xm2 0 0 6 ?_ ?_
  ·refine xb0 0 3 fun b88 W88 pg=>?_
   have vj:=pg.ge hB
   refine xm2 0 3 6 ?_ ?_
   ·have ng:=Xa (size:=1) (n:=0) pg.blk vj rfl (by decide)
    have ac:=bln hB pg.below
    refine ybi 0 (.t h7.heap.size [3]) fun _ _ _ _ zJ zQ zo zx zy zK=>Zu (m:=t.way.length) (news:=(t.way.map V0)) (V0 0) 1 8 (t.way.length) ((t.way.map V0)) zo Tryz.underlying28 (by kernel_rfl) rfl (by decide) zx ng zy (z4.below ac) (by simp) (Jb _) (by unfold maxLen;omega) (by omega) ac.size (by omega) (by rfl) fun ya zc W89 vm th rb=>?_
    refine zK _ _ (Zr rb th ng (by decide)) ?_
    refine xbs (.o [] 6) 1 [V0 t.no] 3 fun b90 W90 lj=>?_
    have en:=ac.trans rb
    have g90:=lj.ge en
    have rn:=Zw vm lj
    have ff:=Zb vm lj.below
    have bn:=bln en lj.below
    refine ybi (.o [] 7) (.t h7.heap.size [3]) fun _ _ _ _ zJ zQ zo zx zy zK=>Zu (m:=1) (news:=[V0 t.no]) (V0 0) 1 8 ((t.way++[t.no]).length) (((t.way++[t.no]).map V0)) zo Tryz.underlying28 (by kernel_rfl) rfl (by decide) zx ff zy (lj.blk.sl 1 1 (by decide) (by decide)) rfl (by simp[Value.oneCell']) (by unfold maxLen;omega) (by omega) bn.size (by simp) (by simp) fun i0 h9 W91 qz ub ox=>?_
    refine zK _ _ (Zr ox ub ff (by decide)) ?_
    have jb:=bn.trans ox
    refine zl (.r [8] 14) 186 (fun zm ax V=>∃ (i:Nat) (pq:O0) (cq:Nat),ax=[(0,P0 bm),(2,V0 tree),(3,V0 fuel),(8,P0 b1),(9,P0 b2),(10,.slice (Qz aw 1 cw 5) (ts.length-1) (cw-1)),(11,P0 b7),(12,P0 ml),(15,.slice i0 ((t.way++[t.no]).length) h9),(16,.slice pq i cq),(17,V0 (i:Int))]∧zm=(Zp (inB l t.no))-((i:Int)).toNat∧Below h7.heap.size h7 V∧V.ownsRow h7.heap.size 312 5 (.slice pq i cq) i ((Yw l t i0 h9 i).flatMap wtC)∧V.ownsRow h7.heap.size 3 1 (.slice i0 ((t.way++[t.no]).length) h9) ((t.way++[t.no]).length) ((t.way++[t.no]).map V0)∧i≤(Zp (inB l t.no))) ⟨0,_,_,rfl,rfl,jb,World.ownsRow_nil _ _ _ _,qz,Nat.zero_le _⟩ ?_
    rintro _ _ W92 ⟨i,pq,cq,rfl,rfl,k1,s4,qz,hi⟩ J92 ou r92
    refine xl 5 ((f4.below k1).cell (i:=2) rfl) ?_
    refine xid 4 ((i:Int)<(↑(Zp (inB l t.no)):Int)) (fun sw=>?_) (fun sw=>?_)
    ·refine xl 7 ((f4.below k1).cell (i:=3) rfl) ?_
     have b8:=Zh (e6.own2 (Zj (Zb (h5.own2 (h0.own2 (Zb (Zb (Zg iz j9.size) i2.below) f6.below) h2 (by decide)) j1 (by decide)) e5.below) b3 a2 (by decide)) a1 (by decide))
     refine xx 1 _ (Zp (inB l t.no)) i 1 (Strs.elem (V:=Ve l t.no) b8 (Vm _ _) (k:=i) (by omega)).1 ?_
     refine xl 0 ((Strs.elem (V:=Ve l t.no) (b8.below k1) (Vm _ _) (k:=i) (by omega)).2) ?_
     refine xr 0 (args:=#[.string ⟨((Ve l t.no).getD i []).toArray⟩]) (Uf ((Ve l t.no).getD i []) _ (Gc _ _ _)) fun W94 u4=>?_
     refine xin 14 (Xy ((Ve l t.no).getD i [])) (0:Int) (fun hr=>?_) (fun hr=>?_)
     ·have y6:=hr
      have s5:=bln k1 u4
      refine xl 4 ((b5.below s5).cell (i:=0) rfl) ?_
      refine xl 1 ((b5.below s5).cell (i:=3) rfl) ?_
      refine xbs 2 1 [V0 t.no,V0 0,V0 0,.slice t.wa t.way.length t.wc,V0 (Xy ((Ve l t.no).getD i []))] 312 fun b96 W96 iw=>?_
      have g96:=iw.ge s5
      have ex:=Zb s4 u4
      have rm:=Zw ex iw
      have ei:=Zb ex iw.below
      have ej:=bln s5 iw.below
      refine xbi 0 fun _ _ _ _ zJ zQ zo zx zy zK=>Zu (m:=1) (news:=[V0 t.no,V0 0,V0 0,.slice t.wa t.way.length t.wc,V0 (Xy ((Ve l t.no).getD i []))]) (.agg #[V0 0,V0 0,V0 0,S0,V0 0]) 5 56 (i+1) (((Yw l t i0 h9 (i+1)).flatMap wtC)) zo Tryz.underlying313 (by kernel_rfl) rfl (by decide) zx ei zy (iw.blk.sl 1 1 (by decide) (by decide)) rfl (by simp[Value.oneCell']) (by unfold maxLen;omega) (by omega) ej.size (by rfl) (by rw[Jo,List.flatMap_append,show Kb l t i0 h9 i=⟨t.no,0,0,t.way,Xy ((Ve l t.no).getD i []),t.wa,t.wc⟩ from by unfold Kb;rw[if_neg y6]];rfl) fun px97 cx97 W97 zu ty ta=>?_
      refine zK _ _ ?_
      refine xwm 9 ((i:Int)+1) (↑(i+1):Int) ?_
      have mo:=ej.trans ta
      have qk:=Zj (Zb (Zb qz u4) iw.below) ty ei (by decide)
      exact ze 2 (ou _ _ _ ⟨i+1,_,_,rfl,rfl,mo,zu,qk,by omega⟩ (by omega))
     have y6:=hr
     have s0:=bln k1 u4
     refine xlv 5 ((b5.below s0).rpp 1 2) ?_
     refine xl 1 ((f4.below s0).cell (i:=2) rfl) ?_
     have w1:(Xv l t.no).length=(Zp (inB l t.no)):=Yv _ _
     have mu:=Dd (Hy n9).2.1 (i:=i) (by rw[w1];omega)
     have i3:=Zh (e6.own2 s8 a1 (by decide))
     refine xr 1 (args:=#[.agg #[V0 t.lo,V0 t.hi],.slice kp (Zp (inB l t.no)) kc,V0 (i:Int)]) ((Uv t.lo t.hi (i:Int) _ (Xv l t.no) _ ⟨by omega,by omega⟩ (by rw[w1];omega) (Pe (i3.below s0) w1)).mono (fun _ _ h=>by rw[mu] at h;exact h)) fun W98 hw=>?_
     refine xa 3 [V0 0,V0 0] 304 fun b99 W99 im=>?_
     have cp:=bln s0 hw
     have ww:=im.ge cp
     refine xsv 0 im.blk [V0 ((Xb t.hi (Xv l t.no) i).1),V0 ((Xb t.hi (Xv l t.no) i).2)] fun wo fx tt=>?_
     refine xlv 6 tt.rp ?_
     refine xbs 2 1 [V0 (↑(Qf ((Ve l t.no).getD i [])):Int),V0 ((Xb t.hi (Xv l t.no) i).1),V0 ((Xb t.hi (Xv l t.no) i).2),.slice i0 ((t.way++[t.no]).length) h9,V0 0] 312 fun b101 zn t6=>?_
     have cj:=fx.below (bln cp im.below) ww
     have yd:=t6.ge cj
     have br:=fx.own2 (Zb (Zb (Zb s4 u4) hw) im.below) im.blk (by decide)
     have mf:=Zw br t6
     have eu:=Zb br t6.below
     have cx:=bln cj t6.below
     refine xbi 0 fun _ _ _ _ zJ zQ zo zx zy zK=>Zu (m:=1) (news:=[V0 (↑(Qf ((Ve l t.no).getD i [])):Int),V0 ((Xb t.hi (Xv l t.no) i).1),V0 ((Xb t.hi (Xv l t.no) i).2),.slice i0 ((t.way++[t.no]).length) h9,V0 0]) (.agg #[V0 0,V0 0,V0 0,S0,V0 0]) 5 56 (i+1) (((Yw l t i0 h9 (i+1)).flatMap wtC)) zo Tryz.underlying313 (by kernel_rfl) rfl (by decide) zx eu zy (t6.blk.sl 1 1 (by decide) (by decide)) rfl (by simp[Value.oneCell']) (by unfold maxLen;omega) (by omega) cx.size (by rfl) (by rw[Jo,List.flatMap_append,show Kb l t i0 h9 i=⟨Qf ((Ve l t.no).getD i []),(Xb t.hi (Xv l t.no) i).1,(Xb t.hi (Xv l t.no) i).2,t.way++[t.no],0,i0,h9⟩ from by unfold Kb;rw[if_pos y6]];rfl) fun uz vh ym tx jl nk=>?_
     refine zK _ _ ?_
     refine xwm 6 ((i:Int)+1) (↑(i+1):Int) ?_
     have qb:=cx.trans nk
     have qo:=Zj (Zb (fx.own2 (Zb (Zb (Zb qz u4) hw) im.below) im.blk (by decide)) t6.below) jl eu (by decide)
     exact ze 2 (ou _ _ _ ⟨i+1,_,_,rfl,rfl,qb,tx,qo,by omega⟩ (by omega))
    have f7:=((((((((((r0.below n7.below).updN u8 n7 rfl).only (Zf.of_upd (T:=[202]) i1 a0 (by decide)) (by decide)).below a3).below i2.below).below f6.below).only (Zf.of_upd (T:=[38]) h0 h2 (by decide)) (by decide)).only (Zf.of_upd (T:=[52]) h5 j1 (by decide)) (by decide)).below e5.below).only (Zf.of_grown (T:=[3]) b3 a2 (by decide)) (by decide)).only (Zf.of_upd (T:=[202]) e6 a1 (by decide)) (by decide)
    refine xbi 8 fun _ _ _ _ zJ zQ zo zx zy zK=>Zu (m:=(ts.length-1)) (news:=(r.flatMap wtC)) (.agg #[V0 0,V0 0,V0 0,S0,V0 0]) 5 56 ((Yw l t i0 h9 (Zp (inB l t.no))++r).length) (((Yw l t i0 h9 (Zp (inB l t.no))++r).flatMap wtC)) zo Tryz.underlying313 (by kernel_rfl) rfl (by decide) zx s4 zy ((f7.below k1).slN j7) (by rw[Hx Lw,az];rfl) (wt_one r) (by unfold maxLen;omega) (by omega) k1.size (by rw[List.length_append,Jm,az];omega) (by rw[List.flatMap_append,show i=(Zp (inB l t.no)) by omega]) fun lf qr ul ur nm jf=>?_
    refine zK _ _ ?_
    have ci:=Zj qz nm s4 (by decide)
    have v8:=(Kn.of_lt gi ci (Nat.le_refl _)).symm
    have ld:=k1.trans jf
    have j8:Below h7.heap.size h7 ul:=ld
    have dr:w.heap.size≤h7.heap.size:=u1.size
    have hg:=Zg ur dr
    have gr:=m6.below j8
    have nf:=Zg ci dr
    have hB:=bln u1 j8
    have ag:=(e6.blk (((h5.blkT (h0.blkT ((((i1.blk (u8.blkT (b0.below n7.below) n7.blk (by decide)) (Ne.symm (Ne.symm a7))).below a3).below i2.below).below f6.below) h2 (by decide)) j1 (by decide)).below e5.below).grown b3 a2 (by decide)) (Ne.symm (Ne.symm a7))).below j8
    have nd:=p4.below j8
    have hp:=Zb (e6.own2 (Zj (Zb (h5.own2 (h0.own2 (Zb (Zb (Zb (i1.own2 (u8.own2 (Zb o1 n7.below) n7.blk (by decide)) a0 (by decide)) a3) i2.below) f6.below) h2 (by decide)) j1 (by decide)) e5.below) b3 a2 (by decide)) a1 (by decide)) j8
    have ls:=Zb r4 j8
    have gt:=Zb (e6.own2 (Zj (Zb (h5.own3 (h0.own2 (Zb l5 f6.below) h2 (by decide)) k2) e5.below) b3 a2 (by decide)) a1 (by decide)) j8
    have po:=((((((((m3.below a3).below i2.below).below f6.below).only (Zf.of_upd (T:=[38]) h0 h2 (by decide)) (by decide)).only (Zf.of_upd (T:=[52]) h5 j1 (by decide)) (by decide)).below e5.below).only (Zf.of_grown (T:=[3]) b3 a2 (by decide)) (by decide)).only (Zf.of_upd (T:=[202]) e6 a1 (by decide)) (by decide)).below j8
    refine ze 3 (v6 _ _ _ ⟨{ s with looked:=s.looked+1,bs:=s.bs++[t.no] },(Yw l t i0 h9 (Zp (inB l t.no))++r),pe,k9,pf,ce,l2,cf,fv,lf,qr,rfl,rfl,hB,ag,nd,hp,ls,gt,(Cm.of hg rfl),(Yg.below_visits gr nf v8),po,e4.inner i0 h9 k6 t0 n9 iv,n8⟩ ?_)
    show 20*(fuel.toNat-(s.looked+1))+(Yw l t i0 h9 (Zp (inB l t.no))++r).length<20*(fuel.toNat-s.looked)+ts.length
    rw[List.length_append,Jm,az]
    omega
   refine xbs 0 1 [V0 t.no] 3 fun yp W105 ad=>?_
   have cy:=bln hB pg.below
   have g105:=ad.ge cy
   have ng:=Xa (size:=1) (n:=0) pg.blk vj rfl (by decide)
   have z5:=Zw ng ad
   have bu:=Zb ng ad.below
   have w6:=bln cy ad.below
   refine ybi (.o [] 3) (.t h7.heap.size [3]) fun _ _ _ _ zJ zQ zo zx zy zK=>Zu (m:=t.way.length) (news:=(t.way.map V0)) (V0 0) 1 8 (t.way.length) ((t.way.map V0)) zo Tryz.underlying28 (by kernel_rfl) rfl (by decide) zx bu zy (z4.below w6) (by simp) (Jb _) (by unfold maxLen;omega) (by omega) w6.size (by omega) (by rfl) fun vl uy wg ri ea eb=>?_
   refine zK _ _ (Zr eb ea bu (by decide)) ?_
   have tr:=ad.blk.grown3 ea z5
   have dp:=w6.trans eb
   refine ybi (.o [] 7) (.t h7.heap.size [3]) fun _ _ _ _ zJ zQ zo zx zy zK=>Zu (m:=1) (news:=[V0 t.no]) (V0 0) 1 8 ((t.way++[t.no]).length) (((t.way++[t.no]).map V0)) zo Tryz.underlying28 (by kernel_rfl) rfl (by decide) zx ri zy (tr.sl 1 1 (by decide) (by decide)) rfl (by simp[Value.oneCell']) (by unfold maxLen;omega) (by omega) dp.size (by simp) (by simp) fun c3 c7 W107 x2 kq cz=>?_
   refine zK _ _ (Zr cz kq ri (by decide)) ?_
   have om:=dp.trans cz
   refine zl (.r [8] 14) 186 (fun zm ax V=>∃ (i:Nat) (pq:O0) (cq:Nat),ax=[(0,P0 bm),(2,V0 tree),(3,V0 fuel),(8,P0 b1),(9,P0 b2),(10,.slice (Qz aw 1 cw 5) (ts.length-1) (cw-1)),(11,P0 b7),(12,P0 ml),(15,.slice c3 ((t.way++[t.no]).length) c7),(16,.slice pq i cq),(17,V0 (i:Int))]∧zm=(Zp (inB l t.no))-((i:Int)).toNat∧Below h7.heap.size h7 V∧V.ownsRow h7.heap.size 312 5 (.slice pq i cq) i ((Yw l t c3 c7 i).flatMap wtC)∧V.ownsRow h7.heap.size 3 1 (.slice c3 ((t.way++[t.no]).length) c7) ((t.way++[t.no]).length) ((t.way++[t.no]).map V0)∧i≤(Zp (inB l t.no))) ⟨0,_,_,rfl,rfl,om,World.ownsRow_nil _ _ _ _,x2,Nat.zero_le _⟩ ?_
   rintro _ _ zw ⟨i,pq,cq,rfl,rfl,e8,s4,x2,hi⟩ vy cn yz
   refine xl 5 ((f4.below e8).cell (i:=2) rfl) ?_
   refine xid 4 ((i:Int)<(↑(Zp (inB l t.no)):Int)) (fun qc=>?_) (fun qc=>?_)
   ·refine xl 7 ((f4.below e8).cell (i:=3) rfl) ?_
    have b8:=Zh (e6.own2 (Zj (Zb (h5.own2 (h0.own2 (Zb (Zb (Zg iz j9.size) i2.below) f6.below) h2 (by decide)) j1 (by decide)) e5.below) b3 a2 (by decide)) a1 (by decide))
    refine xx 1 _ (Zp (inB l t.no)) i 1 (Strs.elem (V:=Ve l t.no) b8 (Vm _ _) (k:=i) (by omega)).1 ?_
    refine xl 0 ((Strs.elem (V:=Ve l t.no) (b8.below e8) (Vm _ _) (k:=i) (by omega)).2) ?_
    refine xr 0 (args:=#[.string ⟨((Ve l t.no).getD i []).toArray⟩]) (Uf ((Ve l t.no).getD i []) _ (Gc _ _ _)) fun W110 m0=>?_
    refine xin 14 (Xy ((Ve l t.no).getD i [])) (0:Int) (fun z2=>?_) (fun z2=>?_)
    ·have y6:=z2
     have q9:=bln e8 m0
     refine xl 4 ((b5.below q9).cell (i:=0) rfl) ?_
     refine xl 1 ((b5.below q9).cell (i:=3) rfl) ?_
     refine xbs 2 1 [V0 t.no,V0 0,V0 0,.slice t.wa t.way.length t.wc,V0 (Xy ((Ve l t.no).getD i []))] 312 fun xn wv u5=>?_
     have zi:=u5.ge q9
     have dq:=Zb s4 m0
     have nb:=Zw dq u5
     have du:=Zb dq u5.below
     have dh:=bln q9 u5.below
     refine xbi 0 fun _ _ _ _ zJ zQ zo zx zy zK=>Zu (m:=1) (news:=[V0 t.no,V0 0,V0 0,.slice t.wa t.way.length t.wc,V0 (Xy ((Ve l t.no).getD i []))]) (.agg #[V0 0,V0 0,V0 0,S0,V0 0]) 5 56 (i+1) (((Yw l t c3 c7 (i+1)).flatMap wtC)) zo Tryz.underlying313 (by kernel_rfl) rfl (by decide) zx du zy (u5.blk.sl 1 1 (by decide) (by decide)) rfl (by simp[Value.oneCell']) (by unfold maxLen;omega) (by omega) dh.size (by rfl) (by rw[Jo,List.flatMap_append,show Kb l t c3 c7 i=⟨t.no,0,0,t.way,Xy ((Ve l t.no).getD i []),t.wa,t.wc⟩ from by unfold Kb;rw[if_neg y6]];rfl) fun vd vb yu sp ow kd=>?_
     refine zK _ _ ?_
     refine xwm 9 ((i:Int)+1) (↑(i+1):Int) ?_
     have oz:=dh.trans kd
     have gh:=Zj (Zb (Zb x2 m0) u5.below) ow du (by decide)
     exact ze 2 (cn _ _ _ ⟨i+1,_,_,rfl,rfl,oz,sp,gh,by omega⟩ (by omega))
    have y6:=z2
    have s6:=bln e8 m0
    refine xlv 5 ((b5.below s6).rpp 1 2) ?_
    refine xl 1 ((f4.below s6).cell (i:=2) rfl) ?_
    have w1:(Xv l t.no).length=(Zp (inB l t.no)):=Yv _ _
    have mu:=Dd (Hy n9).2.1 (i:=i) (by rw[w1];omega)
    have i3:=Zh (e6.own2 s8 a1 (by decide))
    refine xr 1 (args:=#[.agg #[V0 t.lo,V0 t.hi],.slice kp (Zp (inB l t.no)) kc,V0 (i:Int)]) ((Uv t.lo t.hi (i:Int) _ (Xv l t.no) _ ⟨by omega,by omega⟩ (by rw[w1];omega) (Pe (i3.below s6) w1)).mono (fun _ _ h=>by rw[mu] at h;exact h)) fun zs y2=>?_
    refine xa 3 [V0 0,V0 0] 304 fun wp wm p8=>?_
    have eg:=bln s6 y2
    have uv:=p8.ge eg
    refine xsv 0 p8.blk [V0 ((Xb t.hi (Xv l t.no) i).1),V0 ((Xb t.hi (Xv l t.no) i).2)] fun yi ha tu=>?_
    refine xlv 6 tu.rp ?_
    refine xbs 2 1 [V0 (↑(Qf ((Ve l t.no).getD i [])):Int),V0 ((Xb t.hi (Xv l t.no) i).1),V0 ((Xb t.hi (Xv l t.no) i).2),.slice c3 ((t.way++[t.no]).length) c7,V0 0] 312 fun wq xv t8=>?_
    have dj:=ha.below (bln eg p8.below) uv
    have wr:=t8.ge dj
    have dy:=ha.own2 (Zb (Zb (Zb s4 m0) y2) p8.below) p8.blk (by decide)
    have ra:=Zw dy t8
    have cl:=Zb dy t8.below
    have dl:=bln dj t8.below
    refine xbi 0 fun _ _ _ _ zJ zQ zo zx zy zK=>Zu (m:=1) (news:=[V0 (↑(Qf ((Ve l t.no).getD i [])):Int),V0 ((Xb t.hi (Xv l t.no) i).1),V0 ((Xb t.hi (Xv l t.no) i).2),.slice c3 ((t.way++[t.no]).length) c7,V0 0]) (.agg #[V0 0,V0 0,V0 0,S0,V0 0]) 5 56 (i+1) (((Yw l t c3 c7 (i+1)).flatMap wtC)) zo Tryz.underlying313 (by kernel_rfl) rfl (by decide) zx cl zy (t8.blk.sl 1 1 (by decide) (by decide)) rfl (by simp[Value.oneCell']) (by unfold maxLen;omega) (by omega) dl.size (by rfl) (by rw[Jo,List.flatMap_append,show Kb l t c3 c7 i=⟨Qf ((Ve l t.no).getD i []),(Xb t.hi (Xv l t.no) i).1,(Xb t.hi (Xv l t.no) i).2,t.way++[t.no],0,c3,c7⟩ from by unfold Kb;rw[if_pos y6]];rfl) fun vf vq wx ut qa ph=>?_
    refine zK _ _ ?_
    refine xwm 6 ((i:Int)+1) (↑(i+1):Int) ?_
    have ly:=dl.trans ph
    have hz:=Zj (Zb (ha.own2 (Zb (Zb (Zb x2 m0) y2) p8.below) p8.blk (by decide)) t8.below) qa cl (by decide)
    exact ze 2 (cn _ _ _ ⟨i+1,_,_,rfl,rfl,ly,ut,hz,by omega⟩ (by omega))
   have f7:=((((((((((r0.below n7.below).updN u8 n7 rfl).only (Zf.of_upd (T:=[202]) i1 a0 (by decide)) (by decide)).below a3).below i2.below).below f6.below).only (Zf.of_upd (T:=[38]) h0 h2 (by decide)) (by decide)).only (Zf.of_upd (T:=[52]) h5 j1 (by decide)) (by decide)).below e5.below).only (Zf.of_grown (T:=[3]) b3 a2 (by decide)) (by decide)).only (Zf.of_upd (T:=[202]) e6 a1 (by decide)) (by decide)
   refine xbi 8 fun _ _ _ _ zJ zQ zo zx zy zK=>Zu (m:=(ts.length-1)) (news:=(r.flatMap wtC)) (.agg #[V0 0,V0 0,V0 0,S0,V0 0]) 5 56 ((Yw l t c3 c7 (Zp (inB l t.no))++r).length) (((Yw l t c3 c7 (Zp (inB l t.no))++r).flatMap wtC)) zo Tryz.underlying313 (by kernel_rfl) rfl (by decide) zx s4 zy ((f7.below e8).slN j7) (by rw[Hx Lw,az];rfl) (wt_one r) (by unfold maxLen;omega) (by omega) e8.size (by rw[List.length_append,Jm,az];omega) (by rw[List.flatMap_append,show i=(Zp (inB l t.no)) by omega]) fun ov pw ux ug oh mj=>?_
   refine zK _ _ ?_
   have z3:=Zj x2 oh s4 (by decide)
   have v8:=(Kn.of_lt gi z3 (Nat.le_refl _)).symm
   have oj:=e8.trans mj
   have k0:Below h7.heap.size h7 ux:=oj
   have dd:w.heap.size≤h7.heap.size:=u1.size
   have hh:=Zg ug dd
   have fr:=m6.below k0
   have ij:=Zg z3 dd
   have hB:=bln u1 k0
   have x5:=(e6.blk (((h5.blkT (h0.blkT ((((i1.blk (u8.blkT (b0.below n7.below) n7.blk (by decide)) (Ne.symm (Ne.symm a7))).below a3).below i2.below).below f6.below) h2 (by decide)) j1 (by decide)).below e5.below).grown b3 a2 (by decide)) (Ne.symm (Ne.symm a7))).below k0
   have oe:=p4.below k0
   have gk:=Zb (e6.own2 (Zj (Zb (h5.own2 (h0.own2 (Zb (Zb (Zb (i1.own2 (u8.own2 (Zb o1 n7.below) n7.blk (by decide)) a0 (by decide)) a3) i2.below) f6.below) h2 (by decide)) j1 (by decide)) e5.below) b3 a2 (by decide)) a1 (by decide)) k0
   have kk:=Zb r4 k0
   have hl:=Zb (e6.own2 (Zj (Zb (h5.own3 (h0.own2 (Zb l5 f6.below) h2 (by decide)) k2) e5.below) b3 a2 (by decide)) a1 (by decide)) k0
   have nz:=((((((((m3.below a3).below i2.below).below f6.below).only (Zf.of_upd (T:=[38]) h0 h2 (by decide)) (by decide)).only (Zf.of_upd (T:=[52]) h5 j1 (by decide)) (by decide)).below e5.below).only (Zf.of_grown (T:=[3]) b3 a2 (by decide)) (by decide)).only (Zf.of_upd (T:=[202]) e6 a1 (by decide)) (by decide)).below k0
   refine ze 3 (v6 _ _ _ ⟨{ s with looked:=s.looked+1,bs:=s.bs++[t.no] },(Yw l t c3 c7 (Zp (inB l t.no))++r),pe,k9,pf,ce,l2,cf,fv,ov,pw,rfl,rfl,hB,x5,oe,gk,kk,hl,(Cm.of hh rfl),(Yg.below_visits fr ij v8),nz,e4.inner c3 c7 k6 t0 n9 iv,n8⟩ ?_)
   show 20*(fuel.toNat-(s.looked+1))+(Yw l t c3 c7 (Zp (inB l t.no))++r).length<20*(fuel.toNat-s.looked)+ts.length
   rw[List.length_append,Jm,az]
   omega
  refine xbs 0 1 [V0 t.no] 3 fun yf wz ba=>?_
  have wd:=ba.ge hB
  refine xb0 (.o [] 0) 3 fun te zt x4=>?_
  have u2:=x4.ne ba.blk
  have bo:=bln hB ba.below
  have st:=x4.ge bo
  have qn:=Xa (size:=1) (n:=0) x4.blk st rfl (by decide)
  have w2:=bln bo x4.below
  refine ybi (.o [] 3) (.t h7.heap.size [3]) fun _ _ _ _ zJ zQ zo zx zy zK=>Zu (m:=t.way.length) (news:=(t.way.map V0)) (V0 0) 1 8 (t.way.length) ((t.way.map V0)) zo Tryz.underlying28 (by kernel_rfl) rfl (by decide) zx qn zy (z4.below w2) (by simp) (Jb _) (by unfold maxLen;omega) (by omega) w2.size (by omega) (by rfl) fun vt vo xt jg cu ec=>?_
  refine zK _ _ (Zr ec cu qn (by decide)) ?_
  have hf:=(ba.blk.below x4.below).grown3 cu (fun j hj=>by obtain rfl:te=j:=Option.some.inj hj;exact(Ne.symm u2))
  have eh:=w2.trans ec
  refine ybi (.o [] 7) (.t h7.heap.size [3]) fun _ _ _ _ zJ zQ zo zx zy zK=>Zu (m:=1) (news:=[V0 t.no]) (V0 0) 1 8 ((t.way++[t.no]).length) (((t.way++[t.no]).map V0)) zo Tryz.underlying28 (by kernel_rfl) rfl (by decide) zx jg zy (hf.sl 1 1 (by decide) (by decide)) rfl (by simp[Value.oneCell']) (by unfold maxLen;omega) (by omega) eh.size (by simp) (by simp) fun d0 c8 yy v7 qg ep=>?_
  refine zK _ _ (Zr ep qg jg (by decide)) ?_
  have ks:=eh.trans ep
  refine zl (.r [8] 14) 186 (fun zm ax V=>∃ (i:Nat) (pq:O0) (cq:Nat),ax=[(0,P0 bm),(2,V0 tree),(3,V0 fuel),(8,P0 b1),(9,P0 b2),(10,.slice (Qz aw 1 cw 5) (ts.length-1) (cw-1)),(11,P0 b7),(12,P0 ml),(15,.slice d0 ((t.way++[t.no]).length) c8),(16,.slice pq i cq),(17,V0 (i:Int))]∧zm=(Zp (inB l t.no))-((i:Int)).toNat∧Below h7.heap.size h7 V∧V.ownsRow h7.heap.size 312 5 (.slice pq i cq) i ((Yw l t d0 c8 i).flatMap wtC)∧V.ownsRow h7.heap.size 3 1 (.slice d0 ((t.way++[t.no]).length) c8) ((t.way++[t.no]).length) ((t.way++[t.no]).map V0)∧i≤(Zp (inB l t.no))) ⟨0,_,_,rfl,rfl,ks,World.ownsRow_nil _ _ _ _,v7,Nat.zero_le _⟩ ?_
  rintro _ _ W125 ⟨i,pq,cq,rfl,rfl,f1,s4,v7,hi⟩ J125 dc yg
  refine xl 5 ((f4.below f1).cell (i:=2) rfl) ?_
  refine xid 4 ((i:Int)<(↑(Zp (inB l t.no)):Int)) (fun la=>?_) (fun la=>?_)
  ·refine xl 7 ((f4.below f1).cell (i:=3) rfl) ?_
   have b8:=Zh (e6.own2 (Zj (Zb (h5.own2 (h0.own2 (Zb (Zb (Zg iz j9.size) i2.below) f6.below) h2 (by decide)) j1 (by decide)) e5.below) b3 a2 (by decide)) a1 (by decide))
   refine xx 1 _ (Zp (inB l t.no)) i 1 (Strs.elem (V:=Ve l t.no) b8 (Vm _ _) (k:=i) (by omega)).1 ?_
   refine xl 0 ((Strs.elem (V:=Ve l t.no) (b8.below f1) (Vm _ _) (k:=i) (by omega)).2) ?_
   refine xr 0 (args:=#[.string ⟨((Ve l t.no).getD i []).toArray⟩]) (Uf ((Ve l t.no).getD i []) _ (Gc _ _ _)) fun W127 m1=>?_
   refine xin 14 (Xy ((Ve l t.no).getD i [])) (0:Int) (fun z0=>?_) (fun z0=>?_)
   ·have y6:=z0
    have r2:=bln f1 m1
    refine xl 4 ((b5.below r2).cell (i:=0) rfl) ?_
    refine xl 1 ((b5.below r2).cell (i:=3) rfl) ?_
    refine xbs 2 1 [V0 t.no,V0 0,V0 0,.slice t.wa t.way.length t.wc,V0 (Xy ((Ve l t.no).getD i []))] 312 fun za W129 v2=>?_
    have wy:=v2.ge r2
    have dk:=Zb s4 m1
    have oy:=Zw dk v2
    have x9:=Zb dk v2.below
    have dg:=bln r2 v2.below
    refine xbi 0 fun _ _ _ _ zJ zQ zo zx zy zK=>Zu (m:=1) (news:=[V0 t.no,V0 0,V0 0,.slice t.wa t.way.length t.wc,V0 (Xy ((Ve l t.no).getD i []))]) (.agg #[V0 0,V0 0,V0 0,S0,V0 0]) 5 56 (i+1) (((Yw l t d0 c8 (i+1)).flatMap wtC)) zo Tryz.underlying313 (by kernel_rfl) rfl (by decide) zx x9 zy (v2.blk.sl 1 1 (by decide) (by decide)) rfl (by simp[Value.oneCell']) (by unfold maxLen;omega) (by omega) dg.size (by rfl) (by rw[Jo,List.flatMap_append,show Kb l t d0 c8 i=⟨t.no,0,0,t.way,Xy ((Ve l t.no).getD i []),t.wa,t.wc⟩ from by unfold Kb;rw[if_neg y6]];rfl) fun vr ve W130 ue jn jx=>?_
    refine zK _ _ ?_
    refine xwm 9 ((i:Int)+1) (↑(i+1):Int) ?_
    have lh:=dg.trans jx
    have fw:=Zj (Zb (Zb v7 m1) v2.below) jn x9 (by decide)
    exact ze 2 (dc _ _ _ ⟨i+1,_,_,rfl,rfl,lh,ue,fw,by omega⟩ (by omega))
   have y6:=z0
   have r6:=bln f1 m1
   refine xlv 5 ((b5.below r6).rpp 1 2) ?_
   refine xl 1 ((f4.below r6).cell (i:=2) rfl) ?_
   have w1:(Xv l t.no).length=(Zp (inB l t.no)):=Yv _ _
   have mu:=Dd (Hy n9).2.1 (i:=i) (by rw[w1];omega)
   have i3:=Zh (e6.own2 s8 a1 (by decide))
   refine xr 1 (args:=#[.agg #[V0 t.lo,V0 t.hi],.slice kp (Zp (inB l t.no)) kc,V0 (i:Int)]) ((Uv t.lo t.hi (i:Int) _ (Xv l t.no) _ ⟨by omega,by omega⟩ (by rw[w1];omega) (Pe (i3.below r6) w1)).mono (fun _ _ h=>by rw[mu] at h;exact h)) fun wk y9=>?_
   refine xa 3 [V0 0,V0 0] 304 fun xf W132 p3=>?_
   have bh:=bln r6 y9
   have tq:=p3.ge bh
   refine xsv 0 p3.blk [V0 ((Xb t.hi (Xv l t.no) i).1),V0 ((Xb t.hi (Xv l t.no) i).2)] fun yq hn tk=>?_
   refine xlv 6 tk.rp ?_
   refine xbs 2 1 [V0 (↑(Qf ((Ve l t.no).getD i [])):Int),V0 ((Xb t.hi (Xv l t.no) i).1),V0 ((Xb t.hi (Xv l t.no) i).2),.slice d0 ((t.way++[t.no]).length) c8,V0 0] 312 fun yx zj t9=>?_
   have ey:=hn.below (bln bh p3.below) tq
   have zz:=t9.ge ey
   have ab:=hn.own2 (Zb (Zb (Zb s4 m1) y9) p3.below) p3.blk (by decide)
   have jy:=Zw ab t9
   have y8:=Zb ab t9.below
   have bw:=bln ey t9.below
   refine xbi 0 fun _ _ _ _ zJ zQ zo zx zy zK=>Zu (m:=1) (news:=[V0 (↑(Qf ((Ve l t.no).getD i [])):Int),V0 ((Xb t.hi (Xv l t.no) i).1),V0 ((Xb t.hi (Xv l t.no) i).2),.slice d0 ((t.way++[t.no]).length) c8,V0 0]) (.agg #[V0 0,V0 0,V0 0,S0,V0 0]) 5 56 (i+1) (((Yw l t d0 c8 (i+1)).flatMap wtC)) zo Tryz.underlying313 (by kernel_rfl) rfl (by decide) zx y8 zy (t9.blk.sl 1 1 (by decide) (by decide)) rfl (by simp[Value.oneCell']) (by unfold maxLen;omega) (by omega) bw.size (by rfl) (by rw[Jo,List.flatMap_append,show Kb l t d0 c8 i=⟨Qf ((Ve l t.no).getD i []),(Xb t.hi (Xv l t.no) i).1,(Xb t.hi (Xv l t.no) i).2,t.way++[t.no],0,d0,c8⟩ from by unfold Kb;rw[if_pos y6]];rfl) fun vk va yn ud lb mq=>?_
   refine zK _ _ ?_
   refine xwm 6 ((i:Int)+1) (↑(i+1):Int) ?_
   have md:=bw.trans mq
   have hv:=Zj (Zb (hn.own2 (Zb (Zb (Zb v7 m1) y9) p3.below) p3.blk (by decide)) t9.below) lb y8 (by decide)
   exact ze 2 (dc _ _ _ ⟨i+1,_,_,rfl,rfl,md,ud,hv,by omega⟩ (by omega))
  have f7:=((((((((((r0.below n7.below).updN u8 n7 rfl).only (Zf.of_upd (T:=[202]) i1 a0 (by decide)) (by decide)).below a3).below i2.below).below f6.below).only (Zf.of_upd (T:=[38]) h0 h2 (by decide)) (by decide)).only (Zf.of_upd (T:=[52]) h5 j1 (by decide)) (by decide)).below e5.below).only (Zf.of_grown (T:=[3]) b3 a2 (by decide)) (by decide)).only (Zf.of_upd (T:=[202]) e6 a1 (by decide)) (by decide)
  refine xbi 8 fun _ _ _ _ zJ zQ zo zx zy zK=>Zu (m:=(ts.length-1)) (news:=(r.flatMap wtC)) (.agg #[V0 0,V0 0,V0 0,S0,V0 0]) 5 56 ((Yw l t d0 c8 (Zp (inB l t.no))++r).length) (((Yw l t d0 c8 (Zp (inB l t.no))++r).flatMap wtC)) zo Tryz.underlying313 (by kernel_rfl) rfl (by decide) zx s4 zy ((f7.below f1).slN j7) (by rw[Hx Lw,az];rfl) (wt_one r) (by unfold maxLen;omega) (by omega) f1.size (by rw[List.length_append,Jm,az];omega) (by rw[List.flatMap_append,show i=(Zp (inB l t.no)) by omega]) fun qt oq tl uj ql lw=>?_
  refine zK _ _ ?_
  have y5:=Zj v7 ql s4 (by decide)
  have v8:=(Kn.of_lt gi y5 (Nat.le_refl _)).symm
  have nt:=f1.trans lw
  have j6:Below h7.heap.size h7 tl:=nt
  have bt:w.heap.size≤h7.heap.size:=u1.size
  have ho:=Zg uj bt
  have gz:=m6.below j6
  have gv:=Zg y5 bt
  have hB:=bln u1 j6
  have y1:=(e6.blk (((h5.blkT (h0.blkT ((((i1.blk (u8.blkT (b0.below n7.below) n7.blk (by decide)) (Ne.symm (Ne.symm a7))).below a3).below i2.below).below f6.below) h2 (by decide)) j1 (by decide)).below e5.below).grown b3 a2 (by decide)) (Ne.symm (Ne.symm a7))).below j6
  have ok:=p4.below j6
  have il:=Zb (e6.own2 (Zj (Zb (h5.own2 (h0.own2 (Zb (Zb (Zb (i1.own2 (u8.own2 (Zb o1 n7.below) n7.blk (by decide)) a0 (by decide)) a3) i2.below) f6.below) h2 (by decide)) j1 (by decide)) e5.below) b3 a2 (by decide)) a1 (by decide)) j6
  have nr:=Zb r4 j6
  have fq:=Zb (e6.own2 (Zj (Zb (h5.own3 (h0.own2 (Zb l5 f6.below) h2 (by decide)) k2) e5.below) b3 a2 (by decide)) a1 (by decide)) j6
  have jm:=((((((((m3.below a3).below i2.below).below f6.below).only (Zf.of_upd (T:=[38]) h0 h2 (by decide)) (by decide)).only (Zf.of_upd (T:=[52]) h5 j1 (by decide)) (by decide)).below e5.below).only (Zf.of_grown (T:=[3]) b3 a2 (by decide)) (by decide)).only (Zf.of_upd (T:=[202]) e6 a1 (by decide)) (by decide)).below j6
  refine ze 3 (v6 _ _ _ ⟨{ s with looked:=s.looked+1,bs:=s.bs++[t.no] },(Yw l t d0 c8 (Zp (inB l t.no))++r),pe,k9,pf,ce,l2,cf,fv,qt,oq,rfl,rfl,hB,y1,ok,il,nr,fq,(Cm.of ho rfl),(Yg.below_visits gz gv v8),jm,e4.inner d0 c8 k6 t0 n9 iv,n8⟩ ?_)
  show 20*(fuel.toNat-(s.looked+1))+(Yw l t d0 c8 (Zp (inB l t.no))++r).length<20*(fuel.toNat-s.looked)+ts.length
  rw[List.length_append,Jm,az]
  omega
 have yr:=tn
 refine xlv 7 l9.rp ?_
 refine xsv 0 b0 [.slice pe s.es.length ce,.slice pb s.bs.length cb,V0 s.deep,V0 (s.looked:Int),.slice pf fv.length cf] fun wf y7 sr=>?_
 have g1:=n1.ge (B3 w)
 have mg:=y7.below q2 g1
 have io:=y7.own2 o1 b0 (by decide)
 have gj:=y7.own2 ix b0 (by decide)
 have fn:=y7.own2 q5 b0 (by decide)
 have ms:=vs.only (Zf.of_upd (T:=[202]) y7 b0 (by decide)) (by decide)
 refine xec 3 sr (.agg #[.slice pe s.es.length ce,.slice pb s.bs.length cb,V0 s.deep,V0 (s.looked:Int),.slice pf fv.length cf]) ?_
 obtain rfl:ts=[]:=by cases ts with
  | nil=>rfl
  | cons t r=>simp at yr
 rw[rz.nil]
 exact⟨pe,pb,pf,ce,cb,cf,fv,rfl,mg,io,gj,fn,n8,ms⟩
theorem ImgR.mono{B B' b:Nat}{p:O0}{n c:Nat}{l:Bl}{w:World}(h:ImgR B b p n c l w)(hB:B'≤B):ImgR B' b p n c l w:=⟨h.blk,Zg h.row hB,h.hn⟩
theorem image_OfR(a:O0)(c n m:Nat)(l:Bl)(w:World)(hn:l.length=n)(hm:min (n/256) 14400*256=m)(h:Bys w (.slice a n c) l)(hl:n≤100000000)(hc:n≤c) :
 C0 6 #[.slice a n c] w (Vy (fun w' r=>∃ b p c2,r=P0 b∧w.heap.size≤b∧ImgR w.heap.size b p m c2 (l.take m) w') w):=by
 subst hn hm
 refine(Zd8 a c l w h hl hc).mono ?_
 rintro e W ⟨_,rfl,hb,b,p,c2,rfl,h1,h2,h3⟩
 exact⟨_,rfl,hb,b,p,c2,rfl,h1,h2,h3,by omega⟩
theorem Tn(l:Bl)(tree fuel:Int):∀ (d:Nat) (way:List Int) (no lo hi:Int) (s:WS),way.length+d≤20→(∀ f∈s.fs,f.1.length≤40)→∀ f∈(Zz l tree fuel d way no lo hi s).fs,f.1.length≤40
 | 0,_,_,_,_,s,_,h=>h
 | d+1,way,no,lo,hi,s,hw,h=>by
  have a0:∀ (c:Int) (s:WS),(∀ f∈s.fs,f.1.length≤40)→∀ f∈(Yo way [no] c s).fs,f.1.length≤40:=by
   intro c s h f hf
   simp only[Yo,List.mem_append,List.mem_singleton] at hf
   rcases hf with hf|rfl
   ·exact h f hf
   ·simp;omega
  unfold Zz
  split
  ·exact a0 _ _ h
  ·split
   ·exact a0 _ _ h
   ·split
    ·exact h
    ·refine Mj (V:=Zz l tree fuel d) (l:=l) (way:=way) (no:=no) (hi:=hi) (s:={ s with looked:=s.looked+1,bs:=s.bs++[no] }) (fun _ t=>∀ f∈t.fs,f.1.length≤40) h (Zp (inB l no)) ?_ fun _ _ _ _ q=>q
     intro i t _ _ q
     unfold Jl
     split
     ·exact Tn l tree fuel d (way++[no]) _ _ _ t (by simp;omega) q
     ·exact a0 _ _ q
theorem Zaj(l:Bl)(root tree fuel:Int):∀ f∈(Zd l root tree fuel).fs,f.1.length≤40:=Tn l tree fuel 17 [] root _ _ ws0 (by decide) (by simp[ws0])
theorem Du{α:Type}{l:List α}{d:α}{i:Nat}(h:i<l.length):l.getD i d∈l:=by simp[List.getD,h]
theorem Hj.at{w:World}:∀ {fs:List (List Int×Int)} {vs:List Value},Hj w fs vs→∀ {j:Nat},j<fs.length→∃ ty x,vs[j]? = some (.iface ty x)∧Vw w ((fs.getD j ([],0)).1.map some) (some (fs.getD j ([],0)).2) (.iface ty x)
 | f::r,v::q,h,0,_=>by
  obtain⟨ty,x,rfl⟩:=h.1.iface
  exact⟨ty,x,rfl,h.1⟩
 | f::r,v::q,h,j+1,hj=>by
  obtain⟨ty,x,h1,h2⟩:=h.2.at (j:=j) (by simpa using hj)
  exact⟨ty,x,by simpa using h1,by simpa using h2⟩
 | [],_,_,j,hj=>absurd hj (by simp)
 | _::_,[],h,_,_=>h.elim
theorem Sl.elem1{w:World}{b:O0}{n c:Nat}{xs:List Value}(h:Sl w (.slice b n c) n xs){j:Nat}{x:Value}(hj:xs[j]? = some x):b.isSome=true∧w.cell? (Xj b (j*1))=some x:=by rw[Nat.mul_one];exact Sl.elem h hj
theorem Ia(l:List Int):Vr (l.map some)=l:=by unfold Vr;simp[List.filterMap_map]
theorem Ah(l:Bl)(root tree fuel:Int):(Zd l root tree fuel).looked≤fuel.toNat∧(Zd l root tree fuel).bs.length≤(Zd l root tree fuel).looked∧(∀ x∈(Zd l root tree fuel).es,InBlk l tree x) ∧
 (Zd l root tree fuel).es.Pairwise (fun x y=>x.1<y.1)∧∀ f∈(Zd l root tree fuel).fs,f.1≠[]∧f.1.getD 0 0=root:=by
 obtain⟨es,fs,h⟩:=Pj l root tree fuel
 have h1:(Zd l root tree fuel).es=es:=by rw[h.esE];rfl
 have h2:(Zd l root tree fuel).fs=fs:=by rw[h.fsE];rfl
 have h3:=h.blks
 refine⟨Cl _ _ _ _,by simpa [ws0] using h3,fun x hx=>h.inb x (h1▸hx),by rw[h1];exact h.rise.1,fun f hf=>?_⟩
 obtain⟨q1,q2,_⟩:=h.flt f (h2▸hf)
 refine⟨q2,?_⟩
 cases e:f.1 with
 | nil=>exact absurd e q2
 | cons a r=>rw[e] at q1;simpa using q1
theorem Zb0(l:List Int)(c:Int):Bq (l.map some) (some c)=c:=by simp[Bq,Ny]
def ft0:Ft:=⟨[],0,none,0⟩
structure WalkS(t:WS)(pe pb pf:Option Addr)(ce cb cf:Nat)(fv:List Value)(w:World):Prop where
 ents:Sts Ji w (.slice pe t.es.length ce) t.es
 blks:Ints w (.slice pb t.bs.length cb) t.bs
 flts:Sl w (.slice pf t.fs.length cf) t.fs.length fv
 fltv:Hj w t.fs fv
theorem WalkS.below{t:WS}{pe pb pf:O0}{ce cb cf:Nat}{fv:List Value}{w W:World}(h:WalkS t pe pb pf ce cb cf fv w)(hb:B0 w W):WalkS t pe pb pf ce cb cf fv W :=
 ⟨Sl.below h.ents hb,Sl.below h.blks hb,Sl.below h.flts hb,h.fltv.below hb⟩
structure RWalkS(t:WS)(pe pb pf:Option Addr)(ce cb cf:Nat)(fv:List Ft)(w:World):Prop where
 ents:Sts Ji w (.slice pe t.es.length ce) t.es
 blks:Ints w (.slice pb t.bs.length cb) t.bs
 flts:Sts Og w (.slice pf fv.length cf) fv
 map:fv.map fltP=t.fs
 kept:∀ f∈fv,Ints w (.slice f.fa f.bl.length f.fc) f.bl
theorem RWalkS.below{t:WS}{pe pb pf:O0}{ce cb cf:Nat}{fv:List Ft}{w W:World}(h:RWalkS t pe pb pf ce cb cf fv w)(hb:B0 w W):RWalkS t pe pb pf ce cb cf fv W :=
 ⟨Sl.below h.ents hb,Sl.below h.blks hb,Sl.below h.flts hb,h.map,fun f hf=>Sl.below (h.kept f hf) hb⟩
theorem RWalkS.at_{t:WS}{pe pb pf:O0}{ce cb cf:Nat}{fv:List Ft}{w:World}(h:RWalkS t pe pb pf ce cb cf fv w){i:Nat}(hi:i<fv.length):t.fs.getD i ([],0)=((fv.getD i ft0).bl,(fv.getD i ft0).c):=by
 rw[←h.map];simp[List.getD,hi,fltP]
theorem RWalkS.len{t:WS}{pe pb pf:O0}{ce cb cf:Nat}{fv:List Ft}{w:World}(h:RWalkS t pe pb pf ce cb cf fv w):fv.length=t.fs.length:=by rw[←h.map];simp
def eL (S:WS):List (Option Int):=if S.fs=[] then [] else(S.fs.getD 0 ([],0)).1.map some
def eT (S:WS):Option Int:=if S.fs=[] then none else some (S.fs.getD 0 ([],0)).2
def Tr(S:WS):WS:=if S.fs=[] then S else ws0
def Xr(S:WS):List Int×Int:=if S.fs=[] then([],0) else S.fs.getD 0 ([],0)
def FirstP(fs:List (List Int×Int))(w:World)(e:Ending)(w':World):Prop :=
 (fs=[]∧e=.returned .nilIface∧B0 w w')∨(fs≠[]∧∃ ty x,e=.returned (.iface ty x)∧B0 w w'∧Vw w' ((fs.getD 0 ([],0)).1.map some) (some (fs.getD 0 ([],0)).2) (.iface ty x))
theorem Cy(p:O0)(n c:Nat)(fv:List Value)(ty:TypeId)(x:Value)(w:World)(hn:0<n)(hS:Sl w (.slice p n c) n fv)(hx:fv[0]? = some (.iface ty x)) :
 C0 118 #[.slice p n c] w (Ret (.iface ty x) w):=by
 refine zin 15 Tryz.func118 ?_
 refine xu 14 1 ?_
 refine xk 6 (show(decide ((0:Int)<(n:Int)):Bool)=true from decide_eq_true (by omega)) ?_
 refine xx 6 _ n 0 1 (Sl.elem1 hS hx).1 ?_
 refine xl 0 ((Sl.elem1 hS hx).2) ?_
 exact xe 22 (.iface ty (x)) ⟨rfl,(B3 w)⟩
theorem Ct(p:O0)(c:Nat)(w:World) :
 C0 118 #[.slice p 0 c] w (Ret .nilIface w):=by
 refine zin 15 Tryz.func118 ?_
 refine xu 14 1 ?_
 exact xe 18 .nilIface ⟨rfl,(B3 w)⟩
theorem Za0(p:O0)(n c:Nat)(fs:List (List Int×Int))(fv:List Value)(w:World)(hn:fs.length=n)(hS:Sl w (.slice p n c) n fv)(hF:Hj w fs fv):C0 118 #[.slice p n c] w (FirstP fs w):=by
 subst hn
 match fs,hS,hF with
 | [],hS,hF =>
  refine(Ct p c w).mono ?_
  rintro e W ⟨rfl,hb⟩
  exact .inl ⟨rfl,rfl,hb⟩
 | f::r,hS,hF =>
  obtain⟨ty,x,h1,h2⟩:=hF.at (j:=0) (by simp)
  refine(Cy p _ c fv ty x w (by simp) hS h1).mono ?_
  rintro e W ⟨rfl,hb⟩
  exact .inr ⟨by simp,ty,x,rfl,hb,h2.below hb⟩
theorem WalkV.mono{B B':Nat}{t:WS}{pe pb pf:O0}{ce cb cf:Nat}{fv:List Value}{w:World}(h:WalkV B t pe pb pf ce cb cf fv w)(hB:B'≤B):WalkV B' t pe pb pf ce cb cf fv w:=⟨Zg h.ents hB,Zg h.blks hB,Zg h.flts hB,h.fltv⟩
theorem WalkV.below{B:Nat}{t:WS}{pe pb pf:O0}{ce cb cf:Nat}{fv:List Value}{w W:World}(h:WalkV B t pe pb pf ce cb cf fv w)(hb:B0 w W):WalkV B t pe pb pf ce cb cf fv W:=⟨Zb h.ents hb,Zb h.blks hb,Zb h.flts hb,h.fltv.below hb⟩
theorem WalkV.only{B:Nat}{T:List TypeId}{t:WS}{pe pb pf:O0}{ce cb cf:Nat}{fv:List Value}{w W:World}(h:WalkV B t pe pb pf ce cb cf fv w)(hO:Zf T w W)(hT:T.contains 100=false∧T.contains 3=false∧T.contains 30=false∧T.contains 218=false):WalkV B t pe pb pf ce cb cf fv W:=⟨Zl h.ents hO hT.1,Zl h.blks hO hT.2.1,Zl h.flts hO hT.2.2.1,h.fltv.only hO hT.2.2.2⟩
structure RWalkV(B:Nat)(t:WS)(pe pb pf:Option Addr)(ce cb cf:Nat)(fv:List Ft)(w:World):Prop where
 ents:w.ownsRow B 100 3 (.slice pe t.es.length ce) t.es.length (t.es.flatMap Ji)
 blks:w.ownsRow B 3 1 (.slice pb t.bs.length cb) t.bs.length (t.bs.map (Value.int .i64))
 flts:w.ownsRow B 52 2 (.slice pf fv.length cf) fv.length (fv.flatMap Og)
 map:fv.map fltP=t.fs
 kept:∀ f∈fv,Vk B w f.fa f.fc f.bl
theorem RWalkV.s{B:Nat}{t:WS}{pe pb pf:O0}{ce cb cf:Nat}{fv:List Ft}{w:World}(h:RWalkV B t pe pb pf ce cb cf fv w):RWalkS t pe pb pf ce cb cf fv w:=⟨Zh h.ents,Zh h.blks,Zh h.flts,h.map,fun f hf=>(h.kept f hf).ints⟩
theorem RWalkV.mono{B B':Nat}{t:WS}{pe pb pf:O0}{ce cb cf:Nat}{fv:List Ft}{w:World}(h:RWalkV B t pe pb pf ce cb cf fv w)(hB:B'≤B):RWalkV B' t pe pb pf ce cb cf fv w:=⟨Zg h.ents hB,Zg h.blks hB,Zg h.flts hB,h.map,fun f hf=>(h.kept f hf).mono hB⟩
theorem RWalkV.below{B:Nat}{t:WS}{pe pb pf:O0}{ce cb cf:Nat}{fv:List Ft}{w W:World}(h:RWalkV B t pe pb pf ce cb cf fv w)(hb:B0 w W):RWalkV B t pe pb pf ce cb cf fv W:=⟨Zb h.ents hb,Zb h.blks hb,Zb h.flts hb,h.map,fun f hf=>(h.kept f hf).below hb⟩
theorem RWalkV.only{B:Nat}{T:List TypeId}{t:WS}{pe pb pf:O0}{ce cb cf:Nat}{fv:List Ft}{w W:World}(h:RWalkV B t pe pb pf ce cb cf fv w)(hO:Zf T w W)(hT:T.contains 100=false∧T.contains 3=false∧T.contains 52=false):RWalkV B t pe pb pf ce cb cf fv W:=⟨Zl h.ents hO hT.1,Zl h.blks hO hT.2.1,Zl h.flts hO hT.2.2,h.map,fun f hf=>(h.kept f hf).only hO hT.2.1⟩
theorem RWalkV.updF{B b:Nat}{cs:List Value}{t:WS}{pe pb pf:O0}{ce cb cf:Nat}{fv:List Ft}{w W:World}(h:RWalkV B t pe pb pf ce cb cf fv w)(u:Upd w b W)(k:Blk w b cs 52)(hs:∀ j,(Value.slice pf fv.length cf).ownBlock=some j→j≠b):RWalkV B t pe pb pf ce cb cf fv W :=
 ⟨u.own2 h.ents k (by decide),u.own2 h.blks k (by decide),u.own3 h.flts hs,h.map,fun f hf=>u.own2 (h.kept f hf) k (by decide)⟩
theorem WalkV.s{B:Nat}{t:WS}{pe pb pf:O0}{ce cb cf:Nat}{fv:List Value}{w:World}(h:WalkV B t pe pb pf ce cb cf fv w):WalkS t pe pb pf ce cb cf fv w:=⟨Zh h.ents,Zh h.blks,Zh h.flts,h.fltv⟩
theorem WalkV.zero(B:Nat)(w:World):WalkV B ws0 none none none 0 0 0 [] w:=⟨World.ownsRow_nil _ _ _ _,World.ownsRow_nil _ _ _ _,World.ownsRow_nil _ _ _ _,trivial⟩
theorem RWalkV.zero(B:Nat)(w:World):RWalkV B ws0 none none none 0 0 0 [] w:=⟨World.ownsRow_nil _ _ _ _,World.ownsRow_nil _ _ _ _,World.ownsRow_nil _ _ _ _,rfl,fun _ h=>by cases h⟩
theorem Gm{S:WS}(h:S.fs=[]):Tr S=S∧Xr S=([],0)∧eL S=[]∧eT S=none:=by unfold Tr Xr eL eT;simp[h]
theorem Qk{S:WS}(h:S.fs≠[]):Tr S=ws0∧Xr S=S.fs.getD 0 ([],0)∧eL S=(S.fs.getD 0 ([],0)).1.map some∧eT S=some (S.fs.getD 0 ([],0)).2:=by unfold Tr Xr eL eT;simp[h]
def WholeP(S:WS)(w:World)(e:Ending)(w':World):Prop:=∃ t pe pb pf ce cb cf fv v,t=Tr S∧e=.returned (.tuple #[.agg (walkC t pe pb pf ce cb cf).toArray,v])∧B0 w w'∧WalkV w.heap.size t pe pb pf ce cb cf fv w'∧Vw w' (eL S) (eT S) v
def rwalkC(t:WS)(pe pb pf:O0)(n ce cb cf:Nat):List Value:=[.slice pe t.es.length ce,.slice pb t.bs.length cb,V0 t.deep,V0 (t.looked:Int),.slice pf n cf]
def RWholeP(S:WS)(w:World)(e:Ending)(w':World):Prop:=∃ t pe pb pf ce cb cf fv a c,t=Tr S∧e=.returned (.tuple #[.agg (rwalkC t pe pb pf fv.length ce cb cf).toArray,.agg #[.slice a (Xr S).1.length c,V0 (Xr S).2]])∧B0 w w'∧RWalkV w.heap.size t pe pb pf ce cb cf fv w'∧Vk w.heap.size w' a c (Xr S).1
theorem Zby(Bi b:Nat)(pi:O0)(ni ci:Nat)(l:Bl)(root tree fuel:Int)(w:World)(hfu:fuel≤1000)(hI:ImgR Bi b pi ni ci l w) :
 C0 83 #[P0 b,V0 root,V0 tree,V0 fuel] w (WholeP (Zd l root tree fuel) w):=by
 refine zin 25 Tryz.func83 ?_
 refine xa 2 [S0,S0,V0 0,V0 0,S0] 175 fun b1 W1 n1=>?_
 have b5:=n1.below.size
 refine xc 9 (args:=#[P0 b,V0 root,V0 tree,V0 fuel]) (walk_Scan Bi b pi ni ci l root tree fuel _ hfu (hI.below n1.below)) ?_
 rintro _ W2 ⟨pe,pb,pf,ce,cb,cf,fv,rfl,b4,b6⟩
 have hW:=b6.mono b5
 refine xa 0 [S0,S0,V0 0,V0 0,S0] 175 fun b3 W3 n3=>?_
 have k1:=n1.blk.below b4
 have a1:=n3.ne k1
 have a3:=bln n1.below b4
 have g3:=n3.ge a3
 refine xsv 0 n3.blk [.slice pe ((Zd l root tree fuel).es.length) ce,.slice pb ((Zd l root tree fuel).bs.length) cb,V0 ((Zd l root tree fuel).deep),V0 (↑(Zd l root tree fuel).looked:Int),.slice pf ((Zd l root tree fuel).fs.length) cf] fun W4 u4 k4=>?_
 refine xb 6 4 k4 ?_
 have a2:=(hW.below n3.below).only (Zf.of_upd (T:=[175]) u4 n3.blk (by decide)) (by decide)
 refine xc 0 (args:=#[.slice pf ((Zd l root tree fuel).fs.length) cf]) (Za0 pf _ cf (Zd l root tree fuel).fs fv _ rfl (Zh a2.flts) a2.fltv) ?_
 rintro e W5 b7
 rcases b7 with ⟨hz,rfl,a4⟩|⟨hz,ty,x,rfl,a4,hv⟩
 ·have a0:=Gm hz
  have a7:=k4.below a4
  refine xlv 14 a7.rp ?_
  have a6:=(u4.blk (k1.below n3.below) (Ne.symm (Ne.symm a1))).below a4
  refine xsv 0 a6 [.slice pe ((Zd l root tree fuel).es.length) ce,.slice pb ((Zd l root tree fuel).bs.length) cb,V0 ((Zd l root tree fuel).deep),V0 (↑(Zd l root tree fuel).looked:Int),.slice pf ((Zd l root tree fuel).fs.length) cf] fun W6 u6 k6=>?_
  have g1:=n1.ge (B3 w)
  have a8:=u6.below (bln (u4.below (bln a3 n3.below) g3) a4) g1
  have b0:=(a2.below a4).only (Zf.of_upd (T:=[175]) u6 a6 (by decide)) (by decide)
  exact xec 4 k6 (.tuple #[.agg #[.slice pe ((Zd l root tree fuel).es.length) ce,.slice pb ((Zd l root tree fuel).bs.length) cb,V0 ((Zd l root tree fuel).deep),V0 (↑(Zd l root tree fuel).looked:Int),.slice pf ((Zd l root tree fuel).fs.length) cf],.nilIface]) ⟨_,pe,pb,pf,ce,cb,cf,fv,_,rfl,by rw[a0.1];rfl,a8,by rw[a0.1];exact b0,by rw[a0.2.2.1,a0.2.2.2];rfl⟩
 have a0:=Qk hz
 have a5:=(u4.blk (k1.below n3.below) (Ne.symm (Ne.symm a1))).below a4
 refine xsv 14 a5 [S0,S0,V0 0,V0 0,S0] fun W7 u7 k7=>?_
 have g1:=n1.ge (B3 w)
 have b2:=u7.below (bln (u4.below (bln a3 n3.below) g3) a4) g1
 have a9:=hv.upd u7 a5 (by decide)
 exact xec 5 k7 (.tuple #[.agg #[S0,S0,V0 0,V0 0,S0],.iface ty (x)]) ⟨_,none,none,none,0,0,0,[],_,rfl,by rw[a0.1];rfl,b2,by rw[a0.1];exact WalkV.zero _ _,by rw[a0.2.2.1,a0.2.2.2];exact a9⟩
theorem Zen.s{S:WS}{w:World}{e:Ending}{w':World}(h:Zen S w e w'):∃ (pe pb pf:O0) (ce cb cf:Nat) (fv:List Ft),e=.returned (.agg (rwalkC S pe pb pf fv.length ce cb cf).toArray)∧B0 w w'∧RWalkV w.heap.size S pe pb pf ce cb cf fv w':=by
 obtain⟨pe,pb,pf,ce,cb,cf,fv,rfl,hb,h1,h2,h3,h4,h5⟩:=h
 exact⟨pe,pb,pf,ce,cb,cf,fv,rfl,hb,h1,h2,h3,h4,fun f hf=>(h5 (fltK f) (List.mem_map_of_mem hf)).1⟩
theorem RWalkS.first{t:WS}{pe pb pf:O0}{ce cb cf:Nat}{fv:List Ft}{w:World}(h:RWalkS t pe pb pf ce cb cf fv w)(hi:0<fv.length):Xr t=((fv.getD 0 ft0).bl,(fv.getD 0 ft0).c)∧t.fs≠[]:=by
 have h1:=h.at_ hi
 have hz:t.fs≠[]:=by intro q;have:=h.len;rw[q,List.length_nil] at this;omega
 exact⟨by rw[(Qk hz).2.1,h1],hz⟩
theorem RWalkS.none{t:WS}{pe pb pf:O0}{ce cb cf:Nat}{fv:List Ft}{w:World}(h:RWalkS t pe pb pf ce cb cf fv w)(hi:¬ 0<fv.length):t.fs=[]:=by
 have:=h.len;exact List.length_eq_zero_iff.1 (by omega)
theorem Zbn(B bm:Nat)(p:O0)(k c:Nat)(l:Bl)(root tree fuel:Int)(w:World)(hfu:fuel≤1000)(hI:RefI B bm p k c l w) :
 C0 97 #[P0 bm,V0 root,V0 tree,V0 fuel] w (RWholeP (Zd l root tree fuel) w):=by
 refine zin 27 Tryz.func97 ?_
 refine xa 2 [S0,S0,V0 0,V0 0,S0] 202 fun b1 W1 n1=>?_
 refine xa 0 [S0,V0 0] 52 fun b2 W2 n2=>?_
 have hB:=bln n1.below n2.below
 have e5:=hB.size
 have e6:=n2.blk.lt
 refine xc 8 (args:=#[P0 bm,V0 root,V0 tree,V0 fuel]) ((Zgh B bm p k c l root tree fuel _ (hI.below hB) hfu).mono (fun _ _ h=>Zen.s h)) ?_
 rintro _ W3 ⟨pe,pb,pf,ce,cb,cf,fv,rfl,b6,d8⟩
 have c6:∀ j,(Value.slice pf fv.length cf).ownBlock=some j→j≠b2:=fun j hj=>by have q:=(d8.flts.lt j hj).1;omega
 have hQ:=d8.mono e5
 refine xa 0 [S0,S0,V0 0,V0 0,S0] 202 fun b4 W4 n4=>?_
 have k1:=(n1.blk.below n2.below).below b6
 have a0:=n4.ne k1
 have a1:=bln hB b6
 have g4:=n4.ge a1
 refine xsv 0 n4.blk [.slice pe ((Zd l root tree fuel).es.length) ce,.slice pb ((Zd l root tree fuel).bs.length) cb,V0 ((Zd l root tree fuel).deep),V0 (↑(Zd l root tree fuel).looked:Int),.slice pf fv.length cf] fun W5 u5 k5=>?_
 refine xb 6 4 k5 ?_
 refine xid 4 ((fv.length:Int)>(0:Int)) (fun d9=>?_) (fun d9=>?_)
 ·refine xd 1 (.t w.heap.size [202,52]) ?_
  refine xm2 (.b [0,1]) 2 5 ?_ ?_
  ·have d1:=k5.below (Za W5)
   refine xb 0 4 d1 ?_
   have a7:=((hQ.below n4.below).only (Zf.of_upd (T:=[202]) u5 n4.blk (by decide)) (by decide)).below (Za W5)
   refine xx (.e [] 3) _ fv.length 0 2 (Sts.cell (Zh a7.flts) Ms ft0 (k:=0) (i:=0) (by omega) rfl).1 ?_
   refine xm2 0 4 5 ?_ ?_
   ·refine xlv 0 (Sts.rp (k:=0) (Zh a7.flts) Ms ft0 (by omega) (by decide)) ?_
    have a8:=(u5.blk (k1.below n4.below) (Ne.symm (Ne.symm a0))).below (Za W5)
    have g1:=n1.ge (B3 w)
    refine ysv (.o [] 5) a8 [S0,S0,V0 0,V0 0,S0] (.t w.heap.size [202,52]) fun W7 u7 k7=>⟨(Zo u7 a8 g1 (by decide)),?_⟩
    have a5:=u7.blkT ((u5.blkT ((n2.blk.below b6).below n4.below) n4.blk (by decide)).below (Za W5)) a8 (by decide)
    have g2:=n2.ge n1.below
    refine ysv (.o [] 6) a5 [.slice ((fv.getD 0 ft0).fa) ((fv.getD 0 ft0).bl.length) ((fv.getD 0 ft0).fc),V0 ((fv.getD 0 ft0).c)] (.t w.heap.size [202,52]) fun W8 u8 k8=>⟨(Zo u8 a5 g2 (by decide)),?_⟩
    have c0:=(a7.only (Zf.of_upd (T:=[202]) u7 a8 (by decide)) (by decide)).updF u8 a5 c6
    have d6:=u8.below (u7.below (bln (u5.below (bln a1 n4.below) g4) (Za W5)) g1) g2
    have d2:=u8.blkT k7 a5 (by decide)
    refine Nq 4 [(b1,[S0,S0,V0 0,V0 0,S0]),(b2,[.slice ((fv.getD 0 ft0).fa) ((fv.getD 0 ft0).bl.length) ((fv.getD 0 ft0).fc),V0 ((fv.getD 0 ft0).c)])] ⟨⟨_,d2⟩,⟨_,k8⟩,trivial⟩ (.tuple #[.agg #[S0,S0,V0 0,V0 0,S0],.agg #[.slice ((fv.getD 0 ft0).fa) ((fv.getD 0 ft0).bl.length) ((fv.getD 0 ft0).fc),V0 ((fv.getD 0 ft0).c)]]) ?_
    obtain⟨a9,hz⟩:=c0.s.first (by omega)
    refine⟨_,none,none,none,0,0,0,[],_,_,rfl,by rw[(Qk hz).1,a9];rfl,d6,by rw[(Qk hz).1];exact RWalkV.zero _ _,?_⟩
    rw[a9]
    exact c0.kept (fv.getD 0 ft0) (Du (by omega))
   have a2:=(u5.blk (k1.below n4.below) (Ne.symm (Ne.symm a0))).below (Za W5)
   have g1:=n1.ge (B3 w)
   refine ysv 0 a2 [S0,S0,V0 0,V0 0,S0] (.t w.heap.size [202,52]) fun W9 u9 k9=>⟨(Zo u9 a2 g1 (by decide)),?_⟩
   have c1:=a7.only (Zf.of_upd (T:=[202]) u9 a2 (by decide)) (by decide)
   refine xlv (.o [] 4) (Sts.rp (k:=0) (Zh c1.flts) Ms ft0 (by omega) (by decide)) ?_
   have a4:=u9.blkT ((u5.blkT ((n2.blk.below b6).below n4.below) n4.blk (by decide)).below (Za W5)) a2 (by decide)
   have g2:=n2.ge n1.below
   refine ysv (.o [] 6) a4 [.slice ((fv.getD 0 ft0).fa) ((fv.getD 0 ft0).bl.length) ((fv.getD 0 ft0).fc),V0 ((fv.getD 0 ft0).c)] (.t w.heap.size [202,52]) fun e9 c7 e1=>⟨(Zo c7 a4 g2 (by decide)),?_⟩
   have c3:=c1.updF c7 a4 c6
   have d4:=c7.below (u9.below (bln (u5.below (bln a1 n4.below) g4) (Za W5)) g1) g2
   have d5:=c7.blkT k9 a4 (by decide)
   refine Nq 4 [(b1,[S0,S0,V0 0,V0 0,S0]),(b2,[.slice ((fv.getD 0 ft0).fa) ((fv.getD 0 ft0).bl.length) ((fv.getD 0 ft0).fc),V0 ((fv.getD 0 ft0).c)])] ⟨⟨_,d5⟩,⟨_,e1⟩,trivial⟩ (.tuple #[.agg #[S0,S0,V0 0,V0 0,S0],.agg #[.slice ((fv.getD 0 ft0).fa) ((fv.getD 0 ft0).bl.length) ((fv.getD 0 ft0).fc),V0 ((fv.getD 0 ft0).c)]]) ?_
   obtain⟨a9,hz⟩:=c3.s.first (by omega)
   refine⟨_,none,none,none,0,0,0,[],_,_,rfl,by rw[(Qk hz).1,a9];rfl,d4,by rw[(Qk hz).1];exact RWalkV.zero _ _,?_⟩
   rw[a9]
   exact c3.kept (fv.getD 0 ft0) (Du (by omega))
  have a6:=(u5.blk (k1.below n4.below) (Ne.symm (Ne.symm a0))).below (Za W5)
  have g1:=n1.ge (B3 w)
  refine ysv 0 a6 [S0,S0,V0 0,V0 0,S0] (.t w.heap.size [202,52]) fun f0 b7 e4=>⟨(Zo b7 a6 g1 (by decide)),?_⟩
  have c9:=b7.blk (k5.below (Za W5)) (Ne.symm a0)
  refine xb (.o [] 2) 4 c9 ?_
  have b5:=(((hQ.below n4.below).only (Zf.of_upd (T:=[202]) u5 n4.blk (by decide)) (by decide)).below (Za W5)).only (Zf.of_upd (T:=[202]) b7 a6 (by decide)) (by decide)
  refine xx (.e [] 3) _ fv.length 0 2 (Sts.cell (Zh b5.flts) Ms ft0 (k:=0) (i:=0) (by omega) rfl).1 ?_
  refine xlv (.o [] 4) (Sts.rp (k:=0) (Zh b5.flts) Ms ft0 (by omega) (by decide)) ?_
  have a3:=b7.blkT ((u5.blkT ((n2.blk.below b6).below n4.below) n4.blk (by decide)).below (Za W5)) a6 (by decide)
  have g2:=n2.ge n1.below
  refine ysv (.o [] 6) a3 [.slice ((fv.getD 0 ft0).fa) ((fv.getD 0 ft0).bl.length) ((fv.getD 0 ft0).fc),V0 ((fv.getD 0 ft0).c)] (.t w.heap.size [202,52]) fun e7 c5 e0=>⟨(Zo c5 a3 g2 (by decide)),?_⟩
  have c4:=b5.updF c5 a3 c6
  have d7:=c5.below (b7.below (bln (u5.below (bln a1 n4.below) g4) (Za W5)) g1) g2
  have c2:=c5.blkT e4 a3 (by decide)
  refine Nq 4 [(b1,[S0,S0,V0 0,V0 0,S0]),(b2,[.slice ((fv.getD 0 ft0).fa) ((fv.getD 0 ft0).bl.length) ((fv.getD 0 ft0).fc),V0 ((fv.getD 0 ft0).c)])] ⟨⟨_,c2⟩,⟨_,e0⟩,trivial⟩ (.tuple #[.agg #[S0,S0,V0 0,V0 0,S0],.agg #[.slice ((fv.getD 0 ft0).fa) ((fv.getD 0 ft0).bl.length) ((fv.getD 0 ft0).fc),V0 ((fv.getD 0 ft0).c)]]) ?_
  obtain⟨a9,hz⟩:=c4.s.first (by omega)
  refine⟨_,none,none,none,0,0,0,[],_,_,rfl,by rw[(Qk hz).1,a9];rfl,d7,by rw[(Qk hz).1];exact RWalkV.zero _ _,?_⟩
  rw[a9]
  exact c4.kept (fv.getD 0 ft0) (Du (by omega))
 refine xlv 4 k5.rp ?_
 have b0:=u5.blk (k1.below n4.below) (Ne.symm (Ne.symm a0))
 refine xsv 1 b0 [.slice pe ((Zd l root tree fuel).es.length) ce,.slice pb ((Zd l root tree fuel).bs.length) cb,V0 ((Zd l root tree fuel).deep),V0 (↑(Zd l root tree fuel).looked:Int),.slice pf fv.length cf] fun e8 d3 e2=>?_
 have g1:=n1.ge (B3 w)
 have b3:=d3.blkT (u5.blkT ((n2.blk.below b6).below n4.below) n4.blk (by decide)) b0 (by decide)
 refine xsv 0 b3 [S0,V0 0] fun f1 d0 e3=>?_
 have g2:=n2.ge n1.below
 have b9:=(((hQ.below n4.below).only (Zf.of_upd (T:=[202]) u5 n4.blk (by decide)) (by decide)).only (Zf.of_upd (T:=[202]) d3 b0 (by decide)) (by decide)).updF d0 b3 c6
 have c8:=d0.below (d3.below (u5.below (bln a1 n4.below) g4) g1) g2
 have b8:=d0.blkT e2 b3 (by decide)
 refine Nq 3 [(b1,[.slice pe ((Zd l root tree fuel).es.length) ce,.slice pb ((Zd l root tree fuel).bs.length) cb,V0 ((Zd l root tree fuel).deep),V0 (↑(Zd l root tree fuel).looked:Int),.slice pf fv.length cf]),(b2,[S0,V0 0])] ⟨⟨_,b8⟩,⟨_,e3⟩,trivial⟩ (.tuple #[.agg #[.slice pe ((Zd l root tree fuel).es.length) ce,.slice pb ((Zd l root tree fuel).bs.length) cb,V0 ((Zd l root tree fuel).deep),V0 (↑(Zd l root tree fuel).looked:Int),.slice pf fv.length cf],.agg #[S0,V0 0]]) ?_
 have hz:=b9.s.none (by omega)
 exact⟨_,pe,pb,pf,ce,cb,cf,fv,none,0,rfl,by rw[(Gm hz).1,(Gm hz).2.1];rfl,c8,by rw[(Gm hz).1];exact b9,by rw[(Gm hz).2.1];exact World.ownsRow_nil _ _ _ _⟩
theorem ref_OfM(a:O0)(c n k:Nat)(l:Bl)(w:World)(hn:l.length=n)(hk:min (n/256) 14400=k)(h:Bys w (.slice a n c) l)(hl:n≤100000000) :
 C0 16 #[.slice a n c] w (Vy (fun w' r=>∃ bm p c2,r=P0 bm∧w.heap.size≤bm∧RefI w.heap.size bm p k c2 (l.take (k*256)) w') w):=by
 subst hn hk;exact ref_Of a c l w h hl
def Ku:List Pt:=[(8,0,1099511627775)]
theorem mapP_ok:Gs Ku:=by
 refine⟨by decide,fun i hi=>?_⟩
 have a0:i<1:=hi
 obtain rfl:i=0:=by omega
 simp[Ku,List.getD]
def Jg:List Pt:=[(8,0,16384),(8,0,2147483647),(4,0,16777215),(4,0,16777215)]
theorem Zb2:Gs Jg:=by
 refine⟨by decide,fun i hi=>?_⟩
 have a0:i<4:=hi
 obtain rfl|rfl|rfl|rfl:i=0∨i=1∨i=2∨i=3:=by omega
 all_goals simp[Jg,List.getD]
def Zbx(v:Bl):Nat:=(Qi Ku v).getD 0 0
def Pl(v:Bl):Nat:=Zbx v/16777216
def Mx(v:Bl):Nat:=Zbx v%16777216
theorem mapN_bd(v:Bl):Zbx v≤1099511627775:=by
 unfold Zbx Qi
 by_cases h:Xn Ku v=0
 ·rw[if_pos h]
  unfold Xn at h
  split at h
  ·split at h
   ·rename_i h1 h2
    unfold Uk Pw at h2
    rw[List.all_eq_true] at h2
    have h3:=of_decide_eq_true (h2 0 (List.mem_range.2 (by decide)))
    rw[show((Pu Ku v).map fun n:Nat=>(n:Int)).getD 0 0=(((Pu Ku v).getD 0 0:Nat):Int) by simp[List.getD,show 0<(Pu Ku v).length by rw[Fo];decide]] at h3
    have h4:(((Pu Ku v).getD 0 0:Nat):Int)≤1099511627775:=h3.2
    omega
   ·simp at h
  ·simp at h
 ·rw[if_neg h];decide
def Zbk(data:Int)(v:Bl):Int:=if Xn Ku v≠0 then Xn Ku v else if data≤(Pl v:Int) then 2 else 0
abbrev Mp:=Int×Int×Int
def Zdn(x:Ent):Mp:=(x.1,(Pl x.2.1:Int),(Mx x.2.1:Int))
def Wr(m:Mp):List Value:=[V0 m.1,V0 m.2.1,V0 m.2.2]
theorem Pp(m:Mp):(Wr m).length=3:=rfl
def Zcc(data:Int)(es:List Ent)(i:Nat):Prop:=∀ j,j<i→Zbk data (es.getD j Zn).2.1=0
theorem Pk{data:Int}{es:List Ent}{i:Nat}(h:Zcc data es i)(h2:Zbk data (es.getD i Zn).2.1=0):Zcc data es (i+1):=fun j hj=>by
 by_cases e:j=i
 ·subst e;exact h2
 ·exact h j (by omega)
def Ol(es:List Ent)(data:Int):List Int×Int×List Mp :=
 match (List.range es.length).find? (fun i=>Zbk data (es.getD i Zn).2.1 != 0) with
 | some i=>([(es.getD i Zn).2.2],Zbk data (es.getD i Zn).2.1,[])
 | none=>([],0,es.map Zdn)
theorem Wl{es:List Ent}{data:Int}{i:Nat}(hi:i<es.length)(h:Zcc data es i)(hb:Zbk data (es.getD i Zn).2.1≠0):Ol es data=([(es.getD i Zn).2.2],Zbk data (es.getD i Zn).2.1,[]):=by
 unfold Ol
 rw[show(List.range es.length).find? (fun i=>Zbk data (es.getD i Zn).2.1 != 0)=some i from by
  rw[List.find?_range_eq_some]
  exact⟨by simpa using hb,List.mem_range.2 hi,fun m hm=>by simpa using h m hm⟩]
theorem Df{es:List Ent}{data:Int}(h:Zcc data es es.length):Ol es data=([],0,es.map Zdn):=by
 unfold Ol
 rw[show(List.range es.length).find? (fun i=>Zbk data (es.getD i Zn).2.1 != 0)=none from by
  rw[List.find?_eq_none]
  intro i hi
  have:=h i (List.mem_range.1 hi)
  simpa using this]
def Zag(l:Bl)(root data fuel:Int):List Int×Int×List Mp :=
 if(Zd l root 2 fuel).fs≠[] then((Xr (Zd l root 2 fuel)).1,(Xr (Zd l root 2 fuel)).2,[])
 else Ol (Zd l root 2 fuel).es data
theorem Eh{l:Bl}{root data fuel:Int}(h:(Zd l root 2 fuel).fs≠[]):Zag l root data fuel=((Xr (Zd l root 2 fuel)).1,(Xr (Zd l root 2 fuel)).2,[]):=if_pos h
theorem Hh{l:Bl}{root data fuel:Int}(h:(Zd l root 2 fuel).fs=[]):Zag l root data fuel=Ol (Zd l root 2 fuel).es data:=if_neg (fun q=>q h)
def Yn(v:Bl)(i:Nat):Nat:=(Qi Jg v).getD i 0
abbrev Dv:=(Int×Int×Int×Int)×List Mp
def Qa(l:Bl)(y:Ent)(data fuel:Int):List Int×Int×List Mp:=Zag l (Qf y.2.1:Int) data fuel
def Dg(l:Bl)(x y:Ent)(data fuel:Int)(sum:Nat):List Int×Int :=
 if 16777215<x.1 then([x.2.2],9)
 else if Xn Jg x.2.1≠0 then([x.2.2],Xn Jg x.2.1)
 else if Xy y.2.1≠0 then([y.2.2],Xy y.2.1)
 else if(Qa l y data fuel).2.1≠0 then(y.2.2::(Qa l y data fuel).1,(Qa l y data fuel).2.1)
 else if(Qa l y data fuel).2.2.length≠Yn x.2.1 0 then([x.2.2],13)
 else if 16384<sum+(Qa l y data fuel).2.2.length then([y.2.2],2)
 else([],0)
def Zdi(l:Bl)(x y:Ent)(data fuel:Int):Dv:=((x.1,(Yn x.2.1 1:Int),(Yn x.2.1 2:Int),(Yn x.2.1 3:Int)),(Qa l y data fuel).2.2)
def Oh(l:Bl)(T:List Ent)(data fuel:Int):Nat→Nat
 | 0=>0
 | i+1=>Oh l T data fuel i+(Qa l (T.getD i Zn) data fuel).2.2.length
def Dl(l:Bl)(D T:List Ent)(data fuel:Int)(i:Nat):List Int×Int:=Dg l (D.getD i Zn) (T.getD i Zn) data fuel (Oh l T data fuel i)
def devL(l:Bl)(D T:List Ent)(data fuel:Int)(i:Nat):List Dv:=(List.range i).map fun k=>Zdi l (D.getD k Zn) (T.getD k Zn) data fuel
theorem Mg(l:Bl)(D T:List Ent)(data fuel:Int)(i:Nat):devL l D T data fuel (i+1)=devL l D T data fuel i++[Zdi l (D.getD i Zn) (T.getD i Zn) data fuel]:=by simp[devL,List.range_succ]
def devK(l:Bl)(D T:List Ent)(data fuel:Int)(i:Nat):Prop:=∀ j,j<i→(Dl l D T data fuel j).2=0
theorem Mf{l:Bl}{D T:List Ent}{data fuel:Int}{i:Nat}(h:devK l D T data fuel i)(h2:(Dl l D T data fuel i).2=0):devK l D T data fuel (i+1):=fun j hj=>by
 by_cases e:j=i
 ·subst e;exact h2
 ·exact h j (by omega)
def Zc1(l:Bl)(D T:List Ent)(data fuel:Int):List Int×Int×List Dv :=
 match (List.range D.length).find? (fun i=>(Dl l D T data fuel i).2 != 0) with
 | some i=>((Dl l D T data fuel i).1,(Dl l D T data fuel i).2,[])
 | none=>([],0,devL l D T data fuel D.length)
theorem Qc{l:Bl}{D T:List Ent}{data fuel:Int}{i:Nat}(hi:i<D.length)(h:devK l D T data fuel i)(hb:(Dl l D T data fuel i).2≠0):Zc1 l D T data fuel=((Dl l D T data fuel i).1,(Dl l D T data fuel i).2,[]):=by
 unfold Zc1
 rw[show(List.range D.length).find? (fun i=>(Dl l D T data fuel i).2 != 0)=some i from by
  rw[List.find?_range_eq_some]
  exact⟨by simpa using hb,List.mem_range.2 hi,fun m hm=>by simpa using h m hm⟩]
theorem Mi{l:Bl}{D T:List Ent}{data fuel:Int}(h:devK l D T data fuel D.length):Zc1 l D T data fuel=([],0,devL l D T data fuel D.length):=by
 unfold Zc1
 rw[show(List.range D.length).find? (fun i=>(Dl l D T data fuel i).2 != 0)=none from by
  rw[List.find?_eq_none]
  intro i hi
  have:=h i (List.mem_range.1 hi)
  simpa using this]
def Qd:List Ent→List Ent→Nat
 | [],[]=>0
 | [],_::_=>1
 | _::_,[]=>2
 | x::a,y::b=>if x.1=y.1 then Qd a b else if x.1<y.1 then 2 else 1
theorem Bb{D T:List Ent}(h:Qd D T=0):D.length=T.length∧∀ i,i<D.length→(D.getD i Zn).1=(T.getD i Zn).1:=by
 induction D generalizing T with
 | nil =>
  cases T with
  | nil=>exact⟨rfl,fun i hi=>absurd hi (by simp)⟩
  | cons y b=>simp[Qd] at h
 | cons x a ih =>
  cases T with
  | nil=>simp[Qd] at h
  | cons y b =>
   by_cases e:x.1=y.1
   ·have h2:Qd a b=0:=by simpa [Qd,e] using h
    obtain⟨h3,h4⟩:=ih h2
    refine⟨by simp[h3],fun i hi=>?_⟩
    cases i with
    | zero=>simpa [List.getD] using e
    | succ i=>simpa [List.getD] using h4 i (by simpa using hi)
   ·by_cases q:x.1<y.1<;>simp[Qd,e,q] at h
def Yk(l:Bl)(top details data fuel:Int):List Int×Int×List Dv :=
 if(Zd l details 3 fuel).fs≠[] then((Xr (Zd l details 3 fuel)).1,(Xr (Zd l details 3 fuel)).2,[])
 else if(Zd l top 1 fuel).fs≠[] then((Xr (Zd l top 1 fuel)).1,(Xr (Zd l top 1 fuel)).2,[])
 else if 4096<(Zd l details 3 fuel).es.length then([details],2,[])
 else if Qd (Zd l details 3 fuel).es (Zd l top 1 fuel).es=1 then([details],18,[])
 else if Qd (Zd l details 3 fuel).es (Zd l top 1 fuel).es=2 then([top],18,[])
 else Zc1 l (Zd l details 3 fuel).es (Zd l top 1 fuel).es data fuel
theorem Nc(w:World) :
 C0 88 #[] w (Vy (fun w' r=>∃ b,r=.slice (S1 b) 1 1∧w.heap.size≤b∧Blk w' b [V0 8,V0 0,V0 1099511627775] 270) w):=by
 refine zin 3 Tryz.func88 ?_
 refine xbs 8 1 [V0 8,V0 0,V0 1099511627775] 270 fun b1 W1 n1=>?_
 exact xe 4 (.slice (S1 b1) 1 1) ⟨_,rfl,n1.below,b1,rfl,(n1.ge (B3 w)),n1.blk⟩
theorem map_shr(s:Bl):Int.fdiv (↑((Qi Ku s).getD 0 0):Int) (2 ^ 24)=(Pl s:Int):=by
 show Int.fdiv ((Zbx s:Nat):Int) ((16777216:Nat):Int)=_
 rw[Int.fdiv_eq_ediv_of_nonneg _ (by omega)]
 unfold Pl;omega
theorem map_and(s:Bl):IntKind.i64.wrap (↑(BitVec.ofInt 64 (↑((Qi Ku s).getD 0 0):Int) &&& BitVec.ofInt 64 (16777215:Int)).toNat:Int)=(Mx s:Int):=by
 show IntKind.i64.wrap (↑(BitVec.ofInt 64 (Zbx s:Int) &&& BitVec.ofInt 64 (16777215:Int)).toNat:Int)=(Mx s:Int)
 have:=mapN_bd s
 rw[show(16777215:Int)=((16777215:Nat):Int) from rfl,BitVec.ofInt_natCast,BitVec.ofInt_natCast,BitVec.toNat_and,BitVec.toNat_ofNat,BitVec.toNat_ofNat,Nat.mod_eq_of_lt (by omega),Nat.mod_eq_of_lt (by omega)]
 rw[show Zbx s &&& 16777215=Zbx s%16777216 from Nat.and_two_pow_sub_one_eq_mod (Zbx s) 24]
 exact Hs (by omega)
theorem Ad(s:Bl)(w:World)(hs:s.length≤1000) :
 C0 201 #[.string ⟨s.toArray⟩] w (Ret (.tuple #[V0 (↑(Pl s):Int),V0 (↑(Mx s):Int),V0 (Xn Ku s)]) w):=by
 refine zin 22 Tryz.func201 ?_
 refine xc 9 (args:=#[]) (Nc _) ?_
 rintro _ W1 ⟨_,rfl,a1,gl,rfl,gg,kl⟩
 refine xc 1 (args:=#[.slice (S1 gl) 1 1,.string ⟨s.toArray⟩]) (Ee Ku s (S1 gl) 1 _ mapP_ok (by decide) (by omega) (kl.sl 1 1 (by decide) (by decide))) ?_
 rintro _ W2 ⟨_,rfl,a2,p5,c5,rfl,h5⟩
 refine xd 8 .z ?_
 have a0:=Zb (Zg h5 a1.size) (Za W2)
 refine xx (.e [0] 1) _ 1 0 1 (Zm (l:=Qi Ku s) (Zh a0) (Vb _ _) (k:=0) (by decide)).1 ?_
 refine xl (.e [] 2) ((Zm (l:=Qi Ku s) (Zh a0) (Vb _ _) (k:=0) (by decide)).2) ?_
 refine xq (.e [] 3) (congrArg V0 (show(Int.fdiv (↑((Qi Ku s).getD 0 0):Int) (2 ^ 24):Int)=(↑(Pl s):Int) from map_shr s)) ?_
 refine xx (.e [4] 5) _ 1 0 1 (Zm (l:=Qi Ku s) (Zh a0) (Vb _ _) (k:=0) (by decide)).1 ?_
 refine xl (.e [] 6) ((Zm (l:=Qi Ku s) (Zh a0) (Vb _ _) (k:=0) (by decide)).2) ?_
 refine xq (.e [] 7) (congrArg V0 (show(IntKind.i64.wrap (↑(BitVec.ofInt 64 (↑((Qi Ku s).getD 0 0):Int) &&& BitVec.ofInt 64 (16777215:Int)).toNat:Int):Int)=(↑(Mx s):Int) from map_and s)) ?_
 have hB:=bln (bln a1 a2) (Za W2)
 exact xe (.r [8,9,10,11] 3) (.tuple #[V0 (↑(Pl s):Int),V0 (↑(Mx s):Int),V0 (Xn Ku s)]) ⟨rfl,hB⟩
theorem Gr(w:World) :
 C0 90 #[] w (Vy (fun w' r=>∃ b,r=.slice (S1 b) 4 4∧w.heap.size≤b∧Blk w' b [V0 8,V0 0,V0 16384,V0 8,V0 0,V0 2147483647,V0 4,V0 0,V0 16777215,V0 4,V0 0,V0 16777215] 270) w):=by
 refine zin 6 Tryz.func90 ?_
 refine xbs 11 4 [V0 8,V0 0,V0 16384,V0 8,V0 0,V0 2147483647,V0 4,V0 0,V0 16777215,V0 4,V0 0,V0 16777215] 270 fun b1 W1 n1=>?_
 exact xe 4 (.slice (S1 b1) 4 4) ⟨_,rfl,n1.below,b1,rfl,(n1.ge (B3 w)),n1.blk⟩
theorem Cu(s:Bl)(w:World)(hs:s.length≤1000) :
 C0 143 #[.string ⟨s.toArray⟩] w (Ret (.tuple #[.agg #[V0 (↑(Yn s 0):Int),V0 (↑(Yn s 1):Int),V0 (↑(Yn s 2):Int),V0 (↑(Yn s 3):Int)],V0 (Xn Jg s)]) w):=by
 refine zin 26 Tryz.func143 ?_
 refine xa 2 [V0 0,V0 0,V0 0,V0 0] 105 fun b1 W1 n1=>?_
 refine xc 5 (args:=#[]) (Gr _) ?_
 rintro _ W2 ⟨_,rfl,a1,gl,rfl,gg,kl⟩
 refine xc 1 (args:=#[.slice (S1 gl) 4 4,.string ⟨s.toArray⟩]) (Ee Jg s (S1 gl) 4 _ Zb2 (by decide) (by omega) (kl.sl 4 4 (by decide) (by decide))) ?_
 rintro _ W3 ⟨_,rfl,a2,p5,c5,rfl,h5⟩
 have a3:=(bln n1.below a1).size
 refine xd 8 (.t w.heap.size [105]) ?_
 have a0:=Zb (Zg h5 a3) (Za W3)
 refine xx (.e [0] 1) _ 4 0 1 (Zm (l:=Qi Jg s) (Zh a0) (Vb _ _) (k:=0) (by decide)).1 ?_
 refine xlt (.e [] 2) (.t w.heap.size [105]) (fun V hV=>(Zm (l:=Qi Jg s) (Zh (Zl a0 hV.2 (by decide))) (Vb _ _) (k:=0) (by decide)).2) ?_
 refine xx (.e [3] 4) _ 4 1 1 (Zm (l:=Qi Jg s) (Zh a0) (Vb _ _) (k:=1) (by decide)).1 ?_
 refine xlt (.e [] 5) (.t w.heap.size [105]) (fun V hV=>(Zm (l:=Qi Jg s) (Zh (Zl a0 hV.2 (by decide))) (Vb _ _) (k:=1) (by decide)).2) ?_
 refine xx (.e [6] 7) _ 4 2 1 (Zm (l:=Qi Jg s) (Zh a0) (Vb _ _) (k:=2) (by decide)).1 ?_
 refine xlt (.e [] 8) (.t w.heap.size [105]) (fun V hV=>(Zm (l:=Qi Jg s) (Zh (Zl a0 hV.2 (by decide))) (Vb _ _) (k:=2) (by decide)).2) ?_
 refine xx (.e [9] 10) _ 4 3 1 (Zm (l:=Qi Jg s) (Zh a0) (Vb _ _) (k:=3) (by decide)).1 ?_
 refine xlt (.e [] 11) (.t w.heap.size [105]) (fun V hV=>(Zm (l:=Qi Jg s) (Zh (Zl a0 hV.2 (by decide))) (Vb _ _) (k:=3) (by decide)).2) ?_
 have k1:=((n1.blk.below a1).below a2).below (Za W3)
 have g1:=n1.ge (B3 w)
 refine ysv (.o [12,13] 14) k1 [V0 (↑((Qi Jg s).getD 0 0):Int),V0 (↑((Qi Jg s).getD 1 0):Int),V0 (↑((Qi Jg s).getD 2 0):Int),V0 (↑((Qi Jg s).getD 3 0):Int)] (.t w.heap.size [105]) fun W4 u4 k4=>⟨(Zo u4 k1 g1 (by decide)),?_⟩
 have hB:=u4.below (bln (bln (bln n1.below a1) a2) (Za W3)) g1
 exact xec (.r [15] 3) k4 (.tuple #[.agg #[V0 (↑((Qi Jg s).getD 0 0):Int),V0 (↑((Qi Jg s).getD 1 0):Int),V0 (↑((Qi Jg s).getD 2 0):Int),V0 (↑((Qi Jg s).getD 3 0):Int)],V0 (Xn Jg s)]) ⟨rfl,hB⟩
theorem Qj(l:Bl)(root tree fuel:Int):∀ i,i<(Zd l root tree fuel).es.length→((Zd l root tree fuel).es.getD i Zn).2.1.length≤1000:=fun i hi=>by
 have hx:(Zd l root tree fuel).es.getD i Zn∈(Zd l root tree fuel).es:=by rw[show(Zd l root tree fuel).es.getD i Zn=(Zd l root tree fuel).es[i] from by simp[List.getD,hi]];exact List.getElem_mem hi
 obtain⟨_,_,k,_,_,h,_⟩:=(Ah l root tree fuel).2.2.1 _ hx
 rw[←h]
 exact Gc _ _ _
theorem Uz(Bi b:Nat)(pi:O0)(ni ci:Nat)(l:Bl)(root tree fuel:Int)(w:World)(hfu:fuel≤1000)(hI:ImgR Bi b pi ni ci l w) :
 C0 83 #[P0 b,V0 root,V0 tree,V0 fuel] w (fun e w' =>
 ((Zd l root tree fuel).fs≠[]∧∃ pe ce pb cb pf cf ty x,e=.returned (.tuple #[.agg #[.slice pe 0 ce,.slice pb 0 cb,V0 0,V0 0,.slice pf 0 cf],.iface ty x])∧B0 w w'∧Vw w' ((Xr (Zd l root tree fuel)).1.map some) (some (Xr (Zd l root tree fuel)).2) (.iface ty x)) ∨
 ((Zd l root tree fuel).fs=[]∧∃ pe ce pb nb cb dp lk pf cf,e=.returned (.tuple #[.agg #[.slice pe (Zd l root tree fuel).es.length ce,.slice pb nb cb,V0 dp,V0 lk,.slice pf 0 cf],.nilIface])∧B0 w w'∧w'.ownsRow w.heap.size 100 3 (.slice pe (Zd l root tree fuel).es.length ce) (Zd l root tree fuel).es.length ((Zd l root tree fuel).es.flatMap Ji))):=by
 refine(Zby Bi b pi ni ci l root tree fuel w hfu hI).mono ?_
 rintro e W ⟨t,pe,pb,pf,ce,cb,cf,fv,v,ht,rfl,hb,hW,hv⟩
 by_cases h:(Zd l root tree fuel).fs=[]
 ·obtain⟨h1,_,h3,h4⟩:=Gm h
  rw[h1] at ht
  rw[h3,h4] at hv
  subst ht
  have a0:v=.nilIface:=hv
  subst a0
  refine .inr ⟨h,pe,ce,pb,(Zd l root tree fuel).bs.length,cb,(Zd l root tree fuel).deep,((Zd l root tree fuel).looked:Int),pf,cf,?_,hb,hW.ents⟩
  unfold walkC
  rw[h];rfl
 ·obtain⟨h1,h2,h3,h4⟩:=Qk h
  rw[h1] at ht
  rw[h3,h4,←h2] at hv
  subst ht
  rcases hv.nil_or with ⟨hz,_⟩|⟨_,ty,x,rfl⟩
  ·simp[Ny] at hz
  ·exact .inl ⟨h,pe,ce,pb,cb,pf,cf,ty,x,rfl,hb,hv⟩
theorem Zav(no er:Int)(bl:List Int)(v:Value)(w:World)(hv:Vw w (bl.map some) (some er) v) :
 C0 65 #[V0 no,v] w (fun e w'=>∃ ty x,e=.returned (.iface ty x)∧B0 w w'∧Vw w' ((no::bl).map some) (some er) (.iface ty x)):=by
 refine(Qx no (some er) (bl.map some) v w hv).mono ?_
 rintro e W ⟨r,rfl,hb,hr⟩
 rw[show atL no (bl.map some) (some er)=(no::bl).map some from by unfold atL Ny;simp] at hr
 have a1:Vw W (some no::bl.map some) (some er) r:=hr
 obtain⟨a0,v',rfl,h1,h2⟩:=a1
 exact⟨_,_,rfl,hb,a0,v',rfl,h1,h2⟩
theorem Kd{l:Bl}{root tree fuel:Int}(h:(Zd l root tree fuel).fs≠[]):(Xr (Zd l root tree fuel)).2≠0:=by
 obtain⟨es,fs,hw⟩:=Pj l root tree fuel
 have h2:(Zd l root tree fuel).fs=fs:=by rw[hw.fsE];rfl
 rw[(Qk h).2.1]
 rw[h2] at h ⊢
 cases fs with
 | nil=>exact absurd rfl h
 | cons f r=>exact(hw.flt f (by simp)).2.2
theorem Hd(no er:Int)(w:World)(he:er≠0) :
 C0 84 #[V0 no,V0 er] w ((fun e w'=>∃ ty x,e=.returned (.iface ty x)∧B0 w w'∧Vw w' (([no]:List Int).map some) (some er) (.iface ty x))):=by
 refine zin 11 Tryz.func84 ?_
 refine xk 12 (show((er==(0:Int)):Bool)=false from beq_false_of_ne he) ?_
 refine xc 7 (args:=#[V0 no,.iface 33 (V0 er)]) (Zav no er [] _ _ rfl) ?_
 rintro _ W1 ⟨a2,v1,rfl,a0,a1⟩
 exact xe 4 (.iface a2 (v1)) ⟨_,_,rfl,a0,a1⟩
def MapP(data:Int)(x:Ent)(w:World)(e:Ending)(w':World):Prop :=
 (Zbk data x.2.1≠0∧∃ ty v,e=.returned (.tuple #[.agg #[V0 0,V0 0,V0 0],.iface ty v])∧B0 w w'∧Vw w' (([x.2.2]:List Int).map some) (some (Zbk data x.2.1)) (.iface ty v)) ∨
 (Zbk data x.2.1=0∧e=.returned (.tuple #[.agg #[V0 x.1,V0 (Pl x.2.1:Int),V0 (Mx x.2.1:Int)],.nilIface])∧B0 w w')
theorem Gd{data:Int}{v:Bl}(h:Xn Ku v≠0):Zbk data v=Xn Ku v:=if_pos h
theorem My{data:Int}{v:Bl}(h:Xn Ku v=0)(h2:data≤(Pl v:Int)):Zbk data v=2:=by unfold Zbk;rw[if_neg (fun q=>q h),if_pos h2]
theorem Fy{data:Int}{v:Bl}(h:Xn Ku v=0)(h2:¬ data≤(Pl v:Int)):Zbk data v=0:=by unfold Zbk;rw[if_neg (fun q=>q h),if_neg h2]
theorem Cf(bx b:Nat)(data fuel sum:Int)(x:Ent)(w:World)(hk:Blk w bx [P0 b,V0 data,V0 fuel,V0 sum] 185)(hs:x.2.1.length≤1000) :
 C0 180 #[P0 bx,.agg #[V0 x.1,.string ⟨x.2.1.toArray⟩,V0 x.2.2]] w (MapP data x w):=by
 refine zin 38 Tryz.func180 ?_
 refine xa 2 [V0 x.1,.string ⟨x.2.1.toArray⟩,V0 x.2.2] 100 fun b1 W1 n1=>?_
 refine xa 0 [V0 0,V0 0,V0 0] 110 fun b2 W2 n2=>?_
 have k1:=n1.blk.below n2.below
 refine xb 6 1 k1 ?_
 refine xr 0 (args:=#[.string ⟨x.2.1.toArray⟩]) (Ad x.2.1 _ hs) fun W3 a0=>?_
 refine xg 15 [17,18] ((Xn Ku x.2.1)==(0:Int)) (fun a5=>?_) (fun a5=>?_)
 ·have a5:=eq_of_beq a5
  have b5:=((hk.below n1.below).below n2.below).below a0
  refine xb 4 1 b5 ?_
  refine xid 4 ((↑(Pl x.2.1):Int)≥data) (fun c9=>?_) (fun c9=>?_)
  ·have b6:=k1.below a0
   refine xb 16 2 b6 ?_
   refine xc 1 (args:=#[V0 x.2.2,V0 2]) (Hd x.2.2 2 _ (by omega)) ?_
   rintro _ W6 ⟨c3,v6,rfl,b8,a6⟩
   have k2:=(n2.blk.below a0).below b8
   refine xsv 0 k2 [V0 0,V0 0,V0 0] fun W7 u7 k7=>?_
   have g2:=n2.ge n1.below
   have hB:=u7.below (bln (bln (bln n1.below n2.below) a0) b8) g2
   have a2:=a6.only (Zf.of_upd (T:=[110]) u7 k2 (by decide)) (by decide)
   refine xec 5 k7 (.tuple #[.agg #[V0 0,V0 0,V0 0],.iface c3 (v6)]) ?_
   first|(have e9:=My (data:=data) (v:=x.2.1) (by omega) (by omega);exact .inl ⟨by rw[e9];decide,_,_,rfl,hB,by rw[e9];exact a2⟩)|(have e9:=Gd (data:=data) (v:=x.2.1) (by omega);exact .inl ⟨by rw[e9];omega,_,_,rfl,hB,by rw[e9];exact a2⟩)
  refine xin 9 (Xn Ku x.2.1) (0:Int) (fun c6=>?_) (fun c6=>?_)
  ·have a7:=k1.below a0
   refine xb 4 2 a7 ?_
   refine xc 1 (args:=#[V0 x.2.2,V0 (Xn Ku x.2.1)]) (Hd x.2.2 (Xn Ku x.2.1) _ (by omega)) ?_
   rintro _ W9 ⟨c8,v9,rfl,b9,a6⟩
   have k2:=(n2.blk.below a0).below b9
   refine xsv 0 k2 [V0 0,V0 0,V0 0] fun d3 c0 c2=>?_
   have g2:=n2.ge n1.below
   have hB:=c0.below (bln (bln (bln n1.below n2.below) a0) b9) g2
   have a3:=a6.only (Zf.of_upd (T:=[110]) c0 k2 (by decide)) (by decide)
   refine xec 5 c2 (.tuple #[.agg #[V0 0,V0 0,V0 0],.iface c8 (v9)]) ?_
   first|(have e9:=My (data:=data) (v:=x.2.1) (by omega) (by omega);exact .inl ⟨by rw[e9];decide,_,_,rfl,hB,by rw[e9];exact a3⟩)|(have e9:=Gd (data:=data) (v:=x.2.1) (by omega);exact .inl ⟨by rw[e9];omega,_,_,rfl,hB,by rw[e9];exact a3⟩)
  have b0:=k1.below a0
  refine xb 5 0 b0 ?_
  have k2:=n2.blk.below a0
  refine xsv 3 k2 [V0 x.1,V0 (↑(Pl x.2.1):Int),V0 (↑(Mx x.2.1):Int)] fun d4 c1 c7=>?_
  have g2:=n2.ge n1.below
  have hB:=c1.below (bln (bln n1.below n2.below) a0) g2
  exact xec 4 c7 (.tuple #[.agg #[V0 x.1,V0 (↑(Pl x.2.1):Int),V0 (↑(Mx x.2.1):Int)],.nilIface]) (.inr ⟨Fy (by omega) (by omega),rfl,hB⟩)
 have a5:=Yd a5
 refine xin 19 (Xn Ku x.2.1) (0:Int) (fun a9=>?_) (fun a9=>?_)
 ·have a8:=k1.below a0
  refine xb 4 2 a8 ?_
  refine xc 1 (args:=#[V0 x.2.2,V0 (Xn Ku x.2.1)]) (Hd x.2.2 (Xn Ku x.2.1) _ (by omega)) ?_
  rintro _ d2 ⟨b4,d1,rfl,a4,a6⟩
  have k2:=(n2.blk.below a0).below a4
  refine xsv 0 k2 [V0 0,V0 0,V0 0] fun d6 b7 c4=>?_
  have g2:=n2.ge n1.below
  have hB:=b7.below (bln (bln (bln n1.below n2.below) a0) a4) g2
  have a1:=a6.only (Zf.of_upd (T:=[110]) b7 k2 (by decide)) (by decide)
  refine xec 5 c4 (.tuple #[.agg #[V0 0,V0 0,V0 0],.iface b4 (d1)]) ?_
  first|(have e9:=My (data:=data) (v:=x.2.1) (by omega) (by omega);exact .inl ⟨by rw[e9];decide,_,_,rfl,hB,by rw[e9];exact a1⟩)|(have e9:=Gd (data:=data) (v:=x.2.1) (by omega);exact .inl ⟨by rw[e9];omega,_,_,rfl,hB,by rw[e9];exact a1⟩)
 have b3:=k1.below a0
 refine xb 5 0 b3 ?_
 have k2:=n2.blk.below a0
 refine xsv 3 k2 [V0 x.1,V0 (↑(Pl x.2.1):Int),V0 (↑(Mx x.2.1):Int)] fun d5 d0 c5=>?_
 have g2:=n2.ge n1.below
 have hB:=d0.below (bln (bln n1.below n2.below) a0) g2
 exact xec 4 c5 (.tuple #[.agg #[V0 x.1,V0 (↑(Pl x.2.1):Int),V0 (↑(Mx x.2.1):Int)],.nilIface]) (.inr ⟨Fy (by omega) (by omega),rfl,hB⟩)
def TellP(O:List Int×Int×List Mp)(w:World)(e:Ending)(w':World):Prop :=
 (O.2.1≠0∧∃ ty v,e=.returned (.tuple #[S0,.iface ty v])∧B0 w w'∧Vw w' (O.1.map some) (some O.2.1) (.iface ty v)) ∨
 (O.2.1=0∧∃ p c,e=.returned (.tuple #[.slice p O.2.2.length c,.nilIface])∧B0 w w'∧w'.ownsRow w.heap.size 110 3 (.slice p O.2.2.length c) O.2.2.length (O.2.2.flatMap Wr))
theorem Dr{O:List Int×Int×List Mp}{bl:List Int}{er:Int}{w W:World}{ty:TypeId}{v:Value}(h:O=(bl,er,[]))(her:er≠0)(hb:B0 w W)(hv:Vw W (bl.map some) (some er) (.iface ty v)):TellP O w (.returned (.tuple #[S0,.iface ty v])) W:=by
 subst h;exact .inl ⟨her,ty,v,rfl,hb,hv⟩
theorem tell_ok{O:List Int×Int×List Mp}{L:List Mp}{n:Nat}{w W:World}{p:O0}{c:Nat}(h:O=([],0,L))(hn:L.length=n)(hb:B0 w W)(ho:W.ownsRow w.heap.size 110 3 (.slice p n c) n (L.flatMap Wr)):TellP O w (.returned (.tuple #[.slice p n c,.nilIface])) W:=by
 subst h hn;exact .inr ⟨rfl,p,c,rfl,hb,ho⟩
theorem Mr{es:List Ent}{i:Nat}(hi:i<es.length):((es.take (i+1)).map Zdn).flatMap Wr=((es.take i).map Zdn).flatMap Wr++Wr (Zdn (es.getD i Zn)):=by
 rw[List.take_succ_eq_append_getElem hi,List.map_append,List.flatMap_append,show es.getD i Zn=es[i] from by simp[List.getD,hi]]
 simp only[List.map_cons,List.map_nil,List.flatMap_cons,List.flatMap_nil,List.append_nil]
theorem load_maps(Bi bx b:Nat)(pi:O0)(ni ci:Nat)(l:Bl)(data fuel sum root:Int)(w:World)(hI:ImgR Bi b pi ni ci l w)(hk:Blk w bx [P0 b,V0 data,V0 fuel,V0 sum] 185)(hfu:fuel≤1000) :
 C0 145 #[P0 bx,V0 root] w (TellP (Zag l root data fuel) w):=by
 have m7:=(Ja l root 2 fuel hfu).1
 refine zin 51 Tryz.func145 ?_
 refine xd 7 (.t w.heap.size [175]) ?_
 have c6:=hk.below (Za w)
 refine xbt (.e [0,1,2] 3) 0 w.heap.size [175] c6 ?_
 refine xbt (.e [4,5,6,7] 8) 2 w.heap.size [175] c6 ?_
 refine xm2 0 9 13 ?_ ?_
 ·have hB:=(Za w)
  refine yc 0 (args:=#[P0 b,V0 root,V0 2,V0 fuel]) (.t w.heap.size [175]) (Uz Bi b pi ni ci l root 2 fuel _ hfu (hI.below hB)) ?_
  rintro e W1 m6
  rcases m6 with ⟨b1,pe,ce,pb,cb,pf,cf,i3,vw,rfl,e4,d8⟩|⟨b1,pe,ce,pb,nb,cb,dp,lk,pf,cf,rfl,e4,a7⟩
  ·refine⟨(SF.of_below _ e4),?_⟩
   refine xa (.o [10,11,12] 13) [S0,S0,V0 0,V0 0,S0] 175 fun b2 W2 n2=>?_
   have h2:=bln hB e4
   have g2:=n2.ge h2
   refine ysv (.o [] 14) n2.blk [.slice pe 0 ce,.slice pb 0 cb,V0 0,V0 0,.slice pf 0 cf] (.t w.heap.size [175]) fun W3 u3 k3=>⟨(Zo u3 n2.blk g2 (by decide)),?_⟩
   have g0:=(d8.below n2.below).only (Zf.of_upd (T:=[175]) u3 n2.blk (by decide)) (by decide)
   have i4:=u3.below (bln h2 n2.below) g2
   exact xe (.r [15] 19) (.tuple #[S0,.iface i3 (vw)]) (Dr (Eh b1) (Kd b1) i4 g0)
  have l1:=(Za w).size
  refine⟨(SF.of_below _ e4),?_⟩
  refine xa (.o [10,11,12] 13) [S0,S0,V0 0,V0 0,S0] 175 fun b4 W4 n4=>?_
  have f5:=bln hB e4
  have g4:=n4.ge f5
  refine ysv (.o [] 14) n4.blk [.slice pe ((Zd l root 2 fuel).es.length) ce,.slice pb nb cb,V0 dp,V0 lk,.slice pf 0 cf] (.t w.heap.size [175]) fun W5 u5 k5=>⟨(Zo u5 n4.blk g4 (by decide)),?_⟩
  refine xb (.r [15] 21) 0 k5 ?_
  have g7:=u5.own2 (Zb (Zg a7 l1) n4.below) n4.blk (by decide)
  have k1:=u5.below (bln f5 n4.below) g4
  have j9:=u5.blkT ((c6.below e4).below n4.below) n4.blk (by decide)
  refine zl 5 51 (fun zm j3 V=>∃ (i:Nat) (p:O0) (c:Nat),j3=[(0,P0 bx),(8,.slice p i c),(30,.slice pe ((Zd l root 2 fuel).es.length) ce),(31,V0 (↑((Zd l root 2 fuel).es.length):Int)),(32,V0 (i:Int))]∧zm=(Zd l root 2 fuel).es.length-((i:Int)).toNat∧B0 w V∧Blk V bx ([P0 b,V0 data,V0 fuel,V0 sum]) 185∧Blk V b4 ([.slice pe ((Zd l root 2 fuel).es.length) ce,.slice pb nb cb,V0 dp,V0 lk,.slice pf 0 cf]) 175∧V.ownsRow w.heap.size 100 3 (.slice pe (Zd l root 2 fuel).es.length ce) (Zd l root 2 fuel).es.length ((Zd l root 2 fuel).es.flatMap Ji)∧V.ownsRow w.heap.size 110 3 (.slice p i c) i ((((Zd l root 2 fuel).es.take i).map Zdn).flatMap Wr)∧i≤(Zd l root 2 fuel).es.length∧Zcc data (Zd l root 2 fuel).es i) ⟨0,none,0,rfl,rfl,k1,j9,k5,g7,World.ownsRow_nil _ _ _ _,Nat.zero_le _,fun j hj=>absurd hj (by omega)⟩ ?_
  rintro _ _ W6 ⟨i,p,c,rfl,rfl,c5,h1,g3,a7,ho,hi,d6⟩ J6 l9 r6
  refine xid 6 ((i:Int)<(↑((Zd l root 2 fuel).es.length):Int)) (fun l6=>?_) (fun l6=>?_)
  ·refine xx 6 _ ((Zd l root 2 fuel).es.length) i 3 (Sts.cell (f:=Ji) (Zh a7) Xo Zn (k:=i) (i:=0) (by omega) rfl).1 ?_
   refine xlv 0 (Sts.rp (k:=i) (Zh a7) Xo Zn (by omega) (by decide)) ?_
   refine xa 0 [V0 0,.string ⟨#[]⟩,V0 0] 100 fun b8 W8 n8=>?_
   have g8:=n8.ge c5
   have d2:=Zw a7 n8
   refine xsv 0 n8.blk [V0 (((Zd l root 2 fuel).es.getD i Zn).1),.string ⟨(((Zd l root 2 fuel).es.getD i Zn).2.1).toArray⟩,V0 (((Zd l root 2 fuel).es.getD i Zn).2.2)] fun W9 u9 k9=>?_
   refine xlv 5 k9.rp ?_
   have a5:=u9.blkT (h1.below n8.below) n8.blk (by decide)
   refine xc 0 (args:=#[P0 bx,.agg #[V0 (((Zd l root 2 fuel).es.getD i Zn).1),.string ⟨(((Zd l root 2 fuel).es.getD i Zn).2.1).toArray⟩,V0 (((Zd l root 2 fuel).es.getD i Zn).2.2)]]) (Cf bx b data fuel sum ((Zd l root 2 fuel).es.getD i Zn) _ a5 (Qj _ _ _ _ i (by omega))) ?_
   rintro e n3 h9
   rcases h9 with ⟨c4,j1,vm,rfl,a1,d8⟩|⟨c4,rfl,a1⟩
   ·refine xa 3 [V0 0,V0 0,V0 0] 110 fun o6 q5 e3=>?_
    have h0:=bln (u9.below (bln c5 n8.below) g8) a1
    have m5:=e3.ge h0
    have j4:=Zb (u9.own2 (Zb ho n8.below) n8.blk (by decide)) a1
    have i5:=Zw j4 e3
    refine xsv 0 e3.blk [V0 0,V0 0,V0 0] fun o0 k8 n0=>?_
    have f7:=(d8.below e3.below).only (Zf.of_upd (T:=[110]) k8 e3.blk (by decide)) (by decide)
    have j5:=k8.below (bln h0 e3.below) m5
    exact xe 25 (.tuple #[S0,.iface j1 (vm)]) (Dr ((Hh b1).trans (Wl (by omega) d6 c4)) c4 j5 f7)
   refine xa 3 [V0 0,V0 0,V0 0] 110 fun q3 q1 a9=>?_
   have e9:=bln (u9.below (bln c5 n8.below) g8) a1
   have m4:=a9.ge e9
   have e8:=Zb (u9.own2 (Zb ho n8.below) n8.blk (by decide)) a1
   have d5:=Zw e8 a9
   refine xsv 0 a9.blk [V0 (((Zd l root 2 fuel).es.getD i Zn).1),V0 (↑(Pl ((Zd l root 2 fuel).es.getD i Zn).2.1):Int),V0 (↑(Mx ((Zd l root 2 fuel).es.getD i Zn).2.1):Int)] fun n7 f4 l0=>?_
   refine xlv 15 l0.rp ?_
   refine xbs 0 1 [V0 (((Zd l root 2 fuel).es.getD i Zn).1),V0 (↑(Pl ((Zd l root 2 fuel).es.getD i Zn).2.1):Int),V0 (↑(Mx ((Zd l root 2 fuel).es.getD i Zn).2.1):Int)] 110 fun q4 p8 c3=>?_
   have h8:=c3.ne l0
   have e7:=f4.below (bln e9 a9.below) m4
   have p0:=c3.ge e7
   have f2:=f4.own3 (Zb e8 a9.below) d5
   have k0:=Zw f2 c3
   have c1:=Zb f2 c3.below
   have f3:=bln e7 c3.below
   refine xbi 0 fun _ _ _ _ zJ zQ zo zx zy zK=>Zu (m:=1) (news:=[V0 (((Zd l root 2 fuel).es.getD i Zn).1),V0 (↑(Pl ((Zd l root 2 fuel).es.getD i Zn).2.1):Int),V0 (↑(Mx ((Zd l root 2 fuel).es.getD i Zn).2.1):Int)]) (.agg #[V0 0,V0 0,V0 0]) 3 24 (i+1) (((((Zd l root 2 fuel).es.take (i+1)).map Zdn).flatMap Wr)) zo Tryz.underlying106 (by kernel_rfl) rfl (by decide) zx c1 zy (c3.blk.sl 1 1 (by decide) (by decide)) rfl (by simp[Value.oneCell']) (by unfold maxLen;omega) (by omega) f3.size (rfl) (by rw[Mr (by omega)];rfl) fun l5 m3 o7 l7 d4 i0=>?_
   refine zK _ _ ?_
   refine xwm 5 ((i:Int)+1) (↑(i+1):Int) ?_
   have f8:=f3.trans i0
   have b7:=((f4.blkT ((a5.below a1).below a9.below) a9.blk (by decide)).below c3.below).grown d4 c1 (by decide)
   have c0:=((f4.blkT (((u9.blkT (g3.below n8.below) n8.blk (by decide)).below a1).below a9.below) a9.blk (by decide)).below c3.below).grown d4 c1 (by decide)
   have f0:=Zj (Zb (f4.own2 (Zb (Zb (u9.own3 (Zb a7 n8.below) d2) a1) a9.below) a9.blk (by decide)) c3.below) d4 c1 (by decide)
   exact ze 2 (l9 _ _ _ ⟨i+1,_,_,rfl,rfl,f8,b7,c0,f0,l7,by omega,Pk d6 c4⟩ (by omega))
  refine xe 13 (.tuple #[.slice p i c,.nilIface]) ?_
  obtain rfl:i=(Zd l root 2 fuel).es.length:=by omega
  rw[List.take_of_length_le (Nat.le_refl _)] at ho
  exact tell_ok ((Hh b1).trans (Df d6)) (List.length_map _) c5 ho
 refine xa 0 [S0,S0,V0 0,V0 0,S0] 175 fun m2 p5 d9=>?_
 have hB:=bln (Za w) d9.below
 refine yc (.o [] 9) (args:=#[P0 b,V0 root,V0 2,V0 fuel]) (.t w.heap.size [175]) (Uz Bi b pi ni ci l root 2 fuel _ hfu (hI.below hB)) ?_
 rintro e p2 i1
 rcases i1 with ⟨b1,pe,ce,pb,cb,pf,cf,i3,vw,rfl,a2,d8⟩|⟨b1,pe,ce,pb,nb,cb,dp,lk,pf,cf,rfl,a2,a7⟩
 ·refine⟨(SF.of_below _ a2),?_⟩
  have c7:=d9.blk.below a2
  have g9:=d9.ge (Za w)
  refine ysv (.o [10,11,12] 14) c7 [.slice pe 0 ce,.slice pb 0 cb,V0 0,V0 0,.slice pf 0 cf] (.t w.heap.size [175]) fun o8 j0 p3=>⟨(Zo j0 c7 g9 (by decide)),?_⟩
  have e6:=d8.only (Zf.of_upd (T:=[175]) j0 c7 (by decide)) (by decide)
  have h3:=j0.below (bln hB a2) g9
  exact xe (.r [15] 19) (.tuple #[S0,.iface i3 (vw)]) (Dr (Eh b1) (Kd b1) h3 e6)
 have i8:=(bln (Za w) d9.below).size
 refine⟨(SF.of_below _ a2),?_⟩
 have c7:=d9.blk.below a2
 have g9:=d9.ge (Za w)
 refine ysv (.o [10,11,12] 14) c7 [.slice pe ((Zd l root 2 fuel).es.length) ce,.slice pb nb cb,V0 dp,V0 lk,.slice pf 0 cf] (.t w.heap.size [175]) fun p6 h6 k6=>⟨(Zo h6 c7 g9 (by decide)),?_⟩
 refine xb (.r [15] 21) 0 k6 ?_
 have e5:=h6.own2 (Zg a7 i8) c7 (by decide)
 have f9:=h6.below (bln hB a2) g9
 have i9:=h6.blkT ((c6.below d9.below).below a2) c7 (by decide)
 refine zl 5 51 (fun zm j3 V=>∃ (i:Nat) (p:O0) (c:Nat),j3=[(0,P0 bx),(8,.slice p i c),(30,.slice pe ((Zd l root 2 fuel).es.length) ce),(31,V0 (↑((Zd l root 2 fuel).es.length):Int)),(32,V0 (i:Int))]∧zm=(Zd l root 2 fuel).es.length-((i:Int)).toNat∧B0 w V∧Blk V bx ([P0 b,V0 data,V0 fuel,V0 sum]) 185∧Blk V m2 ([.slice pe ((Zd l root 2 fuel).es.length) ce,.slice pb nb cb,V0 dp,V0 lk,.slice pf 0 cf]) 175∧V.ownsRow w.heap.size 100 3 (.slice pe (Zd l root 2 fuel).es.length ce) (Zd l root 2 fuel).es.length ((Zd l root 2 fuel).es.flatMap Ji)∧V.ownsRow w.heap.size 110 3 (.slice p i c) i ((((Zd l root 2 fuel).es.take i).map Zdn).flatMap Wr)∧i≤(Zd l root 2 fuel).es.length∧Zcc data (Zd l root 2 fuel).es i) ⟨0,none,0,rfl,rfl,f9,i9,k6,e5,World.ownsRow_nil _ _ _ _,Nat.zero_le _,fun j hj=>absurd hj (by omega)⟩ ?_
 rintro _ _ q2 ⟨i,p,c,rfl,rfl,a6,d3,c2,a7,ho,hi,d6⟩ p7 j6 p4
 refine xid 6 ((i:Int)<(↑((Zd l root 2 fuel).es.length):Int)) (fun i7=>?_) (fun i7=>?_)
 ·refine xx 6 _ ((Zd l root 2 fuel).es.length) i 3 (Sts.cell (f:=Ji) (Zh a7) Xo Zn (k:=i) (i:=0) (by omega) rfl).1 ?_
  refine xlv 0 (Sts.rp (k:=i) (Zh a7) Xo Zn (by omega) (by decide)) ?_
  refine xa 0 [V0 0,.string ⟨#[]⟩,V0 0] 100 fun p1 o5 a4=>?_
  have k2:=a4.ge a6
  have b6:=Zw a7 a4
  refine xsv 0 a4.blk [V0 (((Zd l root 2 fuel).es.getD i Zn).1),.string ⟨(((Zd l root 2 fuel).es.getD i Zn).2.1).toArray⟩,V0 (((Zd l root 2 fuel).es.getD i Zn).2.2)] fun o4 d7 l8=>?_
  refine xlv 5 l8.rp ?_
  have a0:=d7.blkT (d3.below a4.below) a4.blk (by decide)
  refine xc 0 (args:=#[P0 bx,.agg #[V0 (((Zd l root 2 fuel).es.getD i Zn).1),.string ⟨(((Zd l root 2 fuel).es.getD i Zn).2.1).toArray⟩,V0 (((Zd l root 2 fuel).es.getD i Zn).2.2)]]) (Cf bx b data fuel sum ((Zd l root 2 fuel).es.getD i Zn) _ a0 (Qj _ _ _ _ i (by omega))) ?_
  rintro e n6 j2
  rcases j2 with ⟨c4,j1,vm,rfl,a3,d8⟩|⟨c4,rfl,a3⟩
  ·refine xa 3 [V0 0,V0 0,V0 0] 110 fun n5 q0 e2=>?_
   have d1:=bln (d7.below (bln a6 a4.below) k2) a3
   have l4:=e2.ge d1
   have j8:=Zb (d7.own2 (Zb ho a4.below) a4.blk (by decide)) a3
   have i6:=Zw j8 e2
   refine xsv 0 e2.blk [V0 0,V0 0,V0 0] fun o2 k4 n9=>?_
   have g5:=(d8.below e2.below).only (Zf.of_upd (T:=[110]) k4 e2.blk (by decide)) (by decide)
   have g1:=k4.below (bln d1 e2.below) l4
   exact xe 25 (.tuple #[S0,.iface j1 (vm)]) (Dr ((Hh b1).trans (Wl (by omega) d6 c4)) c4 g1 g5)
  refine xa 3 [V0 0,V0 0,V0 0] 110 fun o1 m8 b0=>?_
  have c8:=bln (d7.below (bln a6 a4.below) k2) a3
  have m1:=b0.ge c8
  have g6:=Zb (d7.own2 (Zb ho a4.below) a4.blk (by decide)) a3
  have e1:=Zw g6 b0
  refine xsv 0 b0.blk [V0 (((Zd l root 2 fuel).es.getD i Zn).1),V0 (↑(Pl ((Zd l root 2 fuel).es.getD i Zn).2.1):Int),V0 (↑(Mx ((Zd l root 2 fuel).es.getD i Zn).2.1):Int)] fun p9 h4 k7=>?_
  refine xlv 15 k7.rp ?_
  refine xbs 0 1 [V0 (((Zd l root 2 fuel).es.getD i Zn).1),V0 (↑(Pl ((Zd l root 2 fuel).es.getD i Zn).2.1):Int),V0 (↑(Mx ((Zd l root 2 fuel).es.getD i Zn).2.1):Int)] 110 fun n1 o3 b9=>?_
  have h7:=b9.ne k7
  have c9:=h4.below (bln c8 b0.below) m1
  have m9:=b9.ge c9
  have h5:=h4.own3 (Zb g6 b0.below) e1
  have i2:=Zw h5 b9
  have b5:=Zb h5 b9.below
  have d0:=bln c9 b9.below
  refine xbi 0 fun _ _ _ _ zJ zQ zo zx zy zK=>Zu (m:=1) (news:=[V0 (((Zd l root 2 fuel).es.getD i Zn).1),V0 (↑(Pl ((Zd l root 2 fuel).es.getD i Zn).2.1):Int),V0 (↑(Mx ((Zd l root 2 fuel).es.getD i Zn).2.1):Int)]) (.agg #[V0 0,V0 0,V0 0]) 3 24 (i+1) (((((Zd l root 2 fuel).es.take (i+1)).map Zdn).flatMap Wr)) zo Tryz.underlying106 (by kernel_rfl) rfl (by decide) zx b5 zy (b9.blk.sl 1 1 (by decide) (by decide)) rfl (by simp[Value.oneCell']) (by unfold maxLen;omega) (by omega) d0.size (rfl) (by rw[Mr (by omega)];rfl) fun l3 l2 o9 m0 e0 j7=>?_
  refine zK _ _ ?_
  refine xwm 5 ((i:Int)+1) (↑(i+1):Int) ?_
  have f6:=d0.trans j7
  have b3:=((h4.blkT ((a0.below a3).below b0.below) b0.blk (by decide)).below b9.below).grown e0 b5 (by decide)
  have a8:=((h4.blkT (((d7.blkT (c2.below a4.below) a4.blk (by decide)).below a3).below b0.below) b0.blk (by decide)).below b9.below).grown e0 b5 (by decide)
  have f1:=Zj (Zb (h4.own2 (Zb (Zb (d7.own3 (Zb a7 a4.below) b6) a3) b0.below) b0.blk (by decide)) b9.below) e0 b5 (by decide)
  exact ze 2 (j6 _ _ _ ⟨i+1,_,_,rfl,rfl,f6,b3,a8,f1,m0,by omega,Pk d6 c4⟩ (by omega))
 refine xe 13 (.tuple #[.slice p i c,.nilIface]) ?_
 obtain rfl:i=(Zd l root 2 fuel).es.length:=by omega
 rw[List.take_of_length_le (Nat.le_refl _)] at ho
 exact tell_ok ((Hh b1).trans (Df d6)) (List.length_map _) a6 ho
theorem Zgo(Bi bx b:Nat)(pi:O0)(ni ci:Nat)(l:Bl)(data fuel sum:Int)(y:Ent)(w:World)(hI:ImgR Bi b pi ni ci l w)(hk:Blk w bx [P0 b,V0 data,V0 fuel,V0 sum] 185)(hfu:fuel≤1000):C0 145 #[P0 bx,V0 (↑(Qf y.2.1):Int)] w (TellP (Qa l y data fuel) w):=load_maps Bi bx b pi ni ci l data fuel sum (↑(Qf y.2.1):Int) w hI hk hfu
theorem Zc7(l:Bl)(y:Ent)(data fuel:Int)(hf:fuel≤1000):(Qa l y data fuel).2.2.length≤1000000:=by
 have h:=(Ja l (Qf y.2.1:Int) 2 fuel hf).1
 unfold Qa Zag Ol
 split
 ·exact Nat.zero_le _
 ·split
  ·exact Nat.zero_le _
  ·rw[List.length_map];exact h
theorem dev_1{l:Bl}{x y:Ent}{data fuel:Int}{sum:Nat}(h:16777215<x.1):Dg l x y data fuel sum=([x.2.2],9):=if_pos h
theorem dev_2{l:Bl}{x y:Ent}{data fuel:Int}{sum:Nat}(h:¬ 16777215<x.1)(h2:Xn Jg x.2.1≠0):Dg l x y data fuel sum=([x.2.2],Xn Jg x.2.1):=by unfold Dg;rw[if_neg h,if_pos h2]
theorem dev_3{l:Bl}{x y:Ent}{data fuel:Int}{sum:Nat}(h:¬ 16777215<x.1)(h2:Xn Jg x.2.1=0)(h3:Xy y.2.1≠0):Dg l x y data fuel sum=([y.2.2],Xy y.2.1):=by unfold Dg;rw[if_neg h,if_neg (fun q=>q h2),if_pos h3]
theorem dev_4{l:Bl}{x y:Ent}{data fuel:Int}{sum:Nat}(h:¬ 16777215<x.1)(h2:Xn Jg x.2.1=0)(h3:Xy y.2.1=0)(h4:(Qa l y data fuel).2.1≠0):Dg l x y data fuel sum=(y.2.2::(Qa l y data fuel).1,(Qa l y data fuel).2.1):=by unfold Dg;rw[if_neg h,if_neg (fun q=>q h2),if_neg (fun q=>q h3),if_pos h4]
theorem dev_5{l:Bl}{x y:Ent}{data fuel:Int}{sum:Nat}(h:¬ 16777215<x.1)(h2:Xn Jg x.2.1=0)(h3:Xy y.2.1=0)(h4:(Qa l y data fuel).2.1=0)(h5:(Qa l y data fuel).2.2.length≠Yn x.2.1 0):Dg l x y data fuel sum=([x.2.2],13):=by unfold Dg;rw[if_neg h,if_neg (fun q=>q h2),if_neg (fun q=>q h3),if_neg (fun q=>q h4),if_pos h5]
theorem dev_6{l:Bl}{x y:Ent}{data fuel:Int}{sum:Nat}(h:¬ 16777215<x.1)(h2:Xn Jg x.2.1=0)(h3:Xy y.2.1=0)(h4:(Qa l y data fuel).2.1=0)(h5:(Qa l y data fuel).2.2.length=Yn x.2.1 0)(h6:16384<sum+(Qa l y data fuel).2.2.length):Dg l x y data fuel sum=([y.2.2],2):=by unfold Dg;rw[if_neg h,if_neg (fun q=>q h2),if_neg (fun q=>q h3),if_neg (fun q=>q h4),if_neg (fun q=>q h5),if_pos h6]
theorem dev_7{l:Bl}{x y:Ent}{data fuel:Int}{sum:Nat}(h:¬ 16777215<x.1)(h2:Xn Jg x.2.1=0)(h3:Xy y.2.1=0)(h4:(Qa l y data fuel).2.1=0)(h5:(Qa l y data fuel).2.2.length=Yn x.2.1 0)(h6:¬ 16384<sum+(Qa l y data fuel).2.2.length):Dg l x y data fuel sum=([],0):=by unfold Dg;rw[if_neg h,if_neg (fun q=>q h2),if_neg (fun q=>q h3),if_neg (fun q=>q h4),if_neg (fun q=>q h5),if_neg h6]
def DevP(B bx b:Nat)(l:Bl)(x y:Ent)(data fuel:Int)(sum:Nat)(w:World)(e:Ending)(w':World):Prop :=
 ((Dg l x y data fuel sum).2≠0∧∃ ty v,e=.returned (.tuple #[.agg #[V0 0,V0 0,V0 0,V0 0,S0],.iface ty v])∧Below B w w'∧Zf [185] w w'∧Fr [bx] w w'∧Vw w' ((Dg l x y data fuel sum).1.map some) (some (Dg l x y data fuel sum).2) (.iface ty v)) ∨
 ((Dg l x y data fuel sum).2=0∧∃ p c,e=.returned (.tuple #[.agg #[V0 x.1,V0 (Yn x.2.1 1:Int),V0 (Yn x.2.1 2:Int),V0 (Yn x.2.1 3:Int),.slice p (Qa l y data fuel).2.2.length c],.nilIface])∧Below B w w'∧Zf [185] w w'∧Fr [bx] w w'∧Blk w' bx [P0 b,V0 data,V0 fuel,V0 ((sum+(Qa l y data fuel).2.2.length:Nat):Int)] 185∧w'.ownsRow w.heap.size 110 3 (.slice p (Qa l y data fuel).2.2.length c) (Qa l y data fuel).2.2.length ((Qa l y data fuel).2.2.flatMap Wr))
theorem Pf{B bx b:Nat}{l:Bl}{x y:Ent}{data fuel:Int}{sum:Nat}{w W:World}{ty:TypeId}{v:Value}{bl:List Int}{er:Int}(h:Dg l x y data fuel sum=(bl,er))(her:er≠0)(hb:Below B w W)(hO:Zf [185] w W)(hX:Fr [bx] w W)(hv:Vw W (bl.map some) (some er) (.iface ty v)):DevP B bx b l x y data fuel sum w (.returned (.tuple #[.agg #[V0 0,V0 0,V0 0,V0 0,S0],.iface ty v])) W:=by
 unfold DevP;rw[h];exact .inl ⟨her,ty,v,rfl,hb,hO,hX,hv⟩
theorem Rd(B Bi bx b:Nat)(pi:O0)(ni ci:Nat)(l:Bl)(data fuel:Int)(sum:Nat)(x y:Ent)(w:World)(hI:ImgR Bi b pi ni ci l w)(hk:Blk w bx [P0 b,V0 data,V0 fuel,V0 (sum:Int)] 185)(hfu:fuel≤1000)(hx:x.2.1.length≤1000)(hy:y.2.1.length≤1000)(hsm:sum≤16384)(hB0:B≤bx)(hBw:B≤w.heap.size) :
 C0 86 #[P0 bx,.agg #[V0 x.1,.string ⟨x.2.1.toArray⟩,V0 x.2.2],.agg #[V0 y.1,.string ⟨y.2.1.toArray⟩,V0 y.2.2]] w (DevP B bx b l x y data fuel sum w):=by
 have h3:=Zc7 l y data fuel hfu
 refine zin 96 Tryz.func86 ?_
 refine xa 2 [V0 x.1,.string ⟨x.2.1.toArray⟩,V0 x.2.2] 100 fun b1 W1 n1=>?_
 refine xa 0 [V0 y.1,.string ⟨y.2.1.toArray⟩,V0 y.2.2] 100 fun b2 W2 n2=>?_
 have f4:=n2.ne n1.blk
 refine xa 0 [V0 0,V0 0,V0 0,V0 0,S0] 108 fun b3 W3 n3=>?_
 have a4:=(n1.blk.below n2.below).below n3.below
 refine xb 7 0 a4 ?_
 refine xid 3 (x.1>(16777215:Int)) (fun g5=>?_) (fun g5=>?_)
 ·refine xb 4 2 a4 ?_
  refine xc 0 (args:=#[V0 x.2.2,V0 9]) (Hd x.2.2 9 _ (by omega)) ?_
  rintro _ W5 ⟨h1,v5,rfl,d0,a6⟩
  have k3:=n3.blk.below d0
  refine xsv 0 k3 [V0 0,V0 0,V0 0,V0 0,S0] fun W6 u6 k6=>?_
  have g3:=n3.ge0 (blB (blB (Below.refl B w) hBw n1.below) hBw n2.below)
  have c3:=a6.only (Zf.of_upd (T:=[108]) u6 k3 (by decide)) (by decide)
  have hB:=u6.below (blB (blB (blB (blB (Below.refl B w) hBw n1.below) hBw n2.below) hBw n3.below) hBw d0) (Nat.le_trans hBw g3)
  have hO:=(Zf.upd_new ((((show Zf [185] w _ from(Zf.of_below n1.below)).trans (Zf.of_below n2.below)).trans (Zf.of_below n3.below)).trans (Zf.of_below d0)) u6 g3)
  have hX:=(Fr.upd_new ((((show Fr [bx] w _ from(Fr.of_below n1.below)).trans (Fr.of_below n2.below)).trans (Fr.of_below n3.below)).trans (Fr.of_below d0)) u6 g3)
  exact xec 5 k6 (.tuple #[.agg #[V0 0,V0 0,V0 0,V0 0,S0],.iface h1 (v5)]) (Pf (dev_1 (by omega)) (by decide) hB hO hX c3)
 refine xb 5 1 a4 ?_
 refine xr 0 (args:=#[.string ⟨x.2.1.toArray⟩]) (Cu x.2.1 _ hx) fun W7 a2=>?_
 refine xa 3 [V0 0,V0 0,V0 0,V0 0] 105 fun b8 W8 n8=>?_
 refine xsv 0 n8.blk [V0 (↑(Yn x.2.1 0):Int),V0 (↑(Yn x.2.1 1):Int),V0 (↑(Yn x.2.1 2):Int),V0 (↑(Yn x.2.1 3):Int)] fun W9 u9 k9=>?_
 have g8:=n8.ge0 (blB (blB (blB (blB (Below.refl B w) hBw n1.below) hBw n2.below) hBw n3.below) hBw a2)
 refine xin 10 (Xn Jg x.2.1) (0:Int) (fun d7=>?_) (fun d7=>?_)
 ·have e4:=u9.blkT ((a4.below a2).below n8.below) n8.blk (by decide)
  refine xb 4 2 e4 ?_
  refine xc 1 (args:=#[V0 x.2.2,V0 (Xn Jg x.2.1)]) (Hd x.2.2 (Xn Jg x.2.1) _ (by omega)) ?_
  rintro _ i7 ⟨e7,g9,rfl,a8,a6⟩
  have k3:=(u9.blkT ((n3.blk.below a2).below n8.below) n8.blk (by decide)).below a8
  refine xsv 0 k3 [V0 0,V0 0,V0 0,V0 0,S0] fun h5 d1 f5=>?_
  have g3:=n3.ge0 (blB (blB (Below.refl B w) hBw n1.below) hBw n2.below)
  have c8:=a6.only (Zf.of_upd (T:=[108]) d1 k3 (by decide)) (by decide)
  have hB:=d1.below (blB (u9.below (blB (blB (blB (blB (blB (Below.refl B w) hBw n1.below) hBw n2.below) hBw n3.below) hBw a2) hBw n8.below) (Nat.le_trans hBw g8)) hBw a8) (Nat.le_trans hBw g3)
  have hO:=(Zf.upd_new ((Zf.upd_new (((((show Zf [185] w _ from(Zf.of_below n1.below)).trans (Zf.of_below n2.below)).trans (Zf.of_below n3.below)).trans (Zf.of_below a2)).trans (Zf.of_below n8.below)) u9 g8).trans (Zf.of_below a8)) d1 g3)
  have hX:=(Fr.upd_new ((Fr.upd_new (((((show Fr [bx] w _ from(Fr.of_below n1.below)).trans (Fr.of_below n2.below)).trans (Fr.of_below n3.below)).trans (Fr.of_below a2)).trans (Fr.of_below n8.below)) u9 g8).trans (Fr.of_below a8)) d1 g3)
  exact xec 5 f5 (.tuple #[.agg #[V0 0,V0 0,V0 0,V0 0,S0],.iface e7 (g9)]) (Pf (dev_2 (by omega) (by omega)) (by omega) hB hO hX c8)
 have k2:=u9.blkT (((n2.blk.below n3.below).below a2).below n8.below) n8.blk (by decide)
 refine xb 5 1 k2 ?_
 refine xr 0 (args:=#[.string ⟨y.2.1.toArray⟩]) (Nf y.2.1 _ hy) fun i5 a0=>?_
 refine xin 14 (Xy y.2.1) (0:Int) (fun e3=>?_) (fun e3=>?_)
 ·have f2:=k2.below a0
  refine xb 4 2 f2 ?_
  refine xc 1 (args:=#[V0 y.2.2,V0 (Xy y.2.1)]) (Hd y.2.2 (Xy y.2.1) _ (by omega)) ?_
  rintro _ i2 ⟨e6,g2,rfl,a9,a6⟩
  have k3:=((u9.blkT ((n3.blk.below a2).below n8.below) n8.blk (by decide)).below a0).below a9
  refine xsv 0 k3 [V0 0,V0 0,V0 0,V0 0,S0] fun h8 d2 f8=>?_
  have g3:=n3.ge0 (blB (blB (Below.refl B w) hBw n1.below) hBw n2.below)
  have c4:=a6.only (Zf.of_upd (T:=[108]) d2 k3 (by decide)) (by decide)
  have hB:=d2.below (blB (blB (u9.below (blB (blB (blB (blB (blB (Below.refl B w) hBw n1.below) hBw n2.below) hBw n3.below) hBw a2) hBw n8.below) (Nat.le_trans hBw g8)) hBw a0) hBw a9) (Nat.le_trans hBw g3)
  have hO:=(Zf.upd_new (((Zf.upd_new (((((show Zf [185] w _ from(Zf.of_below n1.below)).trans (Zf.of_below n2.below)).trans (Zf.of_below n3.below)).trans (Zf.of_below a2)).trans (Zf.of_below n8.below)) u9 g8).trans (Zf.of_below a0)).trans (Zf.of_below a9)) d2 g3)
  have hX:=(Fr.upd_new (((Fr.upd_new (((((show Fr [bx] w _ from(Fr.of_below n1.below)).trans (Fr.of_below n2.below)).trans (Fr.of_below n3.below)).trans (Fr.of_below a2)).trans (Fr.of_below n8.below)) u9 g8).trans (Fr.of_below a0)).trans (Fr.of_below a9)) d2 g3)
  exact xec 5 f8 (.tuple #[.agg #[V0 0,V0 0,V0 0,V0 0,S0],.iface e6 (g2)]) (Pf (dev_3 (by omega) (by omega) (by omega)) (by omega) hB hO hX c4)
 have d8:=((((((hI.below n1.below).below n2.below).below n3.below).below a2).below n8.below).only (Zf.of_upd (T:=[105]) u9 n8.blk (by decide)) (by decide)).below a0
 have c7:=(u9.blkT (((((hk.below n1.below).below n2.below).below n3.below).below a2).below n8.below) n8.blk (by decide)).below a0
 refine xc 6 (args:=#[P0 bx,V0 (↑(Qf y.2.1):Int)]) (Zgo Bi bx b pi ni ci l data fuel (sum:Int) y _ d8 c7 hfu) ?_
 rintro e i1 e8
 rcases e8 with ⟨b6,g1,vo,rfl,a1,g6⟩|⟨b6,po,co,rfl,a1,g0⟩
 ·have f1:=(k2.below a0).below a1
  refine xb 19 2 f1 ?_
  refine xc 1 (args:=#[V0 y.2.2,.iface g1 (vo)]) (Zav y.2.2 (Qa l y data fuel).2.1 (Qa l y data fuel).1 _ _ g6) ?_
  rintro _ i0 ⟨d6,h0,rfl,b0,a6⟩
  have k3:=(((u9.blkT ((n3.blk.below a2).below n8.below) n8.blk (by decide)).below a0).below a1).below b0
  refine xsv 0 k3 [V0 0,V0 0,V0 0,V0 0,S0] fun h9 d3 g7=>?_
  have g3:=n3.ge0 (blB (blB (Below.refl B w) hBw n1.below) hBw n2.below)
  have b7:=a6.only (Zf.of_upd (T:=[108]) d3 k3 (by decide)) (by decide)
  have hB:=d3.below (blB (blB (blB (u9.below (blB (blB (blB (blB (blB (Below.refl B w) hBw n1.below) hBw n2.below) hBw n3.below) hBw a2) hBw n8.below) (Nat.le_trans hBw g8)) hBw a0) hBw a1) hBw b0) (Nat.le_trans hBw g3)
  have hO:=(Zf.upd_new ((((Zf.upd_new (((((show Zf [185] w _ from(Zf.of_below n1.below)).trans (Zf.of_below n2.below)).trans (Zf.of_below n3.below)).trans (Zf.of_below a2)).trans (Zf.of_below n8.below)) u9 g8).trans (Zf.of_below a0)).trans (Zf.of_below a1)).trans (Zf.of_below b0)) d3 g3)
  have hX:=(Fr.upd_new ((((Fr.upd_new (((((show Fr [bx] w _ from(Fr.of_below n1.below)).trans (Fr.of_below n2.below)).trans (Fr.of_below n3.below)).trans (Fr.of_below a2)).trans (Fr.of_below n8.below)) u9 g8).trans (Fr.of_below a0)).trans (Fr.of_below a1)).trans (Fr.of_below b0)) d3 g3)
  exact xec 5 g7 (.tuple #[.agg #[V0 0,V0 0,V0 0,V0 0,S0],.iface d6 (h0)]) (Pf (dev_4 (by omega) (by omega) (by omega) b6) b6 hB hO hX b7)
 have e2:=(blB (u9.below (blB (blB (blB (blB (blB (Below.refl B w) hBw n1.below) hBw n2.below) hBw n3.below) hBw a2) hBw n8.below) (Nat.le_trans hBw g8)) hBw a0).size
 have c6:=(k9.below a0).below a1
 refine xb 23 0 c6 ?_
 refine xin 3 (↑((Qa l y data fuel).2.2.length):Int) (↑(Yn x.2.1 0):Int) (fun d9=>?_) (fun d9=>?_)
 ·have d5:=((u9.blkT ((a4.below a2).below n8.below) n8.blk (by decide)).below a0).below a1
  refine xb 4 2 d5 ?_
  refine xc 0 (args:=#[V0 x.2.2,V0 13]) (Hd x.2.2 13 _ (by omega)) ?_
  rintro _ i6 ⟨e0,g4,rfl,a7,a6⟩
  have k3:=(((u9.blkT ((n3.blk.below a2).below n8.below) n8.blk (by decide)).below a0).below a1).below a7
  refine xsv 0 k3 [V0 0,V0 0,V0 0,V0 0,S0] fun i3 c9 h2=>?_
  have g3:=n3.ge0 (blB (blB (Below.refl B w) hBw n1.below) hBw n2.below)
  have c1:=a6.only (Zf.of_upd (T:=[108]) c9 k3 (by decide)) (by decide)
  have hB:=c9.below (blB (blB (blB (u9.below (blB (blB (blB (blB (blB (Below.refl B w) hBw n1.below) hBw n2.below) hBw n3.below) hBw a2) hBw n8.below) (Nat.le_trans hBw g8)) hBw a0) hBw a1) hBw a7) (Nat.le_trans hBw g3)
  have hO:=(Zf.upd_new ((((Zf.upd_new (((((show Zf [185] w _ from(Zf.of_below n1.below)).trans (Zf.of_below n2.below)).trans (Zf.of_below n3.below)).trans (Zf.of_below a2)).trans (Zf.of_below n8.below)) u9 g8).trans (Zf.of_below a0)).trans (Zf.of_below a1)).trans (Zf.of_below a7)) c9 g3)
  have hX:=(Fr.upd_new ((((Fr.upd_new (((((show Fr [bx] w _ from(Fr.of_below n1.below)).trans (Fr.of_below n2.below)).trans (Fr.of_below n3.below)).trans (Fr.of_below a2)).trans (Fr.of_below n8.below)) u9 g8).trans (Fr.of_below a0)).trans (Fr.of_below a1)).trans (Fr.of_below a7)) c9 g3)
  exact xec 5 h2 (.tuple #[.agg #[V0 0,V0 0,V0 0,V0 0,S0],.iface e0 (g4)]) (Pf (dev_5 (by omega) (by omega) (by omega) b6 (by omega)) (by decide) hB hO hX c1)
 have a3:=c7.below a1
 refine xb 8 3 a3 ?_
 refine xwm 2 ((sum:Int)+(↑((Qa l y data fuel).2.2.length):Int)) (↑(sum+((Qa l y data fuel).2.2.length)):Int) ?_
 refine xs 2 a3 [P0 b,V0 data,V0 fuel,V0 (↑(sum+((Qa l y data fuel).2.2.length)):Int)] fun h7 a5 f3=>?_
 refine xb 7 3 f3 ?_
 refine xid 3 ((↑(sum+((Qa l y data fuel).2.2.length)):Int)>(16384:Int)) (fun e9=>?_) (fun e9=>?_)
 ·have e5:=a5.blkT ((k2.below a0).below a1) a3 (by decide)
  refine xb 4 2 e5 ?_
  refine xc 0 (args:=#[V0 y.2.2,V0 2]) (Hd y.2.2 2 _ (by omega)) ?_
  rintro _ h4 ⟨e1,f6,rfl,b4,a6⟩
  have k3:=(a5.blkT (((u9.blkT ((n3.blk.below a2).below n8.below) n8.blk (by decide)).below a0).below a1) a3 (by decide)).below b4
  refine xsv 0 k3 [V0 0,V0 0,V0 0,V0 0,S0] fun i4 d4 f7=>?_
  have g3:=n3.ge0 (blB (blB (Below.refl B w) hBw n1.below) hBw n2.below)
  have c2:=a6.only (Zf.of_upd (T:=[108]) d4 k3 (by decide)) (by decide)
  have hB:=d4.below (blB (a5.below (blB (blB (u9.below (blB (blB (blB (blB (blB (Below.refl B w) hBw n1.below) hBw n2.below) hBw n3.below) hBw a2) hBw n8.below) (Nat.le_trans hBw g8)) hBw a0) hBw a1) hB0) hBw b4) (Nat.le_trans hBw g3)
  have hO:=(Zf.upd_new (((((Zf.upd_new (((((show Zf [185] w _ from(Zf.of_below n1.below)).trans (Zf.of_below n2.below)).trans (Zf.of_below n3.below)).trans (Zf.of_below a2)).trans (Zf.of_below n8.below)) u9 g8).trans (Zf.of_below a0)).trans (Zf.of_below a1)).trans (Zf.of_upd a5 a3 (by decide))).trans (Zf.of_below b4)) d4 g3)
  have hX:=(Fr.upd_new (((((Fr.upd_new (((((show Fr [bx] w _ from(Fr.of_below n1.below)).trans (Fr.of_below n2.below)).trans (Fr.of_below n3.below)).trans (Fr.of_below a2)).trans (Fr.of_below n8.below)) u9 g8).trans (Fr.of_below a0)).trans (Fr.of_below a1)).trans (Fr.of_upd a5 (by simp))).trans (Fr.of_below b4)) d4 g3)
  exact xec 5 f7 (.tuple #[.agg #[V0 0,V0 0,V0 0,V0 0,S0],.iface e1 (f6)]) (Pf (dev_6 (by omega) (by omega) (by omega) b6 (by omega) (by omega)) (by decide) hB hO hX c2)
 have f0:=a5.blkT (((u9.blkT ((a4.below a2).below n8.below) n8.blk (by decide)).below a0).below a1) a3 (by decide)
 refine xb 5 0 f0 ?_
 have b5:=a5.blkT c6 a3 (by decide)
 refine xb 1 1 b5 ?_
 refine xb 1 2 b5 ?_
 refine xb 1 3 b5 ?_
 have k3:=a5.blkT (((u9.blkT ((n3.blk.below a2).below n8.below) n8.blk (by decide)).below a0).below a1) a3 (by decide)
 refine xsv 2 k3 [V0 x.1,V0 (↑(Yn x.2.1 1):Int),V0 (↑(Yn x.2.1 2):Int),V0 (↑(Yn x.2.1 3):Int),.slice po ((Qa l y data fuel).2.2.length) co] fun h6 b9 f9=>?_
 have g3:=n3.ge0 (blB (blB (Below.refl B w) hBw n1.below) hBw n2.below)
 have c5:=b9.blkT f3 k3 (by decide)
 have hB:=b9.below (a5.below (blB (blB (u9.below (blB (blB (blB (blB (blB (Below.refl B w) hBw n1.below) hBw n2.below) hBw n3.below) hBw a2) hBw n8.below) (Nat.le_trans hBw g8)) hBw a0) hBw a1) hB0) (Nat.le_trans hBw g3)
 have hO:=(Zf.upd_new ((((Zf.upd_new (((((show Zf [185] w _ from(Zf.of_below n1.below)).trans (Zf.of_below n2.below)).trans (Zf.of_below n3.below)).trans (Zf.of_below a2)).trans (Zf.of_below n8.below)) u9 g8).trans (Zf.of_below a0)).trans (Zf.of_below a1)).trans (Zf.of_upd a5 a3 (by decide))) b9 g3)
 have hX:=(Fr.upd_new ((((Fr.upd_new (((((show Fr [bx] w _ from(Fr.of_below n1.below)).trans (Fr.of_below n2.below)).trans (Fr.of_below n3.below)).trans (Fr.of_below a2)).trans (Fr.of_below n8.below)) u9 g8).trans (Fr.of_below a0)).trans (Fr.of_below a1)).trans (Fr.of_upd a5 (by simp))) b9 g3)
 have c0:=b9.own2 (a5.own2 (Zg g0 e2) a3 (by decide)) k3 (by decide)
 exact xec 4 f9 (.tuple #[.agg #[V0 x.1,V0 (↑(Yn x.2.1 1):Int),V0 (↑(Yn x.2.1 2):Int),V0 (↑(Yn x.2.1 3):Int),.slice po ((Qa l y data fuel).2.2.length) co],.nilIface]) (.inr ⟨by rw[dev_7 (by omega) (by omega) (by omega) b6 (by omega) (by omega)],_,_,rfl,hB,hO,hX,c5,c0⟩)
def mpD:Mp:=(0,0,0)
theorem run_mapne{a:Act}{o:Oper}{p q:Operand}(x:Mp)(ho:o.op=.binOp .neq 110 p q 110)(hx:a.eval p=.agg (Wr x).toArray)(hy:a.eval q=.agg (Wr x).toArray)(V:World) :
 (execOp a.eval o).run Tryz.prog V=.ok (.value (.bool false)) V:=by
 have h1:=Tryz.underlying110
 have h2:=Tryz.underlying3
 have h4:Tryz.prog.stoodInHeld 110=false:=by kernel_rfl
 have hb:(binOp .neq 110 (.agg (Wr x).toArray) (.agg (Wr x).toArray)).run Tryz.prog V=.ok (.bool false) V:=by
  obtain⟨x0,x1,x2⟩:=x
  simp[go_sem,Program.fieldsOf,h1,h2,h4,Op.eqFields,Wr]
 have hg:=run_eqGuard_agg (P:=Tryz.prog) (w:=V) .neq 110 p q (Wr x).toArray (Wr x).toArray (by kernel_rfl)
 simp only[execOp,ho,hx,hy,Sem.run_bind,hg,Result.andThen_ok,hb]
 rfl
theorem Rt(a b:O0)(ca cb:Nat)(L:List Mp)(w:World)(ha:Sts Wr w (.slice a L.length ca) L)(hb:Sts Wr w (.slice b L.length cb) L) :
 C0 103 #[.slice a L.length ca,.slice b L.length cb] w (Ret (.bool true) w):=by
 have a5:=Sl.len ha
 refine zin 26 Tryz.func103 ?_
 refine xk 15 (show(((L.length:Int) != (L.length:Int)):Bool)=false from by simp) ?_
 have hB:=Below.refl w.heap.size w
 refine zl 9 26 (fun zm a3 V=>∃ (i:Nat),a3=[(0,.slice a L.length ca),(1,.slice b L.length cb),(5,V0 (i:Int))]∧zm=L.length-((i:Int)).toNat∧B0 w V∧i≤L.length) ⟨0,rfl,rfl,hB,Nat.zero_le _⟩ ?_
 rintro _ _ W1 ⟨i,rfl,rfl,a1,hi⟩ J1 a2 r1
 refine xid 9 ((i:Int)<(L.length:Int)) (fun a4=>?_) (fun a4=>?_)
 ·refine xd 5 .z ?_
  refine xx (.e [0,1] 2) _ L.length i 3 (Sts.cell ha Pp mpD (k:=i) (i:=0) (by omega) rfl).1 ?_
  have a0:=bln a1 (Za W1)
  refine xlv (.e [] 3) (Sts.rp (k:=i) (ha.below a0) Pp mpD (by omega) (by decide)) ?_
  refine xx (.e [4,5] 6) _ L.length i 3 (Sts.cell hb Pp mpD (k:=i) (i:=0) (by omega) rfl).1 ?_
  refine xlv (.e [] 7) (Sts.rp (k:=i) (hb.below a0) Pp mpD (by omega) (by decide)) ?_
  refine xbo (.e [] 8) (t:=110) (t2:=110) (fun _ _ _ _ zo zx zy V hV=>run_mapne (L.getD i mpD) zo zx zy V) ?_
  refine xwm 8 ((i:Int)+1) (↑(i+1):Int) ?_
  exact ze 2 (a2 _ _ _ ⟨i+1,rfl,rfl,a0,by omega⟩ (by omega))
 exact xe 11 (.bool true) ⟨rfl,a1⟩
theorem Cr(a b:O0)(ca cb:Nat)(d:Dv)(w:World)(ha:Sts Wr w (.slice a d.2.length ca) d.2)(hb:Sts Wr w (.slice b d.2.length cb) d.2) :
 C0 46 #[.agg #[V0 d.1.1,V0 d.1.2.1,V0 d.1.2.2.1,V0 d.1.2.2.2,.slice a d.2.length ca],.agg #[V0 d.1.1,V0 d.1.2.1,V0 d.1.2.2.1,V0 d.1.2.2.2,.slice b d.2.length cb]] w (Ret (.bool true) w):=by
 refine zin 38 Tryz.func46 ?_
 refine xa 2 [V0 d.1.1,V0 d.1.2.1,V0 d.1.2.2.1,V0 d.1.2.2.2,.slice a d.2.length ca] 108 fun b1 W1 n1=>?_
 refine xa 0 [V0 d.1.1,V0 d.1.2.1,V0 d.1.2.2.1,V0 d.1.2.2.2,.slice b d.2.length cb] 108 fun b2 W2 n2=>?_
 have a2:=n2.ne n1.blk
 have a0:=n1.blk.below n2.below
 refine xb 6 0 a0 ?_
 refine xb 1 0 n2.blk ?_
 refine xgk 2 [9,10] (show((d.1.1==d.1.1):Bool)=true from by simp) ?_
 refine xb 1 1 a0 ?_
 refine xb 1 1 n2.blk ?_
 refine xgk 3 [15,16,17] (show((d.1.2.1==d.1.2.1):Bool)=true from by simp) ?_
 refine xb 1 2 a0 ?_
 refine xb 1 2 n2.blk ?_
 refine xgk 3 [22,23,24] (show((d.1.2.2.1==d.1.2.2.1):Bool)=true from by simp) ?_
 refine xb 1 3 a0 ?_
 refine xb 1 3 n2.blk ?_
 refine xgk 3 [29,30,31] (show((d.1.2.2.2==d.1.2.2.2):Bool)=true from by simp) ?_
 refine xb 1 4 a0 ?_
 refine xb 1 4 n2.blk ?_
 have hB:=bln n1.below n2.below
 refine xr 0 (args:=#[.slice a d.2.length ca,.slice b d.2.length cb]) (Rt a b ca cb d.2 _ (ha.below hB) (hb.below hB)) fun W7 a3=>?_
 have a1:=bln hB a3
 exact xe 5 (.bool true) ⟨rfl,a1⟩
abbrev Zv:=Dv×O0×Nat
def zvD:Zv:=(((0,0,0,0),[]),none,0)
def Lg(z:Zv):List Value:=[V0 z.1.1.1,V0 z.1.1.2.1,V0 z.1.1.2.2.1,V0 z.1.1.2.2.2,.slice z.2.1 z.1.2.length z.2.2]
theorem Hi(z:Zv):(Lg z).length=5:=rfl
structure DevsR(w:World)(p:Option Addr)(c:Nat)(Z:List Zv):Prop where
 row:Sts Lg w (.slice p Z.length c) Z
 each:∀ i,i<Z.length→Sts Wr w (.slice (Z.getD i zvD).2.1 (Z.getD i zvD).1.2.length (Z.getD i zvD).2.2) (Z.getD i zvD).1.2
theorem DevsR.below{w W:World}{p:O0}{c:Nat}{Z:List Zv}(h:DevsR w p c Z)(hb:B0 w W):DevsR W p c Z:=⟨h.row.below hb,fun i hi=>(h.each i hi).below hb⟩
theorem DevsR.rowN{w:World}{p:O0}{c n:Nat}{Z:List Zv}(h:DevsR w p c Z)(hn:Z.length=n):Sl w (.slice p n c) n (Z.flatMap Lg):=by subst hn;exact h.row
theorem DevsR.someN{w:World}{p:O0}{c n i:Nat}{Z:List Zv}(h:DevsR w p c Z)(hn:Z.length=n)(hi:i<n):p.isSome=true:=by subst hn;exact(Sts.cell h.row Hi zvD (k:=i) (i:=0) hi rfl).1
theorem Lm(a b:O0)(ca cb:Nat)(d e:Dv)(w:World)(h:d=e)(ha:Sts Wr w (.slice a d.2.length ca) d.2)(hb:Sts Wr w (.slice b e.2.length cb) e.2) :
 C0 46 #[.agg #[V0 d.1.1,V0 d.1.2.1,V0 d.1.2.2.1,V0 d.1.2.2.2,.slice a d.2.length ca],.agg #[V0 e.1.1,V0 e.1.2.1,V0 e.1.2.2.1,V0 e.1.2.2.2,.slice b e.2.length cb]] w (Ret (.bool true) w):=by
 subst h;exact Cr a b ca cb d w ha hb
theorem Zha(p q:O0)(c d n:Nat)(t u v x:Int)(Z Y:List Zv)(w:World)(hZ:Z.length=n)(hY:Y.length=n)(hZY:∀ i,i<n→(Z.getD i zvD).1=(Y.getD i zvD).1)(hP:DevsR w p c Z)(hQ:DevsR w q d Y) :
 C0 17 #[.agg #[V0 t,V0 u,V0 v,V0 x,.slice p n c],.agg #[V0 t,V0 u,V0 v,V0 x,.slice q n d]] w (Ret (.bool true) w):=by
 have c2:=Sl.len (hP.rowN hZ)
 refine zin 60 Tryz.func17 ?_
 refine xa 2 [V0 t,V0 u,V0 v,V0 x,.slice p n c] 48 fun b1 W1 n1=>?_
 refine xa 0 [V0 t,V0 u,V0 v,V0 x,.slice q n d] 48 fun b2 W2 n2=>?_
 have b8:=n2.ne n1.blk
 have a2:=n1.blk.below n2.below
 refine xb 7 0 a2 ?_
 refine xb 1 0 n2.blk ?_
 refine xgk 2 [10,11] (show((t != t):Bool)=false from by simp) ?_
 refine xb 1 1 a2 ?_
 refine xb 1 1 n2.blk ?_
 refine xgk 3 [16,17,18] (show((u != u):Bool)=false from by simp) ?_
 refine xb 1 2 a2 ?_
 refine xb 1 2 n2.blk ?_
 refine xgk 3 [23,24,25] (show((v != v):Bool)=false from by simp) ?_
 refine xb 1 3 a2 ?_
 refine xb 1 3 n2.blk ?_
 refine xgk 3 [30,31,32] (show((x != x):Bool)=false from by simp) ?_
 refine xb 1 4 a2 ?_
 refine xb 2 4 n2.blk ?_
 refine xk 5 (show(((n:Int) != (n:Int)):Bool)=false from by simp) ?_
 have b3:=(hP.below n1.below).below n2.below
 have b6:=(hQ.below n1.below).below n2.below
 have hB:=bln n1.below n2.below
 refine zl 9 60 (fun zm c0 V=>∃ (i:Nat),c0=[(2,P0 b1),(3,P0 b2),(5,V0 (i:Int))]∧zm=n-((i:Int)).toNat∧B0 w V∧Blk V b1 ([V0 t,V0 u,V0 v,V0 x,.slice p n c]) 48∧Blk V b2 ([V0 t,V0 u,V0 v,V0 x,.slice q n d]) 48∧DevsR V p c Z∧DevsR V q d Y∧i≤n) ⟨0,rfl,rfl,hB,a2,n2.blk,b3,b6,Nat.zero_le _⟩ ?_
 rintro _ _ W7 ⟨i,rfl,rfl,a8,a7,a9,hP,hQ,hi⟩ J7 c1 r7
 refine xb 5 4 a7 ?_
 refine xid 4 ((i:Int)<(n:Int)) (fun b9=>?_) (fun b9=>?_)
 ·refine xd 5 .z ?_
  have a0:=a7.below (Za W7)
  refine xb (.e [0] 1) 4 a0 ?_
  have a5:=hP.below (Za W7)
  refine xx (.e [2] 3) _ n i 5 (a5.someN hZ (i:=i) (by omega)) ?_
  refine xlv (.e [] 4) (Sts.rp (k:=i) a5.row Hi zvD (by omega) (by decide)) ?_
  have a1:=a9.below (Za W7)
  refine xb (.e [5] 6) 4 a1 ?_
  have a3:=hQ.below (Za W7)
  refine xx (.e [7] 8) _ n i 5 (a3.someN hY (i:=i) (by omega)) ?_
  refine xlv (.e [] 9) (Sts.rp (k:=i) a3.row Hi zvD (by omega) (by decide)) ?_
  refine xr (.o [] 10) (args:=#[.agg #[V0 ((Z.getD i zvD).1.1.1),V0 ((Z.getD i zvD).1.1.2.1),V0 ((Z.getD i zvD).1.1.2.2.1),V0 ((Z.getD i zvD).1.1.2.2.2),.slice ((Z.getD i zvD).2.1) ((Z.getD i zvD).1.2.length) ((Z.getD i zvD).2.2)],.agg #[V0 ((Y.getD i zvD).1.1.1),V0 ((Y.getD i zvD).1.1.2.1),V0 ((Y.getD i zvD).1.1.2.2.1),V0 ((Y.getD i zvD).1.1.2.2.2),.slice ((Y.getD i zvD).2.1) ((Y.getD i zvD).1.2.length) ((Y.getD i zvD).2.2)]]) (Lm (Z.getD i zvD).2.1 (Y.getD i zvD).2.1 (Z.getD i zvD).2.2 (Y.getD i zvD).2.2 (Z.getD i zvD).1 (Y.getD i zvD).1 _ (hZY i (by omega)) (a5.each i (by omega)) (a3.each i (by omega))) fun W9 b0=>?_
  refine xwm (.r [11] 8) ((i:Int)+1) (↑(i+1):Int) ?_
  have b4:=bln (bln a8 (Za W7)) b0
  have a6:=a0.below b0
  have a4:=a1.below b0
  have b7:=a5.below b0
  have b5:=a3.below b0
  exact ze 2 (c1 _ _ _ ⟨i+1,rfl,rfl,b4,a6,a4,b7,b5,by omega⟩ (by omega))
 exact xe 11 (.bool true) ⟨rfl,a8⟩
def St(l:List Ent)(k:Int):Bool:=l.any fun y=>y.1==k
theorem Pc{l:List Ent}{k:Int}:St l k=true↔∃ y∈l,y.1=k:=by unfold St;simp
def Jp(a b:List Ent):Option Int:=(a.find? fun x=>!St b x.1).map fun x=>x.1
theorem Zar{a b:List Ent}{k:Int}(h:Jp a b=some k):∃ x∈a,x.1=k:=by
 unfold Jp at h
 rw[Option.map_eq_some_iff] at h
 obtain⟨x,hx,rfl⟩:=h
 exact⟨x,List.mem_of_find?_eq_some hx,rfl⟩
def docE(D T:List Ent):Nat :=
 match Jp D T,Jp T D with
 | none,none=>0
 | some _,none=>2
 | none,some _=>1
 | some a,some b=>if a<b then 2 else 1
theorem Zac(b:List Ent):Jp [] b=none:=rfl
theorem Vd{x:Ent}{a b:List Ent}:Jp (x::a) b=if St b x.1 then Jp a b else some x.1:=by
 unfold Jp
 by_cases h:St b x.1=true
 ·simp[List.find?,h]
 ·simp[List.find?,h]
theorem Si{y:Ent}{a b:List Ent}(h:∀ x∈a,y.1<x.1):Jp a (y::b)=Jp a b:=by
 induction a with
 | nil=>rfl
 | cons x a ih =>
  have hx:=h x (by simp)
  have e:St (y::b) x.1=St b x.1:=by
   unfold St
   rw[List.any_cons,show(y.1==x.1)=false from beq_false_of_ne (by omega),Bool.false_or]
  rw[Vd,Vd,e,ih fun z hz=>h z (by simp[hz])]
theorem Zaw:∀ {D T:List Ent},D.Pairwise (fun x y=>x.1<y.1)→T.Pairwise (fun x y=>x.1<y.1)→docE D T=Qd D T
  | [],[],_,_=>rfl
  | [],y::b,_,_=>by
    have e:Jp (y::b) []=some y.1:=by rw[Vd,if_neg (by simp[St])]
    unfold docE
    rw[Zac,e]
    rfl
  | x::a,[],_,_=>by
    have e:Jp (x::a) []=some x.1:=by rw[Vd,if_neg (by simp[St])]
    unfold docE
    rw[Zac,e]
    rfl
  | x :: a, y :: b, hD, hT => by
    obtain⟨hx,a0⟩:=List.pairwise_cons.1 hD
    obtain⟨hy,a1⟩:=List.pairwise_cons.1 hT
    by_cases e:x.1=y.1
    · have e1:Jp (x::a) (y::b)=Jp a b:=by
        rw[Vd,if_pos (Pc.2 ⟨y,by simp,e.symm⟩),Si fun z hz=>by have:=hx z hz;omega]
      have e2:Jp (y::b) (x::a)=Jp b a:=by
        rw[Vd,if_pos (Pc.2 ⟨x,by simp,e⟩),Si fun z hz=>by have:=hy z hz;omega]
      have ih:=Zaw a0 a1
      unfold docE at ih ⊢
      rw[e1,e2,ih]
      show _=(if x.1=y.1 then Qd a b else _)
      rw[if_pos e]
    · by_cases q:x.1<y.1
      · have h1:Jp (x::a) (y::b)=some x.1:=by
          rw[Vd,if_neg]
          rw[Pc]
          rintro⟨z,hz,hk⟩
          rcases List.mem_cons.1 hz with rfl|hz
          · omega
          · have:=hy z hz;omega
        have hp:Qd (x::a) (y::b)=2:=by
          show(if x.1=y.1 then _ else if x.1<y.1 then 2 else 1)=2
          rw[if_neg e,if_pos q]
        rw[hp]
        unfold docE
        rw[h1]
        cases h2:Jp (y::b) (x::a) with
        | none=>rfl
        | some k =>
          obtain⟨z,hz,rfl⟩:=Zar h2
          have:y.1≤z.1:=by
            rcases List.mem_cons.1 hz with rfl|hz
            · exact Int.le_refl _
            · have:=hy z hz;omega
          show(if x.1<z.1 then 2 else 1)=2
          rw[if_pos (by omega)]
      · have h1:Jp (y::b) (x::a)=some y.1:=by
          rw[Vd,if_neg]
          rw[Pc]
          rintro⟨z,hz,hk⟩
          rcases List.mem_cons.1 hz with rfl|hz
          · omega
          · have:=hx z hz;omega
        have hp:Qd (x::a) (y::b)=1:=by
          show(if x.1=y.1 then _ else if x.1<y.1 then 2 else 1)=1
          rw[if_neg e,if_neg q]
        rw[hp]
        unfold docE
        rw[h1]
        cases h2:Jp (x::a) (y::b) with
        | none=>rfl
        | some k =>
          obtain⟨z,hz,rfl⟩:=Zar h2
          have:x.1≤z.1:=by
            rcases List.mem_cons.1 hz with rfl|hz
            · exact Int.le_refl _
            · have:=hx z hz;omega
          show(if z.1<y.1 then 2 else 1)=1
          rw[if_neg (by omega)]
def Xu(B:Nat)(w:World)(Z:List Zv):Prop:=∀ i,i<Z.length→w.ownsRow B 110 3 (.slice (Z.getD i zvD).2.1 (Z.getD i zvD).1.2.length (Z.getD i zvD).2.2) (Z.getD i zvD).1.2.length ((Z.getD i zvD).1.2.flatMap Wr)
theorem Xu.nil(B:Nat)(w:World):Xu B w []:=fun i hi=>absurd hi (by simp)
theorem Xu.below{B:Nat}{w W:World}{Z:List Zv}(h:Xu B w Z)(hb:B0 w W):Xu B W Z:=fun i hi=>Zb (h i hi) hb
theorem Xu.only{B:Nat}{w W:World}{Z:List Zv}{T:List TypeId}(h:Xu B w Z)(hO:Zf T w W)(hT:T.contains 110=false):Xu B W Z:=fun i hi=>Zl (h i hi) hO hT
theorem Xu.snoc{B n:Nat}{w:World}{Z:List Zv}{d:Dv}{p:O0}{c:Nat}(h:Xu B w Z)(hn:d.2.length=n)(ho:w.ownsRow B 110 3 (.slice p n c) n (d.2.flatMap Wr)):Xu B w (Z++[(d,p,c)]):=by
 subst hn
 intro i hi
 by_cases e:i<Z.length
 ·have:=h i e
  rw[show(Z++[(d,p,c)]).getD i zvD=Z.getD i zvD from by simp[List.getD,List.getElem?_append_left e]];exact this
 ·obtain rfl:i=Z.length:=by simp at hi;omega
  rw[show(Z++[(d,p,c)]).getD Z.length zvD=(d,p,c) from by simp[List.getD]];exact ho
theorem devs_read{B:Nat}{w:World}{p:O0}{c:Nat}{Z:List Zv}(hM:Xu B w Z)(ho:w.ownsRow B 108 5 (.slice p Z.length c) Z.length (Z.flatMap Lg)):DevsR w p c Z:=⟨Zh ho,fun i hi=>Zh (hM i hi)⟩
theorem devsO_d{l:Bl}{top details data fuel:Int}(h:(Zd l details 3 fuel).fs≠[]):Yk l top details data fuel=((Xr (Zd l details 3 fuel)).1,(Xr (Zd l details 3 fuel)).2,[]):=if_pos h
theorem devsO_t{l:Bl}{top details data fuel:Int}(h:(Zd l details 3 fuel).fs=[])(h2:(Zd l top 1 fuel).fs≠[]):Yk l top details data fuel=((Xr (Zd l top 1 fuel)).1,(Xr (Zd l top 1 fuel)).2,[]):=by unfold Yk;rw[if_neg (fun q=>q h),if_pos h2]
theorem Ac{l:Bl}{top details data fuel:Int}(h:(Zd l details 3 fuel).fs=[])(h2:(Zd l top 1 fuel).fs=[])(h3:4096<(Zd l details 3 fuel).es.length):Yk l top details data fuel=([details],2,[]):=by unfold Yk;rw[if_neg (fun q=>q h),if_neg (fun q=>q h2),if_pos h3]
theorem Dj{l:Bl}{top details data fuel:Int}(h:(Zd l details 3 fuel).fs=[])(h2:(Zd l top 1 fuel).fs=[])(h3:¬ 4096<(Zd l details 3 fuel).es.length)(h4:Qd (Zd l details 3 fuel).es (Zd l top 1 fuel).es=1):Yk l top details data fuel=([details],18,[]):=by unfold Yk;rw[if_neg (fun q=>q h),if_neg (fun q=>q h2),if_neg h3,if_pos h4]
theorem Iv{l:Bl}{top details data fuel:Int}(h:(Zd l details 3 fuel).fs=[])(h2:(Zd l top 1 fuel).fs=[])(h3:¬ 4096<(Zd l details 3 fuel).es.length)(h4:Qd (Zd l details 3 fuel).es (Zd l top 1 fuel).es=2):Yk l top details data fuel=([top],18,[]):=by unfold Yk;rw[if_neg (fun q=>q h),if_neg (fun q=>q h2),if_neg h3,if_neg (by omega),if_pos h4]
theorem Yc{l:Bl}{top details data fuel:Int}(h:(Zd l details 3 fuel).fs=[])(h2:(Zd l top 1 fuel).fs=[])(h3:¬ 4096<(Zd l details 3 fuel).es.length)(h4:Qd (Zd l details 3 fuel).es (Zd l top 1 fuel).es=0):Yk l top details data fuel=Zc1 l (Zd l details 3 fuel).es (Zd l top 1 fuel).es data fuel:=by unfold Yk;rw[if_neg (fun q=>q h),if_neg (fun q=>q h2),if_neg h3,if_neg (by omega),if_neg (by omega)]
end Go.Proofs.YtgphgaehfdfjjaaGreatDoor
