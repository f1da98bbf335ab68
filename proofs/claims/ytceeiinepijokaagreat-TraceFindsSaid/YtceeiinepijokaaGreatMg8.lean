/- Mappings and details put, by the program. -/
import Derived.Defers
import Derived.Recover
import Derived.Test.YtceeiinepijokaaGreatMg7
namespace Go.Proofs.YtceeiinepijokaaGreat
set_option maxHeartbeats 8000000
set_option maxRecDepth 100000
open Go.RowKit Go.Extern.Stop Go.Stop Go.Extern
set_option linter.unusedVariables false
attribute [local irreducible] wpList wpAnyH Code.wp Oper.wp Go
theorem Ce(ps:List Wu)(N:List Int)(gl gn:O0)(cl cn n:Nat)(w:World)(hps:Hv ps)(hn:n=ps.length)(hNl:N.length=n)(hP:Sts Ze3 w (.slice gl ps.length cl) ps)(hN:Sl w (.slice gn n cn) n (N.map V0))(h:Gd ps N n=true) :
  C0 157 #[.slice gl ps.length cl,.slice gn n cn] w (Ret (.string ⟨(Dc ps N ps.length).toArray⟩) w):=(Rl ps N gl gn cl cn n w hps hn hNl hP hN).mono (by
 rintro e W q
 rcases q with ⟨q,_⟩|⟨_,rfl,hb⟩
 ·rw[h] at q;cases q
 ·exact⟨rfl,hb⟩)
theorem map_or{b t:Int}(h1:0≤b∧b≤65535)(h2:0≤t∧t≤16777215):IntKind.i64.wrap (↑(BitVec.ofInt 64 (b*16777216) ||| BitVec.ofInt 64 t).toNat:Int)=b*16777216+t:=by
 obtain⟨p,rfl⟩:∃ p:Nat,b=(p:Int):=⟨b.toNat,by omega⟩
 obtain⟨q,rfl⟩:∃ q:Nat,t=(q:Int):=⟨t.toNat,by omega⟩
 have e:((p:Int)*16777216)=((p*16777216:Nat):Int):=by omega
 rw[e,BitVec.ofInt_natCast,BitVec.ofInt_natCast,BitVec.toNat_or,BitVec.toNat_ofNat,BitVec.toNat_ofNat,Nat.mod_eq_of_lt (by omega),Nat.mod_eq_of_lt (by omega)]
 have h:=Nat.two_pow_add_eq_or_of_lt (i:=24) (b:=q) (by omega) p
 rw[show(2:Nat) ^ 24*p=p*16777216 by omega] at h
 rw[←h]
 exact(IntWalk.i64_in _ (by omega)).trans (by omega)
theorem value_MapP(m:Mp)(w:World)(h1:0≤m.2.1∧m.2.1≤65535)(h2:0≤m.2.2∧m.2.2≤16777215) :
 C0 181 #[V0 m.2.1,V0 m.2.2] w (Ret (.string ⟨(Zfa m).toArray⟩) w):=by
 refine zin 26 Tryz.func181 ?_
 refine xgk 11 [6,7] (show(decide (m.2.1<(0:Int)):Bool)=false from decide_eq_false (by omega)) ?_
 refine xgk 4 [9,10,11] (show(decide (m.2.1≥(65536:Int)):Bool)=false from decide_eq_false (by omega)) ?_
 refine xgk 4 [13,14,15] (show(decide (m.2.2<(0:Int)):Bool)=false from decide_eq_false (by omega)) ?_
 refine xk 5 (show(decide (m.2.2>(16777215:Int)):Bool)=false from decide_eq_false (by omega)) ?_
 refine xc 4 (args:=#[]) (Nu _) ?_
 rintro _ W4 ⟨_,rfl,a1,gl,rfl,gg,kl⟩
 refine xq 1 (congrArg V0 (show(IntKind.i64.wrap (m.2.1*2 ^ 24):Int)=m.2.1*16777216 from IntWalk.i64_in _ (by omega))) ?_
 refine xq 1 (congrArg V0 (show(IntKind.i64.wrap (↑(BitVec.ofInt 64 (m.2.1*16777216) ||| BitVec.ofInt 64 m.2.2).toNat:Int):Int)=m.2.1*16777216+m.2.2 from map_or h1 h2)) ?_
 refine xbs 0 1 [V0 (m.2.1*16777216+m.2.2)] 3 fun b5 W5 n5=>?_
 have a0:=kl.below n5.below
 refine xr 0 (args:=#[.slice (S1 gl) 1 1,.slice (S1 b5) 1 1]) (Ce Vm [m.2.1*16777216+m.2.2] (S1 gl) (S1 b5) 1 1 1 _ Zdy rfl rfl (a0.sl 1 1 (by decide) (by decide)) (n5.blk.sl 1 1 (by decide) (by decide)) (by unfold Gd;rw[show List.range 1=[0] from rfl];simp[inP,Vm,List.getD];omega)) fun W6 a2=>?_
 have hB:=bln (bln a1 n5.below) a2
 exact xe 4 (.string ⟨(Zfa m).toArray⟩) ⟨rfl,hB⟩
theorem It(data n:Int)(d:Dv)(w:World)(h:DevOk data d)(hn:0≤n∧n≤16384) :
 C0 111 #[.agg #[V0 n,V0 d.1.2.1,V0 d.1.2.2.1,V0 d.1.2.2.2]] w (Ret (.string ⟨(Bb n d).toArray⟩) w):=by
 refine zin 14 Tryz.func111 ?_
 refine xa 2 [V0 n,V0 d.1.2.1,V0 d.1.2.2.1,V0 d.1.2.2.2] 176 fun b1 W1 n1=>?_
 refine xd 4 .z ?_
 have k1:=n1.blk.below (Za W1)
 refine xb (.e [1] 2) 0 k1 ?_
 refine xb (.e [3] 4) 1 k1 ?_
 refine xb (.e [5] 6) 2 k1 ?_
 refine xb (.e [7] 8) 3 k1 ?_
 refine xm2 0 0 9 ?_ ?_
 ·refine yc 0 (args:=#[]) .z (Gp _) ?_
  rintro _ W2 ⟨_,rfl,a2,gl,rfl,gg,kl⟩
  refine⟨a2,?_⟩
  refine xbs (.o [] 9) 4 [V0 n,V0 d.1.2.1,V0 d.1.2.2.1,V0 d.1.2.2.2] 3 fun b3 W3 n3=>?_
  have a0:=kl.below n3.below
  refine xr (.o [] 10) (args:=#[.slice (S1 gl) 4 4,.slice (S1 b3) 4 4]) (Ce Hm [n,d.1.2.1,d.1.2.2.1,d.1.2.2.2] (S1 gl) (S1 b3) 4 4 4 _ Zfe rfl rfl (a0.sl 4 4 (by decide) (by decide)) (n3.blk.sl 4 4 (by decide) (by decide)) (by have a:=h.tx;have b:=h.made;have c:=h.snap;unfold Gd;rw[show List.range 4=[0,1,2,3] from rfl];simp[inP,Hm,List.getD];omega)) fun W4 a3=>?_
  have hB:=bln (bln (bln (bln n1.below (Za W1)) a2) n3.below) a3
  exact xe (.r [11] 3) (.string ⟨(Bb n d).toArray⟩) ⟨rfl,hB⟩
 refine xbs 0 4 [V0 n,V0 d.1.2.1,V0 d.1.2.2.1,V0 d.1.2.2.2] 3 fun b5 W5 n5=>?_
 refine yc (.o [] 0) (args:=#[]) .z (Gp _) ?_
 rintro _ W6 ⟨_,rfl,a1,gl,rfl,gg,kl⟩
 refine⟨a1,?_⟩
 have k5:=n5.blk.below a1
 refine xr (.o [] 10) (args:=#[.slice (S1 gl) 4 4,.slice (S1 b5) 4 4]) (Ce Hm [n,d.1.2.1,d.1.2.2.1,d.1.2.2.2] (S1 gl) (S1 b5) 4 4 4 _ Zfe rfl rfl (kl.sl 4 4 (by decide) (by decide)) (k5.sl 4 4 (by decide) (by decide)) (by have a:=h.tx;have b:=h.made;have c:=h.snap;unfold Gd;rw[show List.range 4=[0,1,2,3] from rfl];simp[inP,Hm,List.getD];omega)) fun W7 a4=>?_
 have hB:=bln (bln (bln (bln n1.below (Za W1)) n5.below) a1) a4
 exact xe (.r [11] 3) (.string ⟨(Bb n d).toArray⟩) ⟨rfl,hB⟩
theorem F2_len(L:List Dv):Xu (F2 L)=My L+Xw 1 L.length+Xw 3 L.length:=by
 have e1:Xu (F1 L)=Xu (Mw L)+Xw 1 (Mf L (Ry L)).length:=Jk _ _
 have e2:Xu (F2 L)=Xu (F1 L)+Xw 3 (Mz L (Ww L)).length:=Jk _ _
 rw[Jn] at e1
 rw[Jj] at e2
 rw[devsN_forN] at e1
 omega
theorem base_split(x:Nat)(L:List Dv):Ej x L=1+Xu (F2 L)+Pa (Yp x L):=by
 have h:=F2_len L
 have h2:=Ls x L
 unfold Ej Pa
 rw[h2,Qc]
 omega
theorem Zag{x:Nat}{L:List Dv}{k:Nat}(h:Ms x L≤k):1+Xu (F2 L)+Pa (Yp x L)+2+bmN k≤k:=by
 have a:=need_room (m:=Ej x L+2) h
 have b:=base_split x L
 omega
theorem Zcg{L:List Dv}(i:Nat):Xu (Mw (L.take i))≤Xu (Mw L):=by
 have e:Mw L=Mw (L.take i)++Mw (L.drop i):=by rw[←Fg,List.take_append_drop]
 rw[e,Sm];omega
theorem size_FitsY(p:O0)(c n x k:Nat)(t u v:Int)(Z:List Zv)(w:World)(hZ:Z.length=n)(hP:DevsR w p c Z)(hk:PoolOk t u v (x:Int) (Z.map Prod.fst))(h1:Ms x (Z.map Prod.fst)≤k)(h2:k≤14400) :
 C0 35 #[.agg #[V0 t,V0 u,V0 v,V0 (x:Int),.slice p n c],V0 (k:Int)] w (Ret (.bool true) w):=by
 have a1:1≤Ms x (Z.map Prod.fst):=by unfold Ms Zfb;omega
 obtain⟨m,hm⟩:∃ y,Ms x (Z.map Prod.fst)=y:=⟨_,rfl⟩
 rw[hm] at h1 a1
 refine zin 19 Tryz.func35 ?_
 refine xa 2 [V0 t,V0 u,V0 v,V0 (x:Int),.slice p n c] 28 fun b1 W1 n1=>?_
 refine xlv 5 n1.blk.rp ?_
 refine xr 0 (args:=#[.agg #[V0 t,V0 u,V0 v,V0 (x:Int),.slice p n c]]) (by have q:=size_Need p c n x t u v Z _ hZ (hP.below n1.below) hk;rw[hm] at q;exact q) fun W2 a2=>?_
 refine xgk 8 [9,10] (show(decide ((m:Int)>(0:Int)):Bool)=true from decide_eq_true (by omega)) ?_
 refine xgk 5 [13,14,15] (show(decide ((k:Int)≥(m:Int)):Bool)=true from decide_eq_true (by omega)) ?_
 have a0:=bln n1.below a2
 exact xe 7 (.bool (decide ((k:Int)≤(14400:Int)))) ⟨by rw[decide_eq_true (by omega)],a0⟩
theorem Kh(w:World) :
 C0 37 #[.nilIface] w (Ret (.tuple #[]) w):=by
 refine zin 7 Tryz.func37 ?_
 exact xe 8 (.tuple #[]) ⟨rfl,(B4 w)⟩
theorem Zas(B ba b g nn cc:Nat)(pa:O0)(ca N:Nat)(bs:Bl)(F:List Gr)(t:Int)(a:O0)(c n:Nat)(l:List Ent)(w:World)(hl:l.length=n)(hC:AlC B ba nn cc ca 1 N)(hA:AlF B ba b g nn cc pa ca N bs F w)(hok:Ba (t,l))(hr:Xu (F++[(t,l)])≤N)(hin:∀ W,Below B w W→Zd [152,5,32] w W→Sl W (.slice a n c) n (l.flatMap Qz))(hBw:B≤w.heap.size) :
 C0 108 #[.agg #[P0 ba],V0 t,.slice a n c] w ((fun e w'=>e=.returned (V0 (↑(Xu (F++[(t,l)])):Int))∧Below B w w'∧Zd [152,5,32] w w'∧AlF B ba b g nn cc pa ca N bs (F++[(t,l)]) w')):=by
 refine zin 20 Tryz.func108 ?_
 refine xa 2 [P0 ba] 99 fun b1 W1 n1=>?_
 refine xb 6 0 n1.blk ?_
 have hB:=blB (Below.refl B w) hBw n1.below
 have hO:=(show Zd [152,5,32] w _ from(Zd.of_below n1.below))
 have a2:=hA.below n1.below
 refine xc 2 (args:=#[P0 ba,V0 t,.slice a n c]) (build_F B ba b g nn cc pa ca N bs F t a c n l _ hl hC a2 hok hr (fun W h1 h2=>hin W (hB.trans h1) (hO.trans h2)) (Nat.le_trans hBw hB.size)) ?_
 rintro _ W2 ⟨rfl,a6,a5,a7,hA⟩
 refine xr 10 (args:=#[.nilIface]) (Kh _) fun W3 a1=>?_
 have a3:=blB (hB.trans a6) hBw a1
 have a4:=(hO.trans a5).trans (Zd.of_below a1)
 have a0:=hA.below a1
 exact xe 9 (V0 (↑(Xu (F++[(t,l)])):Int)) ⟨rfl,a3,a4,a0⟩
theorem lay_maps(p:O0)(c:Nat)(data:Int)(m:List Mp)(w:World)(h:Sts Pj w (.slice p m.length c) m)(hok:MapsOk data m)(hd:data≤65536)(hf:m.length≤16384) :
 C0 109 #[.slice p m.length c] w (Vo (fun w' r=>∃ q d,r=.slice q m.length d∧w'.ownsRow w.heap.size 122 3 (.slice q m.length d) m.length ((Nl m).flatMap Qz)) w):=by
 have b5:=Sl.len h
 refine zin 25 Tryz.func109 ?_
 have hB:=Below.refl w.heap.size w
 refine zl 19 25 (fun zm b1 V=>∃ (k:Nat) (p1:O0) (c1:Nat),b1=[(2,S0),(3,.slice p1 k c1),(6,.slice p m.length c),(7,V0 (m.length:Int)),(8,V0 (k:Int))]∧zm=m.length-((k:Int)).toNat∧B3 w V∧V.ownsRow w.heap.size 122 3 (.slice p1 k c1) k (((Nl m).take k).flatMap Qz)∧k≤m.length) ⟨0,none,0,rfl,rfl,hB,World.ownsRow_nil _ _ _ _,Nat.zero_le _⟩ ?_
 rintro _ _ W1 ⟨k,p1,c1,rfl,rfl,a0,hl,hk⟩ J1 b0 r1
 refine xid 6 ((k:Int)<(m.length:Int)) (fun b4=>?_) (fun b4=>?_)
 ·have b9:=hok.each (m.getD k mpD) (gd_mem _ (by omega))
  refine xx 6 _ m.length k 3 (Sts.cell h Ya mpD (k:=k) (i:=0) (by omega) rfl).1 ?_
  refine xlv 0 (Sts.rp (k:=k) (h.below a0) Ya mpD (by omega) (by decide)) ?_
  refine xa 0 [V0 0,V0 0,V0 0] 46 fun b3 W3 n3=>?_
  have g3:=n3.ge a0
  refine xsv 0 n3.blk [V0 ((m.getD k mpD).1),V0 ((m.getD k mpD).2.1),V0 ((m.getD k mpD).2.2)] fun W4 u4 k4=>?_
  refine xd 2 (.t w.heap.size [122]) ?_
  have a1:=k4.below (Za W4)
  refine xbt (.e [0,1] 2) 0 w.heap.size [122] a1 ?_
  refine xbt (.e [3] 4) 1 w.heap.size [122] a1 ?_
  refine xbt (.e [5] 6) 2 w.heap.size [122] a1 ?_
  refine xr (.o [] 7) (args:=#[V0 ((m.getD k mpD).2.1),V0 ((m.getD k mpD).2.2)]) (value_MapP (m.getD k mpD) _ ⟨by omega,by omega⟩ ⟨by omega,by omega⟩) fun W5 a9=>?_
  refine xbs (.o [8] 9) 1 [V0 ((m.getD k mpD).1),.string ⟨(Zfa (m.getD k mpD)).toArray⟩,V0 0] 122 fun b6 W6 n6=>?_
  have a4:=bln (bln (u4.below (bln a0 n3.below) g3) (Za W4)) a9
  have g6:=n6.ge a4
  have a3:=Zb (Zb (u4.own2 (Zb hl n3.below) n3.blk (by decide)) (Za W4)) a9
  have a8:=Zu a3 n6
  have a2:=Zb a3 n6.below
  have a5:=bln a4 n6.below
  refine ybi (.o [] 10) (.t w.heap.size [122]) fun _ _ _ _ zJ zQ zo zx zy zK=>Xd (m:=1) (news:=[V0 ((m.getD k mpD).1),.string ⟨(Zfa (m.getD k mpD)).toArray⟩,V0 0]) (.agg #[V0 0,.string ⟨#[]⟩,V0 0]) 3 32 (k+1) ((((Nl m).take (k+1)).flatMap Qz)) zo Tryz.underlying105 (by kernel_rfl) rfl (by decide) zx a2 zy (n6.blk.sl 1 1 (by decide) (by decide)) rfl (by simp[Value.oneCell']) (by unfold maxLen;omega) (by omega) a5.size (by rfl) (by exact Zdq (by rw[Ja];omega) (Ph (by omega))) fun b8 b7 W7 o7 b2 a7=>?_
  refine zK _ _ (Xv a7 b2 a2 (by decide)) ?_
  refine xwm (.r [11] 4) ((k:Int)+1) (↑(k+1):Int) ?_
  have a6:=a5.trans a7
  exact ze 2 (b0 _ _ _ ⟨k+1,_,_,rfl,rfl,a6,o7,by omega⟩ (by omega))
 exact xe 12 (.slice p1 k c1) (by obtain rfl:k=m.length:=(by omega);have q:=hl;rw[List.take_of_length_le (by rw[Ja];omega)] at q;exact⟨_,rfl,a0,_,_,rfl,q⟩)
theorem Cl(B ba b g cc:Nat)(pa:O0)(ca f N k n:Nat)(bs:Bl)(w:World)(hA:Al B ba b g (n*256) cc pa ca f N k bs w)(hk:k+1≤n)(hn:n≤14400) :
 C0 70 #[.agg #[P0 ba]] w (Vo (fun w' r=>∃ q d,r=.slice (some q) n d∧w'.ownsRow w.heap.size 3 1 (.slice (some q) n d) n ((Qo (k+1) n).map V0)) w):=by
 refine zin 22 Tryz.func70 ?_
 refine xa 2 [P0 ba] 99 fun b1 W1 n1=>?_
 refine xb 6 0 n1.blk ?_
 refine xr 0 (args:=#[P0 ba]) (Qj ba b _ _ _ (hA.blkA.below n1.below)) fun W2 b3=>?_
 have a5:=bln n1.below b3
 refine xr 0 (args:=#[P0 b]) (by have q:=Yl b _ (n*256) _ _ (hA.blkI.below a5) (by omega);rw[show n*256/256=n by omega] at q;exact q) fun W3 b2=>?_
 refine xmk 0 fun _ _ _ _ zJ zQ zo zx zy zK=>Kw n (V0 0) 1 8 ((Qo 0 n).map V0) zo zx zy Tryz.underlying35 (by kernel_rfl) rfl (by omega) (by omega) ((self_make n)) fun b4 W4 n4=>?_
 have a6:=bln a5 b2
 have g4:=n4.ge a6
 refine zK _ _ ?_
 have a3:=((n1.blk.below b3).below b2).below n4.below
 refine xb 7 0 a3 ?_
 have a4:=bln a6 n4.below
 refine xr 0 (args:=#[P0 ba]) (alloc_Used ba b _ k _ (hA.blkA.below a4)) fun W5 b0=>?_
 refine xwm 0 ((k:Int)+1) (↑(k+1):Int) ?_
 have o4:=Zb (Xl (size:=1) (n:=n) n4.blk g4 (by rw[List.length_map,Yc,Nat.mul_one]) (by unfold maxLen;omega)) b0
 have a9:=bln a4 b0
 have a8:=a3.below b0
 refine zl 4 22 (fun zm b6 V=>∃ (i:Nat),b6=[(2,S0),(3,.slice (S1 b4) n n),(13,V0 (↑(k+1):Int)),(14,V0 (i:Int))]∧zm=(k+1)-((i:Int)).toNat∧B3 w V∧Blk V b1 ([P0 ba]) 99∧V.ownsRow w.heap.size 3 1 (.slice (S1 b4) n n) n ((Qo i n).map V0)∧i≤k+1) ⟨0,rfl,rfl,a9,a8,o4,Nat.zero_le _⟩ ?_
 rintro _ _ W6 ⟨i,rfl,rfl,a2,a1,ho,hi⟩ J6 b5 r6
 refine xid 6 ((i:Int)<(↑(k+1):Int)) (fun b7=>?_) (fun b7=>?_)
 ·refine xx 13 _ n i 1 (show(some (⟨b4,0,none⟩:Addr)).isSome=true from rfl) ?_
  refine xst 0 fun _ _ _ _ zJ zQ zo zx zy zK=>Ur (t:=3) (k:=i) (v:=V0 1) zo zx zy (by kernel_rfl) rfl ho (by omega) fun W8 u8 o8=>?_
  rw[self_set (i:=i) (n:=n) (by omega)] at o8
  refine zK _ _ ?_
  refine xwm 4 ((i:Int)+1) (↑(i+1):Int) ?_
  have a7:=u8.below a2 (Dr ho)
  have a0:=u8.blk a1 (Cc a1 ho (by decide))
  exact ze 2 (b5 _ _ _ ⟨i+1,rfl,rfl,a7,a0,o8,by omega⟩ (by omega))
 exact xe 12 (.slice (S1 b4) n n) (by obtain rfl:i=k+1:=(by omega);exact⟨_,rfl,a2,_,_,rfl,ho⟩)
theorem plot_layMN(B ba b g nn cc:Nat)(pa:O0)(ca f N k0:Nat)(bs:Bl)(bl B2:Nat)(pl:O0)(cl:Nat)(gs:List (Nat×Nat))(L:List (List Int))(n:Nat)(hn:L.length=n)(w:World)(hC:AlC B ba nn cc ca f N)(hA:Al B ba b g nn cc pa ca f N k0 bs w)(hL:Lists w B2 (.slice pl n cl) gs L)(hS:∀ i,i<L.length→Wp (L.getD i [])∧(L.getD i []).length≤960)(hf1:1≤f)(hk:k0+n≤N)(kl:Blk w bl [S0] 231)(hBl:B≤bl)(hBw:B≤w.heap.size) :
 C0 115 #[P0 ba,.slice pl n cl,.func (.func 126) #[] #[P0 bl]] w (fun e w'=>∃ p c,e=.returned .nilIface∧Below B w w'∧Zd [152,5,231,217] w w'∧Fr ([ba,g]++[bl]) w w'∧Al B ba b g nn cc pa ca f N (k0+n) (Jl L (f+k0) bs n) w'∧Blk w' bl [.slice p n c] 231∧w'.ownsRow w.heap.size 217 3 (.slice p n c) n (rsL L (f+k0) n)):=by
 subst hn;exact plot_layM B ba b g nn cc pa ca f N k0 bs bl B2 pl cl gs L w hC hA hL hS hf1 hk kl hBl hBw
def MetaP(B ba b g nn cc:Nat)(pa:O0)(ca f N k0:Nat)(bs:Bl)(l:List Int)(w:World)(e:Ending)(w':World):Prop :=
 e=.returned (.tuple #[V0 (Ed l f k0 bs).1,V0 (Ed l f k0 bs).2.1,.nilIface])∧Below B w w'∧Zd [152,5,231,217,32] w w'∧Fr [ba,g] w w'∧Al B ba b g nn cc pa ca f N (k0+Qb l) (Ed l f k0 bs).2.2 w'
theorem Bw(B ba b g nn cc:Nat)(pa:O0)(ca f N k0:Nat)(bs:Bl)(a:Addr)(c:Nat)(l:List Int)(w:World)(hC:AlC B ba nn cc ca f N)(hA:Al B ba b g nn cc pa ca f N k0 bs w)(h:Sl w (.slice (some a) l.length c) l.length (l.map V0))(hl:l.length≤3000)(hlen:l.length=nn/256)(hs:Jd l=0)(hkN:k0≤N)(hk:k0+Qb l≤N)(hf1:1≤f)(hfree2:FreeOk l ((f+k0:Nat):Int))(hBw:B≤w.heap.size) :
 C0 69 #[P0 ba,.slice (some a) l.length c] w (MetaP B ba b g nn cc pa ca f N k0 bs l w):=by
 have hW:Sin w w:=⟨Below.refl _ _⟩
 have j9:=hC.hf
 have k5:=hC.hn
 have g6:=Rp hs
 have j8:=Lz l l.length
 have i6:Qb l=(Xw 5 (Zz l l.length).length)+(bmN l.length)+1:=rfl
 have k4:=Hu 5 (Zz l l.length).length
 have k6:bmN l.length≤4:=by unfold bmN;omega
 have i3:Jd (Vr l (f+k0) (Qb l))=0:=by unfold Jd;rw[if_neg (by rw[Vv];omega),if_pos (Zg6 hfree2 g6.2)]
 have g8:=De (Zg6 (n:=Qb l) hfree2 g6.2) (bmN l.length)
 refine zin 120 Tryz.func69 ?_
 refine xr 10 (args:=#[P0 ba]) (Qj ba b _ _ _ (hA.below hW.b).blkA) fun W1 b2=>?_
 have c7:=hW.below b2
 refine xr 19 (args:=#[P0 b]) (Yl b _ nn cc _ (hA.below c7.b).blkI (by omega)) fun W2 a7=>?_
 refine xk 3 (show(((l.length:Int) != (↑(nn/256):Int)):Bool)=false from by rw[hlen];simp) ?_
 have c4:=c7.below a7
 refine xc 5 (args:=#[.slice (some a) l.length c]) (Cx l.length (some a) c l _ rfl (Sl.below h c4.b) (by omega) hs) ?_
 rintro _ W3 ⟨j1,j7,j4,po,co,rfl,b7,k2,e0⟩
 have h6:=(blB (blB (Below.refl B w) hBw b2) hBw a7).size
 refine xr 23 (args:=#[V0 5,V0 (↑((Zz l l.length).length):Int)]) (Qq 5 (Zz l l.length).length _ (by decide) (by decide) (by omega)) fun W4 a6=>?_
 refine xr 2 (args:=#[V0 (l.length:Int)]) (Dp l.length _ (by omega)) fun W5 b5=>?_
 refine xwm 0 ((↑(Xw 5 (Zz l l.length).length):Int)+(↑(bmN l.length):Int)) (↑((Xw 5 (Zz l l.length).length)+(bmN l.length)):Int) ?_
 refine xwm 0 ((↑((Xw 5 (Zz l l.length).length)+(bmN l.length)):Int)+1) (↑(((Xw 5 (Zz l l.length).length)+(bmN l.length))+1):Int) ?_
 have d3:=((c4.below b7).below a6).below b5
 refine xr 7 (args:=#[P0 ba]) (Cd ba b pa N ca k0 _ (hA.below d3.b).blkA hkN) fun W6 b4=>?_
 refine xk 4 (show(decide ((↑(N-k0):Int)<(↑(((Xw 5 (Zz l l.length).length)+(bmN l.length))+1):Int)):Bool)=false from decide_eq_false (by omega)) ?_
 have b6:=d3.below b4
 have i1:=b6.b.size
 refine xc 5 (args:=#[.slice (some a) l.length c]) (Lr a l.length c (l.map V0) _ (Sl.below h b6.b) (by simp) (Zgi _) (by omega)) ?_
 rintro _ W7 ⟨_,rfl,b9,qb,cq,rfl,g5⟩
 have i4:=(blB (blB (blB (blB (blB (blB (Below.refl B w) hBw b2) hBw a7) hBw b7) hBw a6) hBw b5) hBw b4).size
 have a0:=Zh g5 i1
 have b1:=b6.below b9
 have h9:=b1.b.size
 have f0:=a0
 refine xc 8 (args:=#[P0 ba,V0 (↑(((Xw 5 (Zz l l.length).length)+(bmN l.length))+1):Int)]) (Zbe (Qb l) B ba b g nn cc pa ca f N k0 bs _ hC (hA.below b1.b) hkN (by omega) (by omega) (by omega)) ?_
 rintro _ W8 ⟨_,rfl,b8,qa,h1,rfl,d7⟩
 have i5:=(blB (blB (blB (blB (blB (blB (blB (Below.refl B w) hBw b2) hBw a7) hBw b7) hBw a6) hBw b5) hBw b4) hBw b9).size
 have h8:=Jt.of_lt f0 d7 (Nat.le_refl _)
 have d4:=Zh d7 h9
 have a3:=Zb a0 b8
 obtain⟨gb,rfl,k1⟩:=Lw a3 (by omega)
 have c6:=Zb (Zb (Zb (Zb (Zb (Zh e0 h6) a6) b5) b4) b9) b8
 have g2:=b1.below b8
 have hB:=blB (blB (blB (blB (blB (blB (blB (blB (Below.refl B w) hBw b2) hBw a7) hBw b7) hBw a6) hBw b5) hBw b4) hBw b9) hBw b8
 have hX:=(((((((show Fr [ba,g] w _ from(Fr.of_below b2)).trans (Fr.of_below a7)).trans (Fr.of_below b7)).trans (Fr.of_below a6)).trans (Fr.of_below b5)).trans (Fr.of_below b4)).trans (Fr.of_below b9)).trans (Fr.of_below b8)
 have hO:=(((((((show Zd [152,5,231,217,32] w _ from(Zd.of_below b2)).trans (Zd.of_below a7)).trans (Zd.of_below b7)).trans (Zd.of_below a6)).trans (Zd.of_below b5)).trans (Zd.of_below b4)).trans (Zd.of_below b9)).trans (Zd.of_below b8)
 refine zl 5 120 (fun zm h3 V=>∃ (i:Nat),h3=[(0,P0 ba),(4,V0 0),(5,V0 0),(6,.nilIface),(9,.slice po ((Zz l l.length).length) co),(10,V0 0),(12,.slice (S1 gb) l.length cq),(61,.slice qa (Qb l) h1),(62,V0 (↑(Qb l):Int)),(63,V0 (i:Int))]∧zm=Qb l-((i:Int)).toNat∧Below B w V∧Fr [ba,g] w V∧Zd [152,5,231,217,32] w V∧V.ownsRow w.heap.size 3 1 (.slice (S1 gb) l.length cq) l.length ((Vr l (f+k0) i).map V0)∧V.ownsRow w.heap.size 3 1 (.slice qa (Qb l) h1) (Qb l) ((((Az f N).drop k0).take (Qb l)).map V0)∧V.ownsRow w.heap.size 122 3 (.slice po ((Zz l l.length).length) co) ((Zz l l.length).length) ((Zz l l.length).flatMap Qz)∧Sin w V∧i≤Qb l) ⟨0,rfl,rfl,hB,hX,hO,(by rw[bumpL_zero];exact a3),d4,c6,g2,Nat.zero_le _⟩ ?_
 rintro _ _ W9 ⟨i,rfl,rfl,a9,c2,d6,a0,d4,e0,hW,hi⟩ J9 i2 r9
 have j0:i<Qb l→l.getD (f+k0+i) 0=0:=fun q=>(hfree2 (f+k0+i) (by omega)).1 (by omega)
 refine xid 6 ((i:Int)<(↑(Qb l):Int)) (fun f7=>?_) (fun f7=>?_)
 ·refine xx 6 _ (Qb l) i 1 (Ty (Zf d4) (by omega) (i:=i) (by omega)).1 ?_
  refine xl 0 ((Ty (Zf d4) (by omega) (i:=i) (by omega)).2) ?_
  refine xx 6 _ l.length (f+k0+i) 1 (Tb (Zf a0) rfl (q:=f+k0) (i:=i) (by omega)).1 ?_
  refine xl 0 ((Tb (Zf a0) rfl (q:=f+k0) (i:=i) (by omega)).2) ?_
  refine xw 0 ((l.getD (f+k0+i) 0)+1) ?_
  refine xx 0 _ l.length (f+k0+i) 1 (Tb (Zf a0) rfl (q:=f+k0) (i:=i) (by omega)).1 ?_
  refine xst 0 fun _ _ _ _ zJ zQ zo zx zy zK=>Ur (t:=3) (k:=(f+k0+i)) (v:=V0 ((l.getD (f+k0+i) 0)+1)) zo zx zy (by kernel_rfl) rfl a0 (by omega) fun k3 c0 h0=>?_
  rw[bumpL_set (l:=l) (f:=f+k0) (j:=i) (by omega)] at h0
  refine zK _ _ ?_
  refine xwm 4 ((i:Int)+1) (↑(i+1):Int) ?_
  have e6:=c0.below a9 (Nat.le_trans hBw (Dr a0))
  have e8:=(Fr.upd_new c2 c0 (Dr a0))
  have e4:=(Zd.upd_new d6 c0 (Dr a0))
  have c3:=c0.own3 d4 (fun j hj e=>h8 _ rfl (e▸hj))
  have c1:=c0.ownRow e0 a0 (by decide)
  have f8:=hW.upd c0 (Dr a0)
  exact ze 2 (i2 _ _ _ ⟨i+1,rfl,rfl,e6,e8,e4,h0,c3,c1,f8,by omega⟩ (by omega))
 refine xc 9 (args:=#[P0 ba,V0 5,.slice po ((Zz l l.length).length) co]) (Un B ba b g nn cc pa ca f N k0 bs 5 po co (Zz l l.length) (Zz l l.length).length _ rfl hC (hA.below hW.b) (by decide) (by decide) (Ln _ _ (by omega)) (by omega) hf1 (by omega) (by omega) (fun W _ h2=>Zf (Zi e0 h2 (by decide))) (Nat.le_trans hBw a9.size)) ?_
 rintro _ j3 ⟨rfl,e9,c9,g3,b3⟩
 have d2:=Zi a0 c9 (by decide)
 refine xc 20 (args:=#[.slice (S1 gb) l.length cq]) (Cx l.length (S1 gb) cq (Vr l (f+k0) (Qb l)) _ (Vv _ _ _) (by have hh:=Zf d2;rw[show i=Qb l by omega] at hh;exact hh) (by omega) i3) ?_
 rintro _ i9 ⟨pb,cb,gs,i8,j5,rfl,a2,hL,i0⟩
 refine xa 21 [S0] 231 fun g7 j2 a4=>?_
 have a8:=blB (a9.trans e9) hBw a2
 have g9:=a4.ge0 a8
 have d0:=(b3.below a2).below a4.below
 have g0:=hL.below a4.below
 have b0:=blB a8 hBw a4.below
 refine xc 8 (args:=#[P0 ba,.slice pb (bmN l.length) cb,.func (.func 126) #[] #[P0 g7]]) (plot_layMN B ba b g nn cc pa ca f N (k0+(Xw 5 (Zz l l.length).length)) (Yz 5 (Zz l l.length) (f+k0) bs).2 g7 _ pb cb gs (Xs (Zw (Vr l (f+k0) (Qb l))) (bmN l.length)) (bmN l.length) (Hw _ _) _ hC d0 g0 g8 hf1 (by omega) a4.blk (Nat.le_trans hBw g9) (Nat.le_trans hBw b0.size)) ?_
 rintro _ k7 ⟨p8,c8,rfl,d9,f5,f6,b3,h5,h4⟩
 have g1:=(blB a8 hBw a4.below).size
 refine xb 14 0 h5 ?_
 have d5:=Zh h4 g1
 refine xc 0 (args:=#[.slice p8 (bmN l.length) c8]) (slots_PutN (bmN l.length) p8 c8 (Rs (Xs (Zw (Vr l (f+k0) (Qb l))) (bmN l.length)) (f+(k0+(Xw 5 (Zz l l.length).length))) (bmN l.length)) _ (Fv _ _ _) (rs_ok g8 (Hw _ _) (by omega) (by omega) (by omega)) (Rs_sts (Zf d5))) ?_
 rintro _ i7 ⟨_,rfl,a1,pz,cz,rfl,h7⟩
 have e5:=(b0.trans d9).size
 have d1:=b3.below a1
 have a5:=((((d6.trans (c9.wide)).trans (Zd.of_below a2)).trans (Zd.of_below a4.below)).trans (f5.wide)).trans (Zd.of_below a1)
 have c5:=Zh h7 e5
 have d8:=blB (b0.trans d9) hBw a1
 refine xc 21 (args:=#[P0 ba,V0 4,.slice pz 244 cz]) (Pp B ba b g nn cc pa ca f N (k0+(Xw 5 (Zz l l.length).length)+(bmN l.length)) (Jl (Xs (Zw (Vr l (f+k0) (Qb l))) (bmN l.length)) (f+(k0+(Xw 5 (Zz l l.length).length))) (Yz 5 (Zz l l.length) (f+k0) bs).2 (bmN l.length)) 4 pz cz (idxB (Rs (Xs (Zw (Vr l (f+k0) (Qb l))) (bmN l.length)) (f+(k0+(Xw 5 (Zz l l.length).length))) (bmN l.length))) (f+(k0+(Xw 5 (Zz l l.length).length)+(bmN l.length))) 244 _ rfl (Oe (by rw[Fv];omega)) hC d1 (by omega) (by decide) (by decide) (fun W _ a5=>Qu (Zf (Zi c5 a5 (by decide))) (Oe (by rw[Fv];omega))) (by decide) (Nat.le_trans hBw d8.size)) ?_
 rintro _ j6 ⟨rfl,f4,f3,f2,b3⟩
 have f1:=d8.trans f4
 have f9:=a5.trans (f3.wide)
 have e7:=((Fr.trans_new (((c2.trans (g3.mono (by simp))).trans (Fr.of_below a2)).trans (Fr.of_below a4.below)) f6 g9).trans (Fr.of_below a1)).trans (f2.mono (by simp))
 refine xe 27 (.tuple #[V0 (↑(f+(k0+(Xw 5 (Zz l l.length).length)+(bmN l.length))):Int),V0 ((Yz 5 (Zz l l.length) (f+k0) bs).1),.nilIface]) ?_
 have e1:f+(k0+(Xw 5 (Zz l l.length).length)+(bmN l.length))=f+k0+(Xw 5 (Zz l l.length).length)+(bmN l.length):=by omega
 have e2:f+(k0+(Xw 5 (Zz l l.length).length))=f+k0+(Xw 5 (Zz l l.length).length):=by omega
 rw[e1,e2] at b3
 rw[e1]
 have e3:k0+(Xw 5 (Zz l l.length).length)+(bmN l.length)+1=k0+Qb l:=by omega
 rw[e3] at b3
 refine⟨?_,f1,f9,e7,?_⟩
 ·unfold Ed;rw[Zhi]
 ·unfold Ed;rw[Zhi];exact b3
theorem dvs_getZ{Z:List Zv}{L:List Dv}(hL:Z.map Prod.fst=L){i:Nat}(h:i<Z.length):L.getD i dvD=(Z.getD i zvD).1:=by rw[←hL];exact zfst h _
theorem F1_le(L:List Dv):Xu (Mw L)+1≤Xu (F1 L)∧Xu (F1 L)+1≤Xu (F2 L):=by
 have e1:Xu (F1 L)=Xu (Mw L)+Kr (1,Mf L (Ry L)):=Jk _ _
 have e2:Xu (F2 L)=Xu (F1 L)+Kr (3,Mz L (Ww L)):=Jk _ _
 have:=Lb (1,Mf L (Ry L))
 have:=Lb (3,Mz L (Ww L))
 omega
theorem Mi(B ba b g nn cc:Nat)(pa:O0)(ca N:Nat)(bs:Bl)(p:O0)(c n:Nat)(data:Int)(Z:List Zv)(L:List Dv)(w:World)(hZ:Z.length=n)(hL:Z.map Prod.fst=L)(hD:DevsOk data L)(hd:data≤65536)(hP:∀ W,Below B w W→DevsR W p c Z)(hC:AlC B ba nn cc ca 1 N)(hA:AlF B ba b g nn cc pa ca N bs [] w)(hr:Xu (F2 L)≤N)(hBw:B≤w.heap.size) :
 C0 66 #[.agg #[P0 ba],.slice p n c] w ((fun e w'=>e=.returned (.tuple #[V0 (↑(Xu (F1 L)):Int),V0 (↑(Xu (F2 L)):Int)])∧Below B w w'∧Zd [152,5,32,122] w w'∧AlF B ba b g nn cc pa ca N bs (F2 L) w')):=by
 have h9:∀ W,Below B w W→Zd [152,5,32,122] w W→DevsR W p c Z:=fun W h _=>hP W h
 have k0:L.length=n:=by rw[←hL,List.length_map];exact hZ
 have k3:=F1_le L
 have j0:=hD.few
 have k6:N≤14400:=by have a:=hC.hf;have b:=hC.hn;omega
 have l3:=Sl.len ((hP w (Below.refl _ _)).rowN hZ)
 refine zin 58 Tryz.func66 ?_
 refine xa 2 [P0 ba] 99 fun b1 W1 n1=>?_
 have g7:=hA.below n1.below
 have hB:=blB (Below.refl B w) hBw n1.below
 have hO:=(show Zd [152,5,32,122] w _ from(Zd.of_below n1.below))
 refine zl 19 58 (fun zm i4 V=>∃ (i:Nat) (p7:O0) (c7:Nat) (p8:O0) (c8:Nat),i4=[(2,P0 b1),(4,V0 0),(5,V0 0),(6,.slice p7 i c7),(7,.slice p8 i c8),(13,.slice p n c),(14,V0 (n:Int)),(15,V0 (i:Int))]∧zm=n-((i:Int)).toNat∧Below B w V∧Zd [152,5,32,122] w V∧Blk V b1 ([P0 ba]) 99∧V.ownsRow w.heap.size 122 3 (.slice p7 i c7) i (((Mf L (Ry L)).take i).flatMap Qz)∧V.ownsRow w.heap.size 122 3 (.slice p8 i c8) i (((Mz L (Ww L)).take i).flatMap Qz)∧AlF B ba b g nn cc pa ca N bs (Mw (L.take i)) V∧i≤n∧Jt (.slice p7 i c7) (.slice p8 i c8)) ⟨0,none,0,none,0,rfl,rfl,hB,hO,n1.blk,World.ownsRow_nil _ _ _ _,World.ownsRow_nil _ _ _ _,g7,Nat.zero_le _,Jt.nil _⟩ ?_
 rintro _ _ W2 ⟨i,p7,c7,p8,c8,rfl,rfl,a4,d5,b5,d1,d3,hA,hi,d4⟩ J2 j7 r2
 refine xid 6 ((i:Int)<(n:Int)) (fun i6=>?_) (fun i6=>?_)
 ·have e0:=dvs_getZ hL (i:=i) (by omega)
  have j2:=Zf5 (L:=L) (i:=i) (by omega)
  rw[e0] at j2
  have j9:=hD.sum
  have f9:=(hD.each (L.getD i dvD) (gd_mem _ (by omega))).maps
  have f2:=hD.each (L.getD i dvD) (gd_mem _ (by omega))
  rw[e0] at f9 f2
  have i1:Mw (L.take i)++[(2,Nl (Z.getD i zvD).1.2)]=Mw (L.take (i+1)):=by rw[Zbp (by omega),e0]
  have i9:Ba (2,Nl (Z.getD i zvD).1.2):=by rw[←e0];exact dev_treeOk hD (by omega)
  have k2:=rootR_pos (L:=L) (i:=i) (by omega)
  have k1:=Zcg (L:=L) (i+1)
  refine xx 6 _ n i 5 ((hP _ (Below.refl _ _)).someN hZ (i:=i) (by omega)) ?_
  refine xlv 0 (Sts.rp (k:=i) (h9 _ a4 d5).row Gg zvD (by omega) (by decide)) ?_
  refine xa 0 [V0 0,V0 0,V0 0,V0 0,S0] 42 fun b4 W4 n4=>?_
  have g4:=n4.ge0 a4
  refine xsv 0 n4.blk [V0 ((Z.getD i zvD).1.1.1),V0 ((Z.getD i zvD).1.1.2.1),V0 ((Z.getD i zvD).1.1.2.2.1),V0 ((Z.getD i zvD).1.1.2.2.2),.slice ((Z.getD i zvD).2.1) ((Z.getD i zvD).1.2.length) ((Z.getD i zvD).2.2)] fun W5 u5 k5=>?_
  refine xd 3 (.t B [152,5,32,122]) ?_
  have a2:=(u5.blkT (b5.below n4.below) n4.blk (by decide)).below (Za W5)
  refine xlvt (.e [] 0) (.t B [152,5,32,122]) (fun V hV=>(a2.only hV.2 (by decide)).rp) ?_
  have f7:=k5.below (Za W5)
  refine xbt (.e [1] 2) 4 B [152,5,32,122] f7 ?_
  have e1:=(Zd.upd_new (d5.trans (Zd.of_below n4.below)) u5 g4).trans (Zd.of_below (Za W5))
  have e3:=blB (u5.below (blB a4 hBw n4.below) (Nat.le_trans hBw g4)) hBw (Za W5)
  refine yc (.o [] 3) (args:=#[.slice ((Z.getD i zvD).2.1) ((Z.getD i zvD).1.2.length) ((Z.getD i zvD).2.2)]) (.t B [152,5,32,122]) (lay_maps (Z.getD i zvD).2.1 (Z.getD i zvD).2.2 data (Z.getD i zvD).1.2 _ ((h9 _ e3 e1).each i (by omega)) f9 hd (by omega)) ?_
  rintro _ W6 ⟨_,rfl,c9,ql,dl,rfl,j4⟩
  have i5:=(blB (u5.below (blB a4 hBw n4.below) (Nat.le_trans hBw g4)) hBw (Za W5)).size
  refine⟨(SF.of_below _ c9),?_⟩
  have c4:=Zh j4 i5
  have g6:=(((hA.below n4.below).only (Zd.of_upd (T:=[42]) u5 n4.blk (by decide)) (by decide)).below (Za W5)).below c9
  have e5:=blB e3 hBw c9
  refine yc (.o [] 4) (args:=#[.agg #[P0 ba],V0 2,.slice ql ((Z.getD i zvD).1.2.length) dl]) (.t B [152,5,32,122]) (by have q:=Zas B ba b g nn cc pa ca N bs (Mw (L.take i)) 2 ql dl (Z.getD i zvD).1.2.length (Nl (Z.getD i zvD).1.2) _ (by rw[Ja]) hC g6 (i9) (by rw[i1];have:=Zcg (L:=L) (i+1);omega) (fun W _ h2=>Zf (Zi c4 h2 (by decide))) (Nat.le_trans hBw e5.size);rw[i1] at q;exact q) ?_
  rintro _ W7 ⟨rfl,i2,d6,hA⟩
  refine⟨(Ha i2 d6),?_⟩
  refine xd (.r [5] 3) (.t B [122]) ?_
  have f8:=((f7.below c9).only d6 (by decide)).below (Za W7)
  refine xbt (.e [0,1] 2) 0 B [122] f8 ?_
  refine xr (.o [3] 4) (args:=#[V0 (↑(Xu (Mw (L.take (i+1)))):Int)]) (Ig (↑(Xu (Mw (L.take (i+1)))):Int) (by omega) (by omega) _) fun W8 c5=>?_
  refine xbs (.o [5] 6) 1 [V0 ((Z.getD i zvD).1.1.1),.string ⟨(leB (↑(Xu (Mw (L.take (i+1)))):Int) 4).toArray⟩,V0 0] 122 fun b9 W9 n9=>?_
  have f1:=blB (blB (e5.trans i2) hBw (Za W7)) hBw c5
  have g9:=n9.ge0 f1
  have b3:=Zb (Zb (Zi (Zb (Zb (u5.own2 (Zb d1 n4.below) n4.blk (by decide)) (Za W5)) c9) d6 (by decide)) (Za W7)) c5
  have g0:=Zu b3 n9
  have a8:=Zb (Zb (Zi (Zb (Zb (u5.own2 (Zb d3 n4.below) n4.blk (by decide)) (Za W5)) c9) d6 (by decide)) (Za W7)) c5
  have g1:=Zu a8 n9
  have e2:=Zb (Zb (Zi c4 d6 (by decide)) (Za W7)) c5
  have h0:=Zu e2 n9
  have a0:=Zb b3 n9.below
  have f5:=blB f1 hBw n9.below
  refine ybi (.o [] 7) (.t B [122]) fun _ _ _ _ zJ zQ zo zx zy zK=>Ud (b:=b9) (c:=1) (m:=1) (news:=[V0 ((Z.getD i zvD).1.1.1),.string ⟨(leB (↑(Xu (Mw (L.take (i+1)))):Int) 4).toArray⟩,V0 0]) (.agg #[V0 0,.string ⟨#[]⟩,V0 0]) 3 32 (i+1) ((((Mf L (Ry L)).take (i+1)).flatMap Qz)) zo Tryz.underlying105 (by kernel_rfl) rfl (by decide) zx a0 zy n9.blk rfl (by simp[Value.oneCell']) (by unfold maxLen;omega) (by omega) f5.size (by rfl) (by have e:=Wn (L:=L) (R:=Ry L) (i:=i) (by omega);rw[e0] at e;exact Zdq (by rw[Jn];omega) e) fun j5 j6 l4 j1 a5 f3 h1=>?_
  have b0:=Zb a8 n9.below
  have b2:=d4.row b0 a5
  replace d4:=(d4.grow b0 h1)
  have b8:=b2
  refine zK _ _ (Xv (f3.mono hBw) a5 a0 (by decide)) ?_
  have a7:=((f8.below c5).below n9.below).grown a5 a0 (by decide)
  refine xb (.r [8] 5) 4 a7 ?_
  refine xb 2 1 a7 ?_
  refine xb 1 2 a7 ?_
  refine xb 1 3 a7 ?_
  refine xa 1 [V0 0,V0 0,V0 0,V0 0] 176 fun k8 l5 a3=>?_
  have e7:=f5.trans (f3.mono hBw)
  have i0:=a3.ge0 e7
  refine xsv 0 a3.blk [V0 (↑((Z.getD i zvD).1.2.length):Int),V0 ((Z.getD i zvD).1.1.2.1),V0 ((Z.getD i zvD).1.1.2.2.1),V0 ((Z.getD i zvD).1.1.2.2.2)] fun c6 d8 i8=>?_
  refine xd 2 (.t B [122]) ?_
  have h3:=(d8.blkT (a7.below a3.below) a3.blk (by decide)).below (Za c6)
  refine xbt (.e [0,1] 2) 0 B [122] h3 ?_
  have e6:=i8.below (Za c6)
  refine xlvt (.e [] 3) (.t B [122]) (fun V hV=>(e6.only hV.2 (by decide)).rp) ?_
  refine xr (.o [] 4) (args:=#[.agg #[V0 (↑((Z.getD i zvD).1.2.length):Int),V0 ((Z.getD i zvD).1.1.2.1),V0 ((Z.getD i zvD).1.1.2.2.1),V0 ((Z.getD i zvD).1.1.2.2.2)]]) (It data (↑(Z.getD i zvD).1.2.length:Int) (Z.getD i zvD).1 _ f2 ⟨by omega,by omega⟩) fun k7 a6=>?_
  refine xbs (.o [5] 6) 1 [V0 ((Z.getD i zvD).1.1.1),.string ⟨(Bb (↑(Z.getD i zvD).1.2.length:Int) (Z.getD i zvD).1).toArray⟩,V0 0] 122 fun j3 l0 b7=>?_
  have e8:=blB (blB (d8.below (blB e7 hBw a3.below) (Nat.le_trans hBw i0)) hBw (Za c6)) hBw a6
  have l1:=b7.ge0 e8
  have a9:=Zb (Zb (d8.own2 (Zb b8 a3.below) a3.blk (by decide)) (Za c6)) a6
  have f4:=Zu a9 b7
  have c3:=Zb (Zb (d8.own2 (Zb j1 a3.below) a3.blk (by decide)) (Za c6)) a6
  have g2:=Zu c3 b7
  have a1:=Zb a9 b7.below
  have e4:=blB e8 hBw b7.below
  refine ybi (.o [] 7) (.t B [122]) fun _ _ _ _ zJ zQ zo zx zy zK=>Ud (b:=j3) (c:=1) (m:=1) (news:=[V0 ((Z.getD i zvD).1.1.1),.string ⟨(Bb (↑(Z.getD i zvD).1.2.length:Int) (Z.getD i zvD).1).toArray⟩,V0 0]) (.agg #[V0 0,.string ⟨#[]⟩,V0 0]) 3 32 (i+1) ((((Mz L (Ww L)).take (i+1)).flatMap Qz)) zo Tryz.underlying105 (by kernel_rfl) rfl (by decide) zx a1 zy b7.blk rfl (by simp[Value.oneCell']) (by unfold maxLen;omega) (by omega) e4.size (by rfl) (by have e:=Wj (L:=L) (C:=Ww L) (i:=i) (by omega);unfold Ww at e;rw[e0] at e;exact Zdq (by rw[Jj];omega) e) fun i3 j8 l6 i7 b6 f6 g5=>?_
  have d0:=Zb c3 b7.below
  have c1:=d4.symm.row d0 b6
  replace d4:=(d4.symm.grow d0 g5).symm
  have d7:=c1
  refine zK _ _ (Xv (f6.mono hBw) b6 a1 (by decide)) ?_
  refine xwm (.r [8] 4) ((i:Int)+1) (↑(i+1):Int) ?_
  have g8:=e4.trans (f6.mono hBw)
  have g3:=(Zd.grown_new ((((Zd.upd_new ((Zd.grown_new (((((e1.trans (Zd.of_below c9)).trans (d6.wide (by decide))).trans (Zd.of_below (Za W7))).trans (Zd.of_below c5)).trans (Zd.of_below n9.below)) a5 a0).trans (Zd.of_below a3.below)) d8 i0).trans (Zd.of_below (Za c6))).trans (Zd.of_below a6)).trans (Zd.of_below b7.below)) b6 a1)
  have c0:=((((d8.blkT (((((((a2.below c9).only d6 (by decide)).below (Za W7)).below c5).below n9.below).grown a5 a0 (by decide)).below a3.below) a3.blk (by decide)).below (Za c6)).below a6).below b7.below).grown b6 a1 (by decide)
  have h4:=(((((((((hA.below (Za W7)).below c5).below n9.below).only (Zd.of_grown (T:=[122]) a5 a0 (by decide)) (by decide)).below a3.below).only (Zd.of_upd (T:=[176]) d8 a3.blk (by decide)) (by decide)).below (Za c6)).below a6).below b7.below).only (Zd.of_grown (T:=[122]) b6 a1 (by decide)) (by decide)
  exact ze 2 (j7 _ _ _ ⟨i+1,_,_,_,_,rfl,rfl,g8,g3,c0,d7,i7,h4,by omega,d4⟩ (by omega))
 have k9:i=n:=by omega
 rw[List.take_of_length_le (by rw[Jn];omega)] at d1
 rw[List.take_of_length_le (by rw[Jj];omega)] at d3
 rw[show L.take i=L from List.take_of_length_le (by omega)] at hA
 refine xlv 7 b5.rp ?_
 refine xc 1 (args:=#[.agg #[P0 ba],V0 1,.slice p7 i c7]) (by have q:=Zas B ba b g nn cc pa ca N bs (Mw L) 1 p7 c7 i ((Mf L (Ry L))) _ (by rw[Jn];omega) hC hA (top_ok hD) (by show Xu (F1 L)≤N;omega) (fun W _ h2=>Zf (Zi d1 h2 (by decide))) (Nat.le_trans hBw a4.size);exact q) ?_
 rintro _ k4 ⟨rfl,h7,d9,hA⟩
 have c2:=b5.only d9 (by decide)
 refine xlv 6 c2.rp ?_
 have d2:=Zi d3 d9 (by decide)
 have e9:=a4.trans h7
 refine xc 1 (args:=#[.agg #[P0 ba],V0 3,.slice p8 i c8]) (by have q:=Zas B ba b g nn cc pa ca N bs (F1 L) 3 p8 c8 i ((Mz L (Ww L))) _ (by rw[Jj];omega) hC hA (det_ok hD) (by show Xu (F2 L)≤N;omega) (fun W _ h2=>Zf (Zi d2 h2 (by decide))) (Nat.le_trans hBw e9.size);exact q) ?_
 rintro _ l2 ⟨rfl,h6,h5,hA⟩
 have f0:=e9.trans h6
 have h8:=(d5.trans (d9.wide (by decide))).trans (h5.wide (by decide))
 exact xe 5 (.tuple #[V0 (↑(Xu (F1 L)):Int),V0 (↑(Xu (F2 L)):Int)]) ⟨rfl,f0,h8,hA⟩
def Mg(L:List Dv)(k:Nat):Bl:=Zdd (F2 L) 1 (List.replicate (k*256) (0:UInt8))
def Nj(x:Nat)(L:List Dv):Nat:=Xu (F2 L)+Pa (Yp x L)
def Gb(x:Nat)(L:List Dv)(k:Nat):Int×Int×Bl:=Iz (Yp x L) (1+Xu (F2 L)) (Mg L k)
def Nw(x:Nat)(L:List Dv)(k:Nat):Int×Int×Bl:=Ed (Qo (Nj x L+1) k) 1 (Nj x L) (Gb x L k).2.2
def layS(t u v:Int)(x:Nat)(L:List Dv)(k:Nat):Sup:=⟨t,u,v,(x:Int),(k:Int),(Xu (F1 L):Int),(Xu (F2 L):Int),(Gb x L k).1,(Gb x L k).2.1,(Nw x L k).1,(Nw x L k).2.1⟩
def Eh(t u v:Int)(x:Nat)(L:List Dv)(k:Nat):Bl:=Kn (Nw x L k).2.2 (0*256) (Yf 1 (0:Nat) (Gw (layS t u v x L k)))
theorem Zfg(L:List (List Int))(f:Nat):∀ n,(Yh L f n).length=n:=fun n=>Hn L f n
theorem layD_in(x:Nat)(L:List Dv)(k:Nat):1≤(Gb x L k).1∧(Gb x L k).1≤(Nj x L:Int)∧1≤(Gb x L k).2.1∧(Gb x L k).2.1≤(Nj x L:Int):=by
 have a:=Py (t:=4) (l:=Yh (Xs (Zw (Yp x L)) (bmN (Yp x L).length)) (1+Xu (F2 L)) (bmN (Yp x L).length)) (q:=1+Xu (F2 L)+bmN (Yp x L).length) (bs:=Jl (Xs (Zw (Yp x L)) (bmN (Yp x L).length)) (1+Xu (F2 L)) (Mg L k) (bmN (Yp x L).length)) (by omega)
 have b:=Py (t:=5) (l:=Zz (Yp x L) (Yp x L).length) (q:=1+Xu (F2 L)+bmN (Yp x L).length+Xw 4 (bmN (Yp x L).length)) (bs:=(Yz 4 (Yh (Xs (Zw (Yp x L)) (bmN (Yp x L).length)) (1+Xu (F2 L)) (bmN (Yp x L).length)) (1+Xu (F2 L)+bmN (Yp x L).length) (Jl (Xs (Zw (Yp x L)) (bmN (Yp x L).length)) (1+Xu (F2 L)) (Mg L k) (bmN (Yp x L).length))).2) (by omega)
 rw[Zfg] at a
 have e1:(Gb x L k).1=_:=a
 have e2:(Gb x L k).2.1=_:=b
 have h4:=Um 4 (bmN (Yp x L).length)
 have h5:=Um 5 (Zz (Yp x L) (Yp x L).length).length
 have e3:Nj x L=Xu (F2 L)+(bmN (Yp x L).length+Xw 4 (bmN (Yp x L).length)+Xw 5 (Zz (Yp x L) (Yp x L).length).length):=rfl
 rw[e1,e2,e3]
 omega
theorem layM_in(x:Nat)(L:List Dv)(k:Nat):1≤(Nw x L k).1∧(Nw x L k).1≤(Nj x L+2+bmN k:Nat)∧1≤(Nw x L k).2.1∧(Nw x L k).2.1≤(Nj x L+2+bmN k:Nat):=by
 have a:=Py (t:=5) (l:=Zz (Qo (Nj x L+1) k) (Qo (Nj x L+1) k).length) (q:=1+Nj x L) (bs:=(Gb x L k).2.2) (by omega)
 have e2:(Nw x L k).2.1=_:=a
 have e1:(Nw x L k).1=((1+Nj x L+Xw 5 (Zz (Qo (Nj x L+1) k) (Qo (Nj x L+1) k).length).length+bmN (Vr (Qo (Nj x L+1) k) (1+Nj x L) (Qb (Qo (Nj x L+1) k))).length:Nat):Int):=rfl
 rw[Vv,Yc] at e1
 rw[Co,List.length_nil,Zfp] at e1 e2
 rw[e1,e2]
 omega
theorem Zbo{t u v:Int}{x k:Nat}{L:List Dv}(hk:PoolOk t u v (x:Int) L)(hr:Ms x L≤k)(hk2:k≤14400):Qh (layS t u v x L k)=true:=by
 have a:=layD_in x L k
 have b:=layM_in x L k
 have c:=Zag hr
 have d:=F1_le L
 have e:Nj x L=Xu (F2 L)+Pa (Yp x L):=rfl
 have h1:=hk.htx
 have h2:=hk.htime
 have h3:=hk.hunit
 have h4:=hk.hdata
 unfold Qh layS
 simp only[Bool.and_eq_true,decide_eq_true_eq,true_and]
 refine⟨⟨⟨⟨⟨⟨⟨⟨⟨⟨?_,?_⟩,?_⟩,?_⟩,?_⟩,?_⟩,?_⟩,?_⟩,?_⟩,?_⟩,?_⟩<;>omega
theorem Zay(t u v:Int)(x k:Nat)(L:List Dv)(w:World)(hr:Qh (layS t u v x L k)=true):C0 71 #[.agg #[V0 t,V0 u,V0 v,V0 (x:Int),V0 (k:Int),V0 (↑(Xu (F1 L)):Int),V0 (↑(Xu (F2 L)):Int),V0 (Gb x L k).1,V0 (Gb x L k).2.1,V0 (Nw x L k).1,V0 (Nw x L k).2.1]] w (Vo (fun w' r=>∃ p c,r=.tuple #[.slice p 244 c,V0 0]∧w'.ownsRow w.heap.size 5 1 (.slice p 244 c) 244 ((Gw (layS t u v x L k)).map bv)) w):=by
 refine(Zhm (layS t u v x L k) w ⟨by show(0:Int)≤(k:Int);omega,?_⟩).mono ?_
 ·unfold Qh layS at hr
  simp only[Bool.and_eq_true,decide_eq_true_eq,true_and] at hr
  show(k:Int)<_
  omega
 ·rintro e W q
  rcases q with ⟨h,_⟩|⟨_,p,c,rfl,hb,ho⟩
  ·rw[hr] at h;cases h
  ·exact⟨_,rfl,hb,p,c,rfl,ho⟩
theorem lay_all(B ba b g cc:Nat)(pa:O0)(ca N k:Nat)(p:O0)(c n x:Nat)(t u v:Int)(Z:List Zv)(L:List Dv)(w:World)(hZ:Z.length=n)(hL:Z.map Prod.fst=L)(hk:PoolOk t u v (x:Int) L)(hP:∀ W,Below B w W→DevsR W p c Z)(hN:N=k-1)(hC:AlC B ba (k*256) cc ca 1 N)(hA:AlF B ba b g (k*256) cc pa ca N (List.replicate (k*256) (0:UInt8)) [] w)(hr:Ms x L≤k)(hk3:k≤3000)(hBw:B≤w.heap.size) :
 C0 38 #[.agg #[P0 ba],.agg #[V0 t,V0 u,V0 v,V0 (x:Int),.slice p n c]] w ((fun e w'=>e=.returned (.tuple #[])∧Below B w w'∧ImgR B b (S1 g) (k*256) cc (Eh t u v x L k) w')):=by
 have hx:x≤65536:=by have:=hk.hdata;omega
 have t7:=Zag hr
 have y6:Nj x L=Xu (F2 L)+Pa (Yp x L):=rfl
 have s0:=Zbo hk hr (by omega)
 refine zin 72 Tryz.func38 ?_
 refine xa 2 [P0 ba] 99 fun b1 W1 n1=>?_
 refine xa 0 [V0 t,V0 u,V0 v,V0 (x:Int),.slice p n c] 28 fun b2 W2 n2=>?_
 refine xd 3 (.t B [152,5,32,105,122,231,217,30]) ?_
 have k2:=n2.blk.below (Za W2)
 refine xbt (.e [0] 1) 0 B [152,5,32,105,122,231,217,30] k2 ?_
 refine xbt (.e [2] 3) 1 B [152,5,32,105,122,231,217,30] k2 ?_
 refine xbt (.e [4] 5) 2 B [152,5,32,105,122,231,217,30] k2 ?_
 refine xbt (.e [6] 7) 3 B [152,5,32,105,122,231,217,30] k2 ?_
 have k1:=(n1.blk.below n2.below).below (Za W2)
 refine xbt (.e [8] 9) 0 B [152,5,32,105,122,231,217,30] k1 ?_
 refine xm2 0 10 13 ?_ ?_
 ·have f3:=((hA.below n1.below).below n2.below).below (Za W2)
  refine xr 0 (args:=#[P0 ba]) (Qj ba b _ _ _ f3.blkA) fun W3 d3=>?_
  refine xm2 0 11 13 ?_ ?_
  ·have j1:=f3.below d3
   refine xr 0 (args:=#[P0 b]) (by have q:=Yl b _ (k*256) _ _ j1.blkI (by omega);rw[show k*256/256=k by omega] at q;exact q) fun W4 q0=>?_
   refine xa (.o [12] 13) [V0 0,V0 0,V0 0,V0 0,V0 0,V0 0,V0 0,V0 0,V0 0,V0 0,V0 0] 30 fun b5 W5 n5=>?_
   have hB:=blB (blB (blB (blB (blB (Below.refl B w) hBw n1.below) hBw n2.below) hBw (Za W2)) hBw d3) hBw q0
   have g5:=n5.ge0 hB
   refine ysv (.o [] 14) n5.blk [V0 t,V0 u,V0 v,V0 (x:Int),V0 (k:Int),V0 0,V0 0,V0 0,V0 0,V0 0,V0 0] (.t B [152,5,32,105,122,231,217,30]) fun W6 u6 k6=>⟨(Zl u6 n5.blk (Nat.le_trans hBw g5) (by decide)),?_⟩
   have m2:=u6.blkT (((k1.below d3).below q0).below n5.below) n5.blk (by decide)
   refine xlv 9 m2.rp ?_
   have n4:=u6.blkT (((k2.below d3).below q0).below n5.below) n5.blk (by decide)
   refine xb 1 4 n4 ?_
   have s1:=((j1.below q0).below n5.below).only (Zd.of_upd (T:=[30]) u6 n5.blk (by decide)) (by decide)
   have d1:=u6.below (blB hB hBw n5.below) (Nat.le_trans hBw g5)
   refine xc 0 (args:=#[.agg #[P0 ba],.slice p n c]) (Mi B ba b g (k*256) cc pa ca N (List.replicate (k*256) (0:UInt8)) p c n (x:Int) Z L _ hZ hL hk.devs (by omega) (fun W h=>hP W (d1.trans h)) hC s1 (by omega) (Nat.le_trans hBw d1.size)) ?_
   rintro _ W7 ⟨rfl,t6,s6,hA⟩
   have d2:=k6.only s6 (by decide)
   refine xs 4 d2 [V0 t,V0 u,V0 v,V0 (x:Int),V0 (k:Int),V0 (↑(Xu (F1 L)):Int),V0 0,V0 0,V0 0,V0 0,V0 0] fun W8 u8 k8=>?_
   refine xs 1 k8 [V0 t,V0 u,V0 v,V0 (x:Int),V0 (k:Int),V0 (↑(Xu (F1 L)):Int),V0 (↑(Xu (F2 L)):Int),V0 0,V0 0,V0 0,V0 0] fun W9 u9 k9=>?_
   refine xd 3 (.t B [152,5,32,105,122,231,217,30]) ?_
   have k0:=(u9.blkT (u8.blkT (m2.only s6 (by decide)) d2 (by decide)) k8 (by decide)).below (Za W9)
   refine xbt (.e [0] 1) 0 B [152,5,32,105,122,231,217,30] k0 ?_
   have r9:=(u9.blkT (u8.blkT (n4.only s6 (by decide)) d2 (by decide)) k8 (by decide)).below (Za W9)
   refine xlvt (.e [] 2) (.t B [152,5,32,105,122,231,217,30]) (fun V hV=>(r9.only hV.2 (by decide)).rp) ?_
   have j9:=blB (u9.below (u8.below (d1.trans t6) (Nat.le_trans hBw g5)) (Nat.le_trans hBw g5)) hBw (Za W9)
   refine yc (.o [] 3) (args:=#[.agg #[V0 t,V0 u,V0 v,V0 (x:Int),.slice p n c]]) (.t B [152,5,32,105,122,231,217,30]) (by have q:=Ld p c n x t u v Z _ hZ (hP _ j9) (by rw[hL];exact hk);rw[hL] at q;exact q) ?_
   rintro _ ad ⟨_,rfl,c2,q9,d9,rfl,i9⟩
   have r2:=(blB (u9.below (u8.below (d1.trans t6) (Nat.le_trans hBw g5)) (Nat.le_trans hBw g5)) hBw (Za W9)).size
   refine⟨(SF.of_below _ c2),?_⟩
   have o1:=Zh i9 r2
   have t4:=(((hA.only (Zd.of_upd (T:=[30]) u8 d2 (by decide)) (by decide)).only (Zd.of_upd (T:=[30]) u9 k8 (by decide)) (by decide)).below (Za W9)).below c2
   have g0:=blB j9 hBw c2
   refine yc (.o [] 4) (args:=#[P0 ba,.slice q9 x d9]) (.t B [152,5,32,105,122,231,217,30]) (by have q:=Cg B ba b g (k*256) cc pa ca 1 N (Xu (F2 L)) (Mg L k) q9 d9 (Yp x L) _ hC t4 (by rw[Qc];have q:=Zf o1;rw[←Zen] at q;exact q) (by rw[Qc];omega) (by rw[Ls];have:=Lf hk.devs;omega) (Ml (by omega) hk.devs) (by decide) (by omega) (by omega) (Nat.le_trans hBw g0.size);rw[Qc] at q;exact q) ?_
   rintro _ ag ⟨rfl,g2,h2,u7,hA⟩
   refine⟨(Ha g2 h2),?_⟩
   have d0:=((k9.below (Za W9)).below c2).only h2 (by decide)
   refine ys (.o [5,6,7,8,9] 10) d0 [V0 t,V0 u,V0 v,V0 (x:Int),V0 (k:Int),V0 (↑(Xu (F1 L)):Int),V0 (↑(Xu (F2 L)):Int),V0 ((Gb x L k).1),V0 0,V0 0,V0 0] (.t B [152,5,32,105,122,231,217,30]) fun z4 p5 q1=>⟨(Zl p5 d0 (Nat.le_trans hBw g5) (by decide)),?_⟩
   refine ys (.o [11] 12) q1 [V0 t,V0 u,V0 v,V0 (x:Int),V0 (k:Int),V0 (↑(Xu (F1 L)):Int),V0 (↑(Xu (F2 L)):Int),V0 ((Gb x L k).1),V0 ((Gb x L k).2.1),V0 0,V0 0] (.t B [152,5,32,105,122,231,217,30]) fun y9 p3 u4=>⟨(Zl p3 q1 (Nat.le_trans hBw g5) (by decide)),?_⟩
   refine xr (.r [13] 5) (args:=#[.nilIface]) (Kh _) fun m8 c6=>?_
   refine xd 3 (.t B [152,5,32,105,122,231,217,30]) ?_
   have e9:=((p3.blkT (p5.blkT ((k0.below c2).only h2 (by decide)) d0 (by decide)) q1 (by decide)).below c6).below (Za m8)
   refine xbt (.e [0] 1) 0 B [152,5,32,105,122,231,217,30] e9 ?_
   refine xlvt (.e [] 2) (.t B [152,5,32,105,122,231,217,30]) (fun V hV=>(e9.only hV.2 (by decide)).rp) ?_
   have l0:=(((hA.only (Zd.of_upd (T:=[30]) p5 d0 (by decide)) (by decide)).only (Zd.of_upd (T:=[30]) p3 q1 (by decide)) (by decide)).below c6).below (Za m8)
   refine yc (.o [] 3) (args:=#[.agg #[P0 ba]]) (.t B [152,5,32,105,122,231,217,30]) (Cl B ba b g cc pa ca 1 N (Nj x L) k _ _ l0 (by omega) (by omega)) ?_
   rintro _ ao ⟨_,rfl,c4,q8,d8,rfl,l1⟩
   have t2:=(blB (blB (p3.below (p5.below (g0.trans g2) (Nat.le_trans hBw g5)) (Nat.le_trans hBw g5)) hBw c6) hBw (Za m8)).size
   refine⟨(SF.of_below _ c4),?_⟩
   have s3:=l0.below c4
   have i6:=Zh l1 t2
   have g8:=blB (blB (blB (p3.below (p5.below (g0.trans g2) (Nat.le_trans hBw g5)) (Nat.le_trans hBw g5)) hBw c6) hBw (Za m8)) hBw c4
   refine yc (.o [] 4) (args:=#[P0 ba,.slice (some q8) k d8]) (.t B [152,5,32,105,122,231,217,30]) (by have q:=Bw B ba b g (k*256) cc pa ca 1 N (Nj x L) (Gb x L k).2.2 q8 d8 (Qo (Nj x L+1) k) _ hC s3 (by rw[Yc];exact Zf i6) (by rw[Yc];omega) (by rw[Yc];omega) (Mo (by omega)) (by omega) (by rw[Ca];omega) (by decide) (by rw[Nat.add_comm 1];exact Cj) (Nat.le_trans hBw g8.size);rw[Yc] at q;exact q) ?_
   rintro _ x8 ⟨rfl,g3,h6,v5,hA⟩
   refine⟨(Ha g3 h6),?_⟩
   have a8:=(((u4.below c6).below (Za m8)).below c4).only h6 (by decide)
   refine ys (.o [5,6,7,8,9] 10) a8 [V0 t,V0 u,V0 v,V0 (x:Int),V0 (k:Int),V0 (↑(Xu (F1 L)):Int),V0 (↑(Xu (F2 L)):Int),V0 ((Gb x L k).1),V0 ((Gb x L k).2.1),V0 ((Nw x L k).1),V0 0] (.t B [152,5,32,105,122,231,217,30]) fun z7 l5 q3=>⟨(Zl l5 a8 (Nat.le_trans hBw g5) (by decide)),?_⟩
   refine ys (.o [11] 12) q3 [V0 t,V0 u,V0 v,V0 (x:Int),V0 (k:Int),V0 (↑(Xu (F1 L)):Int),V0 (↑(Xu (F2 L)):Int),V0 ((Gb x L k).1),V0 ((Gb x L k).2.1),V0 ((Nw x L k).1),V0 ((Nw x L k).2.1)] (.t B [152,5,32,105,122,231,217,30]) fun x0 m5 v9=>⟨(Zl m5 q3 (Nat.le_trans hBw g5) (by decide)),?_⟩
   refine xr (.r [13] 5) (args:=#[.nilIface]) (Kh _) fun aa b3=>?_
   have n7:=v9.below b3
   refine xlv 4 n7.rp ?_
   refine xc 0 (args:=#[.agg #[V0 t,V0 u,V0 v,V0 (x:Int),V0 (k:Int),V0 (↑(Xu (F1 L)):Int),V0 (↑(Xu (F2 L)):Int),V0 ((Gb x L k).1),V0 ((Gb x L k).2.1),V0 ((Nw x L k).1),V0 ((Nw x L k).2.1)]]) (Zay t u v x k L _ s0) ?_
   rintro _ y1 ⟨_,rfl,f9,q7,d7,rfl,m3⟩
   have t1:=(blB (m5.below (l5.below (g8.trans g3) (Nat.le_trans hBw g5)) (Nat.le_trans hBw g5)) hBw b3).size
   have s7:=((m5.blkT (l5.blkT ((e9.below c4).only h6 (by decide)) a8 (by decide)) q3 (by decide)).below b3).below f9
   refine xb 19 0 s7 ?_
   have n6:=(((hA.only (Zd.of_upd (T:=[30]) l5 a8 (by decide)) (by decide)).only (Zd.of_upd (T:=[30]) m5 q3 (by decide)) (by decide)).below b3).below f9
   refine xr 0 (args:=#[P0 ba]) (Qj ba b _ _ _ n6.blkA) fun w8 f0=>?_
   have o0:=Zb (Zh m3 t1) f0
   have j0:=n6.below f0
   have l4:=blB (blB (blB (m5.below (l5.below (g8.trans g3) (Nat.le_trans hBw g5)) (Nat.le_trans hBw g5)) hBw b3) hBw f9) hBw f0
   refine xc 1 (args:=#[P0 b,V0 0,V0 1,.slice q7 244 d7]) (Wv B b (S1 g) (k*256) cc 0 (0:Int) (Nw x L k).2.2 1 q7 d7 244 (Gw (layS t u v x L k)) _ rfl (Ke _) ⟨j0.blkI,j0.data,hC.hn⟩ (by omega) (by decide) (by decide) (Qu (Zf o0) (Ke _)) (by decide) (Nat.le_trans hBw l4.size)) ?_
   rintro _ z5 ⟨rfl,t5,t8,hI⟩
   refine xr 0 (args:=#[.nilIface]) (Kh _) fun w2 o9=>?_
   have s8:=hI.below o9
   have r5:=blB (l4.trans t5) hBw o9
   exact xe 1 (.tuple #[]) ⟨rfl,r5,s8⟩
  refine xa 0 [V0 0,V0 0,V0 0,V0 0,V0 0,V0 0,V0 0,V0 0,V0 0,V0 0,V0 0] 30 fun ac w0 h8=>?_
  have i4:=(f3.below d3).below h8.below
  refine xr (.o [] 11) (args:=#[P0 b]) (by have q:=Yl b _ (k*256) _ _ i4.blkI (by omega);rw[show k*256/256=k by omega] at q;exact q) fun ae c7=>?_
  have o6:=h8.blk.below c7
  have a0:=h8.ge0 (blB (blB (blB (blB (Below.refl B w) hBw n1.below) hBw n2.below) hBw (Za W2)) hBw d3)
  refine ysv (.o [12] 14) o6 [V0 t,V0 u,V0 v,V0 (x:Int),V0 (k:Int),V0 0,V0 0,V0 0,V0 0,V0 0,V0 0] (.t B [152,5,32,105,122,231,217,30]) fun w7 j2 t9=>⟨(Zl j2 o6 (Nat.le_trans hBw a0) (by decide)),?_⟩
  have i2:=j2.blkT (((k1.below d3).below h8.below).below c7) o6 (by decide)
  refine xlv 9 i2.rp ?_
  have l7:=j2.blkT (((k2.below d3).below h8.below).below c7) o6 (by decide)
  refine xb 1 4 l7 ?_
  have o2:=(i4.below c7).only (Zd.of_upd (T:=[30]) j2 o6 (by decide)) (by decide)
  have hB:=j2.below (blB (blB (blB (blB (blB (blB (Below.refl B w) hBw n1.below) hBw n2.below) hBw (Za W2)) hBw d3) hBw h8.below) hBw c7) (Nat.le_trans hBw a0)
  refine xc 0 (args:=#[.agg #[P0 ba],.slice p n c]) (Mi B ba b g (k*256) cc pa ca N (List.replicate (k*256) (0:UInt8)) p c n (x:Int) Z L _ hZ hL hk.devs (by omega) (fun W h=>hP W (hB.trans h)) hC o2 (by omega) (Nat.le_trans hBw hB.size)) ?_
  rintro _ x9 ⟨rfl,o7,g9,hA⟩
  have a6:=t9.only g9 (by decide)
  refine xs 4 a6 [V0 t,V0 u,V0 v,V0 (x:Int),V0 (k:Int),V0 (↑(Xu (F1 L)):Int),V0 0,V0 0,V0 0,V0 0,V0 0] fun ab p0 p9=>?_
  refine xs 1 p9 [V0 t,V0 u,V0 v,V0 (x:Int),V0 (k:Int),V0 (↑(Xu (F1 L)):Int),V0 (↑(Xu (F2 L)):Int),V0 0,V0 0,V0 0,V0 0] fun i0 m1 v1=>?_
  refine xd 3 (.t B [152,5,32,105,122,231,217,30]) ?_
  have l9:=(m1.blkT (p0.blkT (i2.only g9 (by decide)) a6 (by decide)) p9 (by decide)).below (Za i0)
  refine xbt (.e [0] 1) 0 B [152,5,32,105,122,231,217,30] l9 ?_
  have r8:=(m1.blkT (p0.blkT (l7.only g9 (by decide)) a6 (by decide)) p9 (by decide)).below (Za i0)
  refine xlvt (.e [] 2) (.t B [152,5,32,105,122,231,217,30]) (fun V hV=>(r8.only hV.2 (by decide)).rp) ?_
  have j6:=blB (m1.below (p0.below (hB.trans o7) (Nat.le_trans hBw a0)) (Nat.le_trans hBw a0)) hBw (Za i0)
  refine yc (.o [] 3) (args:=#[.agg #[V0 t,V0 u,V0 v,V0 (x:Int),.slice p n c]]) (.t B [152,5,32,105,122,231,217,30]) (by have q:=Ld p c n x t u v Z _ hZ (hP _ j6) (by rw[hL];exact hk);rw[hL] at q;exact q) ?_
  rintro _ x5 ⟨_,rfl,c8,q9,d9,rfl,i9⟩
  have r3:=(blB (m1.below (p0.below (hB.trans o7) (Nat.le_trans hBw a0)) (Nat.le_trans hBw a0)) hBw (Za i0)).size
  refine⟨(SF.of_below _ c8),?_⟩
  have i3:=Zh i9 r3
  have n3:=(((hA.only (Zd.of_upd (T:=[30]) p0 a6 (by decide)) (by decide)).only (Zd.of_upd (T:=[30]) m1 p9 (by decide)) (by decide)).below (Za i0)).below c8
  have f6:=blB j6 hBw c8
  refine yc (.o [] 4) (args:=#[P0 ba,.slice q9 x d9]) (.t B [152,5,32,105,122,231,217,30]) (by have q:=Cg B ba b g (k*256) cc pa ca 1 N (Xu (F2 L)) (Mg L k) q9 d9 (Yp x L) _ hC n3 (by rw[Qc];have q:=Zf i3;rw[←Zen] at q;exact q) (by rw[Qc];omega) (by rw[Ls];have:=Lf hk.devs;omega) (Ml (by omega) hk.devs) (by decide) (by omega) (by omega) (Nat.le_trans hBw f6.size);rw[Qc] at q;exact q) ?_
  rintro _ x2 ⟨rfl,g7,f1,v3,hA⟩
  refine⟨(Ha g7 f1),?_⟩
  have a7:=((v1.below (Za i0)).below c8).only f1 (by decide)
  refine ys (.o [5,6,7,8,9] 10) a7 [V0 t,V0 u,V0 v,V0 (x:Int),V0 (k:Int),V0 (↑(Xu (F1 L)):Int),V0 (↑(Xu (F2 L)):Int),V0 ((Gb x L k).1),V0 0,V0 0,V0 0] (.t B [152,5,32,105,122,231,217,30]) fun z2 m0 q5=>⟨(Zl m0 a7 (Nat.le_trans hBw a0) (by decide)),?_⟩
  refine ys (.o [11] 12) q5 [V0 t,V0 u,V0 v,V0 (x:Int),V0 (k:Int),V0 (↑(Xu (F1 L)):Int),V0 (↑(Xu (F2 L)):Int),V0 ((Gb x L k).1),V0 ((Gb x L k).2.1),V0 0,V0 0] (.t B [152,5,32,105,122,231,217,30]) fun w6 k4 v0=>⟨(Zl k4 q5 (Nat.le_trans hBw a0) (by decide)),?_⟩
  refine xr (.r [13] 5) (args:=#[.nilIface]) (Kh _) fun p7 c9=>?_
  refine xd 3 (.t B [152,5,32,105,122,231,217,30]) ?_
  have f2:=((k4.blkT (m0.blkT ((l9.below c8).only f1 (by decide)) a7 (by decide)) q5 (by decide)).below c9).below (Za p7)
  refine xbt (.e [0] 1) 0 B [152,5,32,105,122,231,217,30] f2 ?_
  refine xlvt (.e [] 2) (.t B [152,5,32,105,122,231,217,30]) (fun V hV=>(f2.only hV.2 (by decide)).rp) ?_
  have e3:=(((hA.only (Zd.of_upd (T:=[30]) m0 a7 (by decide)) (by decide)).only (Zd.of_upd (T:=[30]) k4 q5 (by decide)) (by decide)).below c9).below (Za p7)
  refine yc (.o [] 3) (args:=#[.agg #[P0 ba]]) (.t B [152,5,32,105,122,231,217,30]) (Cl B ba b g cc pa ca 1 N (Nj x L) k _ _ e3 (by omega) (by omega)) ?_
  rintro _ y8 ⟨_,rfl,b0,q8,d8,rfl,l1⟩
  have r0:=(blB (blB (k4.below (m0.below (f6.trans g7) (Nat.le_trans hBw a0)) (Nat.le_trans hBw a0)) hBw c9) hBw (Za p7)).size
  refine⟨(SF.of_below _ b0),?_⟩
  have p2:=e3.below b0
  have p4:=Zh l1 r0
  have f7:=blB (blB (blB (k4.below (m0.below (f6.trans g7) (Nat.le_trans hBw a0)) (Nat.le_trans hBw a0)) hBw c9) hBw (Za p7)) hBw b0
  refine yc (.o [] 4) (args:=#[P0 ba,.slice (some q8) k d8]) (.t B [152,5,32,105,122,231,217,30]) (by have q:=Bw B ba b g (k*256) cc pa ca 1 N (Nj x L) (Gb x L k).2.2 q8 d8 (Qo (Nj x L+1) k) _ hC p2 (by rw[Yc];exact Zf p4) (by rw[Yc];omega) (by rw[Yc];omega) (Mo (by omega)) (by omega) (by rw[Ca];omega) (by decide) (by rw[Nat.add_comm 1];exact Cj) (Nat.le_trans hBw f7.size);rw[Yc] at q;exact q) ?_
  rintro _ x6 ⟨rfl,h0,h1,u3,hA⟩
  refine⟨(Ha h0 h1),?_⟩
  have a2:=(((v0.below c9).below (Za p7)).below b0).only h1 (by decide)
  refine ys (.o [5,6,7,8,9] 10) a2 [V0 t,V0 u,V0 v,V0 (x:Int),V0 (k:Int),V0 (↑(Xu (F1 L)):Int),V0 (↑(Xu (F2 L)):Int),V0 ((Gb x L k).1),V0 ((Gb x L k).2.1),V0 ((Nw x L k).1),V0 0] (.t B [152,5,32,105,122,231,217,30]) fun z9 n9 p8=>⟨(Zl n9 a2 (Nat.le_trans hBw a0) (by decide)),?_⟩
  refine ys (.o [11] 12) p8 [V0 t,V0 u,V0 v,V0 (x:Int),V0 (k:Int),V0 (↑(Xu (F1 L)):Int),V0 (↑(Xu (F2 L)):Int),V0 ((Gb x L k).1),V0 ((Gb x L k).2.1),V0 ((Nw x L k).1),V0 ((Nw x L k).2.1)] (.t B [152,5,32,105,122,231,217,30]) fun w5 m4 v6=>⟨(Zl m4 p8 (Nat.le_trans hBw a0) (by decide)),?_⟩
  refine xr (.r [13] 5) (args:=#[.nilIface]) (Kh _) fun y0 b9=>?_
  have p1:=v6.below b9
  refine xlv 4 p1.rp ?_
  refine xc 0 (args:=#[.agg #[V0 t,V0 u,V0 v,V0 (x:Int),V0 (k:Int),V0 (↑(Xu (F1 L)):Int),V0 (↑(Xu (F2 L)):Int),V0 ((Gb x L k).1),V0 ((Gb x L k).2.1),V0 ((Nw x L k).1),V0 ((Nw x L k).2.1)]]) (Zay t u v x k L _ s0) ?_
  rintro _ z8 ⟨_,rfl,h3,q7,d7,rfl,m3⟩
  have r7:=(blB (m4.below (n9.below (f7.trans h0) (Nat.le_trans hBw a0)) (Nat.le_trans hBw a0)) hBw b9).size
  have r4:=((m4.blkT (n9.blkT ((f2.below b0).only h1 (by decide)) a2 (by decide)) p8 (by decide)).below b9).below h3
  refine xb 19 0 r4 ?_
  have d4:=(((hA.only (Zd.of_upd (T:=[30]) n9 a2 (by decide)) (by decide)).only (Zd.of_upd (T:=[30]) m4 p8 (by decide)) (by decide)).below b9).below h3
  refine xr 0 (args:=#[P0 ba]) (Qj ba b _ _ _ d4.blkA) fun z1 f5=>?_
  have p6:=Zb (Zh m3 r7) f5
  have e5:=d4.below f5
  have e0:=blB (blB (blB (m4.below (n9.below (f7.trans h0) (Nat.le_trans hBw a0)) (Nat.le_trans hBw a0)) hBw b9) hBw h3) hBw f5
  refine xc 1 (args:=#[P0 b,V0 0,V0 1,.slice q7 244 d7]) (Wv B b (S1 g) (k*256) cc 0 (0:Int) (Nw x L k).2.2 1 q7 d7 244 (Gw (layS t u v x L k)) _ rfl (Ke _) ⟨e5.blkI,e5.data,hC.hn⟩ (by omega) (by decide) (by decide) (Qu (Zf p6) (Ke _)) (by decide) (Nat.le_trans hBw e0.size)) ?_
  rintro _ z3 ⟨rfl,s9,u5,hI⟩
  refine xr 0 (args:=#[.nilIface]) (Kh _) fun al m6=>?_
  have s5:=hI.below m6
  have m7:=blB (e0.trans s9) hBw m6
  exact xe 1 (.tuple #[]) ⟨rfl,m7,s5⟩
 refine xa 0 [V0 0,V0 0,V0 0,V0 0,V0 0,V0 0,V0 0,V0 0,V0 0,V0 0,V0 0] 30 fun x3 w3 h9=>?_
 have e1:=(((hA.below n1.below).below n2.below).below (Za W2)).below h9.below
 refine xr (.o [] 10) (args:=#[P0 ba]) (Qj ba b _ _ _ e1.blkA) fun aj b8=>?_
 have e8:=e1.below b8
 refine xr (.o [] 11) (args:=#[P0 b]) (by have q:=Yl b _ (k*256) _ _ e8.blkI (by omega);rw[show k*256/256=k by omega] at q;exact q) fun y7 b6=>?_
 have i8:=(h9.blk.below b8).below b6
 have a1:=h9.ge0 (blB (blB (blB (Below.refl B w) hBw n1.below) hBw n2.below) hBw (Za W2))
 refine ysv (.o [12] 14) i8 [V0 t,V0 u,V0 v,V0 (x:Int),V0 (k:Int),V0 0,V0 0,V0 0,V0 0,V0 0,V0 0] (.t B [152,5,32,105,122,231,217,30]) fun y3 i7 v8=>⟨(Zl i7 i8 (Nat.le_trans hBw a1) (by decide)),?_⟩
 have k3:=i7.blkT (((k1.below h9.below).below b8).below b6) i8 (by decide)
 refine xlv 9 k3.rp ?_
 have j7:=i7.blkT (((k2.below h9.below).below b8).below b6) i8 (by decide)
 refine xb 1 4 j7 ?_
 have j5:=(e8.below b6).only (Zd.of_upd (T:=[30]) i7 i8 (by decide)) (by decide)
 have hB:=i7.below (blB (blB (blB (blB (blB (blB (Below.refl B w) hBw n1.below) hBw n2.below) hBw (Za W2)) hBw h9.below) hBw b8) hBw b6) (Nat.le_trans hBw a1)
 refine xc 0 (args:=#[.agg #[P0 ba],.slice p n c]) (Mi B ba b g (k*256) cc pa ca N (List.replicate (k*256) (0:UInt8)) p c n (x:Int) Z L _ hZ hL hk.devs (by omega) (fun W h=>hP W (hB.trans h)) hC j5 (by omega) (Nat.le_trans hBw hB.size)) ?_
 rintro _ ai ⟨rfl,k5,g1,hA⟩
 have a4:=v8.only g1 (by decide)
 refine xs 4 a4 [V0 t,V0 u,V0 v,V0 (x:Int),V0 (k:Int),V0 (↑(Xu (F1 L)):Int),V0 0,V0 0,V0 0,V0 0,V0 0] fun w1 j8 q6=>?_
 refine xs 1 q6 [V0 t,V0 u,V0 v,V0 (x:Int),V0 (k:Int),V0 (↑(Xu (F1 L)):Int),V0 (↑(Xu (F2 L)):Int),V0 0,V0 0,V0 0,V0 0] fun i1 o3 v7=>?_
 refine xd 3 (.t B [152,5,32,105,122,231,217,30]) ?_
 have e2:=(o3.blkT (j8.blkT (k3.only g1 (by decide)) a4 (by decide)) q6 (by decide)).below (Za i1)
 refine xbt (.e [0] 1) 0 B [152,5,32,105,122,231,217,30] e2 ?_
 have r6:=(o3.blkT (j8.blkT (j7.only g1 (by decide)) a4 (by decide)) q6 (by decide)).below (Za i1)
 refine xlvt (.e [] 2) (.t B [152,5,32,105,122,231,217,30]) (fun V hV=>(r6.only hV.2 (by decide)).rp) ?_
 have e7:=blB (o3.below (j8.below (hB.trans k5) (Nat.le_trans hBw a1)) (Nat.le_trans hBw a1)) hBw (Za i1)
 refine yc (.o [] 3) (args:=#[.agg #[V0 t,V0 u,V0 v,V0 (x:Int),.slice p n c]]) (.t B [152,5,32,105,122,231,217,30]) (by have q:=Ld p c n x t u v Z _ hZ (hP _ e7) (by rw[hL];exact hk);rw[hL] at q;exact q) ?_
 rintro _ ah ⟨_,rfl,b7,q9,d9,rfl,i9⟩
 have t3:=(blB (o3.below (j8.below (hB.trans k5) (Nat.le_trans hBw a1)) (Nat.le_trans hBw a1)) hBw (Za i1)).size
 refine⟨(SF.of_below _ b7),?_⟩
 have l2:=Zh i9 t3
 have l3:=(((hA.only (Zd.of_upd (T:=[30]) j8 a4 (by decide)) (by decide)).only (Zd.of_upd (T:=[30]) o3 q6 (by decide)) (by decide)).below (Za i1)).below b7
 have c1:=blB e7 hBw b7
 refine yc (.o [] 4) (args:=#[P0 ba,.slice q9 x d9]) (.t B [152,5,32,105,122,231,217,30]) (by have q:=Cg B ba b g (k*256) cc pa ca 1 N (Xu (F2 L)) (Mg L k) q9 d9 (Yp x L) _ hC l3 (by rw[Qc];have q:=Zf l2;rw[←Zen] at q;exact q) (by rw[Qc];omega) (by rw[Ls];have:=Lf hk.devs;omega) (Ml (by omega) hk.devs) (by decide) (by omega) (by omega) (Nat.le_trans hBw c1.size);rw[Qc] at q;exact q) ?_
 rintro _ af ⟨rfl,g6,h5,v2,hA⟩
 refine⟨(Ha g6 h5),?_⟩
 have a5:=((v7.below (Za i1)).below b7).only h5 (by decide)
 refine ys (.o [5,6,7,8,9] 10) a5 [V0 t,V0 u,V0 v,V0 (x:Int),V0 (k:Int),V0 (↑(Xu (F1 L)):Int),V0 (↑(Xu (F2 L)):Int),V0 ((Gb x L k).1),V0 0,V0 0,V0 0] (.t B [152,5,32,105,122,231,217,30]) fun x7 j3 q2=>⟨(Zl j3 a5 (Nat.le_trans hBw a1) (by decide)),?_⟩
 refine ys (.o [11] 12) q2 [V0 t,V0 u,V0 v,V0 (x:Int),V0 (k:Int),V0 (↑(Xu (F1 L)):Int),V0 (↑(Xu (F2 L)):Int),V0 ((Gb x L k).1),V0 ((Gb x L k).2.1),V0 0,V0 0] (.t B [152,5,32,105,122,231,217,30]) fun x1 l6 u0=>⟨(Zl l6 q2 (Nat.le_trans hBw a1) (by decide)),?_⟩
 refine xr (.r [13] 5) (args:=#[.nilIface]) (Kh _) fun o5 c5=>?_
 refine xd 3 (.t B [152,5,32,105,122,231,217,30]) ?_
 have c0:=((l6.blkT (j3.blkT ((e2.below b7).only h5 (by decide)) a5 (by decide)) q2 (by decide)).below c5).below (Za o5)
 refine xbt (.e [0] 1) 0 B [152,5,32,105,122,231,217,30] c0 ?_
 refine xlvt (.e [] 2) (.t B [152,5,32,105,122,231,217,30]) (fun V hV=>(c0.only hV.2 (by decide)).rp) ?_
 have e6:=(((hA.only (Zd.of_upd (T:=[30]) j3 a5 (by decide)) (by decide)).only (Zd.of_upd (T:=[30]) l6 q2 (by decide)) (by decide)).below c5).below (Za o5)
 refine yc (.o [] 3) (args:=#[.agg #[P0 ba]]) (.t B [152,5,32,105,122,231,217,30]) (Cl B ba b g cc pa ca 1 N (Nj x L) k _ _ e6 (by omega) (by omega)) ?_
 rintro _ z6 ⟨_,rfl,c3,q8,d8,rfl,l1⟩
 have r1:=(blB (blB (l6.below (j3.below (c1.trans g6) (Nat.le_trans hBw a1)) (Nat.le_trans hBw a1)) hBw c5) hBw (Za o5)).size
 refine⟨(SF.of_below _ c3),?_⟩
 have n8:=e6.below c3
 have l8:=Zh l1 r1
 have a9:=blB (blB (blB (l6.below (j3.below (c1.trans g6) (Nat.le_trans hBw a1)) (Nat.le_trans hBw a1)) hBw c5) hBw (Za o5)) hBw c3
 refine yc (.o [] 4) (args:=#[P0 ba,.slice (some q8) k d8]) (.t B [152,5,32,105,122,231,217,30]) (by have q:=Bw B ba b g (k*256) cc pa ca 1 N (Nj x L) (Gb x L k).2.2 q8 d8 (Qo (Nj x L+1) k) _ hC n8 (by rw[Yc];exact Zf l8) (by rw[Yc];omega) (by rw[Yc];omega) (Mo (by omega)) (by omega) (by rw[Ca];omega) (by decide) (by rw[Nat.add_comm 1];exact Cj) (Nat.le_trans hBw a9.size);rw[Yc] at q;exact q) ?_
 rintro _ y5 ⟨rfl,h4,f4,u2,hA⟩
 refine⟨(Ha h4 f4),?_⟩
 have a3:=(((u0.below c5).below (Za o5)).below c3).only f4 (by decide)
 refine ys (.o [5,6,7,8,9] 10) a3 [V0 t,V0 u,V0 v,V0 (x:Int),V0 (k:Int),V0 (↑(Xu (F1 L)):Int),V0 (↑(Xu (F2 L)):Int),V0 ((Gb x L k).1),V0 ((Gb x L k).2.1),V0 ((Nw x L k).1),V0 0] (.t B [152,5,32,105,122,231,217,30]) fun x4 k7 q4=>⟨(Zl k7 a3 (Nat.le_trans hBw a1) (by decide)),?_⟩
 refine ys (.o [11] 12) q4 [V0 t,V0 u,V0 v,V0 (x:Int),V0 (k:Int),V0 (↑(Xu (F1 L)):Int),V0 (↑(Xu (F2 L)):Int),V0 ((Gb x L k).1),V0 ((Gb x L k).2.1),V0 ((Nw x L k).1),V0 ((Nw x L k).2.1)] (.t B [152,5,32,105,122,231,217,30]) fun ak j4 u1=>⟨(Zl j4 q4 (Nat.le_trans hBw a1) (by decide)),?_⟩
 refine xr (.r [13] 5) (args:=#[.nilIface]) (Kh _) fun z0 b4=>?_
 have i5:=u1.below b4
 refine xlv 4 i5.rp ?_
 refine xc 0 (args:=#[.agg #[V0 t,V0 u,V0 v,V0 (x:Int),V0 (k:Int),V0 (↑(Xu (F1 L)):Int),V0 (↑(Xu (F2 L)):Int),V0 ((Gb x L k).1),V0 ((Gb x L k).2.1),V0 ((Nw x L k).1),V0 ((Nw x L k).2.1)]]) (Zay t u v x k L _ s0) ?_
 rintro _ w4 ⟨_,rfl,h7,q7,d7,rfl,m3⟩
 have s4:=(blB (j4.below (k7.below (a9.trans h4) (Nat.le_trans hBw a1)) (Nat.le_trans hBw a1)) hBw b4).size
 have n0:=((j4.blkT (k7.blkT ((c0.below c3).only f4 (by decide)) a3 (by decide)) q4 (by decide)).below b4).below h7
 refine xb 19 0 n0 ?_
 have e4:=(((hA.only (Zd.of_upd (T:=[30]) k7 a3 (by decide)) (by decide)).only (Zd.of_upd (T:=[30]) j4 q4 (by decide)) (by decide)).below b4).below h7
 refine xr 0 (args:=#[P0 ba]) (Qj ba b _ _ _ e4.blkA) fun y2 f8=>?_
 have o8:=Zb (Zh m3 s4) f8
 have d5:=e4.below f8
 have d6:=blB (blB (blB (j4.below (k7.below (a9.trans h4) (Nat.le_trans hBw a1)) (Nat.le_trans hBw a1)) hBw b4) hBw h7) hBw f8
 refine xc 1 (args:=#[P0 b,V0 0,V0 1,.slice q7 244 d7]) (Wv B b (S1 g) (k*256) cc 0 (0:Int) (Nw x L k).2.2 1 q7 d7 244 (Gw (layS t u v x L k)) _ rfl (Ke _) ⟨d5.blkI,d5.data,hC.hn⟩ (by omega) (by decide) (by decide) (Qu (Zf o8) (Ke _)) (by decide) (Nat.le_trans hBw d6.size)) ?_
 rintro _ w9 ⟨rfl,s2,v4,hI⟩
 refine xr 0 (args:=#[.nilIface]) (Kh _) fun y4 m9=>?_
 have t0:=hI.below m9
 have o4:=blB (d6.trans s2) hBw m9
 exact xe 1 (.tuple #[]) ⟨rfl,o4,t0⟩
end Go.Proofs.YtceeiinepijokaaGreat
namespace Go.Proofs.YtceeiinepijokaaGreat
set_option maxHeartbeats 8000000
set_option maxRecDepth 100000
open Go.RowKit Go.Extern.Stop Go.Stop Go.Extern
set_option linter.unusedVariables false
attribute [local irreducible] wpList wpAnyH Code.wp Oper.wp Go
section
attribute [local semireducible] Oper.wp
theorem op_deferV{P:Program}{Q:Exit→Act→World→Prop}{a:Act}{w:World}{K:Act→World→Prop}{o:Oper}{c:Operand}{f:FuncId}{cap:Array Value}(ho:o.op=.defer { callee:=.value c,args:=#[],argTypes:=#[] })(hc:a.eval c=.func (.func f) #[] cap)
 (k:K ({ a with defers:={ target:=.fn (.func f) cap,args:=#[] }::a.defers }.put o.dst undef) w):o.wp P a w K Q:=by
 have h2:(execOp a.eval o).run P w=.ok (.defer { target:=.fn (.func f) cap,args:=#[] }) w:=by
  simp[execOp,ho,resolve,hc,Deferred.ofValue]
 simp only[Oper.wp,h2,Oper.upon]
 exact k
end
theorem g_retD{P:Program}{fn:Func}{R:Ending→World→Prop}{a:Act}{w:World}(f:FuncId)(cap:Array Value)(v:Value)(hd:a.defers=[{ target:=.fn (.func f) cap,args:=#[] }])(hi:∀ w,(invoke (.fn (.func f) cap) #[]).run P w=.ok (.enter f cap) w)
 (hc:CallsD P f cap .returning w fun e u w'=>e=.returned (.tuple #[])∧u=.returning∧B3 w w') (h:∀ W,B3 w W→(results fn a.tmps).run P W=.ok v W∧R (.returned v) W):bodyPostD P fn R .ret a w:=by
 show Leaves P fn a.tmps R a.defers .returning w
 rw[hd]
 refine leaves_cons (by simp) (hi w) (hc.mono ?_)
 rintro e u w' ⟨rfl,rfl,hb⟩
 obtain⟨h1,h2⟩:=h w' hb
 exact⟨v,h1,h2⟩
theorem Cs{P:Program}{w:World}{b:Nat}{t:TypeId}{x:Value}(k:Blk w b [x] t)(hu:aggB P t=some false):(loadVar t ⟨b,0,none⟩).run P w=.ok x w:=by
 have hc:w.cell? ⟨b,0,none⟩=some x:=k.cell (i:=0) rfl
 simp[loadVar,Sem.run_bind,Zb4 hu,load,Sem.run,hc]
theorem res_kk{P:Program}{fn:Func}{tmps:Array Value}{w:World}{k j:Nat}{t s:TypeId}{b c:Nat}{x y:Value}(hfn:fn.results=#[.cell k t,.cell j s])(e:tmps.getD k undef=P0 b)(e2:tmps.getD j undef=P0 c)
 (hx:Blk w b [x] t) (hy:Blk w c [y] s) (hu:aggB P t=some false) (hu2:aggB P s=some false):(results fn tmps).run P w=.ok (.tuple #[x,y]) w:=by
 have h:=Cs hx hu
 have h2:=Cs hy hu2
 have e':tmps[k]?.getD undef=P0 b:=by simpa using e
 have a0:tmps[j]?.getD undef=P0 c:=by simpa using e2
 simp[results,hfn,e',a0,asAddr,h,h2]
theorem lay_idle(b c:Nat)(w:World):CallsD Tryz.prog 32 #[P0 b,P0 c] .returning w fun e u w'=>e=.returned (.tuple #[])∧u=.returning∧B3 w w':=by
 refine callsD_of_wpS Tryz.func32 rfl fun c₀ cs hu=>?_
 have a0:∀ w,(Instr.typeAssert .nilIface 20 87 true).run Tryz.prog w=.ok (.tuple #[.agg #[.nilIface],.bool false]) w:=fun w=>by kernel_rfl
 apply wpS_seq
 apply wpS_region
 simp[wpOpsS,go_sem,recoverD,hu,Tryz.ntmps32,Exit.thenS,a0]
 apply wpS_seq
 apply wpS_region
 simp[wpOpsS,go_sem,Exit.thenS]
 refine wpS_cond (t:=false) (by simp[Act.eval,Array.replicate]) ?_
 simp only[Bool.false_eq_true,if_false]
 refine wpS_of_wp (wp_skip ?_)
 cases c₀
 have hb:=blx w (Obj.cells #[Value.nilIface] 87)
 simp_all [bodyPostS,results,Tryz.results32]
end Go.Proofs.YtceeiinepijokaaGreat
namespace Go.Proofs.YtceeiinepijokaaGreat
set_option maxHeartbeats 8000000
set_option maxRecDepth 100000
open Go.RowKit Go.Extern.Stop Go.Stop Go.Extern
set_option linter.unusedVariables false
attribute [local irreducible] wpList wpAnyH Code.wp Oper.wp Go
theorem image_NewR(k:Nat)(w:World)(hk:k≤14400) :
 C0 34 #[V0 (k:Int)] w (Vo (fun w' r=>∃ b p c,r=.tuple #[P0 b,V0 0]∧w.heap.size≤b∧ImgR w.heap.size b p (k*256) c (List.replicate (k*256) (0:UInt8)) w') w):=by
 refine zin 15 Tryz.func34 ?_
 refine xgk 12 [5,6] (show(decide ((k:Int)<(0:Int)):Bool)=false from decide_eq_false (by omega)) ?_
 refine xk 5 (show(decide ((k:Int)>(14400:Int)):Bool)=false from decide_eq_false (by omega)) ?_
 refine xwm 5 ((k:Int)*256) (↑(k*256):Int) ?_
 refine xmk 0 fun _ _ _ _ zJ zQ zo zx zy zK=>Kw (k*256) (.int .u8 0) 1 1 ((List.replicate (k*256) (0:UInt8)).map bv) zo zx zy Tryz.underlying22 (by kernel_rfl) rfl (by omega) (by omega) (Zcf (k*256)) fun b2 W2 n2=>?_
 refine zK _ _ ?_
 refine xa 1 [.slice (S1 b2) (k*256) (k*256)] 59 fun b3 W3 n3=>?_
 have hB:=bln n2.below n3.below
 have g3:=n3.ge n2.below
 have o2:=Zb (Xl (size:=1) (n:=(k*256)) n2.blk (n2.ge (B4 w)) (by rw[List.length_map,List.length_replicate,Nat.mul_one]) (by unfold maxLen;omega)) n3.below
 exact xe 5 (.tuple #[P0 b3,V0 0]) ⟨_,rfl,hB,_,_,_,rfl,g3,⟨n3.blk,o2,by omega⟩⟩
def LayO(l:Bl)(k:Nat)(w:World)(e:Ending)(w':World):Prop:=∃ bi g ci,e=.returned (.tuple #[P0 bi,.nilIface])∧B3 w w'∧ImgR w.heap.size bi (S1 g) (k*256) ci l w'
theorem lay_LayY(p:O0)(c n x k:Nat)(t u v:Int)(Z:List Zv)(w:World)(hZ:Z.length=n)(hP:DevsR w p c Z)(hk:PoolOk t u v (x:Int) (Z.map Prod.fst))(hk3:k≤3000)(hr:Ms x (Z.map Prod.fst)≤k) :
 C0 17 #[.agg #[V0 t,V0 u,V0 v,V0 (x:Int),.slice p n c],V0 (k:Int)] w (LayO (Eh t u v x (Z.map Prod.fst) k) k w):=by
 have c3:k≤14400:=by omega
 refine calls_of_wp_defers Tryz.func17 rfl ?_
 refine Zet ⟨#[.agg #[V0 t,V0 u,V0 v,V0 (x:Int),.slice p n c],V0 (k:Int),undef,undef,undef,undef,undef,undef,undef,undef,undef,undef,undef,undef,undef,undef,undef,undef,undef,undef,undef,undef,undef,undef,undef,undef,undef,undef,undef,undef,undef,undef,undef,undef,undef,undef,undef,undef,undef,undef,undef,undef],[]⟩ (by kernel_rfl) ?_
 refine wp_seq ?_
 refine wp_region_lit ?_
 refine Xx (by kernel_rfl) (Dj [V0 t,V0 u,V0 v,V0 (x:Int),.slice p n c] rfl (by kernel_rfl) ?_)
 intro b1 W1 n1
 have g1:=n1.ge (B4 w)
 have hB:=n1.below
 have k1:=n1.blk
 refine Xx (by kernel_rfl) (Yt [.pointer none] rfl (by kernel_rfl) ?_)
 intro b2 W2 n2
 have a7:=n2.ne k1
 have g2:=n2.ge hB
 replace hB:=bln hB n2.below
 replace k1:=k1.below n2.below
 have k2:=n2.blk
 refine Xx (by kernel_rfl) (Yt [.nilIface] rfl (by kernel_rfl) ?_)
 intro b3 W3 n3
 have a9:=n3.ne k1
 have a0:=n3.ne k2
 have g3:=n3.ge hB
 replace hB:=bln hB n3.below
 replace k1:=k1.below n3.below
 replace k2:=k2.below n3.below
 have k3:=n3.blk
 refine wpList_nil ?_
 refine wp_seq ?_
 refine wp_region_lit ?_
 refine Yy 1 [(9,.func (.func 32) #[] #[P0 b2,P0 b3])] (by kernel_rfl) ?_
 refine Xx (by kernel_rfl) (op_deferV (f:=32) (cap:=#[P0 b2,P0 b3]) rfl (by kernel_rfl) ?_)
 refine wpList_nil ?_
 refine wp_seq ?_
 refine wp_seq ?_
 refine wp_region_lit ?_
 refine Xx (by kernel_rfl) (Ux (b:=b1) (off:=0) [V0 t,V0 u,V0 v,V0 (x:Int),.slice p n c] _ rfl (by kernel_rfl) Tryz.underlying28 rfl (by kernel_rfl) k1.whole ?_)
 refine Xx (by kernel_rfl) (Yd (lb:=#[]) 33 #[.agg #[V0 t,V0 u,V0 v,V0 (x:Int),.slice p n c]] rfl (by kernel_rfl) (fun _ _=>by kernel_rfl) (by kernel_rfl) ((Bu p c n t u v (x:Int) Z _ hZ (hP.below hB)).mono ?_))
 rintro e W4 ⟨rfl,b6⟩
 refine⟨_,rfl,?_⟩
 replace hB:=bln hB b6
 replace k1:=k1.below b6
 replace k2:=k2.below b6
 replace k3:=k3.below b6
 refine Yy 1 [(6,V0 (Gq t u v (x:Int) (Z.map Prod.fst)))] (by kernel_rfl) ?_
 refine wpList_nil ?_
 refine wp_seq ?_
 refine wp_region_lit ?_
 refine Yy 2 [(12,V0 (Gq t u v (x:Int) (Z.map Prod.fst))),(13,.bool ((Gq t u v (x:Int) (Z.map Prod.fst)) != (0:Int)))] (by kernel_rfl) ?_
 refine wpList_nil ?_
 refine wp_cond_split (t:=((Gq t u v (x:Int) (Z.map Prod.fst)) != (0:Int))) (by kernel_rfl) (fun hh=>absurd (hh.symm.trans (show(((Gq t u v (x:Int) (Z.map Prod.fst)) != (0:Int)):Bool)=false from(by rw[Oa.2 hk];rfl))) (by decide)) (fun _=>?_)
 refine wp_skip ?_
 refine wp_seq ?_
 refine wp_region_lit ?_
 refine Yy 1 [(17,V0 (k:Int))] (by kernel_rfl) ?_
 have b7:w.heap.size≤W4.heap.size:=hB.size
 have c5:=k2.lt
 have c4:=k3.lt
 refine Xx (by kernel_rfl) (Yd (lb:=#[]) 34 #[V0 (k:Int)] rfl (by kernel_rfl) (fun _ _=>by kernel_rfl) (by kernel_rfl) ((image_NewR k _ (by omega)).mono ?_))
 rintro e W6 ⟨_,rfl,b0,bi,pi,ci,rfl,gi,hI⟩
 refine⟨_,rfl,?_⟩
 replace hB:=bln hB b0
 replace k1:=k1.below b0
 replace k2:=k2.below b0
 replace k3:=k3.below b0
 refine Yy 3 [(16,.tuple #[P0 bi,V0 0]),(19,P0 bi),(20,V0 0)] (by kernel_rfl) ?_
 refine Xx (by kernel_rfl) (Xf (v:=P0 bi) (b:=b2) (off:=0) rfl (by kernel_rfl) (by kernel_rfl) (by kernel_rfl) rfl k2 (by first|decide|simp) ?_)
 intro W7 u7 k7
 change Blk _ _ [P0 bi] _ at k7
 replace hB:=u7.below hB g2
 replace k1:=u7.blk k1 (Ne.symm (Ne.symm a7))
 replace k3:=u7.blk k3 (Ne.symm a0)
 replace hI:=hI.only (Zd.of_upd (T:=[24]) u7 k2 (by decide)) (by decide)
 refine Yy 1 [(7,V0 0)] (by kernel_rfl) ?_
 refine wpList_nil ?_
 refine wp_seq ?_
 refine wp_seq ?_
 refine wp_region_lit ?_
 refine Yy 2 [(21,V0 0),(22,.bool false)] (by kernel_rfl) ?_
 refine wpList_nil ?_
 refine wp_cond_false (by kernel_rfl) ?_
 refine wp_skip ?_
 refine wp_seq ?_
 refine wp_seq ?_
 refine wp_region_lit ?_
 refine Xx (by kernel_rfl) (Ux (b:=b1) (off:=0) [V0 t,V0 u,V0 v,V0 (x:Int),.slice p n c] _ rfl (by kernel_rfl) Tryz.underlying28 rfl (by kernel_rfl) k1.whole ?_)
 refine Yy 1 [(26,V0 (k:Int))] (by kernel_rfl) ?_
 refine Xx (by kernel_rfl) (Yd (lb:=#[]) 35 #[.agg #[V0 t,V0 u,V0 v,V0 (x:Int),.slice p n c],V0 (k:Int)] rfl (by kernel_rfl) (fun _ _=>by kernel_rfl) (by kernel_rfl) ((size_FitsY p c n x k t u v Z _ hZ (hP.below hB) hk hr c3).mono ?_))
 rintro e W8 ⟨rfl,a8⟩
 refine⟨_,rfl,?_⟩
 replace hB:=bln hB a8
 replace k1:=k1.below a8
 replace k7:=k7.below a8
 replace k3:=k3.below a8
 replace hI:=hI.below a8
 refine Yy 1 [(28,.bool false)] (by kernel_rfl) ?_
 refine wpList_nil ?_
 refine wp_cond_false (by kernel_rfl) ?_
 refine wp_skip ?_
 refine wp_seq ?_
 refine wp_region_lit ?_
 refine Xx (by kernel_rfl) (Xr ⟨b2,0,none⟩ (P0 bi) rfl (by kernel_rfl) (by kernel_rfl) (k7.cell (i:=0) rfl) ?_)
 have d1:Ms x (Z.map Prod.fst)≥3:=by unfold Ms Zfb;omega
 have c1:W4.heap.size≤(W8).heap.size:=Nat.le_trans gi (Nat.le_of_lt hI.blk.lt)
 obtain⟨g,rfl,c2⟩:=hI.base (by omega)
 refine Xx (by kernel_rfl) (Yd (lb:=#[]) 36 #[P0 bi,V0 1] rfl (by kernel_rfl) (fun _ _=>by kernel_rfl) (by kernel_rfl) ((alloc_NewN bi (S1 g) (k*256) ci 1 (k-1) (1:Int) rfl (by omega) _ hI.blk (by omega) (by decide) (by omega)).mono ?_))
 rintro e W9 ⟨_,rfl,a4,ba,pa,ca,rfl,ga,ka,ho⟩
 refine⟨_,rfl,?_⟩
 replace hB:=bln hB a4
 replace k1:=k1.below a4
 replace k7:=k7.below a4
 replace k3:=k3.below a4
 replace hI:=hI.below a4
 have hA:AlF (W4.heap.size) ba bi g (k*256) ci pa ca (k-1) (List.replicate (k*256) (0:UInt8)) [] _:=⟨ka,hI.blk,hI.row,Zh ho c1⟩
 have hC:AlC (W4.heap.size) ba (k*256) ci ca 1 (k-1):=⟨by omega,c2,Ze0 ho (by omega),by omega,Nat.le_trans c1 ga⟩
 refine Yy 4 [(30,.tuple #[P0 ba,.nilIface]),(33,P0 ba),(34,.nilIface),(8,P0 ba)] (by kernel_rfl) ?_
 refine Xx (by kernel_rfl) (Xf (v:=.nilIface) (b:=b3) (off:=0) rfl (by kernel_rfl) (by kernel_rfl) (by kernel_rfl) rfl k3 (by first|decide|simp) ?_)
 intro c7 b4 a6
 change Blk _ _ [.nilIface] _ at a6
 replace hB:=b4.below hB g3
 replace k1:=b4.blk k1 (Ne.symm (Ne.symm a9))
 replace k7:=b4.blk k7 (Ne.symm (Ne.symm a0))
 replace hA:=hA.only (Zd.of_upd (T:=[32]) b4 k3 (by decide)) (by decide)
 refine wpList_nil ?_
 refine wp_seq ?_
 refine wp_region_lit ?_
 refine Xx (by kernel_rfl) (Xr ⟨b3,0,none⟩ .nilIface rfl (by kernel_rfl) (by kernel_rfl) (a6.cell (i:=0) rfl) ?_)
 refine Xx (by kernel_rfl) (Yd (lb:=#[]) 37 #[.nilIface] rfl (by kernel_rfl) (fun _ _=>by kernel_rfl) (by kernel_rfl) ((Kh _).mono ?_))
 rintro e d0 ⟨rfl,a3⟩
 refine⟨_,rfl,?_⟩
 replace hB:=bln hB a3
 replace k1:=k1.below a3
 replace k7:=k7.below a3
 replace a6:=a6.below a3
 replace hA:=hA.below a3
 refine wpList_nil ?_
 refine wp_seq ?_
 refine wp_region_lit ?_
 refine Yy 2 [(37,P0 ba),(38,.agg #[P0 ba])] (by kernel_rfl) ?_
 refine Xx (by kernel_rfl) (Ux (b:=b1) (off:=0) [V0 t,V0 u,V0 v,V0 (x:Int),.slice p n c] _ rfl (by kernel_rfl) Tryz.underlying28 rfl (by kernel_rfl) k1.whole ?_)
 refine Xx (by kernel_rfl) (Yd (lb:=#[]) 38 #[.agg #[P0 ba],.agg #[V0 t,V0 u,V0 v,V0 (x:Int),.slice p n c]] rfl (by kernel_rfl) (fun _ _=>by kernel_rfl) (by kernel_rfl) ((lay_all (W4.heap.size) ba bi g ci pa ca (k-1) k p c n x t u v Z (Z.map Prod.fst) _ hZ rfl hk (fun W h=>hP.below (hB.trans (h.mono b7))) rfl hC hA hr hk3 (Nat.le_trans gi (Nat.le_of_lt hA.blkI.lt))).mono ?_))
 rintro e c9 ⟨rfl,a5,hI⟩
 refine⟨_,rfl,?_⟩
 have a2:=k7.below' a5 c5
 have a1:=a6.below' a5 c4
 replace hB:=hB.trans (a5.mono b7)
 refine wpList_nil ?_
 refine wp_seq ?_
 refine wp_region_lit ?_
 refine Xx (by kernel_rfl) (Xr ⟨b2,0,none⟩ (P0 bi) rfl (by kernel_rfl) (by kernel_rfl) (a2.cell (i:=0) rfl) ?_)
 refine Xx (by kernel_rfl) (Xf (v:=P0 bi) (b:=b2) (off:=0) rfl (by kernel_rfl) (by kernel_rfl) (by kernel_rfl) rfl a2 (by first|decide|simp) ?_)
 intro c6 b8 b5
 change Blk _ _ [P0 bi] _ at b5
 replace hB:=b8.below hB g2
 replace a1:=b8.blk a1 (Ne.symm a0)
 replace hI:=hI.only (Zd.of_upd (T:=[24]) b8 a2 (by decide)) (by decide)
 refine Xx (by kernel_rfl) (Xf (v:=.nilIface) (b:=b3) (off:=0) rfl (by kernel_rfl) (by kernel_rfl) (by kernel_rfl) rfl a1 (by first|decide|simp) ?_)
 intro c8 b9 c0
 change Blk _ _ [.nilIface] _ at c0
 replace hB:=b9.below hB g3
 replace b5:=b9.blk b5 (Ne.symm (Ne.symm a0))
 replace hI:=hI.only (Zd.of_upd (T:=[32]) b9 a1 (by decide)) (by decide)
 refine wpList_nil ?_
 refine wp_ret ?_
 refine g_retD 32 #[P0 b2,P0 b3] (.tuple #[P0 bi,.nilIface]) rfl (fun _=>by kernel_rfl) (lay_idle b2 b3 _) fun W9 a4=>⟨res_kk rfl (by kernel_rfl) (by kernel_rfl) (b5.below a4) (c0.below a4) (by kernel_rfl) (by kernel_rfl),?_⟩
 exact⟨_,_,_,rfl,hB.trans (a4.mono hB.size),⟨hI.blk.below a4,Zh (Zb hI.row a4) b7,hI.hn⟩⟩
theorem Pn{L:List (List Int)}{q:Nat}{bs:Bl}:∀ n,(q+n)*256≤bs.length→(Jl L q bs n).length=bs.length
 | 0,_=>rfl
 | n+1,h=>by
  have ih:=Pn (L:=L) (q:=q) (bs:=bs) n (by omega)
  have hx:(Yf 3 ((q+n:Nat):Int) (Tf (L.getD n []))).length=256:=Vd (by unfold Tf;rw[Hy];decide)
  show(Kn (Jl L q bs n) ((q+n)*256) (Yf 3 ((q+n:Nat):Int) (Tf (L.getD n [])))).length=_
  rw[Qt (by rw[hx,ih];omega),ih]
theorem supN_bdL{s:Sup}(h:Qh s=true):s.blocks≤14400∧∀ x∈Im s,0≤x∧x.toNat<256 ^ 4:=by
 unfold Qh at h
 simp only[Bool.and_eq_true,decide_eq_true_eq,true_and] at h
 refine⟨by omega,fun x hx=>?_⟩
 simp only[Im,List.mem_cons,List.not_mem_nil,or_false] at hx
 rcases hx with rfl|rfl|rfl|rfl|rfl|rfl|rfl|rfl|rfl|rfl|rfl<;>omega
theorem nums_read(N:List Int)(Q:Bl)(h:∀ x∈N,0≤x∧x.toNat<256 ^ 4)(P:Bl)(i:Nat)(hi:i<N.length):(Zm (P++(Hs N++Q)) (P.length+i*4) 4:Int)=N.getD i 0:=by
 induction N generalizing P i with
 | nil=>simp at hi
 | cons n N ih =>
  have e:Hs (n::N)=leB n 4++Hs N:=rfl
  cases i with
  | zero =>
   have:=h n (by simp)
   rw[e,List.append_assoc]
   simpa using Ky (P:=P) (Q:=Hs N++Q) (k:=P.length) (w:=4) (x:=n) rfl this.1 this.2
  | succ i =>
   have a0:i<N.length:=by simpa using hi
   have:=ih (fun x hx=>h x (by simp[hx])) (P++leB n 4) i a0
   rw[e,List.append_assoc,←List.append_assoc P]
   rw[List.length_append,Zj] at this
   rw[show P.length+(i+1)*4=P.length+4+i*4 by omega,this]
   simp[List.getD]
theorem Bv{s:Sup}(h:Qh s=true):Zg (Gw s)=s∧Zm (Gw s) 8 4=1:=by
 have hb:=(supN_bdL h).2
 have g:=nums_read (1::Im s) (List.replicate 188 0) (fun x hx=>by
  rcases List.mem_cons.1 hx with rfl|q
  ·decide
  ·exact hb x q) Wc
 have g:∀ i,i<12→(Zm (Gw s) (8+i*4) 4:Int)=(1::Im s).getD i 0:=fun i hi=>by
  have:=g i (by show i<12;exact hi)
  rw[show Wc.length=8 from rfl] at this
  unfold Gw
  rw[List.append_assoc]
  exact this
 constructor
 ·unfold Zg
  rw[show(Zm (Gw s) 12 4:Int)=s.tx from g 1 (by decide),show(Zm (Gw s) 16 4:Int)=s.time from g 2 (by decide),show(Zm (Gw s) 20 4:Int)=s.unit from g 3 (by decide),show(Zm (Gw s) 24 4:Int)=s.data from g 4 (by decide),show(Zm (Gw s) 28 4:Int)=s.blocks from g 5 (by decide),show(Zm (Gw s) 32 4:Int)=s.top from g 6 (by decide),show(Zm (Gw s) 36 4:Int)=s.details from g 7 (by decide),show(Zm (Gw s) 40 4:Int)=s.dslots from g 8 (by decide),show(Zm (Gw s) 44 4:Int)=s.dover from g 9 (by decide),show(Zm (Gw s) 48 4:Int)=s.mindex from g 10 (by decide),show(Zm (Gw s) 52 4:Int)=s.mover from g 11 (by decide)]
 ·have:(Zm (Gw s) 8 4:Int)=1:=g 0 (by decide)
  omega
theorem supOk_supB{s:Sup}(h:Qh s=true):supOk (Gw s)=true:=by
 rw[Fa (Ke s),(Bv h).1,h];simp
theorem sup_back{F:Bl}{s:Sup}{k:Nat}(hl:F.length=k*256)(hk:1≤k)(hb:Km F 0=Yf 1 ((0:Nat):Int) (Gw s))(hr:Qh s=true)(hs:s.blocks≤(k:Int)):Xg F=0∧Zg (inB F 0)=s:=by
 obtain⟨h1,h2⟩:=seal_in (l:=F) (kind:=1) (k:=0) (li:=Gw s) (by decide) (by decide) (by omega) (by decide) (Ke s) hb
 have h1:inE F 1 0=0:=h1
 have h2:inB F 0=Gw s:=h2
 refine⟨?_,by rw[h2];exact(Bv hr).1⟩
 unfold Xg
 rw[if_pos h1,h2]
 unfold Wf
 rw[if_pos (supOk_supB hr),(Bv hr).1,if_neg (by rw[hl];omega)]
theorem Ri{L:List (List Int)}{q:Nat}{bs:Bl}:∀ n,(q+n)*256≤bs.length→∀ x,x<q→Km (Jl L q bs n) x=Km bs x
 | 0,_,_,_=>rfl
 | n+1,h,x,hx=>by
  have ih:=Ri (L:=L) (q:=q) (bs:=bs) n (by omega) x hx
  have hl:=Pn (L:=L) (q:=q) (bs:=bs) n (by omega)
  have a0:(Yf 3 ((q+n:Nat):Int) (Tf (L.getD n []))).length=256:=Vd (by unfold Tf;rw[Hy];decide)
  show Km (Kn (Jl L q bs n) ((q+n)*256) (Yf 3 ((q+n:Nat):Int) (Tf (L.getD n [])))) x=_
  rw[Vy a0 (by rw[hl];omega) (by omega) (by rw[hl];omega),ih]
theorem plot_keep{l:List Int}{q:Nat}{bs:Bl}(hl:l.length≤65536)(hb:(q+Pa l)*256≤bs.length):(Iz l q bs).2.2.length=bs.length∧∀ x,x<q→Km (Iz l q bs).2.2 x=Km bs x:=by
 obtain⟨N,hN⟩:∃ N,bmN l.length=N:=⟨_,rfl⟩
 obtain⟨L,hL⟩:∃ L,Xs (Zw l) N=L:=⟨_,rfl⟩
 obtain⟨O,hO⟩:∃ O,Zz l l.length=O:=⟨_,rfl⟩
 have a3:Pa l=N+Xw 4 N+Xw 5 O.length:=by unfold Pa;rw[hN,hO]
 have a2:N≤69:=by unfold bmN at hN;omega
 have ES:EntsOk (Ua 4 true) (Yh L q N):=Aa _ _ _ (by omega)
 have EO:EntsOk (Ua 5 true) O:=hO▸Ln _ _ (by omega)
 have a0:=Pn (L:=L) (q:=q) (bs:=bs) N (by omega)
 have a1:=Ri (L:=L) (q:=q) (bs:=bs) N (by omega)
 have k4:=Kd (t:=4) (l:=Yh L q N) (q:=q+N) (bs:=Jl L q bs N) (by decide) (by decide) ES (by rw[a0,Hn];omega)
 have k5:=Kd (t:=5) (l:=O) (q:=q+N+Xw 4 N) (bs:=(Yz 4 (Yh L q N) (q+N) (Jl L q bs N)).2) (by decide) (by decide) EO (by rw[k4.1,a0];omega)
 have hP:(Iz l q bs).2.2=(Yz 5 O (q+N+Xw 4 N) (Yz 4 (Yh L q N) (q+N) (Jl L q bs N)).2).2:=by
  unfold Iz;simp only[hN,hL,hO]
 rw[hP]
 exact⟨by rw[k5.1,k4.1,a0],fun x hx=>by rw[k5.2 x (by omega),k4.2 x (by omega),a1 x hx]⟩
theorem meta_keep{l:List Int}{u:Nat}{bs:Bl}(hl:l.length≤3000)(hb:(u+Qb l)*256≤bs.length):(Ed l u 0 bs).2.2.length=bs.length∧∀ x,x<u→Km (Ed l u 0 bs).2.2 x=Km bs x:=by
 obtain⟨N,hN⟩:∃ N,bmN l.length=N:=⟨_,rfl⟩
 obtain⟨O,hO⟩:∃ O,Zz l l.length=O:=⟨_,rfl⟩
 obtain⟨T,hT⟩:∃ T,Xw 5 O.length=T:=⟨_,rfl⟩
 have hm:Qb l=T+N+1:=by unfold Qb;rw[hN,hO,hT]
 obtain⟨B,hB⟩:∃ B,Vr l u (Qb l)=B:=⟨_,rfl⟩
 have a4:B.length=l.length:=by rw[←hB,Vv]
 obtain⟨C,hC⟩:∃ C,Xs (Zw B) N=C:=⟨_,rfl⟩
 obtain⟨R,hR⟩:∃ R,Rs C (u+T) N=R:=⟨_,rfl⟩
 obtain⟨X,hX⟩:∃ X,Yf 4 ((u+T+N:Nat):Int) (idxB R)=X:=⟨_,rfl⟩
 have a5:N≤4:=by unfold bmN at hN;omega
 have hP:(Ed l u 0 bs).2.2=Kn (Jl C (u+T) (Yz 5 O u bs).2 N) ((u+T+N)*256) X:=by
  unfold Ed
  simp only[Nat.add_zero,hB,a4,hN,hO,hT,hC,hR,hX]
 have EO:EntsOk (Ua 5 true) O:=hO▸Ln _ _ (by omega)
 have a6:R.length=N:=by rw[←hR,Fv]
 have a0:=Kd (t:=5) (l:=O) (q:=u) (bs:=bs) (by decide) (by decide) EO (by rw[hT];omega)
 have a1:=Pn (L:=C) (q:=u+T) (bs:=(Yz 5 O u bs).2) N (by rw[a0.1];omega)
 have a3:=Ri (L:=C) (q:=u+T) (bs:=(Yz 5 O u bs).2) N (by rw[a0.1];omega)
 rw[hP]
 by_cases hN15:N≤15
 ·have a7:(idxB R).length=244:=Oe (by omega)
  have a2:X.length=256:=by rw[←hX];exact Vd (by omega)
  exact⟨by rw[Qt (by rw[a2,a1,a0.1];omega),a1,a0.1],fun x hx=>by rw[Vy a2 (by rw[a1,a0.1];omega) (by omega) (by rw[a1,a0.1];omega),a3 x (by omega),a0.2 x hx]⟩
 ·exact absurd hN15 (by omega)
theorem Rx{t u v:Int}{x k:Nat}{L:List Dv}(hk:PoolOk t u v (x:Int) L)(hr:Ms x L≤k)(hk3:k≤3000) :
 (Eh t u v x L k).length=k*256∧Xg (Eh t u v x L k)=0∧Zg (inB (Eh t u v x L k) 0)=layS t u v x L k∧∀ j,1≤j→j<1+Xu (F2 L)→Km (Eh t u v x L k) j=Km (Mg L k) j:=by
 have a1:=Zag hr
 have hx:x≤65536:=by have:=hk.hdata;omega
 have a4:=Zbo hk hr (by omega)
 have a5:∀ y∈F2 L,Ba y:=fun y hy=>by
  unfold F2 F1 at hy
  rcases List.mem_append.1 hy with q|q
  ·rcases List.mem_append.1 q with q|q
   ·exact devT_ok hk.devs y q
   ·rw[List.mem_singleton.1 q];exact top_ok hk.devs
  ·rw[List.mem_singleton.1 q];exact det_ok hk.devs
 have l1:(Mg L k).length=k*256:=by
  unfold Mg
  rw[forB_len _ _ _ a5 (by rw[List.length_replicate];omega),List.length_replicate]
 have a6:Nj x L=Xu (F2 L)+Pa (Yp x L):=rfl
 have p2:=plot_keep (l:=Yp x L) (q:=1+Xu (F2 L)) (bs:=Mg L k) (by rw[Qc];exact hx) (by rw[l1];omega)
 have e2:(Gb x L k)=Iz (Yp x L) (1+Xu (F2 L)) (Mg L k):=rfl
 rw[←e2] at p2
 have hn:Qb (Qo (Nj x L+1) k)=2+bmN k:=by
  unfold Qb
  rw[Co,Yc,List.length_nil,Zfp];omega
 have p3:=meta_keep (l:=Qo (Nj x L+1) k) (u:=1+Nj x L) (bs:=(Gb x L k).2.2) (by rw[Yc];exact hk3) (by rw[hn,p2.1,l1];omega)
 have e3:(Nw x L k).2.2=(Ed (Qo (Nj x L+1) k) (1+Nj x L) 0 (Gb x L k).2.2).2.2:=by
  unfold Nw Ed
  simp only[Nat.add_zero]
 rw[←e3] at p3
 have l3:(Nw x L k).2.2.length=k*256:=by rw[p3.1,p2.1,l1]
 have a0:(Yf 1 (0:Nat) (Gw (layS t u v x L k))).length=256:=Vd (by rw[Ke];decide)
 have lB:(Eh t u v x L k).length=k*256:=by
  unfold Eh
  rw[Qt (by rw[a0,l3];omega),l3]
 have a2:Km (Eh t u v x L k) 0=Yf 1 ((0:Nat):Int) (Gw (layS t u v x L k)):=by
  unfold Eh
  exact Ez a0 (by rw[l3];omega)
 obtain⟨s1,s2⟩:=sup_back lB (by omega) a2 a4 (Int.le_refl _)
 refine⟨lB,s1,s2,fun j a7 a3=>?_⟩
 unfold Eh
 rw[Vy a0 (by rw[l3];omega) (by omega) (by rw[l3];omega),p3.2 j (by omega),p2.2 j a3]
theorem ov_one{t:Int}{n:Nat}(h:n≤Qy t true):ovN n (Qy t true)=1:=by
 have hm:=(Qv t true).1
 have hp:=Kg n (Qy t true)
 have:(n+Qy t true-1)/Qy t true≤1:=by
  have:=Nat.div_lt_of_lt_mul (m:=n+Qy t true-1) (n:=Qy t true) (k:=2) (by omega)
  omega
 unfold ovN
 omega
theorem Gm{t:Int}{n:Nat}(h:n≤Qy t true):Xw t n=1:=by
 unfold Xw Ui
 rw[ov_one h,Gh (by decide)];rfl
theorem Zfw{t:Int}{l:List Ent}{q:Nat}{bs:Bl}(h:l.length≤Qy t true):Yz t l q bs=((q:Int),Kn bs (q*256) (Yf 2 ((q:Nat):Int) (Zfh t true (Qy t true) (Ua t true) l))):=by
 unfold Yz
 rw[ov_one h,Nd (by rw[Ye];exact Nat.le_refl _)]
 have e:Xq l (Qy t true) 0=l:=by unfold Xq;rw[Nat.zero_mul,List.drop_zero,List.take_of_length_le h]
 show(((q+0:Nat):Int),Kn bs ((q+0)*256) (Yf 2 ((q+0:Nat):Int) (Zfh t true (Qy t true) (Ua t true) (Xq l (Qy t true) 0))))=_
 rw[e,Nat.add_zero]
theorem one_ok{t:Int}{l:List Ent}(E:EntsOk (Ua t true) l)(h1:1≤t)(h2:t≤5)(h:l.length≤Qy t true):NodeOk t true l.length (Qy t true) (Ua t true) (Ks l) (Ga l):=by
 have e:Xq l (Qy t true) 0=l:=by unfold Xq;rw[Nat.zero_mul,List.drop_zero,List.take_of_length_le h]
 have:=Zak (l:=l) E h1 h2 rfl rfl (fun h=>by cases h) (i:=0) (by rw[ov_one h];decide)
 rw[e] at this
 exact this
theorem Zfy{F:Bl}{t:Int}{l:List Ent}{q:Nat}(E:EntsOk (Ua t true) l)(h1:1≤t)(h2:t≤5)(h:l.length≤Qy t true)(hq:q<F.length/256)(h4:q<14400)(hb:Km F q=Yf 2 ((q:Nat):Int) (Zfh t true (Qy t true) (Ua t true) l)) :
 Xc F (q:Int) t=0∧Xp (inB F (q:Int))=true∧Zt (inB F (q:Int))=l.length∧Yo F (q:Int)=Ks l∧Yx F (q:Int)=Ga l:=by
 have N:=one_ok E h1 h2 h
 obtain⟨he,a0⟩:=blk_back N rfl hq h4 hb t (.inr rfl)
 have B:=Zhh N
 refine⟨he,by rw[a0];exact B.l,by rw[a0];exact B.c,?_,?_⟩
 ·unfold Yo;rw[a0,B.c];exact B.k
 ·unfold Yx;rw[a0,B.c];exact B.v
theorem mapV_read{m:Mp}(h1:0≤m.2.1∧m.2.1≤65535)(h2:0≤m.2.2∧m.2.2≤16777215):Xk Vm (Zfa m)=0∧(Uk (Zfa m):Int)=m.2.1∧(Pb (Zfa m):Int)=m.2.2:=by
 obtain⟨he,hv⟩:=put_read (ps:=Vm) (N:=[m.2.1*16777216+m.2.2]) Zdy rfl (by
  unfold Gd
  rw[show List.range Vm.length=[0] from rfl]
  simp[inP,Vm,List.getD];omega)
 have h:=hv 0 (by decide)
 have hn:(mapN (Zfa m):Int)=m.2.1*16777216+m.2.2:=h
 refine⟨he,?_,?_⟩
 ·unfold Uk;omega
 ·unfold Pb;omega
def L46:List Dv:=[((1,0,0,0),[]),((4,0,0,0),[(3,5,7)])]
def B46:Bl:=Eh 0 0 1 9 L46 20
theorem Zac:DevsOk ((9:Nat):Int) L46:=by
 refine⟨by decide,by decide,?_,fun d hd=>?_⟩
 ·unfold L46;simp
 ·simp only[L46,List.mem_cons,List.not_mem_nil,or_false] at hd
  rcases hd with rfl|rfl
  ·exact⟨by decide,by decide,by decide,by decide,MapsOk.nil _⟩
  ·refine⟨by decide,by decide,by decide,by decide,by simp,fun m hm=>?_⟩
   rw[List.mem_singleton.1 hm]
   exact⟨by decide,by decide,by decide⟩
theorem Zgm:PoolOk 0 0 1 ((9:Nat):Int) L46:=⟨by decide,by decide,by decide,by decide,Zac⟩
theorem L46_oft:oftL 9 L46=0:=by decide
theorem Ex:Ms 9 L46≤20:=by
 have h3:Xw 3 L46.length=1:=Gm (by decide)
 have h1:Xw 1 L46.length=1:=Gm (by decide)
 have h2:My L46=2:=by
  unfold My L46
  have a:Xw 2 0=1:=Gm (by decide)
  have b:Xw 2 1=1:=Gm (by decide)
  simp[a,b]
 have h4:Xw 4 (bmN 9)=1:=Gm (by decide)
 have h5:Xw 5 0=1:=Gm (by decide)
 have hb:bmN 9=1:=by decide
 unfold Ms Zfb Ej
 rw[h3,h1,h2,h4,L46_oft,h5,hb]
 decide
def m46:List Ent:=Nl [(3,5,7)]
def T46:List Ent:=Mf L46 (Ry L46)
def D46:List Ent:=Mz L46 (Ww L46)
theorem F46:F2 L46=[(2,[]),(2,m46),(1,T46),(3,D46)]:=rfl
theorem n46:Kr (2,[])=1∧Kr (2,m46)=1∧Kr (1,T46)=1∧Kr (3,D46)=1:=⟨Gm (by decide),Gm (by decide),Gm (by decide),Gm (by decide)⟩
theorem f46:Xu (F2 L46)=4∧Xu (F1 L46)=3:=by
 obtain⟨a,b,c,d⟩:=n46
 constructor
 ·rw[F46]
  show Kr (2,[])+(Kr (2,m46)+(Kr (1,T46)+(Kr (3,D46)+0)))=4
  rw[a,b,c,d]
 ·show Kr (2,[])+(Kr (2,m46)+(Kr (1,T46)+0))=3
  rw[a,b,c]
theorem r46:Ry L46 0=1∧Ry L46 1=2:=by
 obtain⟨a,b,c,d⟩:=n46
 constructor
 ·show Kr (2,[])+0=1
  rw[a]
 ·show Kr (2,[])+(Kr (2,m46)+0)=2
  rw[a,b]
theorem T46_is:T46=[(1,leB 1 4,0),(4,leB 2 4,0)]:=by
 unfold T46 Mf
 rw[show List.range L46.length=[0,1] from rfl]
 simp only[List.map_cons,List.map_nil,r46.1,r46.2]
 rfl
theorem b46:Mg L46 20=(Yz 3 D46 4 (Yz 1 T46 3 (Yz 2 m46 2 (Yz 2 [] 1 (List.replicate (20*256) (0:UInt8))).2).2).2).2:=by
 obtain⟨a,b,c,d⟩:=n46
 unfold Mg
 rw[F46]
 simp only[Zdd,a,b,c]
theorem mE46:EntsOk (Ua 2 true) m46:=Zga (data:=9) ((Zac.each ((4,0,0,0),[(3,5,7)]) (by simp[L46])).maps)
theorem TE46:EntsOk (Ua 1 true) T46:=Zhc Zac
theorem DE46:EntsOk (Ua 3 true) D46:=(det_ok (C:=Ww L46) Zac).2.2.1
theorem blk46:Km (Mg L46 20) 2=Yf 2 ((2:Nat):Int) (Zfh 2 true (Qy 2 true) (Ua 2 true) m46)∧Km (Mg L46 20) 3=Yf 2 ((3:Nat):Int) (Zfh 1 true (Qy 1 true) (Ua 1 true) T46):=by
 obtain⟨a,b,c,d⟩:=n46
 have l0:(List.replicate (20*256) (0:UInt8)).length=20*256:=List.length_replicate
 have k1:=Kd (t:=2) (l:=[]) (q:=1) (bs:=List.replicate (20*256) (0:UInt8)) (by decide) (by decide) (⟨fun i hi=>absurd hi (by simp),fun j hj=>absurd hj (by simp),fun i hi=>absurd hi (by simp)⟩) (by rw[l0,show Xw 2 ([]:List Ent).length=1 from a];decide)
 rw[l0] at k1
 have k2:=Kd (t:=2) (l:=m46) (q:=2) (bs:=(Yz 2 [] 1 (List.replicate (20*256) (0:UInt8))).2) (by decide) (by decide) mE46 (by rw[k1.1,show Xw 2 m46.length=1 from b];decide)
 rw[k1.1] at k2
 have k3:=Kd (t:=1) (l:=T46) (q:=3) (bs:=(Yz 2 m46 2 (Yz 2 [] 1 (List.replicate (20*256) (0:UInt8))).2).2) (by decide) (by decide) TE46 (by rw[k2.1,show Xw 1 T46.length=1 from c];decide)
 rw[k2.1] at k3
 have k4:=Kd (t:=3) (l:=D46) (q:=4) (bs:=(Yz 1 T46 3 (Yz 2 m46 2 (Yz 2 [] 1 (List.replicate (20*256) (0:UInt8))).2).2).2) (by decide) (by decide) DE46 (by rw[k3.1,show Xw 3 D46.length=1 from d];decide)
 have s2:(Yf 2 ((2:Nat):Int) (Zfh 2 true (Qy 2 true) (Ua 2 true) m46)).length=256:=Vd (by rw[Eo (one_ok mE46 (by decide) (by decide) (by decide))];decide)
 have s3:(Yf 2 ((3:Nat):Int) (Zfh 1 true (Qy 1 true) (Ua 1 true) T46)).length=256:=Vd (by rw[Eo (one_ok TE46 (by decide) (by decide) (by decide))];decide)
 rw[b46]
 constructor
 ·rw[k4.2 2 (by decide),k3.2 2 (by decide),Zfw (t:=2) (l:=m46) (by decide)]
  exact Ez s2 (by rw[k1.1];decide)
 ·rw[k4.2 3 (by decide),Zfw (t:=1) (l:=T46) (by decide)]
  exact Ez s3 (by rw[k2.1];decide)
theorem top46:Xc B46 3 1=0∧Xp (inB B46 3)=true∧Zt (inB B46 3)=2∧Yo B46 3=[1,4]∧Yx B46 3=[leB 1 4,leB 2 4]:=by
 obtain⟨hl,_,_,hb⟩:=Rx Zgm Ex (by decide)
 have a0:=hb 3 (by decide) (by rw[f46.1];decide)
 have h:=Zfy (F:=B46) (t:=1) (l:=T46) (q:=3) TE46 (by decide) (by decide) (by decide) (by unfold B46;rw[hl];decide) (by decide) (a0.trans blk46.2)
 obtain⟨h1,h2,h3,h4,h5⟩:=h
 refine⟨h1,h2,h3,?_,?_⟩
 ·rw[show(3:Int)=((3:Nat):Int) from rfl,h4,T46_is];rfl
 ·rw[show(3:Int)=((3:Nat):Int) from rfl,h5,T46_is];rfl
theorem dev46:Xc B46 2 2=0∧Xp (inB B46 2)=true∧Zt (inB B46 2)=1∧Yo B46 2=[3]∧Yx B46 2=[Zfa (3,5,7)]:=by
 obtain⟨hl,_,_,hb⟩:=Rx Zgm Ex (by decide)
 have a0:=hb 2 (by decide) (by rw[f46.1];decide)
 exact Zfy (F:=B46) (t:=2) (l:=m46) (q:=2) mE46 (by decide) (by decide) (by decide) (by unfold B46;rw[hl];decide) (by decide) (a0.trans blk46.1)
theorem sup46:Xg B46=0∧(Zg (inB B46 0)).top=3:=by
 obtain⟨hl,h1,h2,hb⟩:=Rx Zgm Ex (by decide)
 refine⟨h1,?_⟩
 unfold B46
 rw[h2]
 show((Xu (F1 L46):Nat):Int)=3
 rw[f46.2];rfl
theorem trC46a:trC [1,4] 4=2:=by decide
theorem trC46b:trC [3] 3=1:=by decide
theorem Zan:Wk B46 [0] 3 4 3=⟨[0,3,2],true,5,7,[],0⟩:=by
 obtain⟨a1,a2,a3,a4,a5⟩:=top46
 obtain⟨d1,d2,d3,d4,d5⟩:=dev46
 have v1:trV B46 3 4=leB 2 4:=by
  unfold trV
  rw[a4,trC46a]
  show(Yx B46 3).getD 1 []=_
  rw[a5];rfl
 have v2:trV B46 2 3=Zfa (3,5,7):=by
  unfold trV
  rw[d4,trC46b]
  show(Yx B46 2).getD 0 []=_
  rw[d5];rfl
 have f1:Zp B46 1 4 16 [0] 3=([0,3],.val (leB 2 4)):=by
  rw[Zp,if_neg (by rw[a1];decide),a4,if_neg (by rw[trC46a];decide),if_pos a2,if_pos (by decide),v1];rfl
 obtain⟨r1,r2⟩:=root_leB (q:=2) (by decide) (by decide)
 have r1:Xj (leB 2 4)=0:=r1
 have r2:(Xm (leB 2 4):Int)=2:=r2
 have f2:Zp B46 2 3 16 [0,3] 2=([0,3,2],.val (Zfa (3,5,7))):=by
  rw[Zp,if_neg (by rw[d1];decide),d4,if_neg (by rw[trC46b];decide),if_pos d2,if_pos (by decide),v2];rfl
 obtain⟨m1,m2,m3⟩:=mapV_read (m:=(3,5,7)) (by decide) (by decide)
 unfold Wk
 simp only[f1,trE,Tk,trS,r1,r2,f2,m1,m2,m3]
 simp
theorem sup46T:supT B46 4 3=⟨[0,3,2],true,5,7,[],0⟩:=by
 rw[Zaq sup46.1,sup46.2];exact Zan
def Z46 (b8:Nat):List Zv:=[(((1,0,0,0),[]),none,0),(((4,0,0,0),[(3,5,7)]),some ⟨b8,0,none⟩,1)]
theorem lay46(b8 b10:Nat)(w:World)(k8:Blk w b8 [V0 3,V0 5,V0 7] 46)(k10:Blk w b10 [V0 1,V0 0,V0 0,V0 0,S0,V0 4,V0 0,V0 0,V0 0,.slice (S1 b8) 1 1] 42):C0 17 #[.agg #[V0 0,V0 0,V0 1,V0 9,.slice (S1 b10) 2 2],V0 20] w (LayO B46 20 w):=by
 refine lay_LayY (S1 b10) 2 2 9 20 0 0 1 (Z46 b8) w rfl ⟨?_,fun i hi=>?_⟩ Zgm (by decide) Ex
 ·exact k10.sl 2 2 (by decide) (by decide)
 ·have hi:i<2:=hi
  obtain rfl|rfl:i=0∨i=1:=by omega
  ·exact .inl ⟨none,0,rfl,rfl,rfl⟩
  ·exact k8.sl 1 1 (by decide) (by decide)
theorem trace46(Bi b:Nat)(p:O0)(n c:Nat)(w:World)(hI:ImgR Bi b p n c B46 w):C0 8 #[P0 b,V0 4,V0 3] w (Vo (fun w' r=>∃ q d,r=.tuple #[.agg #[.slice q 3 d,.bool true,V0 5,V0 7],.nilIface]∧w'.ownsRow w.heap.size 3 1 (.slice q 3 d) 3 (([0,3,2]:List Int).map V0)) w):=by
 refine(Fw Bi b p n c B46 4 3 w hI).mono ?_
 rintro e W h
 rw[sup46T] at h
 rcases h with ⟨h,_⟩|⟨_,q,d,rfl,hb,ho⟩
 ·exact absurd rfl h
 ·exact⟨_,rfl,hb,q,d,rfl,ho⟩
theorem Zew(w:World) :
 C0 5 #[] w (Ret (.bool true) w):=by
 refine zin 46 Tryz.func5 ?_
 refine xbs 9 1 [V0 3,V0 5,V0 7] 46 fun b1 W1 n1=>?_
 refine xbs 1 2 [V0 1,V0 0,V0 0,V0 0,S0,V0 4,V0 0,V0 0,V0 0,.slice (S1 b1) 1 1] 42 fun b2 W2 n2=>?_
 refine xa 1 [V0 0,V0 0,V0 0,V0 0,S0] 28 fun b3 W3 n3=>?_
 refine xsv 0 n3.blk [V0 0,V0 0,V0 1,V0 9,.slice (S1 b2) 2 2] fun W4 u4 k4=>?_
 have g3:=n3.ge (bln n1.below n2.below)
 refine xlv 4 k4.rp ?_
 have k2:=u4.blkT (n2.blk.below n3.below) n3.blk (by decide)
 have k1:=u4.blkT ((n1.blk.below n2.below).below n3.below) n3.blk (by decide)
 refine xc 0 (args:=#[.agg #[V0 0,V0 0,V0 1,V0 9,.slice (S1 b2) 2 2],V0 20]) (lay46 b1 b2 _ k1 k2) ?_
 rintro _ W5 ⟨bi,g,ci,rfl,a5,hI⟩
 refine xc 20 (args:=#[P0 bi,V0 4,V0 3]) (trace46 _ bi _ _ ci _ hI) ?_
 rintro _ W6 ⟨_,rfl,a6,q8,d8,rfl,a8⟩
 have a7:=(bln (u4.below (bln (bln n1.below n2.below) n3.below) g3) a5).size
 refine xa 3 [S0,.bool false,V0 0,V0 0] 37 fun b7 W7 n7=>?_
 refine xsv 0 n7.blk [.slice q8 3 d8,.bool true,V0 5,V0 7] fun W8 u8 k8=>?_
 have g7:=n7.ge (bln (bln (u4.below (bln (bln n1.below n2.below) n3.below) g3) a5) a6)
 refine xb 9 1 k8 ?_
 refine xb 3 2 k8 ?_
 refine xb 4 3 k8 ?_
 refine xb 4 0 k8 ?_
 refine xbs 0 3 [V0 0,V0 3,V0 2] 3 fun b9 W9 n9=>?_
 have hB:=u8.below (bln (bln (bln (u4.below (bln (bln n1.below n2.below) n3.below) g3) a5) a6) n7.below) g7
 have g9:=n9.ge hB
 have a0:=u8.own2 (Zb (Zh a8 a7) n7.below) n7.blk (by decide)
 have a4:=Zu a0 n9
 have a1:=Zb a0 n9.below
 refine xr 0 (args:=#[.slice q8 3 d8,.slice (S1 b9) 3 3]) (ref01_Same q8 (S1 b9) d8 3 [0,3,2] _ (Zf a1) (n9.blk.sl 3 3 (by decide) (by decide))) fun a9 a2=>?_
 have a3:=bln (bln hB n9.below) a2
 exact xe 5 (.bool true) ⟨rfl,a3⟩
theorem Wr(Bi b:Nat)(p:O0)(n c:Nat)(l:Bl)(fuel id v:Int)(M:List Mp)(f1:Bool)(f2 f3:Int)(w:World)(hI:ImgR Bi b p n c l w)(h:(Ch l fuel).2.1=0)(hM:Ji (Ch l fuel).2.2 id=M)(hF:Gi M v=(f1,f2,f3)) :
 C0 8 #[P0 b,V0 id,V0 v] w (Vo (fun w' r=>∃ q m d a t,m=(a::t).length∧r=.tuple #[.agg #[.slice q (m+1) d,.bool f1,V0 f2,V0 f3],.nilIface]∧w'.ownsRow w.heap.size 3 1 (.slice q (m+1) d) (m+1) (((0:Int)::a::t).map V0)) w):=by
 obtain⟨h1,⟨a,t,h2⟩,h3⟩:=supT_finds h id v
 rw[hM,hF] at h3
 simp only[Prod.mk.injEq] at h3
 obtain⟨e1,e2,e3⟩:=h3
 refine(Fw Bi b p n c l id v w hI).mono ?_
 rintro e W q
 rcases q with ⟨q,_⟩|⟨_,p9,c9,rfl,hb,ho⟩
 ·exact absurd h1 q
 ·rw[e1,e2,e3,h2]
  rw[h2] at ho
  exact⟨_,rfl,hb,p9,_,c9,a,t,rfl,rfl,ho⟩
theorem Ip{l:List Nat}{a:Nat}(h:a∈l):a≤l.sum:=by
 induction l with
 | nil=>cases h
 | cons x l ih =>
  rw[List.sum_cons]
  rcases List.mem_cons.1 h with rfl|h
  ·omega
  ·have:=ih h;omega
theorem pool_FindM(p:O0)(c n:Nat)(t u v x:Int)(Z:List Zv)(id:Int)(M:List Mp)(w:World)(hZ:Z.length=n)(hP:DevsR w p c Z)(hMo:Xy 0 w Z)(hfew:∀ i,i<n→(Z.getD i zvD).1.2.length≤100000)(hM:Ji (Z.map Prod.fst) id=M) :
 C0 9 #[.agg #[V0 t,V0 u,V0 v,V0 x,.slice p n c],V0 id] w (Zdw M w):=by
 subst hM;exact pool_Find p c n t u v x Z id w hZ hP hMo hfew
theorem devOfL_few{data:Int}{L:List Dv}(h:DevsOk data L)(id:Int):(Ji L id).length≤16384:=by
 unfold Ji
 split
 ·rename_i d hd
  have hm:=List.mem_of_find?_eq_some hd
  have:=h.sum
  unfold Gv at this
  exact Nat.le_trans (Ip (List.mem_map_of_mem (f:=fun d:Dv=>d.2.length) hm)) this
 ·exact Nat.zero_le _
theorem zv_few{data:Int}{Z:List Zv}{n:Nat}(h:DevsOk data (Z.map Prod.fst))(hZ:Z.length=n):∀ i,i<n→(Z.getD i zvD).1.2.length≤100000:=fun i hi=>by
 have hi:i<Z.length:=by omega
 have hm:(Z.getD i zvD).1∈Z.map Prod.fst:=by rw[show Z.getD i zvD=Z[i] from by simp[List.getD,hi]];exact List.mem_map_of_mem (List.getElem_mem hi)
 have:=h.sum
 unfold Gv at this
 have h2:=Ip (List.mem_map_of_mem (f:=fun d:Dv=>d.2.length) hm)
 omega
theorem Ti(a:O0)(c:Nat)(l:Bl)(id v:Int)(w:World)(h:Bys w (.slice a l.length c) l) :
 C0 3 #[.slice a l.length c,V0 id,V0 v] w (Ret (.bool true) w):=by
 have l9:=h.cap rfl
 refine zin 154 Tryz.func3 ?_
 refine xid 13 ((l.length:Int)>(13000:Int)) (fun m7=>?_) (fun m7=>?_)
 ·refine xr 2 (args:=#[]) (Zew _) fun W2 n3=>?_
  exact xe 5 (.bool true) ⟨rfl,n3⟩
 refine xc 5 (args:=#[.slice a l.length c]) (image_OfR a c l.length ((l.length/256)*256) l _ rfl (by omega) (h.below (B4 w)) (by omega) l9) ?_
 rintro _ W3 ⟨_,rfl,f5,bi,pi,ci,rfl,_,hI⟩
 refine xc 6 (args:=#[P0 bi,V0 1000000]) (load_Pool _ bi pi _ ci (l.take ((l.length/256)*256)) 1000000 _ hI (by decide)) ?_
 rintro e W4 n1
 rcases n1 with ⟨i1,r5,v9,rfl,e3,p3⟩|⟨i1,p9,c9,Z9,rfl,e3,o3⟩
 ·refine xa 4 [V0 0,V0 0,V0 0,V0 0,S0] 28 fun b5 W5 n5=>?_
  refine xa 0 [V0 0,V0 0,V0 0,V0 0,V0 0,V0 0,V0 0,V0 0,V0 0,V0 0,V0 0] 30 fun b6 W6 n6=>?_
  have k5:=n5.blk.below n6.below
  refine xsv 0 k5 [V0 0,V0 0,V0 0,V0 0,S0] fun W7 u7 k7=>?_
  have g5:=n5.ge (bln f5 e3)
  have k6:=u7.blkT n6.blk k5 (by decide)
  refine xsv 0 k6 [V0 0,V0 0,V0 0,V0 0,V0 0,V0 0,V0 0,V0 0,V0 0,V0 0,V0 0] fun W8 u8 k8=>?_
  have g6:=n6.ge (bln (bln f5 e3) n5.below)
  refine xr 13 (args:=#[]) (Zew _) fun W9 o6=>?_
  have hB:=bln (u8.below (u7.below (bln (bln (bln f5 e3) n5.below) n6.below) g5) g6) o6
  exact xe 5 (.bool true) ⟨rfl,hB⟩
 have l5:=poolO_ok i1
 have c3:=Zd5 l5.devs id
 have j0:=devOfL_few l5.devs id
 obtain⟨M,i6⟩:∃ M,Ji (Ch (l.take ((l.length/256)*256)) 1000000).2.2 id=M:=⟨_,rfl⟩
 rw[i6] at c3 j0
 obtain⟨f1,f2,f3,hF⟩:∃ a b c,Gi M v=(a,b,c):=⟨_,_,_,rfl⟩
 refine xa 4 [V0 0,V0 0,V0 0,V0 0,S0] 28 fun m6 r3 f4=>?_
 refine xa 0 [V0 0,V0 0,V0 0,V0 0,V0 0,V0 0,V0 0,V0 0,V0 0,V0 0,V0 0] 30 fun o0 r4 f9=>?_
 have j6:=f4.blk.below f9.below
 refine xsv 0 j6 [V0 (((Zg (inB (l.take ((l.length/256)*256)) 0))).tx),V0 (((Zg (inB (l.take ((l.length/256)*256)) 0))).time),V0 (((Zg (inB (l.take ((l.length/256)*256)) 0))).unit),V0 (((Zg (inB (l.take ((l.length/256)*256)) 0))).data),.slice p9 ((Ch (l.take ((l.length/256)*256)) 1000000).2.2.length) c9] fun q6 h8 n9=>?_
 have j7:=f4.ge (bln f5 e3)
 have j9:=h8.blkT f9.blk j6 (by decide)
 refine xsv 0 j9 [V0 (((Zg (inB (l.take ((l.length/256)*256)) 0))).tx),V0 (((Zg (inB (l.take ((l.length/256)*256)) 0))).time),V0 (((Zg (inB (l.take ((l.length/256)*256)) 0))).unit),V0 (((Zg (inB (l.take ((l.length/256)*256)) 0))).data),V0 (((Zg (inB (l.take ((l.length/256)*256)) 0))).blocks),V0 (((Zg (inB (l.take ((l.length/256)*256)) 0))).top),V0 (((Zg (inB (l.take ((l.length/256)*256)) 0))).details),V0 (((Zg (inB (l.take ((l.length/256)*256)) 0))).dslots),V0 (((Zg (inB (l.take ((l.length/256)*256)) 0))).dover),V0 (((Zg (inB (l.take ((l.length/256)*256)) 0))).mindex),V0 (((Zg (inB (l.take ((l.length/256)*256)) 0))).mover)] fun q3 h7 o1=>?_
 have j8:=f9.ge (bln (bln f5 e3) f4.below)
 have i9:=((((hI.below e3).below f4.below).below f9.below).only (Zd.of_upd (T:=[28]) h8 j6 (by decide)) (by decide)).only (Zd.of_upd (T:=[30]) h7 j9 (by decide)) (by decide)
 refine xc 18 (args:=#[P0 bi,V0 id,V0 v]) (Wr _ bi pi _ ci (l.take ((l.length/256)*256)) 1000000 id v M f1 f2 f3 _ i9 i1 i6 hF) ?_
 rintro _ q4 ⟨_,rfl,c5,q1,m1,d1,a1,t1,o2,rfl,n7⟩
 have k1:=(h7.below (h8.below (bln (bln (bln f5 e3) f4.below) f9.below) j7) j8).size
 rw[List.length_cons] at o2
 refine xa 3 [S0,.bool false,V0 0,V0 0] 37 fun m4 r6 c7=>?_
 refine xsv 0 c7.blk [.slice q1 (m1+1) d1,.bool f1,V0 f2,V0 f3] fun p6 h5 l7=>?_
 have m5:=c7.ge (bln (h7.below (h8.below (bln (bln (bln f5 e3) f4.below) f9.below) j7) j8) c5)
 refine xb 10 0 l7 ?_
 refine xgk 4 [47,48,49] (show(decide ((↑(m1+1):Int)<(2:Int)):Bool)=false from decide_eq_false (by omega)) ?_
 refine xb 1 0 l7 ?_
 have g8:=h5.own2 (Zb (Zh n7 k1) c7.below) c7.blk (by decide)
 refine xx 0 _ (m1+1) 0 1 (IntsN.elem (l:=(0:Int)::a1::t1) (Zf g8) (by simp only[List.length_cons];omega) (k:=0) (by omega)).1 ?_
 refine xl 0 ((IntsN.elem (l:=(0:Int)::a1::t1) (Zf g8) (by simp only[List.length_cons];omega) (k:=0) (by omega)).2) ?_
 have h2:=h5.blkT (((h7.blkT n9 j9 (by decide)).below c5).below c7.below) c7.blk (by decide)
 refine xlv 9 h2.rp ?_
 have b3:=((((((o3.below f4.below).below f9.below).only (Zd.of_upd (T:=[28]) h8 j6 (by decide)) (by decide)).only (Zd.of_upd (T:=[30]) h7 j9 (by decide)) (by decide)).below c5).below c7.below).only (Zd.of_upd (T:=[37]) h5 c7.blk (by decide)) (by decide)
 refine xc 1 (args:=#[.agg #[V0 (((Zg (inB (l.take ((l.length/256)*256)) 0))).tx),V0 (((Zg (inB (l.take ((l.length/256)*256)) 0))).time),V0 (((Zg (inB (l.take ((l.length/256)*256)) 0))).unit),V0 (((Zg (inB (l.take ((l.length/256)*256)) 0))).data),.slice p9 ((Ch (l.take ((l.length/256)*256)) 1000000).2.2.length) c9],V0 id]) (pool_FindM p9 c9 _ _ _ _ _ Z9 id M _ b3.1 b3.read b3.2.2.1 (zv_few (by rw[b3.2.1];exact l5.devs) b3.1) (by rw[b3.2.1,i6])) ?_
 rintro _ p2 ⟨x1,x2,x3,x4,q8,c8,bo,rfl,e5,h1⟩
 have l8:=(h5.below (bln (bln (h7.below (h8.below (bln (bln (bln f5 e3) f4.below) f9.below) j7) j8) c5) c7.below) m5).size
 refine xa 3 [V0 0,V0 0,V0 0,V0 0,S0] 42 fun m0 r1 d8=>?_
 have hB:=bln (h5.below (bln (bln (h7.below (h8.below (bln (bln (bln f5 e3) f4.below) f9.below) j7) j8) c5) c7.below) m5) e5
 have o5:=d8.ge hB
 refine xsv 0 d8.blk [V0 x1,V0 x2,V0 x3,V0 x4,.slice q8 M.length c8] fun p8 h9 n4=>?_
 refine xa 6 [S0,.bool false,V0 0,V0 0] 37 fun m3 p1 c4=>?_
 have g7:=h9.blkT ((l7.below e5).below d8.below) d8.blk (by decide)
 have c6:=c4.ne g7
 have i2:=h9.below (bln hB d8.below) o5
 have l0:=c4.ge i2
 refine xsv 0 c4.blk [S0,.bool false,V0 0,V0 0] fun q7 h6 o8=>?_
 have j3:=h6.own2 (Zb (h9.own2 (Zb (Zh h1 l8) d8.below) d8.blk (by decide)) c4.below) c4.blk (by decide)
 have l4:=(((((((i9.below c5).below c7.below).only (Zd.of_upd (T:=[37]) h5 c7.blk (by decide)) (by decide)).below e5).below d8.below).only (Zd.of_upd (T:=[42]) h9 d8.blk (by decide)) (by decide)).below c4.below).only (Zd.of_upd (T:=[37]) h6 c4.blk (by decide)) (by decide)
 have k4:=h6.below (bln i2 c4.below) l0
 have i4:=h6.blkT ((h9.blkT ((h2.below e5).below d8.below) d8.blk (by decide)).below c4.below) c4.blk (by decide)
 have j4:=h6.blkT ((h9.blkT (((h5.blkT ((o1.below c5).below c7.below) c7.blk (by decide)).below e5).below d8.below) d8.blk (by decide)).below c4.below) c4.blk (by decide)
 have i0:=h6.blk (g7.below c4.below) (Ne.symm (Ne.symm c6))
 have i7:=h6.blkT (n4.below c4.below) c4.blk (by decide)
 refine zl 9 154 (fun zm m9 V=>∃ (i:Nat) (g1:Bool) (g2 g3:Int),m9=[(1,V0 id),(2,V0 v),(7,P0 bi),(11,P0 m4),(13,P0 m0),(15,P0 m3),(16,V0 (i:Int))]∧zm=M.length-((i:Int)).toNat∧B3 w V∧Blk V m6 ([V0 (((Zg (inB (l.take ((l.length/256)*256)) 0))).tx),V0 (((Zg (inB (l.take ((l.length/256)*256)) 0))).time),V0 (((Zg (inB (l.take ((l.length/256)*256)) 0))).unit),V0 (((Zg (inB (l.take ((l.length/256)*256)) 0))).data),.slice p9 ((Ch (l.take ((l.length/256)*256)) 1000000).2.2.length) c9]) 28∧Blk V o0 ([V0 (((Zg (inB (l.take ((l.length/256)*256)) 0))).tx),V0 (((Zg (inB (l.take ((l.length/256)*256)) 0))).time),V0 (((Zg (inB (l.take ((l.length/256)*256)) 0))).unit),V0 (((Zg (inB (l.take ((l.length/256)*256)) 0))).data),V0 (((Zg (inB (l.take ((l.length/256)*256)) 0))).blocks),V0 (((Zg (inB (l.take ((l.length/256)*256)) 0))).top),V0 (((Zg (inB (l.take ((l.length/256)*256)) 0))).details),V0 (((Zg (inB (l.take ((l.length/256)*256)) 0))).dslots),V0 (((Zg (inB (l.take ((l.length/256)*256)) 0))).dover),V0 (((Zg (inB (l.take ((l.length/256)*256)) 0))).mindex),V0 (((Zg (inB (l.take ((l.length/256)*256)) 0))).mover)]) 30∧Blk V m4 ([.slice q1 (m1+1) d1,.bool f1,V0 f2,V0 f3]) 37∧Blk V m0 ([V0 x1,V0 x2,V0 x3,V0 x4,.slice q8 M.length c8]) 42∧Blk V m3 ([S0,.bool g1,V0 g2,V0 g3]) 37∧V.ownsRow w.heap.size 46 3 (.slice q8 M.length c8) M.length (M.flatMap Pj)∧ImgR _ bi pi _ ci (l.take ((l.length/256)*256)) V∧i≤M.length∧Gi (M.take i) v=(g1,g2,g3)) ⟨0,false,0,0,rfl,rfl,k4,i4,j4,i0,i7,o8,j3,l4,Nat.zero_le _,rfl⟩ ?_
 rintro _ _ g0 ⟨i,g1,g2,g3,rfl,rfl,e7,d0,d3,a4,a3,a5,h1,hI,hi,hg⟩ q9 j2 p4
 refine xb 5 4 a3 ?_
 refine xid 4 ((i:Int)<(M.length:Int)) (fun l3=>?_) (fun l3=>?_)
 ·refine xb 8 4 a3 ?_
  refine xx 1 _ M.length i 3 (Sts.cell (f:=Pj) (l:=M) (Zf h1) Ya mpD (k:=i) (i:=0) (by omega) rfl).1 ?_
  refine xl 1 ((Sts.cell (l:=M) (Zf h1) Ya mpD (k:=i) (i:=0) (by omega) rfl).2) ?_
  refine xie 4 ((M.getD i mpD).1) v (fun k9=>?_) (fun k9=>?_)
  ·refine xd 0 (.t w.heap.size [37]) ?_
   have a6:=a3.below (Za g0)
   refine xbt (.e [0] 1) 4 w.heap.size [37] a6 ?_
   have b7:=Zb h1 (Za g0)
   refine xx (.e [2] 3) _ M.length i 3 (Sts.cell (f:=Pj) (l:=M) (Zf b7) Ya mpD (k:=i) (i:=0) (by omega) rfl).1 ?_
   refine xlt (.e [4] 5) (.t w.heap.size [37]) (fun V hV=>(Sts.cell (l:=M) (Zf (Zi b7 hV.2 (by decide))) Ya mpD (k:=i) (i:=1) (by omega) rfl).2) ?_
   refine xbt (.e [6] 7) 4 w.heap.size [37] a6 ?_
   refine xx (.e [8] 9) _ M.length i 3 (Sts.cell (f:=Pj) (l:=M) (Zf b7) Ya mpD (k:=i) (i:=0) (by omega) rfl).1 ?_
   refine xlt (.e [10] 11) (.t w.heap.size [37]) (fun V hV=>(Sts.cell (l:=M) (Zf (Zi b7 hV.2 (by decide))) Ya mpD (k:=i) (i:=2) (by omega) rfl).2) ?_
   have a0:=a5.below (Za g0)
   refine ysv (.o [12] 13) a0 [S0,.bool true,V0 ((M.getD i mpD).2.1),V0 ((M.getD i mpD).2.2)] (.t w.heap.size [37]) fun p0 g9 n2=>⟨(Zl g9 a0 l0 (by decide)),?_⟩
   have b1:=g9.blkT a6 a0 (by decide)
   refine xb 7 4 b1 ?_
   have e4:=g9.own2 b7 a0 (by decide)
   refine xx 1 _ M.length i 3 (Sts.cell (f:=Pj) (l:=M) (Zf e4) Ya mpD (k:=i) (i:=0) (by omega) rfl).1 ?_
   refine xl 1 ((Sts.cell (l:=M) (Zf e4) Ya mpD (k:=i) (i:=0) (by omega) rfl).2) ?_
   have j1:=(hI.below (Za g0)).only (Zd.of_upd (T:=[37]) g9 a0 (by decide)) (by decide)
   refine xc 0 (args:=#[P0 bi,V0 id,V0 ((M.getD i mpD).1)]) (Wr _ bi pi _ ci (l.take ((l.length/256)*256)) 1000000 id (M.getD i mpD).1 M true (M.getD i mpD).2.1 (M.getD i mpD).2.2 _ j1 i1 i6 (Zbx c3 (by omega))) ?_
   rintro _ p7 ⟨_,rfl,c1,q2,m2,d2,a2,t2,n8,rfl,_⟩
   refine xa 3 [S0,.bool false,V0 0,V0 0] 37 fun r0 r2 b4=>?_
   have a9:=(g9.blk (a4.below (Za g0)) (Ne.symm (Ne.symm c6))).below c1
   have f7:=b4.ne a9
   have h4:=n2.below c1
   have e8:=b4.ne h4
   have i5:=bln (g9.below (bln e7 (Za g0)) l0) c1
   have n0:=b4.ge i5
   refine xsv 0 b4.blk [.slice q2 (m2+1) d2,.bool true,V0 ((M.getD i mpD).2.1),V0 ((M.getD i mpD).2.2)] fun f8 h3 o7=>?_
   refine xd 4 .z ?_
   have e6:=o7.below (Za f8)
   refine xb (.e [0,1,2,3] 4) 1 e6 ?_
   refine xb (.e [5,6,7,8] 9) 2 e6 ?_
   have a8:=(h3.blkT ((b1.below c1).below b4.below) b4.blk (by decide)).below (Za f8)
   refine xb (.e [10] 11) 4 a8 ?_
   have b8:=Zb (h3.own2 (Zb (Zb e4 c1) b4.below) b4.blk (by decide)) (Za f8)
   refine xx (.e [12] 13) _ M.length i 3 (Sts.cell (f:=Pj) (l:=M) (Zf b8) Ya mpD (k:=i) (i:=0) (by omega) rfl).1 ?_
   refine xl (.e [14] 15) ((Sts.cell (l:=M) (Zf b8) Ya mpD (k:=i) (i:=1) (by omega) rfl).2) ?_
   refine xgk (.b [16,17,18]) [119,120,121] (show(((M.getD i mpD).2.1 != (M.getD i mpD).2.1):Bool)=false from bne_self_eq_false _) ?_
   refine xb (.e [19] 20) 3 e6 ?_
   refine xb (.e [21] 22) 4 a8 ?_
   refine xx (.e [23] 24) _ M.length i 3 (Sts.cell (f:=Pj) (l:=M) (Zf b8) Ya mpD (k:=i) (i:=0) (by omega) rfl).1 ?_
   refine xl (.e [25] 26) ((Sts.cell (l:=M) (Zf b8) Ya mpD (k:=i) (i:=2) (by omega) rfl).2) ?_
   refine xk (.r [27,28] 2) (show(((M.getD i mpD).2.2 != (M.getD i mpD).2.2):Bool)=false from bne_self_eq_false _) ?_
   refine xwm 5 ((i:Int)+1) (↑(i+1):Int) ?_
   have l6:=bln (h3.below (bln i5 b4.below) n0) (Za f8)
   have d4:=(h3.blkT (((g9.blkT (d0.below (Za g0)) a0 (by decide)).below c1).below b4.below) b4.blk (by decide)).below (Za f8)
   have d5:=(h3.blkT (((g9.blkT (d3.below (Za g0)) a0 (by decide)).below c1).below b4.below) b4.blk (by decide)).below (Za f8)
   have e1:=(h3.blk (a9.below b4.below) (Ne.symm (Ne.symm f7))).below (Za f8)
   have i8:=(h3.blk (h4.below b4.below) (Ne.symm (Ne.symm e8))).below (Za f8)
   have k2:=(((j1.below c1).below b4.below).only (Zd.of_upd (T:=[37]) h3 b4.blk (by decide)) (by decide)).below (Za f8)
   exact ze 2 (j2 _ _ _ ⟨i+1,true,(M.getD i mpD).2.1,(M.getD i mpD).2.2,rfl,rfl,l6,d4,d5,e1,a8,i8,b8,k2,by omega,(by rw[Fn c3 (by omega),if_pos (by assumption)])⟩ (by omega))
  refine xb 7 4 a3 ?_
  refine xx 1 _ M.length i 3 (Sts.cell (f:=Pj) (l:=M) (Zf h1) Ya mpD (k:=i) (i:=0) (by omega) rfl).1 ?_
  refine xl 1 ((Sts.cell (l:=M) (Zf h1) Ya mpD (k:=i) (i:=0) (by omega) rfl).2) ?_
  refine xc 0 (args:=#[P0 bi,V0 id,V0 ((M.getD i mpD).1)]) (Wr _ bi pi _ ci (l.take ((l.length/256)*256)) 1000000 id (M.getD i mpD).1 M true (M.getD i mpD).2.1 (M.getD i mpD).2.2 _ hI i1 i6 (Zbx c3 (by omega))) ?_
  rintro _ p5 ⟨_,rfl,c0,q2,m2,d2,a2,t2,n8,rfl,_⟩
  refine xa 3 [S0,.bool false,V0 0,V0 0] 37 fun q0 q5 c2=>?_
  have b0:=a4.below c0
  have f0:=c2.ne b0
  have b2:=a5.below c0
  have f6:=c2.ne b2
  have i3:=bln e7 c0
  have m8:=c2.ge i3
  refine xsv 0 c2.blk [.slice q2 (m2+1) d2,.bool true,V0 ((M.getD i mpD).2.1),V0 ((M.getD i mpD).2.2)] fun e9 h0 o4=>?_
  refine xd 4 .z ?_
  have e2:=o4.below (Za e9)
  refine xb (.e [0,1,2,3] 4) 1 e2 ?_
  refine xb (.e [5,6,7,8] 9) 2 e2 ?_
  have a7:=(h0.blkT ((a3.below c0).below c2.below) c2.blk (by decide)).below (Za e9)
  refine xb (.e [10] 11) 4 a7 ?_
  have b9:=Zb (h0.own2 (Zb (Zb h1 c0) c2.below) c2.blk (by decide)) (Za e9)
  refine xx (.e [12] 13) _ M.length i 3 (Sts.cell (f:=Pj) (l:=M) (Zf b9) Ya mpD (k:=i) (i:=0) (by omega) rfl).1 ?_
  refine xl (.e [14] 15) ((Sts.cell (l:=M) (Zf b9) Ya mpD (k:=i) (i:=1) (by omega) rfl).2) ?_
  refine xgk (.b [16,17,18]) [119,120,121] (show(((M.getD i mpD).2.1 != (M.getD i mpD).2.1):Bool)=false from bne_self_eq_false _) ?_
  refine xb (.e [19] 20) 3 e2 ?_
  refine xb (.e [21] 22) 4 a7 ?_
  refine xx (.e [23] 24) _ M.length i 3 (Sts.cell (f:=Pj) (l:=M) (Zf b9) Ya mpD (k:=i) (i:=0) (by omega) rfl).1 ?_
  refine xl (.e [25] 26) ((Sts.cell (l:=M) (Zf b9) Ya mpD (k:=i) (i:=2) (by omega) rfl).2) ?_
  refine xk (.r [27,28] 2) (show(((M.getD i mpD).2.2 != (M.getD i mpD).2.2):Bool)=false from bne_self_eq_false _) ?_
  refine xwm 5 ((i:Int)+1) (↑(i+1):Int) ?_
  have l1:=bln (h0.below (bln i3 c2.below) m8) (Za e9)
  have d9:=(h0.blkT ((d0.below c0).below c2.below) c2.blk (by decide)).below (Za e9)
  have d6:=(h0.blkT ((d3.below c0).below c2.below) c2.blk (by decide)).below (Za e9)
  have e0:=(h0.blk (b0.below c2.below) (Ne.symm (Ne.symm f0))).below (Za e9)
  have d7:=(h0.blk (b2.below c2.below) (Ne.symm (Ne.symm f6))).below (Za e9)
  have l2:=(((hI.below c0).below c2.below).only (Zd.of_upd (T:=[37]) h0 c2.blk (by decide)) (by decide)).below (Za e9)
  exact ze 2 (j2 _ _ _ ⟨i+1,g1,g2,g3,rfl,rfl,l1,d9,d6,e0,a7,d7,b9,l2,by omega,(by rw[Fn c3 (by omega),if_neg (by assumption)];exact hg)⟩ (by omega))
 have j5:(f1,f2,f3)=(g1,g2,g3):=by
  obtain rfl:i=M.length:=by omega
  rw[List.take_length,hF] at hg
  exact hg
 simp only[Prod.mk.injEq] at j5
 refine xb 8 1 a4 ?_
 refine xb 1 1 a5 ?_
 refine xgk 2 [136,137] (show((f1==g1):Bool)=true from beq_iff_eq.2 j5.1) ?_
 refine xb 1 2 a4 ?_
 refine xb 1 2 a5 ?_
 refine xgk 3 [142,143,144] (show((f2==g2):Bool)=true from beq_iff_eq.2 j5.2.1) ?_
 refine xb 1 3 a4 ?_
 refine xb 1 3 a5 ?_
 refine xgk 3 [149,150,151] (show((f3==g3):Bool)=true from beq_iff_eq.2 j5.2.2) ?_
 refine xr 0 (args:=#[]) (Zew _) fun o9 k0=>?_
 have k3:=bln e7 k0
 exact xe 5 (.bool true) ⟨rfl,k3⟩
end Go.Proofs.YtceeiinepijokaaGreat
namespace Go.Proofs.YtceeiinepijokaaGreat
set_option maxHeartbeats 8000000
set_option maxRecDepth 100000
open Go.ChangeShapes Go.WideShapes Go.ChangeAt Go.RowKit Go.Joins
set_option linter.unusedVariables false
theorem bytes_open{H:Type}{enc:TypeId×Value→H}{P:Program}{W:World}{r:Reach}{b0:Nat}{t e:TypeId}{v:Value}{d:DataW H}{p:List MemPlace}(ht:P.underlying t=some (.slice e))(he:P.underlying e=some (.int .u8))(hC:P.cellsOf e=1)
 (hv:Value.okWide P W r b0 t v) (h:DataW.Trod enc P W 0 (fun _=>true) true t v d p):∃ l,Bys W v l:=by
 obtain⟨a,a1,a7,rfl⟩:=okWide_slice ht hv
 obtain⟨b1,hf⟩:=h
 rcases open_ints ht he hC hf with ⟨a2,_⟩|⟨x,l,c,zs,a2,_,hl,hm,hz,_,a0,a9⟩
 ·simp[Value.cells] at a2
  obtain⟨rfl,rfl,rfl⟩:=a2
  exact⟨[],.inl ⟨_,_,rfl,rfl,rfl⟩⟩
 ·simp[Value.cells] at a2
  obtain⟨rfl,rfl,rfl⟩:=a2
  have b3:zs.length=a7:=by simpa using hz
  by_cases h0:a1=0
  ·subst h0
   exact⟨[],.inl ⟨_,_,rfl,rfl,rfl⟩⟩
  ·obtain⟨b,b2,a4⟩:=x
   have hc:=a0 0 (by omega)
   have a3:a4=none:=by simpa [Addr.add] using World.cell?_spot hc
   subst a3
   have a6:((zs.take a1).map fun n=>UInt8.ofNat n.toNat).length=a1:=by simp;omega
   refine⟨(zs.take a1).map fun n=>UInt8.ofNat n.toNat,.inr ⟨b,b2,a7,by rw[a6],by omega,hm,fun j x hj=>?_⟩⟩
   have a8:j<a1:=by have:=(List.getElem?_eq_some_iff.1 hj).1;simp at this;omega
   have e1:zs[j]? = some zs[j]:=List.getElem?_eq_getElem (by omega)
   have hw:=a9 zs[j] (List.getElem_mem _)
   have a5:=a0 j (by omega)
   have e2:zs.getD j 0=zs[j]:=by simp[List.getD,e1]
   rw[e2] at a5
   have hx:x=.int .u8 zs[j]:=by
    rw[List.getElem?_map,List.getElem?_map,List.getElem?_take_of_lt a8,e1] at hj
    simp only[Option.map_some,Option.some.injEq] at hj
    rw[←hj]
    have hb:0≤zs[j]∧zs[j]≤255:=by simpa [Lit.wf,IntKind.min,IntKind.max,IntKind.signed,IntKind.bits] using hw
    have h3:(zs[j].toNat%256:Nat)=zs[j].toNat:=Nat.mod_eq_of_lt (by omega)
    simp only[bv,UInt8.toNat_ofNat']
    rw[show(2 ^ 8:Nat)=256 from rfl,h3,Int.toNat_of_nonneg hb.1]
   subst hx
   by_cases hj0:j=0
   ·subst hj0;simpa [Addr.add] using a5
   ·simpa [Addr.add,hj0] using a5
end Go.Proofs.YtceeiinepijokaaGreat
