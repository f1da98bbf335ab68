/- plot.Data with room, for up to 65536 counts. -/
import Derived.Defers
import Derived.Recover
import Derived.Shelf.Sort.Plain
import Derived.Shelf.Slices.In.SortNone
import Derived.Ground.SlgnProg
import Derived.Shelf.SlicesG.CompactI
import Derived.Test.YtceeiinepijokaaGreatDoorProg
import Derived.Sort.OwnSortedInts
import Derived.Lib.SlicesCompact
import Derived.ArgAppend
import Derived.Lib.SmallJoins
import Derived.Test.YtceeiinepijokaaGreatDoorMg6
namespace Go.Proofs.YtceeiinepijokaaGreatDoor
set_option maxHeartbeats 8000000
set_option maxRecDepth 100000
open Go.RowKit Go.Extern.Stop Go.Stop Go.Extern
set_option linter.unusedVariables false
attribute [local irreducible] wpList wpAnyH Code.wp Oper.wp Go
theorem plotN_bdW{l:List Int}(h:l.length≤65536)(ho:(Zy l l.length).length≤32768):2≤Ni l∧Ni l≤80000∧bmN l.length≤69:=by
 have h4:=Hr 4 (bmN l.length)
 have h5:=Hr 5 (Zy l l.length).length
 have a0:=Wl 4 (bmN l.length)
 have a1:=Wl 5 (Zy l l.length).length
 have hb:bmN l.length≤69:=by unfold bmN;omega
 unfold Ni
 omega
theorem Dm(B ba b g nn cc:Nat)(pa:O0)(ca f N k0:Nat)(bs:Bl)(a:O0)(c:Nat)(l:List Int)(w:World)(hC:AlC B ba nn cc ca f N)(hA:Al B ba b g nn cc pa ca f N k0 bs w)(h:Sl w (.slice a l.length c) l.length (l.map V0))(hl:l.length≤65536)(ho:(Zy l l.length).length≤32768)(hs:Jk l=0)(hf1:1≤f)(hkN:k0≤N)(hk:k0+Ni l≤N)(hBw:B≤w.heap.size) :
 C0 97 #[P0 ba,.slice a l.length c] w (DataP B ba b g nn cc pa ca f N k0 bs l w):=by
 have d5:=hC.hf
 have d3:=hC.hn
 have d7:=plotN_bdW hl ho
 have c9:=Tz hs
 have d8:=Bc l l.length
 have d6:Ni l=(bmN l.length)+Xx 4 (bmN l.length)+Xx 5 (Zy l l.length).length:=rfl
 have d4:=Hr 4 (bmN l.length)
 have d9:=Hr 5 (Zy l l.length).length
 refine zin 70 Tryz.func97 ?_
 refine xr 11 (args:=#[P0 ba]) (Qp ba b _ _ _ hA.blkA) fun W1 a0=>?_
 refine xc 9 (args:=#[.slice a l.length c]) (Mm a c l _ (h.below a0) (by omega) hs) ?_
 rintro _ W2 ⟨pb,cb,gs,po,co,rfl,a4,hL,b7⟩
 have c7:=(blB (Below.refl B w) hBw a0).size
 have a5:=(hA.below a0).below a4
 refine xr 23 (args:=#[P0 ba]) (Cw ba b pa N ca k0 _ a5.blkA hkN) fun W3 a3=>?_
 refine xr 4 (args:=#[V0 4,V0 (↑(bmN l.length):Int)]) (Qx 4 (bmN l.length) _ (by decide) (by decide) (by omega)) fun W4 a1=>?_
 refine xwm 0 ((↑(bmN l.length):Int)+(↑(Xx 4 (bmN l.length)):Int)) (↑((bmN l.length)+(Xx 4 (bmN l.length))):Int) ?_
 refine xr 2 (args:=#[V0 5,V0 (↑((Zy l l.length).length):Int)]) (Qx 5 (Zy l l.length).length _ (by decide) (by decide) (by omega)) fun W5 a2=>?_
 refine xwm 0 ((↑((bmN l.length)+(Xx 4 (bmN l.length))):Int)+(↑(Xx 5 (Zy l l.length).length):Int)) (↑(((bmN l.length)+(Xx 4 (bmN l.length)))+(Xx 5 (Zy l l.length).length)):Int) ?_
 refine xk 3 (show(decide ((↑(N-k0):Int)<(↑(((bmN l.length)+(Xx 4 (bmN l.length)))+(Xx 5 (Zy l l.length).length)):Int)):Bool)=false from decide_eq_false (by omega)) ?_
 refine xa 4 [S0] 123 fun b6 W6 n6=>?_
 have hX:=(((((show Fr [ba,g] w _ from(Fr.of_below a0)).trans (Fr.of_below a4)).trans (Fr.of_below a3)).trans (Fr.of_below a1)).trans (Fr.of_below a2)).trans (Fr.of_below n6.below)
 have a9:=Zb (Zb (Zb (Zb (Zd b7 c7) a3) a1) a2) n6.below
 have a8:=(((a5.below a3).below a1).below a2).below n6.below
 have b5:=fun(W:World) (hX:Fr ([ba,g]++[b6]) _ W)=>own_keep a9 a8 n6.blk hX
 have b2:=(((hL.below a3).below a1).below a2).below n6.below
 have g6:=n6.ge0 (blB (blB (blB (blB (blB (Below.refl B w) hBw a0) hBw a4) hBw a3) hBw a1) hBw a2)
 have hB:=blB (blB (blB (blB (blB (blB (Below.refl B w) hBw a0) hBw a4) hBw a3) hBw a1) hBw a2) hBw n6.below
 refine xc 8 (args:=#[P0 ba,.slice pb (bmN l.length) cb,.func (.func 159) #[] #[P0 b6]]) (plot_layDN B ba b g nn cc pa ca f N k0 bs b6 _ pb cb gs (Xp (Zu l) (bmN l.length)) (bmN l.length) (Gc _ _) _ hC a8 b2 (Fi c9.2 _) hf1 (by omega) n6.blk (Nat.le_trans hBw g6) (Nat.le_trans hBw hB.size)) ?_
 rintro _ W7 ⟨p8,c8,rfl,c4,d2,b8,hA,c0,c5⟩
 have c2:=(blB (blB (blB (blB (blB (blB (Below.refl B w) hBw a0) hBw a4) hBw a3) hBw a1) hBw a2) hBw n6.below).size
 replace b7:=b5 _ b8
 refine xb 15 0 c0 ?_
 have b1:=Zd c5 c2
 have a7:=hB.trans c4
 refine xc 0 (args:=#[P0 ba,V0 4,.slice p8 (bmN l.length) c8]) (Wo B ba b g nn cc pa ca f N (k0+(bmN l.length)) (Ks (Xp (Zu l) (bmN l.length)) (f+k0) bs (bmN l.length)) 4 p8 c8 (Yj (Xp (Zu l) (bmN l.length)) (f+k0) (bmN l.length)) (bmN l.length) _ (Hk _ _ _) hC hA (by decide) (by decide) (Od _ _ _ (by omega)) (by omega) hf1 (by omega) (by omega) (fun W _ h2=>by unfold Sts;rw[Hk];exact Ze (Zj b1 h2 (by decide))) (Nat.le_trans hBw a7.size)) ?_
 rintro _ W8 ⟨rfl,c6,b9,d1,hA⟩
 rw[Hk] at hA
 have a6:=Zj b7 b9 (by decide)
 have b0:=a7.trans c6
 refine xc 21 (args:=#[P0 ba,V0 5,.slice po ((Zy l l.length).length) co]) (Wo B ba b g nn cc pa ca f N (k0+(bmN l.length)+Xx 4 (bmN l.length)) (Yl 4 (Yj (Xp (Zu l) (bmN l.length)) (f+k0) (bmN l.length)) (f+(k0+(bmN l.length))) (Ks (Xp (Zu l) (bmN l.length)) (f+k0) bs (bmN l.length))).2 5 po co (Zy l l.length) (Zy l l.length).length _ rfl hC hA (by decide) (by decide) (By _ _ (by omega)) (by omega) hf1 (by omega) (by omega) (fun W _ h2=>Ze (Zj a6 h2 (by decide))) (Nat.le_trans hBw b0.size)) ?_
 rintro _ W9 ⟨rfl,d0,c1,c3,hA⟩
 have b3:=b0.trans d0
 have hO:=((((((((show Zf [200,5,123,132,28] w _ from(Zf.of_below a0)).trans (Zf.of_below a4)).trans (Zf.of_below a3)).trans (Zf.of_below a1)).trans (Zf.of_below a2)).trans (Zf.of_below n6.below)).trans (d2.wide)).trans (b9.wide)).trans (c1.wide)
 have b4:=((Fr.trans_new hX b8 g6).trans (d1.mono (by simp))).trans (c3.mono (by simp))
 refine xe 27 (.tuple #[V0 ((Yl 4 (Yj (Xp (Zu l) (bmN l.length)) (f+k0) (bmN l.length)) (f+(k0+(bmN l.length))) (Ks (Xp (Zu l) (bmN l.length)) (f+k0) bs (bmN l.length))).1),V0 ((Yl 5 (Zy l l.length) (f+(k0+(bmN l.length)+Xx 4 (bmN l.length))) (Yl 4 (Yj (Xp (Zu l) (bmN l.length)) (f+k0) (bmN l.length)) (f+(k0+(bmN l.length))) (Ks (Xp (Zu l) (bmN l.length)) (f+k0) bs (bmN l.length))).2).1),.nilIface]) ?_
 have e1:f+(k0+(bmN l.length))=f+k0+(bmN l.length):=by omega
 have e2:f+(k0+(bmN l.length)+Xx 4 (bmN l.length))=f+k0+(bmN l.length)+Xx 4 (bmN l.length):=by omega
 rw[e2,e1] at hA ⊢
 have e3:k0+(bmN l.length)+Xx 4 (bmN l.length)+Xx 5 (Zy l l.length).length=k0+Ni l:=by omega
 rw[e3] at hA
 exact⟨rfl,b3,hO,b4,hA⟩
theorem Aj(w:World) :
 C0 256 #[] w (Qe (fun w' r=>∃ b,r=.slice (S1 b) 1 1∧w.heap.size≤b∧Blk w' b [V0 8,V0 0,V0 1099511627775] 312) w):=by
 refine zin 3 Tryz.func256 ?_
 refine xbs 8 1 [V0 8,V0 0,V0 1099511627775] 312 fun b1 W1 n1=>?_
 exact xe 4 (.slice (S1 b1) 1 1) ⟨_,rfl,n1.below,b1,rfl,(n1.ge (B4 w)),n1.blk⟩
theorem Mt(w:World) :
 C0 215 #[] w (Qe (fun w' r=>∃ b,r=.slice (S1 b) 4 4∧w.heap.size≤b∧Blk w' b [V0 8,V0 0,V0 16384,V0 8,V0 0,V0 2147483647,V0 4,V0 0,V0 16777215,V0 4,V0 0,V0 16777215] 312) w):=by
 refine zin 6 Tryz.func215 ?_
 refine xbs 11 4 [V0 8,V0 0,V0 16384,V0 8,V0 0,V0 2147483647,V0 4,V0 0,V0 16777215,V0 4,V0 0,V0 16777215] 312 fun b1 W1 n1=>?_
 exact xe 4 (.slice (S1 b1) 4 4) ⟨_,rfl,n1.below,b1,rfl,(n1.ge (B4 w)),n1.blk⟩
theorem Ej(ps:List Nz)(N:List Int)(gl gn:O0)(cl cn n:Nat)(w:World)(hps:Hn ps)(hn:n=ps.length)(hNl:N.length=n)(hP:Sts Zey w (.slice gl ps.length cl) ps)(hN:Sl w (.slice gn n cn) n (N.map V0))(h:Pe ps N n=true) :
  C0 181 #[.slice gl ps.length cl,.slice gn n cn] w (Ret (.string ⟨(putL ps N ps.length).toArray⟩) w):=(Se ps N gl gn cl cn n w hps hn hNl hP hN).mono (by
 rintro e W q
 rcases q with ⟨q,_⟩|⟨_,rfl,hb⟩
 ·rw[h] at q;cases q
 ·exact⟨rfl,hb⟩)
theorem map_or{b t:Int}(h1:0≤b∧b≤65535)(h2:0≤t∧t≤16777215):IntKind.i64.wrap (↑(BitVec.ofInt 64 (b*16777216) ||| BitVec.ofInt 64 t).toNat:Int)=b*16777216+t:=by
 obtain⟨p,rfl⟩:∃ p:Nat,b=(p:Int):=⟨b.toNat,by omega⟩
 obtain⟨q,rfl⟩:∃ q:Nat,t=(q:Int):=⟨t.toNat,by omega⟩
 have e:((p:Int)*16777216)=((p*16777216:Nat):Int):=by omega
 rw[e,BitVec.ofInt_natCast,BitVec.ofInt_natCast,BitVec.toNat_or,BitVec.toNat_ofNat,BitVec.toNat_ofNat,Nat.mod_eq_of_lt (by omega),Nat.mod_eq_of_lt (by omega)]
 have h:=Nat.two_pow_add_eq_or_of_lt (i:=24) (b:=q) (by omega) p
 rw[show(2:Nat) ^ 24*p=p*16777216 by omega] at h
 rw[←h]
 exact(IntWalk.i64_in _ (by omega)).trans (by omega)
theorem value_MapP(m:Mp)(w:World)(h1:0≤m.2.1∧m.2.1≤65535)(h2:0≤m.2.2∧m.2.2≤16777215) :
 C0 213 #[V0 m.2.1,V0 m.2.2] w (Ret (.string ⟨(mapV m).toArray⟩) w):=by
 refine zin 26 Tryz.func213 ?_
 refine xgk 11 [6,7] (show(decide (m.2.1<(0:Int)):Bool)=false from decide_eq_false (by omega)) ?_
 refine xgk 4 [9,10,11] (show(decide (m.2.1≥(65536:Int)):Bool)=false from decide_eq_false (by omega)) ?_
 refine xgk 4 [13,14,15] (show(decide (m.2.2<(0:Int)):Bool)=false from decide_eq_false (by omega)) ?_
 refine xk 5 (show(decide (m.2.2>(16777215:Int)):Bool)=false from decide_eq_false (by omega)) ?_
 refine xc 4 (args:=#[]) (Aj _) ?_
 rintro _ W4 ⟨_,rfl,a1,gl,rfl,gg,kl⟩
 refine xq 1 (congrArg V0 (show(IntKind.i64.wrap (m.2.1*2 ^ 24):Int)=m.2.1*16777216 from IntWalk.i64_in _ (by omega))) ?_
 refine xq 1 (congrArg V0 (show(IntKind.i64.wrap (↑(BitVec.ofInt 64 (m.2.1*16777216) ||| BitVec.ofInt 64 m.2.2).toNat:Int):Int)=m.2.1*16777216+m.2.2 from map_or h1 h2)) ?_
 refine xbs 0 1 [V0 (m.2.1*16777216+m.2.2)] 3 fun b5 W5 n5=>?_
 have a0:=kl.below n5.below
 refine xr 0 (args:=#[.slice (S1 gl) 1 1,.slice (S1 b5) 1 1]) (Ej mapP [m.2.1*16777216+m.2.2] (S1 gl) (S1 b5) 1 1 1 _ mapP_ok rfl rfl (a0.sl 1 1 (by decide) (by decide)) (n5.blk.sl 1 1 (by decide) (by decide)) (by unfold Pe;rw[show List.range 1=[0] from rfl];simp[inP,mapP,List.getD];omega)) fun W6 a2=>?_
 have hB:=bln (bln a1 n5.below) a2
 exact xe 4 (.string ⟨(mapV m).toArray⟩) ⟨rfl,hB⟩
theorem Za3(data n:Int)(d:Dv)(w:World)(h:DevOk data d)(hn:0≤n∧n≤16384) :
 C0 155 #[.agg #[V0 n,V0 d.1.2.1,V0 d.1.2.2.1,V0 d.1.2.2.2]] w (Ret (.string ⟨(Bg n d).toArray⟩) w):=by
 refine zin 14 Tryz.func155 ?_
 refine xa 2 [V0 n,V0 d.1.2.1,V0 d.1.2.2.1,V0 d.1.2.2.2] 280 fun b1 W1 n1=>?_
 refine xd 4 .z ?_
 have k1:=n1.blk.below (Za W1)
 refine xb (.e [1] 2) 0 k1 ?_
 refine xb (.e [3] 4) 1 k1 ?_
 refine xb (.e [5] 6) 2 k1 ?_
 refine xb (.e [7] 8) 3 k1 ?_
 refine xm2 0 0 9 ?_ ?_
 ·refine yc 0 (args:=#[]) .z (Mt _) ?_
  rintro _ W2 ⟨_,rfl,a2,gl,rfl,gg,kl⟩
  refine⟨a2,?_⟩
  refine xbs (.o [] 9) 4 [V0 n,V0 d.1.2.1,V0 d.1.2.2.1,V0 d.1.2.2.2] 3 fun b3 W3 n3=>?_
  have a1:=kl.below n3.below
  refine xr (.o [] 10) (args:=#[.slice (S1 gl) 4 4,.slice (S1 b3) 4 4]) (Ej detP [n,d.1.2.1,d.1.2.2.1,d.1.2.2.2] (S1 gl) (S1 b3) 4 4 4 _ detP_ok rfl rfl (a1.sl 4 4 (by decide) (by decide)) (n3.blk.sl 4 4 (by decide) (by decide)) (by have a:=h.tx;have b:=h.made;have c:=h.snap;unfold Pe;rw[show List.range 4=[0,1,2,3] from rfl];simp[inP,detP,List.getD];omega)) fun W4 a4=>?_
  have hB:=bln (bln (bln (bln n1.below (Za W1)) a2) n3.below) a4
  exact xe (.r [11] 3) (.string ⟨(Bg n d).toArray⟩) ⟨rfl,hB⟩
 refine xbs 0 4 [V0 n,V0 d.1.2.1,V0 d.1.2.2.1,V0 d.1.2.2.2] 3 fun b5 W5 n5=>?_
 refine yc (.o [] 0) (args:=#[]) .z (Mt _) ?_
 rintro _ W6 ⟨_,rfl,a0,gl,rfl,gg,kl⟩
 refine⟨a0,?_⟩
 have k5:=n5.blk.below a0
 refine xr (.o [] 10) (args:=#[.slice (S1 gl) 4 4,.slice (S1 b5) 4 4]) (Ej detP [n,d.1.2.1,d.1.2.2.1,d.1.2.2.2] (S1 gl) (S1 b5) 4 4 4 _ detP_ok rfl rfl (kl.sl 4 4 (by decide) (by decide)) (k5.sl 4 4 (by decide) (by decide)) (by have a:=h.tx;have b:=h.made;have c:=h.snap;unfold Pe;rw[show List.range 4=[0,1,2,3] from rfl];simp[inP,detP,List.getD];omega)) fun W7 a3=>?_
 have hB:=bln (bln (bln (bln n1.below (Za W1)) n5.below) a0) a3
 exact xe (.r [11] 3) (.string ⟨(Bg n d).toArray⟩) ⟨rfl,hB⟩
theorem F2_len(L:List Dv):Xw (F2 L)=Ds L+Xx 1 L.length+Xx 3 L.length:=by
 have e1:Xw (F1 L)=Xw (Lx L)+Xx 1 (Ec L (Zct L)).length:=Jo _ _
 have e2:Xw (F2 L)=Xw (F1 L)+Xx 3 (El L (Bz L)).length:=Jo _ _
 rw[Js] at e1
 rw[Jp] at e2
 rw[devsN_forN] at e1
 omega
theorem base_split(x:Nat)(L:List Dv):Di x L=1+Xw (F2 L)+Ni (Ys x L):=by
 have h:=F2_len L
 have h2:=Bf x L
 unfold Di Ni
 rw[h2,Qf]
 omega
theorem Zat{x:Nat}{L:List Dv}{k:Nat}(h:Mi x L≤k):1+Xw (F2 L)+Ni (Ys x L)+2+bmN k≤k:=by
 have a:=need_room (m:=Di x L+2) h
 have b:=base_split x L
 omega
theorem Zdr{L:List Dv}(i:Nat):Xw (Lx (L.take i))≤Xw (Lx L):=by
 have e:Lx L=Lx (L.take i)++Lx (L.drop i):=by rw[←Tr,List.take_append_drop]
 rw[e,Ac];omega
theorem size_FitsY(p:O0)(c n x k:Nat)(t u v:Int)(Z:List Zv)(w:World)(hZ:Z.length=n)(hP:DevsR w p c Z)(hk:PoolOk t u v (x:Int) (Z.map Prod.fst))(h1:Mi x (Z.map Prod.fst)≤k)(h2:k≤14400) :
 C0 52 #[.agg #[V0 t,V0 u,V0 v,V0 (x:Int),.slice p n c],V0 (k:Int)] w (Ret (.bool true) w):=by
 have a2:1≤Mi x (Z.map Prod.fst):=by unfold Mi Zf0;omega
 obtain⟨m,hm⟩:∃ y,Mi x (Z.map Prod.fst)=y:=⟨_,rfl⟩
 rw[hm] at h1 a2
 refine zin 19 Tryz.func52 ?_
 refine xa 2 [V0 t,V0 u,V0 v,V0 (x:Int),.slice p n c] 48 fun b1 W1 n1=>?_
 refine xlv 5 n1.blk.rp ?_
 refine xr 0 (args:=#[.agg #[V0 t,V0 u,V0 v,V0 (x:Int),.slice p n c]]) (by have q:=size_Need p c n x t u v Z _ hZ (hP.below n1.below) hk;rw[hm] at q;exact q) fun W2 a1=>?_
 refine xgk 8 [9,10] (show(decide ((m:Int)>(0:Int)):Bool)=true from decide_eq_true (by omega)) ?_
 refine xgk 5 [13,14,15] (show(decide ((k:Int)≥(m:Int)):Bool)=true from decide_eq_true (by omega)) ?_
 have a0:=bln n1.below a1
 exact xe 7 (.bool (decide ((k:Int)≤(14400:Int)))) ⟨by rw[decide_eq_true (by omega)],a0⟩
theorem Kh(w:World) :
 C0 54 #[.nilIface] w (Ret (.tuple #[]) w):=by
 refine zin 7 Tryz.func54 ?_
 exact xe 8 (.tuple #[]) ⟨rfl,(B4 w)⟩
theorem Zap(B ba b g nn cc:Nat)(pa:O0)(ca N:Nat)(bs:Bl)(F:List Gu)(t:Int)(a:O0)(c n:Nat)(l:List Ent)(w:World)(hl:l.length=n)(hC:AlC B ba nn cc ca 1 N)(hA:AlF B ba b g nn cc pa ca N bs F w)(hok:Ca (t,l))(hr:Xw (F++[(t,l)])≤N)(hin:∀ W,Below B w W→Zf [200,5,28] w W→Sl W (.slice a n c) n (l.flatMap Jv))(hBw:B≤w.heap.size) :
 C0 152 #[.agg #[P0 ba],V0 t,.slice a n c] w ((fun e w'=>e=.returned (V0 (↑(Xw (F++[(t,l)])):Int))∧Below B w w'∧Zf [200,5,28] w w'∧AlF B ba b g nn cc pa ca N bs (F++[(t,l)]) w')):=by
 refine zin 20 Tryz.func152 ?_
 refine xa 2 [P0 ba] 115 fun b1 W1 n1=>?_
 refine xb 6 0 n1.blk ?_
 have hB:=blB (Below.refl B w) hBw n1.below
 have hO:=(show Zf [200,5,28] w _ from(Zf.of_below n1.below))
 have a2:=hA.below n1.below
 refine xc 2 (args:=#[P0 ba,V0 t,.slice a n c]) (build_F B ba b g nn cc pa ca N bs F t a c n l _ hl hC a2 hok hr (fun W h1 h2=>hin W (hB.trans h1) (hO.trans h2)) (Nat.le_trans hBw hB.size)) ?_
 rintro _ W2 ⟨rfl,a6,a5,a7,hA⟩
 refine xr 10 (args:=#[.nilIface]) (Kh _) fun W3 a4=>?_
 have a3:=blB (hB.trans a6) hBw a4
 have a0:=(hO.trans a5).trans (Zf.of_below a4)
 have a1:=hA.below a4
 exact xe 9 (V0 (↑(Xw (F++[(t,l)])):Int)) ⟨rfl,a3,a0,a1⟩
theorem lay_maps(p:O0)(c:Nat)(data:Int)(m:List Mp)(w:World)(h:Sts mapC w (.slice p m.length c) m)(hok:MapsOk data m)(hd:data≤65536)(hf:m.length≤16384) :
 C0 153 #[.slice p m.length c] w (Qe (fun w' r=>∃ q d,r=.slice q m.length d∧w'.ownsRow w.heap.size 132 3 (.slice q m.length d) m.length ((Lv m).flatMap Jv)) w):=by
 have b8:=Sl.len h
 refine zin 25 Tryz.func153 ?_
 have hB:=Below.refl w.heap.size w
 refine zl 19 25 (fun zm b1 V=>∃ (k:Nat) (p1:O0) (c1:Nat),b1=[(2,S0),(3,.slice p1 k c1),(6,.slice p m.length c),(7,V0 (m.length:Int)),(8,V0 (k:Int))]∧zm=m.length-((k:Int)).toNat∧B3 w V∧V.ownsRow w.heap.size 132 3 (.slice p1 k c1) k (((Lv m).take k).flatMap Jv)∧k≤m.length) ⟨0,none,0,rfl,rfl,hB,World.ownsRow_nil _ _ _ _,Nat.zero_le _⟩ ?_
 rintro _ _ W1 ⟨k,p1,c1,rfl,rfl,a0,hl,hk⟩ J1 b0 r1
 refine xid 6 ((k:Int)<(m.length:Int)) (fun b2=>?_) (fun b2=>?_)
 ·have b9:=hok.each (m.getD k mpD) (gd_mem _ (by omega))
  refine xx 6 _ m.length k 3 (Sts.cell h Cj mpD (k:=k) (i:=0) (by omega) rfl).1 ?_
  refine xlv 0 (Sts.rp (k:=k) (h.below a0) Cj mpD (by omega) (by decide)) ?_
  refine xa 0 [V0 0,V0 0,V0 0] 159 fun b3 W3 n3=>?_
  have g3:=n3.ge a0
  refine xsv 0 n3.blk [V0 ((m.getD k mpD).1),V0 ((m.getD k mpD).2.1),V0 ((m.getD k mpD).2.2)] fun W4 u4 k4=>?_
  refine xd 2 (.t w.heap.size [132]) ?_
  have a1:=k4.below (Za W4)
  refine xbt (.e [0,1] 2) 0 w.heap.size [132] a1 ?_
  refine xbt (.e [3] 4) 1 w.heap.size [132] a1 ?_
  refine xbt (.e [5] 6) 2 w.heap.size [132] a1 ?_
  refine xr (.o [] 7) (args:=#[V0 ((m.getD k mpD).2.1),V0 ((m.getD k mpD).2.2)]) (value_MapP (m.getD k mpD) _ ⟨by omega,by omega⟩ ⟨by omega,by omega⟩) fun W5 a9=>?_
  refine xbs (.o [8] 9) 1 [V0 ((m.getD k mpD).1),.string ⟨(mapV (m.getD k mpD)).toArray⟩,V0 0] 132 fun b6 W6 n6=>?_
  have a5:=bln (bln (u4.below (bln a0 n3.below) g3) (Za W4)) a9
  have g6:=n6.ge a5
  have a2:=Zb (Zb (u4.own2 (Zb hl n3.below) n3.blk (by decide)) (Za W4)) a9
  have a8:=Zn a2 n6
  have a4:=Zb a2 n6.below
  have a3:=bln a5 n6.below
  refine ybi (.o [] 10) (.t w.heap.size [132]) fun _ _ _ _ zJ zQ zo zx zy zK=>Zr (m:=1) (news:=[V0 ((m.getD k mpD).1),.string ⟨(mapV (m.getD k mpD)).toArray⟩,V0 0]) (.agg #[V0 0,.string ⟨#[]⟩,V0 0]) 3 32 (k+1) ((((Lv m).take (k+1)).flatMap Jv)) zo Tryz.underlying123 (by kernel_rfl) rfl (by decide) zx a4 zy (n6.blk.sl 1 1 (by decide) (by decide)) rfl (by simp[Value.oneCell']) (by unfold maxLen;omega) (by omega) a3.size (by rfl) (by exact Ze4 (by rw[Jg];omega) (Nh (by omega))) fun b7 b5 W7 o7 b4 a7=>?_
  refine zK _ _ (Zx a7 b4 a4 (by decide)) ?_
  refine xwm (.r [11] 4) ((k:Int)+1) (↑(k+1):Int) ?_
  have a6:=a3.trans a7
  exact ze 2 (b0 _ _ _ ⟨k+1,_,_,rfl,rfl,a6,o7,by omega⟩ (by omega))
 exact xe 12 (.slice p1 k c1) (by obtain rfl:k=m.length:=(by omega);have q:=hl;rw[List.take_of_length_le (by rw[Jg];omega)] at q;exact⟨_,rfl,a0,_,_,rfl,q⟩)
theorem Dn(B ba b g cc:Nat)(pa:O0)(ca f N k n:Nat)(bs:Bl)(w:World)(hA:Al B ba b g (n*256) cc pa ca f N k bs w)(hk:k+1≤n)(hn:n≤14400) :
 C0 99 #[.agg #[P0 ba]] w (Qe (fun w' r=>∃ q d,r=.slice (some q) n d∧w'.ownsRow w.heap.size 3 1 (.slice (some q) n d) n ((Qh (k+1) n).map V0)) w):=by
 refine zin 22 Tryz.func99 ?_
 refine xa 2 [P0 ba] 115 fun b1 W1 n1=>?_
 refine xb 6 0 n1.blk ?_
 refine xr 0 (args:=#[P0 ba]) (Qp ba b _ _ _ (hA.blkA.below n1.below)) fun W2 b2=>?_
 have a6:=bln n1.below b2
 refine xr 0 (args:=#[P0 b]) (by have q:=Yu b _ (n*256) _ _ (hA.blkI.below a6) (by omega);rw[show n*256/256=n by omega] at q;exact q) fun W3 b3=>?_
 refine xmk 0 fun _ _ _ _ zJ zQ zo zx zy zK=>Kf n (V0 0) 1 8 ((Qh 0 n).map V0) zo zx zy Tryz.underlying34 (by kernel_rfl) rfl (by omega) (by omega) ((self_make n)) fun b4 W4 n4=>?_
 have a2:=bln a6 b3
 have g4:=n4.ge a2
 refine zK _ _ ?_
 have a5:=((n1.blk.below b2).below b3).below n4.below
 refine xb 7 0 a5 ?_
 have a3:=bln a2 n4.below
 refine xr 0 (args:=#[P0 ba]) (alloc_Used ba b _ k _ (hA.blkA.below a3)) fun W5 a9=>?_
 refine xwm 0 ((k:Int)+1) (↑(k+1):Int) ?_
 have o4:=Zb (Xb (size:=1) (n:=n) n4.blk g4 (by rw[List.length_map,Xt,Nat.mul_one]) (by unfold maxLen;omega)) a9
 have a8:=bln a3 a9
 have a7:=a5.below a9
 refine zl 4 22 (fun zm b7 V=>∃ (i:Nat),b7=[(2,S0),(3,.slice (S1 b4) n n),(13,V0 (↑(k+1):Int)),(14,V0 (i:Int))]∧zm=(k+1)-((i:Int)).toNat∧B3 w V∧Blk V b1 ([P0 ba]) 115∧V.ownsRow w.heap.size 3 1 (.slice (S1 b4) n n) n ((Qh i n).map V0)∧i≤k+1) ⟨0,rfl,rfl,a8,a7,o4,Nat.zero_le _⟩ ?_
 rintro _ _ W6 ⟨i,rfl,rfl,a4,a1,ho,hi⟩ J6 b6 r6
 refine xid 6 ((i:Int)<(↑(k+1):Int)) (fun b5=>?_) (fun b5=>?_)
 ·refine xx 13 _ n i 1 (show(some (⟨b4,0,none⟩:Addr)).isSome=true from rfl) ?_
  refine xst 0 fun _ _ _ _ zJ zQ zo zx zy zK=>Hp (t:=3) (k:=i) (v:=V0 1) zo zx zy (by kernel_rfl) rfl ho (by omega) fun W8 u8 o8=>?_
  rw[self_set (i:=i) (n:=n) (by omega)] at o8
  refine zK _ _ ?_
  refine xwm 4 ((i:Int)+1) (↑(i+1):Int) ?_
  have b0:=u8.below a4 (Cb ho)
  have a0:=u8.blk a1 (Ef a1 ho (by decide))
  exact ze 2 (b6 _ _ _ ⟨i+1,rfl,rfl,b0,a0,o8,by omega⟩ (by omega))
 exact xe 12 (.slice (S1 b4) n n) (by obtain rfl:i=k+1:=(by omega);exact⟨_,rfl,a4,_,_,rfl,ho⟩)
theorem plot_layMN(B ba b g nn cc:Nat)(pa:O0)(ca f N k0:Nat)(bs:Bl)(bl B2:Nat)(pl:O0)(cl:Nat)(gs:List (Nat×Nat))(L:List (List Int))(n:Nat)(hn:L.length=n)(w:World)(hC:AlC B ba nn cc ca f N)(hA:Al B ba b g nn cc pa ca f N k0 bs w)(hL:Lists w B2 (.slice pl n cl) gs L)(hS:∀ i,i<L.length→Jy (L.getD i [])∧(L.getD i []).length≤960)(hf1:1≤f)(hk:k0+n≤N)(kl:Blk w bl [S0] 140)(hBl:B≤bl)(hBw:B≤w.heap.size) :
 C0 158 #[P0 ba,.slice pl n cl,.func (.func 163) #[] #[P0 bl]] w (fun e w'=>∃ p c,e=.returned .nilIface∧Below B w w'∧Zf [200,5,140,134] w w'∧Fr ([ba,g]++[bl]) w w'∧Al B ba b g nn cc pa ca f N (k0+n) (Ks L (f+k0) bs n) w'∧Blk w' bl [.slice p n c] 140∧w'.ownsRow w.heap.size 134 3 (.slice p n c) n (rsL L (f+k0) n)):=by
 subst hn;exact plot_layM B ba b g nn cc pa ca f N k0 bs bl B2 pl cl gs L w hC hA hL hS hf1 hk kl hBl hBw
def MetaP(B ba b g nn cc:Nat)(pa:O0)(ca f N k0:Nat)(bs:Bl)(l:List Int)(w:World)(e:Ending)(w':World):Prop :=
 e=.returned (.tuple #[V0 (Dq l f k0 bs).1,V0 (Dq l f k0 bs).2.1,.nilIface])∧Below B w w'∧Zf [200,5,140,134,28] w w'∧Fr [ba,g] w w'∧Al B ba b g nn cc pa ca f N (k0+Qa l) (Dq l f k0 bs).2.2 w'
theorem Df(B ba b g nn cc:Nat)(pa:O0)(ca f N k0:Nat)(bs:Bl)(a:Addr)(c:Nat)(l:List Int)(w:World)(hC:AlC B ba nn cc ca f N)(hA:Al B ba b g nn cc pa ca f N k0 bs w)(h:Sl w (.slice (some a) l.length c) l.length (l.map V0))(hl:l.length≤3000)(hlen:l.length=nn/256)(hs:Jk l=0)(hkN:k0≤N)(hk:k0+Qa l≤N)(hf1:1≤f)(hfree2:FreeOk l ((f+k0:Nat):Int))(hBw:B≤w.heap.size) :
 C0 98 #[P0 ba,.slice (some a) l.length c] w (MetaP B ba b g nn cc pa ca f N k0 bs l w):=by
 have hW:Sin w w:=⟨Below.refl _ _⟩
 have i5:=hC.hf
 have j0:=hC.hn
 have h1:=Tz hs
 have k4:=Bc l l.length
 have j6:Qa l=(Xx 5 (Zy l l.length).length)+(bmN l.length)+1:=rfl
 have i9:=Hr 5 (Zy l l.length).length
 have k6:bmN l.length≤4:=by unfold bmN;omega
 have i3:Jk (Vf l (f+k0) (Qa l))=0:=by unfold Jk;rw[if_neg (by rw[Vd];omega),if_pos (bumpL_ok hfree2 h1.2)]
 have g8:=Fi (bumpL_ok (n:=Qa l) hfree2 h1.2) (bmN l.length)
 refine zin 120 Tryz.func98 ?_
 refine xr 10 (args:=#[P0 ba]) (Qp ba b _ _ _ (hA.below hW.b).blkA) fun W1 b5=>?_
 have d6:=hW.below b5
 refine xr 19 (args:=#[P0 b]) (Yu b _ nn cc _ (hA.below d6.b).blkI (by omega)) fun W2 b3=>?_
 refine xk 3 (show(((l.length:Int) != (↑(nn/256):Int)):Bool)=false from by rw[hlen];simp) ?_
 have d5:=d6.below b3
 refine xc 5 (args:=#[.slice (some a) l.length c]) (Fp l.length (some a) c l _ rfl (Sl.below h d5.b) (by omega) hs) ?_
 rintro _ W3 ⟨k7,i4,k1,po,co,rfl,c0,j7,e0⟩
 have h7:=(blB (blB (Below.refl B w) hBw b5) hBw b3).size
 refine xr 23 (args:=#[V0 5,V0 (↑((Zy l l.length).length):Int)]) (Qx 5 (Zy l l.length).length _ (by decide) (by decide) (by omega)) fun W4 b2=>?_
 refine xr 2 (args:=#[V0 (l.length:Int)]) (Es l.length _ (by omega)) fun W5 b1=>?_
 refine xwm 0 ((↑(Xx 5 (Zy l l.length).length):Int)+(↑(bmN l.length):Int)) (↑((Xx 5 (Zy l l.length).length)+(bmN l.length)):Int) ?_
 refine xwm 0 ((↑((Xx 5 (Zy l l.length).length)+(bmN l.length)):Int)+1) (↑(((Xx 5 (Zy l l.length).length)+(bmN l.length))+1):Int) ?_
 have c9:=((d5.below c0).below b2).below b1
 refine xr 7 (args:=#[P0 ba]) (Cw ba b pa N ca k0 _ (hA.below c9.b).blkA hkN) fun W6 a8=>?_
 refine xk 4 (show(decide ((↑(N-k0):Int)<(↑(((Xx 5 (Zy l l.length).length)+(bmN l.length))+1):Int)):Bool)=false from decide_eq_false (by omega)) ?_
 have b0:=c9.below a8
 have h4:=b0.b.size
 refine xc 5 (args:=#[.slice (some a) l.length c]) (Cn a l.length c (l.map V0) _ (Sl.below h b0.b) (by simp) (ints_one _) (by omega)) ?_
 rintro _ W7 ⟨_,rfl,b8,qb,cq,rfl,e7⟩
 have k2:=(blB (blB (blB (blB (blB (blB (Below.refl B w) hBw b5) hBw b3) hBw c0) hBw b2) hBw b1) hBw a8).size
 have a0:=Zd e7 h4
 have b6:=b0.below b8
 have i1:=b6.b.size
 have f8:=a0
 refine xc 8 (args:=#[P0 ba,V0 (↑(((Xx 5 (Zy l l.length).length)+(bmN l.length))+1):Int)]) (Zcr (Qa l) B ba b g nn cc pa ca f N k0 bs _ hC (hA.below b6.b) hkN (by omega) (by omega) (by omega)) ?_
 rintro _ W8 ⟨_,rfl,b9,qa,h0,rfl,d3⟩
 have j2:=(blB (blB (blB (blB (blB (blB (blB (Below.refl B w) hBw b5) hBw b3) hBw c0) hBw b2) hBw b1) hBw a8) hBw b8).size
 have i2:=Un.of_lt f8 d3 (Nat.le_refl _)
 have c6:=Zd d3 i1
 have a3:=Zb a0 b9
 obtain⟨gb,rfl,j8⟩:=Bv a3 (by omega)
 have d2:=Zb (Zb (Zb (Zb (Zb (Zd e0 h7) b2) b1) a8) b8) b9
 have f3:=b6.below b9
 have hB:=blB (blB (blB (blB (blB (blB (blB (blB (Below.refl B w) hBw b5) hBw b3) hBw c0) hBw b2) hBw b1) hBw a8) hBw b8) hBw b9
 have hX:=(((((((show Fr [ba,g] w _ from(Fr.of_below b5)).trans (Fr.of_below b3)).trans (Fr.of_below c0)).trans (Fr.of_below b2)).trans (Fr.of_below b1)).trans (Fr.of_below a8)).trans (Fr.of_below b8)).trans (Fr.of_below b9)
 have hO:=(((((((show Zf [200,5,140,134,28] w _ from(Zf.of_below b5)).trans (Zf.of_below b3)).trans (Zf.of_below c0)).trans (Zf.of_below b2)).trans (Zf.of_below b1)).trans (Zf.of_below a8)).trans (Zf.of_below b8)).trans (Zf.of_below b9)
 refine zl 5 120 (fun zm i0 V=>∃ (i:Nat),i0=[(0,P0 ba),(4,V0 0),(5,V0 0),(6,.nilIface),(9,.slice po ((Zy l l.length).length) co),(10,V0 0),(12,.slice (S1 gb) l.length cq),(61,.slice qa (Qa l) h0),(62,V0 (↑(Qa l):Int)),(63,V0 (i:Int))]∧zm=Qa l-((i:Int)).toNat∧Below B w V∧Fr [ba,g] w V∧Zf [200,5,140,134,28] w V∧V.ownsRow w.heap.size 3 1 (.slice (S1 gb) l.length cq) l.length ((Vf l (f+k0) i).map V0)∧V.ownsRow w.heap.size 3 1 (.slice qa (Qa l) h0) (Qa l) ((((Og f N).drop k0).take (Qa l)).map V0)∧V.ownsRow w.heap.size 132 3 (.slice po ((Zy l l.length).length) co) ((Zy l l.length).length) ((Zy l l.length).flatMap Jv)∧Sin w V∧i≤Qa l) ⟨0,rfl,rfl,hB,hX,hO,(by rw[bumpL_zero];exact a3),c6,d2,f3,Nat.zero_le _⟩ ?_
 rintro _ _ W9 ⟨i,rfl,rfl,a5,c2,d9,a0,c6,e0,hW,hi⟩ J9 h3 r9
 have j3:i<Qa l→l.getD (f+k0+i) 0=0:=fun q=>(hfree2 (f+k0+i) (by omega)).1 (by omega)
 refine xid 6 ((i:Int)<(↑(Qa l):Int)) (fun g5=>?_) (fun g5=>?_)
 ·refine xx 6 _ (Qa l) i 1 (Il (Ze c6) (by omega) (i:=i) (by omega)).1 ?_
  refine xl 0 ((Il (Ze c6) (by omega) (i:=i) (by omega)).2) ?_
  refine xx 6 _ l.length (f+k0+i) 1 (Aa (Ze a0) rfl (q:=f+k0) (i:=i) (by omega)).1 ?_
  refine xl 0 ((Aa (Ze a0) rfl (q:=f+k0) (i:=i) (by omega)).2) ?_
  refine xw 0 ((l.getD (f+k0+i) 0)+1) ?_
  refine xx 0 _ l.length (f+k0+i) 1 (Aa (Ze a0) rfl (q:=f+k0) (i:=i) (by omega)).1 ?_
  refine xst 0 fun _ _ _ _ zJ zQ zo zx zy zK=>Hp (t:=3) (k:=(f+k0+i)) (v:=V0 ((l.getD (f+k0+i) 0)+1)) zo zx zy (by kernel_rfl) rfl a0 (by omega) fun i7 b7 g6=>?_
  rw[bumpL_set (l:=l) (f:=f+k0) (j:=i) (by omega)] at g6
  refine zK _ _ ?_
  refine xwm 4 ((i:Int)+1) (↑(i+1):Int) ?_
  have e4:=b7.below a5 (Nat.le_trans hBw (Cb a0))
  have g1:=(Fr.upd_new c2 b7 (Cb a0))
  have f0:=(Zf.upd_new d9 b7 (Cb a0))
  have d1:=b7.own3 c6 (fun j hj e=>i2 _ rfl (e▸hj))
  have c5:=b7.ownRow e0 a0 (by decide)
  have e8:=hW.upd b7 (Cb a0)
  exact ze 2 (h3 _ _ _ ⟨i+1,rfl,rfl,e4,g1,f0,g6,d1,c5,e8,by omega⟩ (by omega))
 refine xc 9 (args:=#[P0 ba,V0 5,.slice po ((Zy l l.length).length) co]) (Wo B ba b g nn cc pa ca f N k0 bs 5 po co (Zy l l.length) (Zy l l.length).length _ rfl hC (hA.below hW.b) (by decide) (by decide) (By _ _ (by omega)) (by omega) hf1 (by omega) (by omega) (fun W _ h2=>Ze (Zj e0 h2 (by decide))) (Nat.le_trans hBw a5.size)) ?_
 rintro _ j5 ⟨rfl,e9,c3,g0,a9⟩
 have d7:=Zj a0 c3 (by decide)
 refine xc 20 (args:=#[.slice (S1 gb) l.length cq]) (Fp l.length (S1 gb) cq (Vf l (f+k0) (Qa l)) _ (Vd _ _ _) (by have hh:=Ze d7;rw[show i=Qa l by omega] at hh;exact hh) (by omega) i3) ?_
 rintro _ i8 ⟨pb,cb,gs,k3,j1,rfl,a1,hL,h5⟩
 refine xa 21 [S0] 140 fun g9 i6 a4=>?_
 have a7:=blB (a5.trans e9) hBw a1
 have g7:=a4.ge0 a7
 have c1:=(a9.below a1).below a4.below
 have f1:=hL.below a4.below
 have a6:=blB a7 hBw a4.below
 refine xc 8 (args:=#[P0 ba,.slice pb (bmN l.length) cb,.func (.func 163) #[] #[P0 g9]]) (plot_layMN B ba b g nn cc pa ca f N (k0+(Xx 5 (Zy l l.length).length)) (Yl 5 (Zy l l.length) (f+k0) bs).2 g9 _ pb cb gs (Xp (Zu (Vf l (f+k0) (Qa l))) (bmN l.length)) (bmN l.length) (Gc _ _) _ hC c1 f1 g8 hf1 (by omega) a4.blk (Nat.le_trans hBw g7) (Nat.le_trans hBw a6.size)) ?_
 rintro _ k5 ⟨p8,c8,rfl,c4,f2,f4,a9,h6,h9⟩
 have f5:=(blB a7 hBw a4.below).size
 refine xb 14 0 h6 ?_
 have d4:=Zd h9 f5
 refine xc 0 (args:=#[.slice p8 (bmN l.length) c8]) (slots_PutN (bmN l.length) p8 c8 (Rs (Xp (Zu (Vf l (f+k0) (Qa l))) (bmN l.length)) (f+(k0+(Xx 5 (Zy l l.length).length))) (bmN l.length)) _ (Ag _ _ _) (rs_ok g8 (Gc _ _) (by omega) (by omega) (by omega)) (Rs_sts (Ze d4))) ?_
 rintro _ j9 ⟨_,rfl,a2,pz,cz,rfl,h8⟩
 have e5:=(a6.trans c4).size
 have d8:=a9.below a2
 have b4:=((((d9.trans (c3.wide)).trans (Zf.of_below a1)).trans (Zf.of_below a4.below)).trans (f2.wide)).trans (Zf.of_below a2)
 have c7:=Zd h8 e5
 have d0:=blB (a6.trans c4) hBw a2
 refine xc 21 (args:=#[P0 ba,V0 4,.slice pz 244 cz]) (Ma B ba b g nn cc pa ca f N (k0+(Xx 5 (Zy l l.length).length)+(bmN l.length)) (Ks (Xp (Zu (Vf l (f+k0) (Qa l))) (bmN l.length)) (f+(k0+(Xx 5 (Zy l l.length).length))) (Yl 5 (Zy l l.length) (f+k0) bs).2 (bmN l.length)) 4 pz cz (Dp (Rs (Xp (Zu (Vf l (f+k0) (Qa l))) (bmN l.length)) (f+(k0+(Xx 5 (Zy l l.length).length))) (bmN l.length))) (f+(k0+(Xx 5 (Zy l l.length).length)+(bmN l.length))) 244 _ rfl (Bq (by rw[Ag];omega)) hC d8 (by omega) (by decide) (by decide) (fun W _ b4=>Yk (Ze (Zj c7 b4 (by decide))) (Bq (by rw[Ag];omega))) (by decide) (Nat.le_trans hBw d0.size)) ?_
 rintro _ j4 ⟨rfl,g2,f9,g3,a9⟩
 have f7:=d0.trans g2
 have f6:=b4.trans (f9.wide)
 have e6:=((Fr.trans_new (((c2.trans (g0.mono (by simp))).trans (Fr.of_below a1)).trans (Fr.of_below a4.below)) f4 g7).trans (Fr.of_below a2)).trans (g3.mono (by simp))
 refine xe 27 (.tuple #[V0 (↑(f+(k0+(Xx 5 (Zy l l.length).length)+(bmN l.length))):Int),V0 ((Yl 5 (Zy l l.length) (f+k0) bs).1),.nilIface]) ?_
 have e1:f+(k0+(Xx 5 (Zy l l.length).length)+(bmN l.length))=f+k0+(Xx 5 (Zy l l.length).length)+(bmN l.length):=by omega
 have e2:f+(k0+(Xx 5 (Zy l l.length).length))=f+k0+(Xx 5 (Zy l l.length).length):=by omega
 rw[e1,e2] at a9
 rw[e1]
 have e3:k0+(Xx 5 (Zy l l.length).length)+(bmN l.length)+1=k0+Qa l:=by omega
 rw[e3] at a9
 refine⟨?_,f7,f6,e6,?_⟩
 ·unfold Dq;rw[Zhi]
 ·unfold Dq;rw[Zhi];exact a9
theorem dvs_getZ{Z:List Zv}{L:List Dv}(hL:Z.map Prod.fst=L){i:Nat}(h:i<Z.length):L.getD i dvD=(Z.getD i zvD).1:=by rw[←hL];exact zfst h _
theorem F1_le(L:List Dv):Xw (Lx L)+1≤Xw (F1 L)∧Xw (F1 L)+1≤Xw (F2 L):=by
 have e1:Xw (F1 L)=Xw (Lx L)+Lu (1,Ec L (Zct L)):=Jo _ _
 have e2:Xw (F2 L)=Xw (F1 L)+Lu (3,El L (Bz L)):=Jo _ _
 have:=Ly (1,Ec L (Zct L))
 have:=Ly (3,El L (Bz L))
 omega
theorem Mw(B ba b g nn cc:Nat)(pa:O0)(ca N:Nat)(bs:Bl)(p:O0)(c n:Nat)(data:Int)(Z:List Zv)(L:List Dv)(w:World)(hZ:Z.length=n)(hL:Z.map Prod.fst=L)(hD:DevsOk data L)(hd:data≤65536)(hP:∀ W,Below B w W→DevsR W p c Z)(hC:AlC B ba nn cc ca 1 N)(hA:AlF B ba b g nn cc pa ca N bs [] w)(hr:Xw (F2 L)≤N)(hBw:B≤w.heap.size) :
 C0 96 #[.agg #[P0 ba],.slice p n c] w ((fun e w'=>e=.returned (.tuple #[V0 (↑(Xw (F1 L)):Int),V0 (↑(Xw (F2 L)):Int)])∧Below B w w'∧Zf [200,5,28,132] w w'∧AlF B ba b g nn cc pa ca N bs (F2 L) w')):=by
 have i0:∀ W,Below B w W→Zf [200,5,28,132] w W→DevsR W p c Z:=fun W h _=>hP W h
 have k7:L.length=n:=by rw[←hL,List.length_map];exact hZ
 have k9:=F1_le L
 have j8:=hD.few
 have k4:N≤14400:=by have a:=hC.hf;have b:=hC.hn;omega
 have l3:=Sl.len ((hP w (Below.refl _ _)).rowN hZ)
 refine zin 58 Tryz.func96 ?_
 refine xa 2 [P0 ba] 115 fun b1 W1 n1=>?_
 have h4:=hA.below n1.below
 have hB:=blB (Below.refl B w) hBw n1.below
 have hO:=(show Zf [200,5,28,132] w _ from(Zf.of_below n1.below))
 refine zl 19 58 (fun zm j1 V=>∃ (i:Nat) (p7:O0) (c7:Nat) (p8:O0) (c8:Nat),j1=[(2,P0 b1),(4,V0 0),(5,V0 0),(6,.slice p7 i c7),(7,.slice p8 i c8),(13,.slice p n c),(14,V0 (n:Int)),(15,V0 (i:Int))]∧zm=n-((i:Int)).toNat∧Below B w V∧Zf [200,5,28,132] w V∧Blk V b1 ([P0 ba]) 115∧V.ownsRow w.heap.size 132 3 (.slice p7 i c7) i (((Ec L (Zct L)).take i).flatMap Jv)∧V.ownsRow w.heap.size 132 3 (.slice p8 i c8) i (((El L (Bz L)).take i).flatMap Jv)∧AlF B ba b g nn cc pa ca N bs (Lx (L.take i)) V∧i≤n∧Un (.slice p7 i c7) (.slice p8 i c8)) ⟨0,none,0,none,0,rfl,rfl,hB,hO,n1.blk,World.ownsRow_nil _ _ _ _,World.ownsRow_nil _ _ _ _,h4,Nat.zero_le _,Un.nil _⟩ ?_
 rintro _ _ W2 ⟨i,p7,c7,p8,c8,rfl,rfl,a6,d8,b5,d6,d5,hA,hi,d7⟩ J2 j0 r2
 refine xid 6 ((i:Int)<(n:Int)) (fun i5=>?_) (fun i5=>?_)
 ·have e0:=dvs_getZ hL (i:=i) (by omega)
  have j5:=maps_sum (L:=L) (i:=i) (by omega)
  rw[e0] at j5
  have i3:=hD.sum
  have f5:=(hD.each (L.getD i dvD) (gd_mem _ (by omega))).maps
  have f0:=hD.each (L.getD i dvD) (gd_mem _ (by omega))
  rw[e0] at f5 f0
  have i1:Lx (L.take i)++[(2,Lv (Z.getD i zvD).1.2)]=Lx (L.take (i+1)):=by rw[Zdy (by omega),e0]
  have j6:Ca (2,Lv (Z.getD i zvD).1.2):=by rw[←e0];exact dev_treeOk hD (by omega)
  have l2:=rootR_pos (L:=L) (i:=i) (by omega)
  have l5:=Zdr (L:=L) (i+1)
  refine xx 6 _ n i 5 ((hP _ (Below.refl _ _)).someN hZ (i:=i) (by omega)) ?_
  refine xlv 0 (Sts.rp (k:=i) (i0 _ a6 d8).row Nt zvD (by omega) (by decide)) ?_
  refine xa 0 [V0 0,V0 0,V0 0,V0 0,S0] 95 fun b4 W4 n4=>?_
  have g4:=n4.ge0 a6
  refine xsv 0 n4.blk [V0 ((Z.getD i zvD).1.1.1),V0 ((Z.getD i zvD).1.1.2.1),V0 ((Z.getD i zvD).1.1.2.2.1),V0 ((Z.getD i zvD).1.1.2.2.2),.slice ((Z.getD i zvD).2.1) ((Z.getD i zvD).1.2.length) ((Z.getD i zvD).2.2)] fun W5 u5 k5=>?_
  refine xd 3 (.t B [200,5,28,132]) ?_
  have a2:=(u5.blkT (b5.below n4.below) n4.blk (by decide)).below (Za W5)
  refine xlvt (.e [] 0) (.t B [200,5,28,132]) (fun V hV=>(a2.only hV.2 (by decide)).rp) ?_
  have e1:=k5.below (Za W5)
  refine xbt (.e [1] 2) 4 B [200,5,28,132] e1 ?_
  have e7:=(Zf.upd_new (d8.trans (Zf.of_below n4.below)) u5 g4).trans (Zf.of_below (Za W5))
  have e2:=blB (u5.below (blB a6 hBw n4.below) (Nat.le_trans hBw g4)) hBw (Za W5)
  refine yc (.o [] 3) (args:=#[.slice ((Z.getD i zvD).2.1) ((Z.getD i zvD).1.2.length) ((Z.getD i zvD).2.2)]) (.t B [200,5,28,132]) (lay_maps (Z.getD i zvD).2.1 (Z.getD i zvD).2.2 data (Z.getD i zvD).1.2 _ ((i0 _ e2 e7).each i (by omega)) f5 hd (by omega)) ?_
  rintro _ W6 ⟨_,rfl,c3,ql,dl,rfl,i6⟩
  have i9:=(blB (u5.below (blB a6 hBw n4.below) (Nat.le_trans hBw g4)) hBw (Za W5)).size
  refine⟨(SF.of_below _ c3),?_⟩
  have c6:=Zd i6 i9
  have h5:=(((hA.below n4.below).only (Zf.of_upd (T:=[95]) u5 n4.blk (by decide)) (by decide)).below (Za W5)).below c3
  have e4:=blB e2 hBw c3
  refine yc (.o [] 4) (args:=#[.agg #[P0 ba],V0 2,.slice ql ((Z.getD i zvD).1.2.length) dl]) (.t B [200,5,28,132]) (by have q:=Zap B ba b g nn cc pa ca N bs (Lx (L.take i)) 2 ql dl (Z.getD i zvD).1.2.length (Lv (Z.getD i zvD).1.2) _ (by rw[Jg]) hC h5 (j6) (by rw[i1];have:=Zdr (L:=L) (i+1);omega) (fun W _ h2=>Ze (Zj c6 h2 (by decide))) (Nat.le_trans hBw e4.size);rw[i1] at q;exact q) ?_
  rintro _ W7 ⟨rfl,i2,d4,hA⟩
  refine⟨(Gn i2 d4),?_⟩
  refine xd (.r [5] 3) (.t B [132]) ?_
  have f7:=((e1.below c3).only d4 (by decide)).below (Za W7)
  refine xbt (.e [0,1] 2) 0 B [132] f7 ?_
  refine xr (.o [3] 4) (args:=#[V0 (↑(Xw (Lx (L.take (i+1)))):Int)]) (Oe (↑(Xw (Lx (L.take (i+1)))):Int) (by omega) (by omega) _) fun W8 c9=>?_
  refine xbs (.o [5] 6) 1 [V0 ((Z.getD i zvD).1.1.1),.string ⟨(leB (↑(Xw (Lx (L.take (i+1)))):Int) 4).toArray⟩,V0 0] 132 fun b9 W9 n9=>?_
  have e3:=blB (blB (e4.trans i2) hBw (Za W7)) hBw c9
  have g9:=n9.ge0 e3
  have b6:=Zb (Zb (Zj (Zb (Zb (u5.own2 (Zb d6 n4.below) n4.blk (by decide)) (Za W5)) c3) d4 (by decide)) (Za W7)) c9
  have g0:=Zn b6 n9
  have b2:=Zb (Zb (Zj (Zb (Zb (u5.own2 (Zb d5 n4.below) n4.blk (by decide)) (Za W5)) c3) d4 (by decide)) (Za W7)) c9
  have g1:=Zn b2 n9
  have f8:=Zb (Zb (Zj c6 d4 (by decide)) (Za W7)) c9
  have h0:=Zn f8 n9
  have a0:=Zb b6 n9.below
  have e9:=blB e3 hBw n9.below
  refine ybi (.o [] 7) (.t B [132]) fun _ _ _ _ zJ zQ zo zx zy zK=>Kg (b:=b9) (c:=1) (m:=1) (news:=[V0 ((Z.getD i zvD).1.1.1),.string ⟨(leB (↑(Xw (Lx (L.take (i+1)))):Int) 4).toArray⟩,V0 0]) (.agg #[V0 0,.string ⟨#[]⟩,V0 0]) 3 32 (i+1) ((((Ec L (Zct L)).take (i+1)).flatMap Jv)) zo Tryz.underlying123 (by kernel_rfl) rfl (by decide) zx a0 zy n9.blk rfl (by simp[Value.oneCell']) (by unfold maxLen;omega) (by omega) e9.size (by rfl) (by have e:=Na (L:=L) (R:=Zct L) (i:=i) (by omega);rw[e0] at e;exact Ze4 (by rw[Js];omega) e) fun j2 j3 k0 j4 a5 f6 g6=>?_
  have b0:=Zb b2 n9.below
  have a8:=d7.row b0 a5
  replace d7:=(d7.grow b0 g6)
  have c0:=a8
  refine zK _ _ (Zx (f6.mono hBw) a5 a0 (by decide)) ?_
  have a7:=((f7.below c9).below n9.below).grown a5 a0 (by decide)
  refine xb (.r [8] 5) 4 a7 ?_
  refine xb 2 1 a7 ?_
  refine xb 1 2 a7 ?_
  refine xb 1 3 a7 ?_
  refine xa 1 [V0 0,V0 0,V0 0,V0 0] 280 fun l4 k2 a3=>?_
  have f4:=e9.trans (f6.mono hBw)
  have h9:=a3.ge0 f4
  refine xsv 0 a3.blk [V0 (↑((Z.getD i zvD).1.2.length):Int),V0 ((Z.getD i zvD).1.1.2.1),V0 ((Z.getD i zvD).1.1.2.2.1),V0 ((Z.getD i zvD).1.1.2.2.2)] fun c5 d2 i4=>?_
  refine xd 2 (.t B [132]) ?_
  have h1:=(d2.blkT (a7.below a3.below) a3.blk (by decide)).below (Za c5)
  refine xbt (.e [0,1] 2) 0 B [132] h1 ?_
  have e8:=i4.below (Za c5)
  refine xlvt (.e [] 3) (.t B [132]) (fun V hV=>(e8.only hV.2 (by decide)).rp) ?_
  refine xr (.o [] 4) (args:=#[.agg #[V0 (↑((Z.getD i zvD).1.2.length):Int),V0 ((Z.getD i zvD).1.1.2.1),V0 ((Z.getD i zvD).1.1.2.2.1),V0 ((Z.getD i zvD).1.1.2.2.2)]]) (Za3 data (↑(Z.getD i zvD).1.2.length:Int) (Z.getD i zvD).1 _ f0 ⟨by omega,by omega⟩) fun k3 a4=>?_
  refine xbs (.o [5] 6) 1 [V0 ((Z.getD i zvD).1.1.1),.string ⟨(Bg (↑(Z.getD i zvD).1.2.length:Int) (Z.getD i zvD).1).toArray⟩,V0 0] 132 fun i8 k1 b7=>?_
  have f9:=blB (blB (d2.below (blB f4 hBw a3.below) (Nat.le_trans hBw h9)) hBw (Za c5)) hBw a4
  have k6:=b7.ge0 f9
  have b3:=Zb (Zb (d2.own2 (Zb c0 a3.below) a3.blk (by decide)) (Za c5)) a4
  have f3:=Zn b3 b7
  have c4:=Zb (Zb (d2.own2 (Zb j4 a3.below) a3.blk (by decide)) (Za c5)) a4
  have g2:=Zn c4 b7
  have a1:=Zb b3 b7.below
  have e6:=blB f9 hBw b7.below
  refine ybi (.o [] 7) (.t B [132]) fun _ _ _ _ zJ zQ zo zx zy zK=>Kg (b:=i8) (c:=1) (m:=1) (news:=[V0 ((Z.getD i zvD).1.1.1),.string ⟨(Bg (↑(Z.getD i zvD).1.2.length:Int) (Z.getD i zvD).1).toArray⟩,V0 0]) (.agg #[V0 0,.string ⟨#[]⟩,V0 0]) 3 32 (i+1) ((((El L (Bz L)).take (i+1)).flatMap Jv)) zo Tryz.underlying123 (by kernel_rfl) rfl (by decide) zx a1 zy b7.blk rfl (by simp[Value.oneCell']) (by unfold maxLen;omega) (by omega) e6.size (by rfl) (by have e:=Px (L:=L) (C:=Bz L) (i:=i) (by omega);unfold Bz at e;rw[e0] at e;exact Ze4 (by rw[Jp];omega) e) fun i7 j9 l6 j7 a9 e5 g8=>?_
  have d0:=Zb c4 b7.below
  have b8:=d7.symm.row d0 a9
  replace d7:=(d7.symm.grow d0 g8).symm
  have d9:=b8
  refine zK _ _ (Zx (e5.mono hBw) a9 a1 (by decide)) ?_
  refine xwm (.r [8] 4) ((i:Int)+1) (↑(i+1):Int) ?_
  have g3:=e6.trans (e5.mono hBw)
  have h8:=(Zf.grown_new ((((Zf.upd_new ((Zf.grown_new (((((e7.trans (Zf.of_below c3)).trans (d4.wide (by decide))).trans (Zf.of_below (Za W7))).trans (Zf.of_below c9)).trans (Zf.of_below n9.below)) a5 a0).trans (Zf.of_below a3.below)) d2 h9).trans (Zf.of_below (Za c5))).trans (Zf.of_below a4)).trans (Zf.of_below b7.below)) a9 a1)
  have c2:=((((d2.blkT (((((((a2.below c3).only d4 (by decide)).below (Za W7)).below c9).below n9.below).grown a5 a0 (by decide)).below a3.below) a3.blk (by decide)).below (Za c5)).below a4).below b7.below).grown a9 a1 (by decide)
  have g5:=(((((((((hA.below (Za W7)).below c9).below n9.below).only (Zf.of_grown (T:=[132]) a5 a0 (by decide)) (by decide)).below a3.below).only (Zf.of_upd (T:=[280]) d2 a3.blk (by decide)) (by decide)).below (Za c5)).below a4).below b7.below).only (Zf.of_grown (T:=[132]) a9 a1 (by decide)) (by decide)
  exact ze 2 (j0 _ _ _ ⟨i+1,_,_,_,_,rfl,rfl,g3,h8,c2,d9,j7,g5,by omega,d7⟩ (by omega))
 have l0:i=n:=by omega
 rw[List.take_of_length_le (by rw[Js];omega)] at d6
 rw[List.take_of_length_le (by rw[Jp];omega)] at d5
 rw[show L.take i=L from List.take_of_length_le (by omega)] at hA
 refine xlv 7 b5.rp ?_
 refine xc 1 (args:=#[.agg #[P0 ba],V0 1,.slice p7 i c7]) (by have q:=Zap B ba b g nn cc pa ca N bs (Lx L) 1 p7 c7 i ((Ec L (Zct L))) _ (by rw[Js];omega) hC hA (top_ok hD) (by show Xw (F1 L)≤N;omega) (fun W _ h2=>Ze (Zj d6 h2 (by decide))) (Nat.le_trans hBw a6.size);exact q) ?_
 rintro _ l1 ⟨rfl,g7,d3,hA⟩
 have c1:=b5.only d3 (by decide)
 refine xlv 6 c1.rp ?_
 have d1:=Zj d5 d3 (by decide)
 have f1:=a6.trans g7
 refine xc 1 (args:=#[.agg #[P0 ba],V0 3,.slice p8 i c8]) (by have q:=Zap B ba b g nn cc pa ca N bs (F1 L) 3 p8 c8 i ((El L (Bz L))) _ (by rw[Jp];omega) hC hA (det_ok hD) (by show Xw (F2 L)≤N;omega) (fun W _ h2=>Ze (Zj d1 h2 (by decide))) (Nat.le_trans hBw f1.size);exact q) ?_
 rintro _ k8 ⟨rfl,h7,h6,hA⟩
 have f2:=f1.trans h7
 have h3:=(d8.trans (d3.wide (by decide))).trans (h6.wide (by decide))
 exact xe 5 (.tuple #[V0 (↑(Xw (F1 L)):Int),V0 (↑(Xw (F2 L)):Int)]) ⟨rfl,f2,h3,hA⟩
def Mh(L:List Dv)(k:Nat):Bl:=Zbq (F2 L) 1 (List.replicate (k*256) (0:UInt8))
def Pl(x:Nat)(L:List Dv):Nat:=Xw (F2 L)+Ni (Ys x L)
def Jb(x:Nat)(L:List Dv)(k:Nat):Int×Int×Bl:=Za7 (Ys x L) (1+Xw (F2 L)) (Mh L k)
def Pn(x:Nat)(L:List Dv)(k:Nat):Int×Int×Bl:=Dq (Qh (Pl x L+1) k) 1 (Pl x L) (Jb x L k).2.2
def Zb6(t u v:Int)(x:Nat)(L:List Dv)(k:Nat):Sup:=⟨t,u,v,(x:Int),(k:Int),(Xw (F1 L):Int),(Xw (F2 L):Int),(Jb x L k).1,(Jb x L k).2.1,(Pn x L k).1,(Pn x L k).2.1⟩
def Ea(t u v:Int)(x:Nat)(L:List Dv)(k:Nat):Bl:=Vq (Pn x L k).2.2 (0*256) (Xs 1 (0:Nat) (Wj (Zb6 t u v x L k)))
theorem Zge(L:List (List Int))(f:Nat):∀ n,(Yj L f n).length=n:=fun n=>Hk L f n
theorem layD_in(x:Nat)(L:List Dv)(k:Nat):1≤(Jb x L k).1∧(Jb x L k).1≤(Pl x L:Int)∧1≤(Jb x L k).2.1∧(Jb x L k).2.1≤(Pl x L:Int):=by
 have a:=Mf (t:=4) (l:=Yj (Xp (Zu (Ys x L)) (bmN (Ys x L).length)) (1+Xw (F2 L)) (bmN (Ys x L).length)) (q:=1+Xw (F2 L)+bmN (Ys x L).length) (bs:=Ks (Xp (Zu (Ys x L)) (bmN (Ys x L).length)) (1+Xw (F2 L)) (Mh L k) (bmN (Ys x L).length)) (by omega)
 have b:=Mf (t:=5) (l:=Zy (Ys x L) (Ys x L).length) (q:=1+Xw (F2 L)+bmN (Ys x L).length+Xx 4 (bmN (Ys x L).length)) (bs:=(Yl 4 (Yj (Xp (Zu (Ys x L)) (bmN (Ys x L).length)) (1+Xw (F2 L)) (bmN (Ys x L).length)) (1+Xw (F2 L)+bmN (Ys x L).length) (Ks (Xp (Zu (Ys x L)) (bmN (Ys x L).length)) (1+Xw (F2 L)) (Mh L k) (bmN (Ys x L).length))).2) (by omega)
 rw[Zge] at a
 have e1:(Jb x L k).1=_:=a
 have e2:(Jb x L k).2.1=_:=b
 have h4:=Wl 4 (bmN (Ys x L).length)
 have h5:=Wl 5 (Zy (Ys x L) (Ys x L).length).length
 have e3:Pl x L=Xw (F2 L)+(bmN (Ys x L).length+Xx 4 (bmN (Ys x L).length)+Xx 5 (Zy (Ys x L) (Ys x L).length).length):=rfl
 rw[e1,e2,e3]
 omega
theorem layM_in(x:Nat)(L:List Dv)(k:Nat):1≤(Pn x L k).1∧(Pn x L k).1≤(Pl x L+2+bmN k:Nat)∧1≤(Pn x L k).2.1∧(Pn x L k).2.1≤(Pl x L+2+bmN k:Nat):=by
 have a:=Mf (t:=5) (l:=Zy (Qh (Pl x L+1) k) (Qh (Pl x L+1) k).length) (q:=1+Pl x L) (bs:=(Jb x L k).2.2) (by omega)
 have e2:(Pn x L k).2.1=_:=a
 have e1:(Pn x L k).1=((1+Pl x L+Xx 5 (Zy (Qh (Pl x L+1) k) (Qh (Pl x L+1) k).length).length+bmN (Vf (Qh (Pl x L+1) k) (1+Pl x L) (Qa (Qh (Pl x L+1) k))).length:Nat):Int):=rfl
 rw[Vd,Xt] at e1
 rw[Uq,List.length_nil,Zah] at e1 e2
 rw[e1,e2]
 omega
theorem Tw{t u v:Int}{x k:Nat}{L:List Dv}(hk:PoolOk t u v (x:Int) L)(hr:Mi x L≤k)(hk2:k≤14400):Zp (Zb6 t u v x L k)=true:=by
 have a:=layD_in x L k
 have b:=layM_in x L k
 have c:=Zat hr
 have d:=F1_le L
 have e:Pl x L=Xw (F2 L)+Ni (Ys x L):=rfl
 have h1:=hk.htx
 have h2:=hk.htime
 have h3:=hk.hunit
 have h4:=hk.hdata
 unfold Zp Zb6
 simp only[Bool.and_eq_true,decide_eq_true_eq,true_and]
 refine⟨⟨⟨⟨⟨⟨⟨⟨⟨⟨?_,?_⟩,?_⟩,?_⟩,?_⟩,?_⟩,?_⟩,?_⟩,?_⟩,?_⟩,?_⟩<;>omega
theorem Za1(t u v:Int)(x k:Nat)(L:List Dv)(w:World)(hr:Zp (Zb6 t u v x L k)=true):C0 100 #[.agg #[V0 t,V0 u,V0 v,V0 (x:Int),V0 (k:Int),V0 (↑(Xw (F1 L)):Int),V0 (↑(Xw (F2 L)):Int),V0 (Jb x L k).1,V0 (Jb x L k).2.1,V0 (Pn x L k).1,V0 (Pn x L k).2.1]] w (Qe (fun w' r=>∃ p c,r=.tuple #[.slice p 244 c,V0 0]∧w'.ownsRow w.heap.size 5 1 (.slice p 244 c) 244 ((Wj (Zb6 t u v x L k)).map bv)) w):=by
 refine(sup_PutP (Zb6 t u v x L k) w ⟨by show(0:Int)≤(k:Int);omega,?_⟩).mono ?_
 ·unfold Zp Zb6 at hr
  simp only[Bool.and_eq_true,decide_eq_true_eq,true_and] at hr
  show(k:Int)<_
  omega
 ·rintro e W q
  rcases q with ⟨h,_⟩|⟨_,p,c,rfl,hb,ho⟩
  ·rw[hr] at h;cases h
  ·exact⟨_,rfl,hb,p,c,rfl,ho⟩
theorem lay_all(B ba b g cc:Nat)(pa:O0)(ca N k:Nat)(p:O0)(c n x:Nat)(t u v:Int)(Z:List Zv)(L:List Dv)(w:World)(hZ:Z.length=n)(hL:Z.map Prod.fst=L)(hk:PoolOk t u v (x:Int) L)(hP:∀ W,Below B w W→DevsR W p c Z)(hN:N=k-1)(hC:AlC B ba (k*256) cc ca 1 N)(hA:AlF B ba b g (k*256) cc pa ca N (List.replicate (k*256) (0:UInt8)) [] w)(hr:Mi x L≤k)(hk3:k≤3000)(hBw:B≤w.heap.size) :
 C0 55 #[.agg #[P0 ba],.agg #[V0 t,V0 u,V0 v,V0 (x:Int),.slice p n c]] w ((fun e w'=>e=.returned (.tuple #[])∧Below B w w'∧ImgR B b (S1 g) (k*256) cc (Ea t u v x L k) w')):=by
 have hx:x≤65536:=by have:=hk.hdata;omega
 have t6:=Zat hr
 have x7:Pl x L=Xw (F2 L)+Ni (Ys x L):=rfl
 have t2:=Tw hk hr (by omega)
 refine zin 72 Tryz.func55 ?_
 refine xa 2 [P0 ba] 115 fun b1 W1 n1=>?_
 refine xa 0 [V0 t,V0 u,V0 v,V0 (x:Int),.slice p n c] 48 fun b2 W2 n2=>?_
 refine xd 3 (.t B [200,5,28,123,132,140,134,24]) ?_
 have k2:=n2.blk.below (Za W2)
 refine xbt (.e [0] 1) 0 B [200,5,28,123,132,140,134,24] k2 ?_
 refine xbt (.e [2] 3) 1 B [200,5,28,123,132,140,134,24] k2 ?_
 refine xbt (.e [4] 5) 2 B [200,5,28,123,132,140,134,24] k2 ?_
 refine xbt (.e [6] 7) 3 B [200,5,28,123,132,140,134,24] k2 ?_
 have k1:=(n1.blk.below n2.below).below (Za W2)
 refine xbt (.e [8] 9) 0 B [200,5,28,123,132,140,134,24] k1 ?_
 refine xm2 0 10 13 ?_ ?_
 ·have h2:=((hA.below n1.below).below n2.below).below (Za W2)
  refine xr 0 (args:=#[P0 ba]) (Qp ba b _ _ _ h2.blkA) fun W3 d3=>?_
  refine xm2 0 11 13 ?_ ?_
  ·have m8:=h2.below d3
   refine xr 0 (args:=#[P0 b]) (by have q:=Yu b _ (k*256) _ _ m8.blkI (by omega);rw[show k*256/256=k by omega] at q;exact q) fun W4 q6=>?_
   refine xa (.o [12] 13) [V0 0,V0 0,V0 0,V0 0,V0 0,V0 0,V0 0,V0 0,V0 0,V0 0,V0 0] 24 fun b5 W5 n5=>?_
   have hB:=blB (blB (blB (blB (blB (Below.refl B w) hBw n1.below) hBw n2.below) hBw (Za W2)) hBw d3) hBw q6
   have g5:=n5.ge0 hB
   refine ysv (.o [] 14) n5.blk [V0 t,V0 u,V0 v,V0 (x:Int),V0 (k:Int),V0 0,V0 0,V0 0,V0 0,V0 0,V0 0] (.t B [200,5,28,123,132,140,134,24]) fun W6 u6 k6=>⟨(Zl u6 n5.blk (Nat.le_trans hBw g5) (by decide)),?_⟩
   have n3:=u6.blkT (((k1.below d3).below q6).below n5.below) n5.blk (by decide)
   refine xlv 9 n3.rp ?_
   have l2:=u6.blkT (((k2.below d3).below q6).below n5.below) n5.blk (by decide)
   refine xb 1 4 l2 ?_
   have r0:=((m8.below q6).below n5.below).only (Zf.of_upd (T:=[24]) u6 n5.blk (by decide)) (by decide)
   have d1:=u6.below (blB hB hBw n5.below) (Nat.le_trans hBw g5)
   refine xc 0 (args:=#[.agg #[P0 ba],.slice p n c]) (Mw B ba b g (k*256) cc pa ca N (List.replicate (k*256) (0:UInt8)) p c n (x:Int) Z L _ hZ hL hk.devs (by omega) (fun W h=>hP W (d1.trans h)) hC r0 (by omega) (Nat.le_trans hBw d1.size)) ?_
   rintro _ W7 ⟨rfl,t7,r6,hA⟩
   have d2:=k6.only r6 (by decide)
   refine xs 4 d2 [V0 t,V0 u,V0 v,V0 (x:Int),V0 (k:Int),V0 (↑(Xw (F1 L)):Int),V0 0,V0 0,V0 0,V0 0,V0 0] fun W8 u8 k8=>?_
   refine xs 1 k8 [V0 t,V0 u,V0 v,V0 (x:Int),V0 (k:Int),V0 (↑(Xw (F1 L)):Int),V0 (↑(Xw (F2 L)):Int),V0 0,V0 0,V0 0,V0 0] fun W9 u9 k9=>?_
   refine xd 3 (.t B [200,5,28,123,132,140,134,24]) ?_
   have p7:=(u9.blkT (u8.blkT (n3.only r6 (by decide)) d2 (by decide)) k8 (by decide)).below (Za W9)
   refine xbt (.e [0] 1) 0 B [200,5,28,123,132,140,134,24] p7 ?_
   have t3:=(u9.blkT (u8.blkT (l2.only r6 (by decide)) d2 (by decide)) k8 (by decide)).below (Za W9)
   refine xlvt (.e [] 2) (.t B [200,5,28,123,132,140,134,24]) (fun V hV=>(t3.only hV.2 (by decide)).rp) ?_
   have j1:=blB (u9.below (u8.below (d1.trans t7) (Nat.le_trans hBw g5)) (Nat.le_trans hBw g5)) hBw (Za W9)
   refine yc (.o [] 3) (args:=#[.agg #[V0 t,V0 u,V0 v,V0 (x:Int),.slice p n c]]) (.t B [200,5,28,123,132,140,134,24]) (by have q:=Lz p c n x t u v Z _ hZ (hP _ j1) (by rw[hL];exact hk);rw[hL] at q;exact q) ?_
   rintro _ w6 ⟨_,rfl,c1,q9,d9,rfl,m6⟩
   have t1:=(blB (u9.below (u8.below (d1.trans t7) (Nat.le_trans hBw g5)) (Nat.le_trans hBw g5)) hBw (Za W9)).size
   refine⟨(SF.of_below _ c1),?_⟩
   have l4:=Zd m6 t1
   have s6:=(((hA.only (Zf.of_upd (T:=[24]) u8 d2 (by decide)) (by decide)).only (Zf.of_upd (T:=[24]) u9 k8 (by decide)) (by decide)).below (Za W9)).below c1
   have f4:=blB j1 hBw c1
   refine yc (.o [] 4) (args:=#[P0 ba,.slice q9 x d9]) (.t B [200,5,28,123,132,140,134,24]) (by have q:=Dm B ba b g (k*256) cc pa ca 1 N (Xw (F2 L)) (Mh L k) q9 d9 (Ys x L) _ hC s6 (by rw[Qf];have q:=Ze l4;rw[←Zgo] at q;exact q) (by rw[Qf];omega) (by rw[Bf];have:=Cr hk.devs;omega) (Ld (by omega) hk.devs) (by decide) (by omega) (by omega) (Nat.le_trans hBw f4.size);rw[Qf] at q;exact q) ?_
   rintro _ x2 ⟨rfl,h5,f1,u5,hA⟩
   refine⟨(Gn h5 f1),?_⟩
   have d0:=((k9.below (Za W9)).below c1).only f1 (by decide)
   refine ys (.o [5,6,7,8,9] 10) d0 [V0 t,V0 u,V0 v,V0 (x:Int),V0 (k:Int),V0 (↑(Xw (F1 L)):Int),V0 (↑(Xw (F2 L)):Int),V0 ((Jb x L k).1),V0 0,V0 0,V0 0] (.t B [200,5,28,123,132,140,134,24]) fun z2 j6 q3=>⟨(Zl j6 d0 (Nat.le_trans hBw g5) (by decide)),?_⟩
   refine ys (.o [11] 12) q3 [V0 t,V0 u,V0 v,V0 (x:Int),V0 (k:Int),V0 (↑(Xw (F1 L)):Int),V0 (↑(Xw (F2 L)):Int),V0 ((Jb x L k).1),V0 ((Jb x L k).2.1),V0 0,V0 0] (.t B [200,5,28,123,132,140,134,24]) fun x5 n0 v3=>⟨(Zl n0 q3 (Nat.le_trans hBw g5) (by decide)),?_⟩
   refine xr (.r [13] 5) (args:=#[.nilIface]) (Kh _) fun j0 c6=>?_
   refine xd 3 (.t B [200,5,28,123,132,140,134,24]) ?_
   have h3:=((n0.blkT (j6.blkT ((p7.below c1).only f1 (by decide)) d0 (by decide)) q3 (by decide)).below c6).below (Za j0)
   refine xbt (.e [0] 1) 0 B [200,5,28,123,132,140,134,24] h3 ?_
   refine xlvt (.e [] 2) (.t B [200,5,28,123,132,140,134,24]) (fun V hV=>(h3.only hV.2 (by decide)).rp) ?_
   have m7:=(((hA.only (Zf.of_upd (T:=[24]) j6 d0 (by decide)) (by decide)).only (Zf.of_upd (T:=[24]) n0 q3 (by decide)) (by decide)).below c6).below (Za j0)
   refine yc (.o [] 3) (args:=#[.agg #[P0 ba]]) (.t B [200,5,28,123,132,140,134,24]) (Dn B ba b g cc pa ca 1 N (Pl x L) k _ _ m7 (by omega) (by omega)) ?_
   rintro _ ak ⟨_,rfl,b3,q8,d8,rfl,p5⟩
   have s1:=(blB (blB (n0.below (j6.below (f4.trans h5) (Nat.le_trans hBw g5)) (Nat.le_trans hBw g5)) hBw c6) hBw (Za j0)).size
   refine⟨(SF.of_below _ b3),?_⟩
   have s0:=m7.below b3
   have j7:=Zd p5 s1
   have g2:=blB (blB (blB (n0.below (j6.below (f4.trans h5) (Nat.le_trans hBw g5)) (Nat.le_trans hBw g5)) hBw c6) hBw (Za j0)) hBw b3
   refine yc (.o [] 4) (args:=#[P0 ba,.slice (some q8) k d8]) (.t B [200,5,28,123,132,140,134,24]) (by have q:=Df B ba b g (k*256) cc pa ca 1 N (Pl x L) (Jb x L k).2.2 q8 d8 (Qh (Pl x L+1) k) _ hC s0 (by rw[Xt];exact Ze j7) (by rw[Xt];omega) (by rw[Xt];omega) (My (by omega)) (by omega) (by rw[Dd];omega) (by decide) (by rw[Nat.add_comm 1];exact Cv) (Nat.le_trans hBw g2.size);rw[Xt] at q;exact q) ?_
   rintro _ ac ⟨rfl,f9,f6,v1,hA⟩
   refine⟨(Gn f9 f6),?_⟩
   have a6:=(((v3.below c6).below (Za j0)).below b3).only f6 (by decide)
   refine ys (.o [5,6,7,8,9] 10) a6 [V0 t,V0 u,V0 v,V0 (x:Int),V0 (k:Int),V0 (↑(Xw (F1 L)):Int),V0 (↑(Xw (F2 L)):Int),V0 ((Jb x L k).1),V0 ((Jb x L k).2.1),V0 ((Pn x L k).1),V0 0] (.t B [200,5,28,123,132,140,134,24]) fun y3 m5 q0=>⟨(Zl m5 a6 (Nat.le_trans hBw g5) (by decide)),?_⟩
   refine ys (.o [11] 12) q0 [V0 t,V0 u,V0 v,V0 (x:Int),V0 (k:Int),V0 (↑(Xw (F1 L)):Int),V0 (↑(Xw (F2 L)):Int),V0 ((Jb x L k).1),V0 ((Jb x L k).2.1),V0 ((Pn x L k).1),V0 ((Pn x L k).2.1)] (.t B [200,5,28,123,132,140,134,24]) fun ae j2 u0=>⟨(Zl j2 q0 (Nat.le_trans hBw g5) (by decide)),?_⟩
   refine xr (.r [13] 5) (args:=#[.nilIface]) (Kh _) fun al c3=>?_
   have o2:=u0.below c3
   refine xlv 4 o2.rp ?_
   refine xc 0 (args:=#[.agg #[V0 t,V0 u,V0 v,V0 (x:Int),V0 (k:Int),V0 (↑(Xw (F1 L)):Int),V0 (↑(Xw (F2 L)):Int),V0 ((Jb x L k).1),V0 ((Jb x L k).2.1),V0 ((Pn x L k).1),V0 ((Pn x L k).2.1)]]) (Za1 t u v x k L _ t2) ?_
   rintro _ aj ⟨_,rfl,g1,q7,d7,rfl,l6⟩
   have t5:=(blB (j2.below (m5.below (g2.trans f9) (Nat.le_trans hBw g5)) (Nat.le_trans hBw g5)) hBw c3).size
   have r1:=((j2.blkT (m5.blkT ((h3.below b3).only f6 (by decide)) a6 (by decide)) q0 (by decide)).below c3).below g1
   refine xb 19 0 r1 ?_
   have k7:=(((hA.only (Zf.of_upd (T:=[24]) m5 a6 (by decide)) (by decide)).only (Zf.of_upd (T:=[24]) j2 q0 (by decide)) (by decide)).below c3).below g1
   refine xr 0 (args:=#[P0 ba]) (Qp ba b _ _ _ k7.blkA) fun aa g3=>?_
   have n8:=Zb (Zd l6 t5) g3
   have p2:=k7.below g3
   have n6:=blB (blB (blB (j2.below (m5.below (g2.trans f9) (Nat.le_trans hBw g5)) (Nat.le_trans hBw g5)) hBw c3) hBw g1) hBw g3
   refine xc 1 (args:=#[P0 b,V0 0,V0 1,.slice q7 244 d7]) (Pk B b (S1 g) (k*256) cc 0 (0:Int) (Pn x L k).2.2 1 q7 d7 244 (Wj (Zb6 t u v x L k)) _ rfl (Ja _) ⟨p2.blkI,p2.data,hC.hn⟩ (by omega) (by decide) (by decide) (Yk (Ze n8) (Ja _)) (by decide) (Nat.le_trans hBw n6.size)) ?_
   rintro _ z3 ⟨rfl,r2,v6,hI⟩
   refine xr 0 (args:=#[.nilIface]) (Kh _) fun y1 n9=>?_
   have s7:=hI.below n9
   have t4:=blB (n6.trans r2) hBw n9
   exact xe 1 (.tuple #[]) ⟨rfl,t4,s7⟩
  refine xa 0 [V0 0,V0 0,V0 0,V0 0,V0 0,V0 0,V0 0,V0 0,V0 0,V0 0,V0 0] 24 fun w7 z8 i0=>?_
  have i2:=(h2.below d3).below i0.below
  refine xr (.o [] 11) (args:=#[P0 b]) (by have q:=Yu b _ (k*256) _ _ i2.blkI (by omega);rw[show k*256/256=k by omega] at q;exact q) fun y2 b9=>?_
  have j9:=i0.blk.below b9
  have a0:=i0.ge0 (blB (blB (blB (blB (Below.refl B w) hBw n1.below) hBw n2.below) hBw (Za W2)) hBw d3)
  refine ysv (.o [12] 14) j9 [V0 t,V0 u,V0 v,V0 (x:Int),V0 (k:Int),V0 0,V0 0,V0 0,V0 0,V0 0,V0 0] (.t B [200,5,28,123,132,140,134,24]) fun y5 n4 v7=>⟨(Zl n4 j9 (Nat.le_trans hBw a0) (by decide)),?_⟩
  have i9:=n4.blkT (((k1.below d3).below i0.below).below b9) j9 (by decide)
  refine xlv 9 i9.rp ?_
  have k5:=n4.blkT (((k2.below d3).below i0.below).below b9) j9 (by decide)
  refine xb 1 4 k5 ?_
  have m9:=(i2.below b9).only (Zf.of_upd (T:=[24]) n4 j9 (by decide)) (by decide)
  have hB:=n4.below (blB (blB (blB (blB (blB (blB (Below.refl B w) hBw n1.below) hBw n2.below) hBw (Za W2)) hBw d3) hBw i0.below) hBw b9) (Nat.le_trans hBw a0)
  refine xc 0 (args:=#[.agg #[P0 ba],.slice p n c]) (Mw B ba b g (k*256) cc pa ca N (List.replicate (k*256) (0:UInt8)) p c n (x:Int) Z L _ hZ hL hk.devs (by omega) (fun W h=>hP W (hB.trans h)) hC m9 (by omega) (Nat.le_trans hBw hB.size)) ?_
  rintro _ ag ⟨rfl,p1,h6,hA⟩
  have a5:=v7.only h6 (by decide)
  refine xs 4 a5 [V0 t,V0 u,V0 v,V0 (x:Int),V0 (k:Int),V0 (↑(Xw (F1 L)):Int),V0 0,V0 0,V0 0,V0 0,V0 0] fun ao o5 q2=>?_
  refine xs 1 q2 [V0 t,V0 u,V0 v,V0 (x:Int),V0 (k:Int),V0 (↑(Xw (F1 L)):Int),V0 (↑(Xw (F2 L)):Int),V0 0,V0 0,V0 0,V0 0] fun i1 p3 u1=>?_
  refine xd 3 (.t B [200,5,28,123,132,140,134,24]) ?_
  have l3:=(p3.blkT (o5.blkT (i9.only h6 (by decide)) a5 (by decide)) q2 (by decide)).below (Za i1)
  refine xbt (.e [0] 1) 0 B [200,5,28,123,132,140,134,24] l3 ?_
  have r5:=(p3.blkT (o5.blkT (k5.only h6 (by decide)) a5 (by decide)) q2 (by decide)).below (Za i1)
  refine xlvt (.e [] 2) (.t B [200,5,28,123,132,140,134,24]) (fun V hV=>(r5.only hV.2 (by decide)).rp) ?_
  have k4:=blB (p3.below (o5.below (hB.trans p1) (Nat.le_trans hBw a0)) (Nat.le_trans hBw a0)) hBw (Za i1)
  refine yc (.o [] 3) (args:=#[.agg #[V0 t,V0 u,V0 v,V0 (x:Int),.slice p n c]]) (.t B [200,5,28,123,132,140,134,24]) (by have q:=Lz p c n x t u v Z _ hZ (hP _ k4) (by rw[hL];exact hk);rw[hL] at q;exact q) ?_
  rintro _ z0 ⟨_,rfl,c8,q9,d9,rfl,m6⟩
  have s5:=(blB (p3.below (o5.below (hB.trans p1) (Nat.le_trans hBw a0)) (Nat.le_trans hBw a0)) hBw (Za i1)).size
  refine⟨(SF.of_below _ c8),?_⟩
  have l7:=Zd m6 s5
  have i4:=(((hA.only (Zf.of_upd (T:=[24]) o5 a5 (by decide)) (by decide)).only (Zf.of_upd (T:=[24]) p3 q2 (by decide)) (by decide)).below (Za i1)).below c8
  have f0:=blB k4 hBw c8
  refine yc (.o [] 4) (args:=#[P0 ba,.slice q9 x d9]) (.t B [200,5,28,123,132,140,134,24]) (by have q:=Dm B ba b g (k*256) cc pa ca 1 N (Xw (F2 L)) (Mh L k) q9 d9 (Ys x L) _ hC i4 (by rw[Qf];have q:=Ze l7;rw[←Zgo] at q;exact q) (by rw[Qf];omega) (by rw[Bf];have:=Cr hk.devs;omega) (Ld (by omega) hk.devs) (by decide) (by omega) (by omega) (Nat.le_trans hBw f0.size);rw[Qf] at q;exact q) ?_
  rintro _ y0 ⟨rfl,f7,f2,v2,hA⟩
  refine⟨(Gn f7 f2),?_⟩
  have a7:=((u1.below (Za i1)).below c8).only f2 (by decide)
  refine ys (.o [5,6,7,8,9] 10) a7 [V0 t,V0 u,V0 v,V0 (x:Int),V0 (k:Int),V0 (↑(Xw (F1 L)):Int),V0 (↑(Xw (F2 L)):Int),V0 ((Jb x L k).1),V0 0,V0 0,V0 0] (.t B [200,5,28,123,132,140,134,24]) fun w4 i5 q5=>⟨(Zl i5 a7 (Nat.le_trans hBw a0) (by decide)),?_⟩
  refine ys (.o [11] 12) q5 [V0 t,V0 u,V0 v,V0 (x:Int),V0 (k:Int),V0 (↑(Xw (F1 L)):Int),V0 (↑(Xw (F2 L)):Int),V0 ((Jb x L k).1),V0 ((Jb x L k).2.1),V0 0,V0 0] (.t B [200,5,28,123,132,140,134,24]) fun x3 o3 v9=>⟨(Zl o3 q5 (Nat.le_trans hBw a0) (by decide)),?_⟩
  refine xr (.r [13] 5) (args:=#[.nilIface]) (Kh _) fun p4 c4=>?_
  refine xd 3 (.t B [200,5,28,123,132,140,134,24]) ?_
  have f8:=((o3.blkT (i5.blkT ((l3.below c8).only f2 (by decide)) a7 (by decide)) q5 (by decide)).below c4).below (Za p4)
  refine xbt (.e [0] 1) 0 B [200,5,28,123,132,140,134,24] f8 ?_
  refine xlvt (.e [] 2) (.t B [200,5,28,123,132,140,134,24]) (fun V hV=>(f8.only hV.2 (by decide)).rp) ?_
  have e8:=(((hA.only (Zf.of_upd (T:=[24]) i5 a7 (by decide)) (by decide)).only (Zf.of_upd (T:=[24]) o3 q5 (by decide)) (by decide)).below c4).below (Za p4)
  refine yc (.o [] 3) (args:=#[.agg #[P0 ba]]) (.t B [200,5,28,123,132,140,134,24]) (Dn B ba b g cc pa ca 1 N (Pl x L) k _ _ e8 (by omega) (by omega)) ?_
  rintro _ z4 ⟨_,rfl,b7,q8,d8,rfl,p5⟩
  have t0:=(blB (blB (o3.below (i5.below (f0.trans f7) (Nat.le_trans hBw a0)) (Nat.le_trans hBw a0)) hBw c4) hBw (Za p4)).size
  refine⟨(SF.of_below _ b7),?_⟩
  have m1:=e8.below b7
  have o4:=Zd p5 t0
  have g6:=blB (blB (blB (o3.below (i5.below (f0.trans f7) (Nat.le_trans hBw a0)) (Nat.le_trans hBw a0)) hBw c4) hBw (Za p4)) hBw b7
  refine yc (.o [] 4) (args:=#[P0 ba,.slice (some q8) k d8]) (.t B [200,5,28,123,132,140,134,24]) (by have q:=Df B ba b g (k*256) cc pa ca 1 N (Pl x L) (Jb x L k).2.2 q8 d8 (Qh (Pl x L+1) k) _ hC m1 (by rw[Xt];exact Ze o4) (by rw[Xt];omega) (by rw[Xt];omega) (My (by omega)) (by omega) (by rw[Dd];omega) (by decide) (by rw[Nat.add_comm 1];exact Cv) (Nat.le_trans hBw g6.size);rw[Xt] at q;exact q) ?_
  rintro _ ab ⟨rfl,h7,h1,t8,hA⟩
  refine⟨(Gn h7 h1),?_⟩
  have a4:=(((v9.below c4).below (Za p4)).below b7).only h1 (by decide)
  refine ys (.o [5,6,7,8,9] 10) a4 [V0 t,V0 u,V0 v,V0 (x:Int),V0 (k:Int),V0 (↑(Xw (F1 L)):Int),V0 (↑(Xw (F2 L)):Int),V0 ((Jb x L k).1),V0 ((Jb x L k).2.1),V0 ((Pn x L k).1),V0 0] (.t B [200,5,28,123,132,140,134,24]) fun w5 l8 q1=>⟨(Zl l8 a4 (Nat.le_trans hBw a0) (by decide)),?_⟩
  refine ys (.o [11] 12) q1 [V0 t,V0 u,V0 v,V0 (x:Int),V0 (k:Int),V0 (↑(Xw (F1 L)):Int),V0 (↑(Xw (F2 L)):Int),V0 ((Jb x L k).1),V0 ((Jb x L k).2.1),V0 ((Pn x L k).1),V0 ((Pn x L k).2.1)] (.t B [200,5,28,123,132,140,134,24]) fun z9 o8 u7=>⟨(Zl o8 q1 (Nat.le_trans hBw a0) (by decide)),?_⟩
  refine xr (.r [13] 5) (args:=#[.nilIface]) (Kh _) fun y6 b4=>?_
  have n7:=u7.below b4
  refine xlv 4 n7.rp ?_
  refine xc 0 (args:=#[.agg #[V0 t,V0 u,V0 v,V0 (x:Int),V0 (k:Int),V0 (↑(Xw (F1 L)):Int),V0 (↑(Xw (F2 L)):Int),V0 ((Jb x L k).1),V0 ((Jb x L k).2.1),V0 ((Pn x L k).1),V0 ((Pn x L k).2.1)]]) (Za1 t u v x k L _ t2) ?_
  rintro _ ad ⟨_,rfl,g7,q7,d7,rfl,l6⟩
  have s8:=(blB (o8.below (l8.below (g6.trans h7) (Nat.le_trans hBw a0)) (Nat.le_trans hBw a0)) hBw b4).size
  have r9:=((o8.blkT (l8.blkT ((f8.below b7).only h1 (by decide)) a4 (by decide)) q1 (by decide)).below b4).below g7
  refine xb 19 0 r9 ?_
  have e6:=(((hA.only (Zf.of_upd (T:=[24]) l8 a4 (by decide)) (by decide)).only (Zf.of_upd (T:=[24]) o8 q1 (by decide)) (by decide)).below b4).below g7
  refine xr 0 (args:=#[P0 ba]) (Qp ba b _ _ _ e6.blkA) fun x6 f5=>?_
  have j3:=Zb (Zd l6 s8) f5
  have e7:=e6.below f5
  have e1:=blB (blB (blB (o8.below (l8.below (g6.trans h7) (Nat.le_trans hBw a0)) (Nat.le_trans hBw a0)) hBw b4) hBw g7) hBw f5
  refine xc 1 (args:=#[P0 b,V0 0,V0 1,.slice q7 244 d7]) (Pk B b (S1 g) (k*256) cc 0 (0:Int) (Pn x L k).2.2 1 q7 d7 244 (Wj (Zb6 t u v x L k)) _ rfl (Ja _) ⟨e7.blkI,e7.data,hC.hn⟩ (by omega) (by decide) (by decide) (Yk (Ze j3) (Ja _)) (by decide) (Nat.le_trans hBw e1.size)) ?_
  rintro _ w1 ⟨rfl,s9,v0,hI⟩
  refine xr 0 (args:=#[.nilIface]) (Kh _) fun ah m4=>?_
  have s4:=hI.below m4
  have m2:=blB (e1.trans s9) hBw m4
  exact xe 1 (.tuple #[]) ⟨rfl,m2,s4⟩
 refine xa 0 [V0 0,V0 0,V0 0,V0 0,V0 0,V0 0,V0 0,V0 0,V0 0,V0 0,V0 0] 24 fun w3 z1 h8=>?_
 have e4:=(((hA.below n1.below).below n2.below).below (Za W2)).below h8.below
 refine xr (.o [] 10) (args:=#[P0 ba]) (Qp ba b _ _ _ e4.blkA) fun ai c2=>?_
 have d6:=e4.below c2
 refine xr (.o [] 11) (args:=#[P0 b]) (by have q:=Yu b _ (k*256) _ _ d6.blkI (by omega);rw[show k*256/256=k by omega] at q;exact q) fun w0 a9=>?_
 have l1:=(h8.blk.below c2).below a9
 have a1:=h8.ge0 (blB (blB (blB (Below.refl B w) hBw n1.below) hBw n2.below) hBw (Za W2))
 refine ysv (.o [12] 14) l1 [V0 t,V0 u,V0 v,V0 (x:Int),V0 (k:Int),V0 0,V0 0,V0 0,V0 0,V0 0,V0 0] (.t B [200,5,28,123,132,140,134,24]) fun y4 i7 u2=>⟨(Zl i7 l1 (Nat.le_trans hBw a1) (by decide)),?_⟩
 have o0:=i7.blkT (((k1.below h8.below).below c2).below a9) l1 (by decide)
 refine xlv 9 o0.rp ?_
 have i3:=i7.blkT (((k2.below h8.below).below c2).below a9) l1 (by decide)
 refine xb 1 4 i3 ?_
 have j8:=(d6.below a9).only (Zf.of_upd (T:=[24]) i7 l1 (by decide)) (by decide)
 have hB:=i7.below (blB (blB (blB (blB (blB (blB (Below.refl B w) hBw n1.below) hBw n2.below) hBw (Za W2)) hBw h8.below) hBw c2) hBw a9) (Nat.le_trans hBw a1)
 refine xc 0 (args:=#[.agg #[P0 ba],.slice p n c]) (Mw B ba b g (k*256) cc pa ca N (List.replicate (k*256) (0:UInt8)) p c n (x:Int) Z L _ hZ hL hk.devs (by omega) (fun W h=>hP W (hB.trans h)) hC j8 (by omega) (Nat.le_trans hBw hB.size)) ?_
 rintro _ x0 ⟨rfl,o7,g9,hA⟩
 have a8:=u2.only g9 (by decide)
 refine xs 4 a8 [V0 t,V0 u,V0 v,V0 (x:Int),V0 (k:Int),V0 (↑(Xw (F1 L)):Int),V0 0,V0 0,V0 0,V0 0,V0 0] fun x1 i8 p9=>?_
 refine xs 1 p9 [V0 t,V0 u,V0 v,V0 (x:Int),V0 (k:Int),V0 (↑(Xw (F1 L)):Int),V0 (↑(Xw (F2 L)):Int),V0 0,V0 0,V0 0,V0 0] fun h9 p0 t9=>?_
 refine xd 3 (.t B [200,5,28,123,132,140,134,24]) ?_
 have d5:=(p0.blkT (i8.blkT (o0.only g9 (by decide)) a8 (by decide)) p9 (by decide)).below (Za h9)
 refine xbt (.e [0] 1) 0 B [200,5,28,123,132,140,134,24] d5 ?_
 have s2:=(p0.blkT (i8.blkT (i3.only g9 (by decide)) a8 (by decide)) p9 (by decide)).below (Za h9)
 refine xlvt (.e [] 2) (.t B [200,5,28,123,132,140,134,24]) (fun V hV=>(s2.only hV.2 (by decide)).rp) ?_
 have e3:=blB (p0.below (i8.below (hB.trans o7) (Nat.le_trans hBw a1)) (Nat.le_trans hBw a1)) hBw (Za h9)
 refine yc (.o [] 3) (args:=#[.agg #[V0 t,V0 u,V0 v,V0 (x:Int),.slice p n c]]) (.t B [200,5,28,123,132,140,134,24]) (by have q:=Lz p c n x t u v Z _ hZ (hP _ e3) (by rw[hL];exact hk);rw[hL] at q;exact q) ?_
 rintro _ w9 ⟨_,rfl,b0,q9,d9,rfl,m6⟩
 have r4:=(blB (p0.below (i8.below (hB.trans o7) (Nat.le_trans hBw a1)) (Nat.le_trans hBw a1)) hBw (Za h9)).size
 refine⟨(SF.of_below _ b0),?_⟩
 have m3:=Zd m6 r4
 have j4:=(((hA.only (Zf.of_upd (T:=[24]) i8 a8 (by decide)) (by decide)).only (Zf.of_upd (T:=[24]) p0 p9 (by decide)) (by decide)).below (Za h9)).below b0
 have b6:=blB e3 hBw b0
 refine yc (.o [] 4) (args:=#[P0 ba,.slice q9 x d9]) (.t B [200,5,28,123,132,140,134,24]) (by have q:=Dm B ba b g (k*256) cc pa ca 1 N (Xw (F2 L)) (Mh L k) q9 d9 (Ys x L) _ hC j4 (by rw[Qf];have q:=Ze m3;rw[←Zgo] at q;exact q) (by rw[Qf];omega) (by rw[Bf];have:=Cr hk.devs;omega) (Ld (by omega) hk.devs) (by decide) (by omega) (by omega) (Nat.le_trans hBw b6.size);rw[Qf] at q;exact q) ?_
 rintro _ w8 ⟨rfl,h0,f3,u3,hA⟩
 refine⟨(Gn h0 f3),?_⟩
 have a3:=((t9.below (Za h9)).below b0).only f3 (by decide)
 refine ys (.o [5,6,7,8,9] 10) a3 [V0 t,V0 u,V0 v,V0 (x:Int),V0 (k:Int),V0 (↑(Xw (F1 L)):Int),V0 (↑(Xw (F2 L)):Int),V0 ((Jb x L k).1),V0 0,V0 0,V0 0] (.t B [200,5,28,123,132,140,134,24]) fun z5 j5 q4=>⟨(Zl j5 a3 (Nat.le_trans hBw a1) (by decide)),?_⟩
 refine ys (.o [11] 12) q4 [V0 t,V0 u,V0 v,V0 (x:Int),V0 (k:Int),V0 (↑(Xw (F1 L)):Int),V0 (↑(Xw (F2 L)):Int),V0 ((Jb x L k).1),V0 ((Jb x L k).2.1),V0 0,V0 0] (.t B [200,5,28,123,132,140,134,24]) fun y9 o1 v8=>⟨(Zl o1 q4 (Nat.le_trans hBw a1) (by decide)),?_⟩
 refine xr (.r [13] 5) (args:=#[.nilIface]) (Kh _) fun l0 b8=>?_
 refine xd 3 (.t B [200,5,28,123,132,140,134,24]) ?_
 have c9:=((o1.blkT (j5.blkT ((d5.below b0).only f3 (by decide)) a3 (by decide)) q4 (by decide)).below b8).below (Za l0)
 refine xbt (.e [0] 1) 0 B [200,5,28,123,132,140,134,24] c9 ?_
 refine xlvt (.e [] 2) (.t B [200,5,28,123,132,140,134,24]) (fun V hV=>(c9.only hV.2 (by decide)).rp) ?_
 have e2:=(((hA.only (Zf.of_upd (T:=[24]) j5 a3 (by decide)) (by decide)).only (Zf.of_upd (T:=[24]) o1 q4 (by decide)) (by decide)).below b8).below (Za l0)
 refine yc (.o [] 3) (args:=#[.agg #[P0 ba]]) (.t B [200,5,28,123,132,140,134,24]) (Dn B ba b g cc pa ca 1 N (Pl x L) k _ _ e2 (by omega) (by omega)) ?_
 rintro _ af ⟨_,rfl,c7,q8,d8,rfl,p5⟩
 have r3:=(blB (blB (o1.below (j5.below (b6.trans h0) (Nat.le_trans hBw a1)) (Nat.le_trans hBw a1)) hBw b8) hBw (Za l0)).size
 refine⟨(SF.of_below _ c7),?_⟩
 have i6:=e2.below c7
 have o6:=Zd p5 r3
 have c0:=blB (blB (blB (o1.below (j5.below (b6.trans h0) (Nat.le_trans hBw a1)) (Nat.le_trans hBw a1)) hBw b8) hBw (Za l0)) hBw c7
 refine yc (.o [] 4) (args:=#[P0 ba,.slice (some q8) k d8]) (.t B [200,5,28,123,132,140,134,24]) (by have q:=Df B ba b g (k*256) cc pa ca 1 N (Pl x L) (Jb x L k).2.2 q8 d8 (Qh (Pl x L+1) k) _ hC i6 (by rw[Xt];exact Ze o6) (by rw[Xt];omega) (by rw[Xt];omega) (My (by omega)) (by omega) (by rw[Dd];omega) (by decide) (by rw[Nat.add_comm 1];exact Cv) (Nat.le_trans hBw c0.size);rw[Xt] at q;exact q) ?_
 rintro _ z7 ⟨rfl,g0,e9,v4,hA⟩
 refine⟨(Gn g0 e9),?_⟩
 have a2:=(((v8.below b8).below (Za l0)).below c7).only e9 (by decide)
 refine ys (.o [5,6,7,8,9] 10) a2 [V0 t,V0 u,V0 v,V0 (x:Int),V0 (k:Int),V0 (↑(Xw (F1 L)):Int),V0 (↑(Xw (F2 L)):Int),V0 ((Jb x L k).1),V0 ((Jb x L k).2.1),V0 ((Pn x L k).1),V0 0] (.t B [200,5,28,123,132,140,134,24]) fun x4 k0 p8=>⟨(Zl k0 a2 (Nat.le_trans hBw a1) (by decide)),?_⟩
 refine ys (.o [11] 12) p8 [V0 t,V0 u,V0 v,V0 (x:Int),V0 (k:Int),V0 (↑(Xw (F1 L)):Int),V0 (↑(Xw (F2 L)):Int),V0 ((Jb x L k).1),V0 ((Jb x L k).2.1),V0 ((Pn x L k).1),V0 ((Pn x L k).2.1)] (.t B [200,5,28,123,132,140,134,24]) fun y8 l9 u4=>⟨(Zl l9 p8 (Nat.le_trans hBw a1) (by decide)),?_⟩
 refine xr (.r [13] 5) (args:=#[.nilIface]) (Kh _) fun z6 c5=>?_
 have o9:=u4.below c5
 refine xlv 4 o9.rp ?_
 refine xc 0 (args:=#[.agg #[V0 t,V0 u,V0 v,V0 (x:Int),V0 (k:Int),V0 (↑(Xw (F1 L)):Int),V0 (↑(Xw (F2 L)):Int),V0 ((Jb x L k).1),V0 ((Jb x L k).2.1),V0 ((Pn x L k).1),V0 ((Pn x L k).2.1)]]) (Za1 t u v x k L _ t2) ?_
 rintro _ x9 ⟨_,rfl,g8,q7,d7,rfl,l6⟩
 have r7:=(blB (l9.below (k0.below (c0.trans g0) (Nat.le_trans hBw a1)) (Nat.le_trans hBw a1)) hBw c5).size
 have k3:=((l9.blkT (k0.blkT ((c9.below c7).only e9 (by decide)) a2 (by decide)) p8 (by decide)).below c5).below g8
 refine xb 19 0 k3 ?_
 have e0:=(((hA.only (Zf.of_upd (T:=[24]) k0 a2 (by decide)) (by decide)).only (Zf.of_upd (T:=[24]) l9 p8 (by decide)) (by decide)).below c5).below g8
 refine xr 0 (args:=#[P0 ba]) (Qp ba b _ _ _ e0.blkA) fun y7 h4=>?_
 have p6:=Zb (Zd l6 r7) h4
 have e5:=e0.below h4
 have d4:=blB (blB (blB (l9.below (k0.below (c0.trans g0) (Nat.le_trans hBw a1)) (Nat.le_trans hBw a1)) hBw c5) hBw g8) hBw h4
 refine xc 1 (args:=#[P0 b,V0 0,V0 1,.slice q7 244 d7]) (Pk B b (S1 g) (k*256) cc 0 (0:Int) (Pn x L k).2.2 1 q7 d7 244 (Wj (Zb6 t u v x L k)) _ rfl (Ja _) ⟨e5.blkI,e5.data,hC.hn⟩ (by omega) (by decide) (by decide) (Yk (Ze p6) (Ja _)) (by decide) (Nat.le_trans hBw d4.size)) ?_
 rintro _ x8 ⟨rfl,s3,v5,hI⟩
 refine xr 0 (args:=#[.nilIface]) (Kh _) fun w2 l5=>?_
 have r8:=hI.below l5
 have m0:=blB (d4.trans s3) hBw l5
 exact xe 1 (.tuple #[]) ⟨rfl,m0,r8⟩
theorem levB_succ{t:Int}{leaf:Bool}{m v:Nat}{l:List Ent}{q:Nat}{bs:Bl}(j:Nat):Zdo t leaf m v l q bs (j+1)=Vq (Zdo t leaf m v l q bs j) ((q+j)*256) (Xs 2 ((q+j:Nat):Int) (nodB t leaf m v (Xo l m j))):=rfl
theorem Zc7{t:Int}{leaf:Bool}{m v:Nat}{l:List Ent}{q:Nat}{bs:Bl}(E:EntsOk v l)(h1:1≤t)(h2:t≤5)(hm:Qs t leaf=m)(hv:Pd t leaf=v)(hl:leaf=false→1≤l.length)(j:Nat) :
 j≤ovN l.length m→(q+j)*256≤bs.length→(Zdo t leaf m v l q bs j).length=bs.length∧(∀ i,i<j→Yx (Zdo t leaf m v l q bs j) (q+i)=Xs 2 ((q+i:Nat):Int) (nodB t leaf m v (Xo l m i)))∧(∀ x,x<q→Yx (Zdo t leaf m v l q bs j) x=Yx bs x):=by
 induction j with
 | zero=>exact fun _ _=>⟨rfl,fun i hi=>absurd hi (Nat.not_lt_zero i),fun x _=>rfl⟩
 | succ j ih =>
  intro hj hq
  obtain⟨a1,a2,a3⟩:=ih (by omega) (by omega)
  have a4:=Zbf (Fx E h1 h2 hm hv hl (show j<ovN l.length m by omega))
  have a0:(Xs 2 ((q+j:Nat):Int) (nodB t leaf m v (Xo l m j))).length=256:=Vr (by rw[a4];decide)
  rw[levB_succ]
  generalize Zdo t leaf m v l q bs j=y at a1 a2 a3 ⊢
  generalize hx:Xs 2 ((q+j:Nat):Int) (nodB t leaf m v (Xo l m j))=x at a0 ⊢
  have hk:q+j<y.length/256:=by rw[a1];omega
  refine⟨?_,fun i hi=>?_,fun z hz=>?_⟩
  ·rw[Qt (by rw[a0,a1];omega),a1]
  ·by_cases e:i=j
   ·subst e;rw[hx];exact Zav a0 hk
   ·rw[Qw a0 hk (by omega) (by omega)];exact a2 i (by omega)
  ·rw[Qw a0 hk (by omega) (by omega)];exact a3 z hz
theorem Zgg{t:Int}(h1:1≤t)(h2:t≤5)(n:Nat):∀ (u:List Ent) (q:Nat) (bs:Bl),u.length=n→1≤n→EntsOk 4 u→(q+((Zbs n).sum-n))*256≤bs.length→(Nj t u q bs).2.length=bs.length∧∀ x,x<q→Yx (Nj t u q bs).2 x=Yx bs x:=by
 induction n using Nat.strongRecOn with
 | _ n ih =>
  intro u q bs hn a5 E hq
  subst hn
  by_cases h:u.length≤1
  ·rw[Md h];exact⟨rfl,fun _ _=>rfl⟩
  ·have a4:=ov18 (x:=u.length) (by omega)
   have hp:=Vx u.length 18
   have a0:(Zbs u.length).sum=u.length+(Zbs (ovN u.length 18)).sum:=by rw[Hz h];rfl
   have hg:=Lc (ovN u.length 18)
   rw[Lh h]
   obtain⟨a1,a2,a3⟩:=Zc7 (t:=t) (leaf:=false) (m:=18) (v:=4) (l:=u) (q:=q) (bs:=bs) E h1 h2 rfl rfl (fun _=>by omega) (ovN u.length 18) (Nat.le_refl _) (by omega)
   obtain⟨b1,b2⟩:=ih (ovN u.length 18) (by omega) (upE u 18 q (ovN u.length 18)) (q+ovN u.length 18) (Zdo t false 18 4 u q bs (ovN u.length 18)) (Yf _ _ _ _) hp (up_ok E (by decide)) (by rw[a1];omega)
   exact⟨by rw[b1,a1],fun x hx=>by rw[b2 x (by omega),a3 x hx]⟩
theorem Nm{t:Int}{l:List Ent}{q:Nat}{bs:Bl}(h1:1≤t)(h2:t≤5)(E:EntsOk (Pd t true) l)(hq:(q+Xx t l.length)*256≤bs.length):(Yl t l q bs).2.length=bs.length∧∀ x,x<q→Yx (Yl t l q bs).2 x=Yx bs x:=by
 obtain⟨m,hm⟩:∃ m,Qs t true=m:=⟨_,rfl⟩
 have a0:=Qq t true
 have a4:=Vx l.length m
 have hg:=Lc (ovN l.length m)
 have hN:Xx t l.length=(Zbs (ovN l.length m)).sum:=by unfold Xx Uy;rw[hm]
 rw[hm] at a0
 rw[hN] at hq
 unfold Yl
 rw[hm]
 obtain⟨a1,a2,a3⟩:=Zc7 (t:=t) (leaf:=true) (m:=m) (v:=Pd t true) (l:=l) (q:=q) (bs:=bs) E h1 h2 hm rfl (fun h=>by cases h) (ovN l.length m) (Nat.le_refl _) (by omega)
 obtain⟨b1,b2⟩:=Zgg (t:=t) h1 h2 (ovN l.length m) (upE l m q (ovN l.length m)) (q+ovN l.length m) (Zdo t true m (Pd t true) l q bs (ovN l.length m)) (Yf _ _ _ _) a4 (up_ok E a0.1) (by rw[a1];omega)
 exact⟨by rw[b1,a1],fun x hx=>by rw[b2 x (by omega),a3 x hx]⟩
theorem Ns{L:List (List Int)}{q:Nat}{bs:Bl}:∀ n,(q+n)*256≤bs.length→(Ks L q bs n).length=bs.length
 | 0,_=>rfl
 | n+1,h=>by
  have ih:=Ns (L:=L) (q:=q) (bs:=bs) n (by omega)
  have hx:(Xs 3 ((q+n:Nat):Int) (Vw (L.getD n []))).length=256:=Vr (by unfold Vw;rw[Qi];decide)
  show(Vq (Ks L q bs n) ((q+n)*256) (Xs 3 ((q+n:Nat):Int) (Vw (L.getD n [])))).length=_
  rw[Qt (by rw[hx,ih];omega),ih]
theorem bitsB_I{l:List Int}(h:Jy l)(hl:l.length≤960):Ny (Vw l) l.length=l:=by
 apply List.ext_getElem (by rw[Rh])
 intro i h1 h2
 have e:=bitsB_at h (i:=i) (by omega)
 rw[show l.getD i 0=l[i] from by simp[List.getD,h2]] at e
 simp[Ny,Fv,e]
theorem data_bits{F:Bl}{k:Nat}{c:List Int}(hk:k<F.length/256)(h4:k<14400)(hb:Yx F k=Xs 3 (k:Int) (Vw c))(hs:Jy c)(hl:c.length≤960):Xn F (k:Int)=0∧Zb3 F (k:Int)=c:=by
 have h:=Zf1 (kind:=3) (by decide) (by decide) hk h4 (by unfold Vw;rw[Qi]) hb
 have he:Xn F (k:Int)=0:=by unfold Xn;rw[if_pos h.1,h.2,if_pos (bitsB_ok hs hl)]
 refine⟨he,?_⟩
 unfold Zb3
 rw[if_pos he,h.2,Tp hl,bitsB_I hs hl]
theorem forB_len(r:List Gu):∀ (q:Nat) (bs:Bl),(∀ x∈r,Ca x)→(q+Xw r)*256≤bs.length→(Zbq r q bs).length=bs.length:=by
 induction r with
 | nil=>intro q bs _ _;rfl
 | cons x r ih =>
  intro q bs h hb
  have hx:=h x (by simp)
  rw[show Xw (x::r)=Lu x+Xw r from rfl] at hb
  have hk:=Nm (q:=q) (bs:=bs) hx.1 hx.2.1 hx.2.2.1 (by change (q+Lu x)*256≤_;omega)
  rw[show Zbq (x::r) q bs=Zbq r (q+Lu x) (Yl x.1 x.2 q bs).2 from rfl,ih _ _ (fun y hy=>h y (by simp[hy])) (by rw[hk.1];omega),hk.1]
theorem supN_bdL{s:Sup}(h:Zp s=true):s.blocks≤14400∧∀ x∈Oz s,0≤x∧x.toNat<256 ^ 4:=by
 unfold Zp at h
 simp only[Bool.and_eq_true,decide_eq_true_eq,true_and] at h
 refine⟨by omega,fun x hx=>?_⟩
 simp only[Oz,List.mem_cons,List.not_mem_nil,or_false] at hx
 rcases hx with rfl|rfl|rfl|rfl|rfl|rfl|rfl|rfl|rfl|rfl|rfl<;>omega
theorem nums_read(N:List Int)(Q:Bl)(h:∀ x∈N,0≤x∧x.toNat<256 ^ 4)(P:Bl)(i:Nat)(hi:i<N.length):(Zg (P++(Hv N++Q)) (P.length+i*4) 4:Int)=N.getD i 0:=by
 induction N generalizing P i with
 | nil=>simp at hi
 | cons n N ih =>
  have e:Hv (n::N)=leB n 4++Hv N:=rfl
  cases i with
  | zero =>
   have:=h n (by simp)
   rw[e,List.append_assoc]
   simpa using Gh (P:=P) (Q:=Hv N++Q) (k:=P.length) (w:=4) (x:=n) rfl this.1 this.2
  | succ i =>
   have a0:i<N.length:=by simpa using hi
   have:=ih (fun x hx=>h x (by simp[hx])) (P++leB n 4) i a0
   rw[e,List.append_assoc,←List.append_assoc P]
   rw[List.length_append,Zi] at this
   rw[show P.length+(i+1)*4=P.length+4+i*4 by omega,this]
   simp[List.getD]
theorem Cu{s:Sup}(h:Zp s=true):Xe (Wj s)=s∧Zg (Wj s) 8 4=1:=by
 have hb:=(supN_bdL h).2
 have g:=nums_read (1::Oz s) (List.replicate 188 0) (fun x hx=>by
  rcases List.mem_cons.1 hx with rfl|q
  ·decide
  ·exact hb x q) Gp
 have g:∀ i,i<12→(Zg (Wj s) (8+i*4) 4:Int)=(1::Oz s).getD i 0:=fun i hi=>by
  have:=g i (by show i<12;exact hi)
  rw[show Gp.length=8 from rfl] at this
  unfold Wj
  rw[List.append_assoc]
  exact this
 constructor
 ·unfold Xe
  rw[show(Zg (Wj s) 12 4:Int)=s.tx from g 1 (by decide),show(Zg (Wj s) 16 4:Int)=s.time from g 2 (by decide),show(Zg (Wj s) 20 4:Int)=s.unit from g 3 (by decide),show(Zg (Wj s) 24 4:Int)=s.data from g 4 (by decide),show(Zg (Wj s) 28 4:Int)=s.blocks from g 5 (by decide),show(Zg (Wj s) 32 4:Int)=s.top from g 6 (by decide),show(Zg (Wj s) 36 4:Int)=s.details from g 7 (by decide),show(Zg (Wj s) 40 4:Int)=s.dslots from g 8 (by decide),show(Zg (Wj s) 44 4:Int)=s.dover from g 9 (by decide),show(Zg (Wj s) 48 4:Int)=s.mindex from g 10 (by decide),show(Zg (Wj s) 52 4:Int)=s.mover from g 11 (by decide)]
 ·have:(Zg (Wj s) 8 4:Int)=1:=g 0 (by decide)
  omega
theorem supOk_supB{s:Sup}(h:Zp s=true):Ak (Wj s)=true:=by
 rw[supOk_eq (Ja s),(Cu h).1,h];simp
theorem sup_back{F:Bl}{s:Sup}{k:Nat}(hl:F.length=k*256)(hk:1≤k)(hb:Yx F 0=Xs 1 ((0:Nat):Int) (Wj s))(hr:Zp s=true)(hs:s.blocks≤(k:Int)):Vh F=0∧Xe (inB F 0)=s:=by
 obtain⟨h1,h2⟩:=Zf1 (l:=F) (kind:=1) (k:=0) (li:=Wj s) (by decide) (by decide) (by omega) (by decide) (Ja s) hb
 have h1:inE F 1 0=0:=h1
 have h2:inB F 0=Wj s:=h2
 refine⟨?_,by rw[h2];exact(Cu hr).1⟩
 unfold Vh
 rw[if_pos h1,h2]
 unfold supTE
 rw[if_pos (supOk_supB hr),(Cu hr).1,if_neg (by rw[hl];omega)]
theorem Ta{L:List (List Int)}{q:Nat}{bs:Bl}:∀ n,(q+n)*256≤bs.length→∀ x,x<q→Yx (Ks L q bs n) x=Yx bs x
 | 0,_,_,_=>rfl
 | n+1,h,x,hx=>by
  have ih:=Ta (L:=L) (q:=q) (bs:=bs) n (by omega) x hx
  have hl:=Ns (L:=L) (q:=q) (bs:=bs) n (by omega)
  have a0:(Xs 3 ((q+n:Nat):Int) (Vw (L.getD n []))).length=256:=Vr (by unfold Vw;rw[Qi];decide)
  show Yx (Vq (Ks L q bs n) ((q+n)*256) (Xs 3 ((q+n:Nat):Int) (Vw (L.getD n [])))) x=_
  rw[Qw a0 (by rw[hl];omega) (by omega) (by rw[hl];omega),ih]
theorem plot_keep{l:List Int}{q:Nat}{bs:Bl}(hl:l.length≤65536)(hb:(q+Ni l)*256≤bs.length):(Za7 l q bs).2.2.length=bs.length∧∀ x,x<q→Yx (Za7 l q bs).2.2 x=Yx bs x:=by
 obtain⟨N,hN⟩:∃ N,bmN l.length=N:=⟨_,rfl⟩
 obtain⟨L,hL⟩:∃ L,Xp (Zu l) N=L:=⟨_,rfl⟩
 obtain⟨O,hO⟩:∃ O,Zy l l.length=O:=⟨_,rfl⟩
 have a2:Ni l=N+Xx 4 N+Xx 5 O.length:=by unfold Ni;rw[hN,hO]
 have a3:N≤69:=by unfold bmN at hN;omega
 have ES:EntsOk (Pd 4 true) (Yj L q N):=Od _ _ _ (by omega)
 have EO:EntsOk (Pd 5 true) O:=hO▸By _ _ (by omega)
 have a0:=Ns (L:=L) (q:=q) (bs:=bs) N (by omega)
 have a1:=Ta (L:=L) (q:=q) (bs:=bs) N (by omega)
 have k4:=Nm (t:=4) (l:=Yj L q N) (q:=q+N) (bs:=Ks L q bs N) (by decide) (by decide) ES (by rw[a0,Hk];omega)
 have k5:=Nm (t:=5) (l:=O) (q:=q+N+Xx 4 N) (bs:=(Yl 4 (Yj L q N) (q+N) (Ks L q bs N)).2) (by decide) (by decide) EO (by rw[k4.1,a0];omega)
 have hP:(Za7 l q bs).2.2=(Yl 5 O (q+N+Xx 4 N) (Yl 4 (Yj L q N) (q+N) (Ks L q bs N)).2).2:=by
  unfold Za7;simp only[hN,hL,hO]
 rw[hP]
 exact⟨by rw[k5.1,k4.1,a0],fun x hx=>by rw[k5.2 x (by omega),k4.2 x (by omega),a1 x hx]⟩
theorem meta_keep{l:List Int}{u:Nat}{bs:Bl}(hl:l.length≤3000)(hb:(u+Qa l)*256≤bs.length):(Dq l u 0 bs).2.2.length=bs.length∧∀ x,x<u→Yx (Dq l u 0 bs).2.2 x=Yx bs x:=by
 obtain⟨N,hN⟩:∃ N,bmN l.length=N:=⟨_,rfl⟩
 obtain⟨O,hO⟩:∃ O,Zy l l.length=O:=⟨_,rfl⟩
 obtain⟨T,hT⟩:∃ T,Xx 5 O.length=T:=⟨_,rfl⟩
 have hm:Qa l=T+N+1:=by unfold Qa;rw[hN,hO,hT]
 obtain⟨B,hB⟩:∃ B,Vf l u (Qa l)=B:=⟨_,rfl⟩
 have a4:B.length=l.length:=by rw[←hB,Vd]
 obtain⟨C,hC⟩:∃ C,Xp (Zu B) N=C:=⟨_,rfl⟩
 obtain⟨R,hR⟩:∃ R,Rs C (u+T) N=R:=⟨_,rfl⟩
 obtain⟨X,hX⟩:∃ X,Xs 4 ((u+T+N:Nat):Int) (Dp R)=X:=⟨_,rfl⟩
 have a5:N≤4:=by unfold bmN at hN;omega
 have hP:(Dq l u 0 bs).2.2=Vq (Ks C (u+T) (Yl 5 O u bs).2 N) ((u+T+N)*256) X:=by
  unfold Dq
  simp only[Nat.add_zero,hB,a4,hN,hO,hT,hC,hR,hX]
 have EO:EntsOk (Pd 5 true) O:=hO▸By _ _ (by omega)
 have a6:R.length=N:=by rw[←hR,Ag]
 have a0:=Nm (t:=5) (l:=O) (q:=u) (bs:=bs) (by decide) (by decide) EO (by rw[hT];omega)
 have a1:=Ns (L:=C) (q:=u+T) (bs:=(Yl 5 O u bs).2) N (by rw[a0.1];omega)
 have a3:=Ta (L:=C) (q:=u+T) (bs:=(Yl 5 O u bs).2) N (by rw[a0.1];omega)
 rw[hP]
 by_cases hN15:N≤15
 ·have a7:(Dp R).length=244:=Bq (by omega)
  have a2:X.length=256:=by rw[←hX];exact Vr (by omega)
  exact⟨by rw[Qt (by rw[a2,a1,a0.1];omega),a1,a0.1],fun x hx=>by rw[Qw a2 (by rw[a1,a0.1];omega) (by omega) (by rw[a1,a0.1];omega),a3 x (by omega),a0.2 x hx]⟩
 ·exact absurd hN15 (by omega)
theorem lay_parts{t u v:Int}{x k:Nat}{L:List Dv}(hk:PoolOk t u v (x:Int) L)(hr:Mi x L≤k)(hk3:k≤3000) :
 (Ea t u v x L k).length=k*256∧Vh (Ea t u v x L k)=0∧Xe (inB (Ea t u v x L k) 0)=Zb6 t u v x L k∧∀ j,1≤j→j<1+Xw (F2 L)→Yx (Ea t u v x L k) j=Yx (Mh L k) j:=by
 have a1:=Zat hr
 have hx:x≤65536:=by have:=hk.hdata;omega
 have a3:=Tw hk hr (by omega)
 have a5:∀ y∈F2 L,Ca y:=fun y hy=>by
  unfold F2 F1 at hy
  rcases List.mem_append.1 hy with q|q
  ·rcases List.mem_append.1 q with q|q
   ·exact devT_ok hk.devs y q
   ·rw[List.mem_singleton.1 q];exact top_ok hk.devs
  ·rw[List.mem_singleton.1 q];exact det_ok hk.devs
 have l1:(Mh L k).length=k*256:=by
  unfold Mh
  rw[forB_len _ _ _ a5 (by rw[List.length_replicate];omega),List.length_replicate]
 have a6:Pl x L=Xw (F2 L)+Ni (Ys x L):=rfl
 have p2:=plot_keep (l:=Ys x L) (q:=1+Xw (F2 L)) (bs:=Mh L k) (by rw[Qf];exact hx) (by rw[l1];omega)
 have e2:(Jb x L k)=Za7 (Ys x L) (1+Xw (F2 L)) (Mh L k):=rfl
 rw[←e2] at p2
 have hn:Qa (Qh (Pl x L+1) k)=2+bmN k:=by
  unfold Qa
  rw[Uq,Xt,List.length_nil,Zah];omega
 have p3:=meta_keep (l:=Qh (Pl x L+1) k) (u:=1+Pl x L) (bs:=(Jb x L k).2.2) (by rw[Xt];exact hk3) (by rw[hn,p2.1,l1];omega)
 have e3:(Pn x L k).2.2=(Dq (Qh (Pl x L+1) k) (1+Pl x L) 0 (Jb x L k).2.2).2.2:=by
  unfold Pn Dq
  simp only[Nat.add_zero]
 rw[←e3] at p3
 have l3:(Pn x L k).2.2.length=k*256:=by rw[p3.1,p2.1,l1]
 have a0:(Xs 1 (0:Nat) (Wj (Zb6 t u v x L k))).length=256:=Vr (by rw[Ja];decide)
 have lB:(Ea t u v x L k).length=k*256:=by
  unfold Ea
  rw[Qt (by rw[a0,l3];omega),l3]
 have a2:Yx (Ea t u v x L k) 0=Xs 1 ((0:Nat):Int) (Wj (Zb6 t u v x L k)):=by
  unfold Ea
  exact Zav a0 (by rw[l3];omega)
 obtain⟨s1,s2⟩:=sup_back lB (by omega) a2 a3 (Int.le_refl _)
 refine⟨lB,s1,s2,fun j a7 a4=>?_⟩
 unfold Ea
 rw[Qw a0 (by rw[l3];omega) (by omega) (by rw[l3];omega),p3.2 j (by omega),p2.2 j a4]
theorem ov_one{t:Int}{n:Nat}(h:n≤Qs t true):ovN n (Qs t true)=1:=by
 have hm:=(Qq t true).1
 have hp:=Vx n (Qs t true)
 have:(n+Qs t true-1)/Qs t true≤1:=by
  have:=Nat.div_lt_of_lt_mul (m:=n+Qs t true-1) (n:=Qs t true) (k:=2) (by omega)
  omega
 unfold ovN
 omega
theorem Fy{t:Int}{l:List Ent}{q:Nat}{bs:Bl}(h:l.length≤Qs t true):Yl t l q bs=((q:Int),Vq bs (q*256) (Xs 2 ((q:Nat):Int) (nodB t true (Qs t true) (Pd t true) l))):=by
 unfold Yl
 rw[ov_one h,Md (by rw[Yf];exact Nat.le_refl _)]
 have e:Xo l (Qs t true) 0=l:=by unfold Xo;rw[Nat.zero_mul,List.drop_zero,List.take_of_length_le h]
 show(((q+0:Nat):Int),Vq bs ((q+0)*256) (Xs 2 ((q+0:Nat):Int) (nodB t true (Qs t true) (Pd t true) (Xo l (Qs t true) 0))))=_
 rw[e,Nat.add_zero]
theorem one_ok{t:Int}{l:List Ent}(E:EntsOk (Pd t true) l)(h1:1≤t)(h2:t≤5)(h:l.length≤Qs t true):NodeOk t true l.length (Qs t true) (Pd t true) (Kl l) (Hu l):=by
 have e:Xo l (Qs t true) 0=l:=by unfold Xo;rw[Nat.zero_mul,List.drop_zero,List.take_of_length_le h]
 have:=Fx (l:=l) E h1 h2 rfl rfl (fun h=>by cases h) (i:=0) (by rw[ov_one h];decide)
 rw[e] at this
 exact this
theorem one_read{F:Bl}{t:Int}{l:List Ent}{q:Nat}(E:EntsOk (Pd t true) l)(h1:1≤t)(h2:t≤5)(h:l.length≤Qs t true)(hq:q<F.length/256)(h4:q<14400)(hb:Yx F q=Xs 2 ((q:Nat):Int) (nodB t true (Qs t true) (Pd t true) l)) :
 Xl F (q:Int) t=0∧Yi (inB F (q:Int))=true∧Xh (inB F (q:Int))=l.length∧nodK F (q:Int)=Kl l∧Vy F (q:Int)=Hu l:=by
 have N:=one_ok E h1 h2 h
 obtain⟨he,a0⟩:=blk_back N rfl hq h4 hb t (.inr rfl)
 have B:=Zg1 N
 refine⟨he,by rw[a0];exact B.l,by rw[a0];exact B.c,?_,?_⟩
 ·unfold nodK;rw[a0,B.c];exact B.k
 ·unfold Vy;rw[a0,B.c];exact B.v
theorem entsNil(w:Nat):EntsOk w []:=⟨fun i hi=>absurd hi (by simp),fun j hj=>absurd hj (by simp),fun i hi=>absurd hi (by simp)⟩
theorem ov0(t:Int):ovN 0 (Qs t true)=1:=by
 have hp:=Vx 0 (Qs t true)
 have hm:=(Qq t true).1
 have h1:ovN 0 (Qs t true)≤1:=by
  unfold ovN
  have:(0+Qs t true-1)/Qs t true=0:=Nat.div_eq_of_lt (by omega)
  omega
 omega
theorem Zcf(t:Int):Xx t 0=1:=by
 unfold Xx Uy
 rw[ov0,Gm (by decide)];rfl
theorem nod0_ok{t:Int}(h1:1≤t)(h2:t≤5):NodeOk t true (Xo [] (Qs t true) 0).length (Qs t true) (Pd t true) (Kl (Xo [] (Qs t true) 0)) (Hu (Xo [] (Qs t true) 0)) :=
 Fx (l:=[]) (entsNil _) h1 h2 rfl rfl (fun h=>by cases h) (i:=0) (by rw[show([]:List Ent).length=0 from rfl,ov0];decide)
abbrev Z26:Bl:=List.replicate (8*256) 0
theorem lay26_1:Mh [] 8=(Yl 3 [] 2 (Yl 1 [] 1 Z26).2).2:=by
 show Zbq [(1,[]),(3,[])] 1 Z26=_
 have e:Lu ((1:Int),([]:List Ent))=1:=Zcf 1
 rw[Zbq,Zbq,Zbq,e]
theorem Za5:Xw (F2 [])=2:=by
 show Xx 1 0+(Xx 3 0+0)=2
 rw[Zcf,Zcf]
theorem lay26_D:(Jb 0 [] 8).2.2=(Yl 5 [] 4 (Yl 4 [] 3 (Mh [] 8)).2).2:=by
 unfold Jb
 rw[Za5]
 show(Yl 5 [] (1+2+0+Xx 4 0) (Yl 4 [] (1+2+0) (Mh [] 8)).2).2=_
 rw[Zcf]
theorem lay26_K:Pl 0 []=4:=by
 unfold Pl
 rw[Za5]
 show 2+(0+Xx 4 0+Xx 5 0)=4
 rw[Zcf,Zcf]
theorem put_at{l:Bl}{k:Nat}{kind:Int}{li:Bl}{n:Nat}(hl:l.length=n*256)(hk:k<n)(h3:li.length≤244) :
 (Vq l (k*256) (Xs kind (k:Int) li)).length=n*256∧Yx (Vq l (k*256) (Xs kind (k:Int) li)) k=Xs kind (k:Int) li∧∀ j,j<n→j≠k→Yx (Vq l (k*256) (Xs kind (k:Int) li)) j=Yx l j:=by
 have hs:(Xs kind (k:Int) li).length=256:=Vr h3
 exact⟨by rw[Qt (by rw[hs,hl];omega),hl],Zav hs (by omega),fun j hj e=>Qw hs (by omega) e (by omega)⟩
def Ze8(t:Int):Bl:=nodB t true (Qs t true) (Pd t true) []
theorem Bd{l:Bl}{k:Nat}{t:Int}{n:Nat}(hl:l.length=n*256)(hk:k<n)(h1:1≤t)(h2:t≤5) :
 (Yl t [] k l).1=(k:Int)∧(Yl t [] k l).2.length=n*256∧Yx (Yl t [] k l).2 k=Xs 2 (k:Int) (Ze8 t)∧∀ j,j<n→j≠k→Yx (Yl t [] k l).2 j=Yx l j:=by
 rw[Fy (Nat.zero_le _)]
 have e:Xo [] (Qs t true) 0=([]:List Ent):=by simp[Xo]
 have hn:=Zbf (nod0_ok h1 h2)
 rw[e] at hn
 exact⟨rfl,put_at hl hk (by rw[hn];decide)⟩
abbrev B47:Bl:=Ea 0 0 1 0 [] 8
theorem need47:Qa (Qh 5 8)=3:=by
 unfold Qa
 rw[Uq,Xt,List.length_nil,Zah];rfl
theorem bump47:Vf (Qh 5 8) 5 3=[1,1,1,1,1,1,1,1]:=by decide
theorem chunk47:Xp (Zu [1,1,1,1,1,1,1,1]) 1=[[1,1,1,1,1,1,1,1]]:=by decide
theorem rs47:Rs [[1,1,1,1,1,1,1,1]] 6 1=[(6,0,8)]:=by decide
theorem meta47:Pn 0 [] 8=(7,5,Vq (Vq (Yl 5 [] 5 (Jb 0 [] 8).2.2).2 (6*256) (Xs 3 ((6:Nat):Int) (Vw [1,1,1,1,1,1,1,1]))) (7*256) (Xs 4 ((7:Nat):Int) (Dp [(6,0,8)]))):=by
 have hb:bmN (Vf (Qh 5 8) 5 3).length=1:=by rw[Vd,Xt];rfl
 unfold Pn
 rw[lay26_K]
 unfold Dq
 rw[need47,bump47,Uq,List.length_nil,Zcf]
 show(((5+1+1:Nat):Int),(Yl 5 [] 5 (Jb 0 [] 8).2.2).1,Vq (Ks (Xp (Zu [1,1,1,1,1,1,1,1]) 1) 6 (Yl 5 [] 5 (Jb 0 [] 8).2.2).2 1) (7*256) (Xs 4 ((7:Nat):Int) (Dp (Rs (Xp (Zu [1,1,1,1,1,1,1,1]) 1) 6 1))))=_
 rw[chunk47,rs47,Fy (Nat.zero_le _)]
 rfl
theorem Zay:B47.length=8*256∧Yx B47 1=Xs 2 ((1:Nat):Int) (Ze8 1)∧Yx B47 2=Xs 2 ((2:Nat):Int) (Ze8 3)∧Yx B47 3=Xs 2 ((3:Nat):Int) (Ze8 4)∧Yx B47 4=Xs 2 ((4:Nat):Int) (Ze8 5)∧Yx B47 5=Xs 2 ((5:Nat):Int) (Ze8 5)∧Yx B47 6=Xs 3 ((6:Nat):Int) (Vw [1,1,1,1,1,1,1,1])∧Yx B47 7=Xs 4 ((7:Nat):Int) (Dp [(6,0,8)]):=by
 obtain⟨-,a1,b1,c1⟩:=Bd (l:=Z26) (k:=1) (n:=8) (t:=1) List.length_replicate (by decide) (by decide) (by decide)
 obtain⟨-,a2,b2,c2⟩:=Bd (k:=2) (n:=8) (t:=3) a1 (by decide) (by decide) (by decide)
 rw[←lay26_1] at a2 b2 c2
 obtain⟨-,a3,b3,c3⟩:=Bd (k:=3) (n:=8) (t:=4) a2 (by decide) (by decide) (by decide)
 obtain⟨-,a4,b4,c4⟩:=Bd (k:=4) (n:=8) (t:=5) a3 (by decide) (by decide) (by decide)
 rw[←lay26_D] at a4 b4 c4
 obtain⟨-,a5,b5,c5⟩:=Bd (k:=5) (n:=8) (t:=5) a4 (by decide) (by decide) (by decide)
 obtain⟨a6,b6,c6⟩:=put_at (k:=6) (n:=8) (kind:=3) (li:=Vw [1,1,1,1,1,1,1,1]) a5 (by decide) (by unfold Vw;rw[Qi];decide)
 obtain⟨a7,b7,c7⟩:=put_at (k:=7) (n:=8) (kind:=4) (li:=Dp [(6,0,8)]) a6 (by decide) (by rw[Bq (by decide)];decide)
 have e7:(Pn 0 [] 8).2.2=Vq (Vq (Yl 5 [] 5 (Jb 0 [] 8).2.2).2 (6*256) (Xs 3 ((6:Nat):Int) (Vw [1,1,1,1,1,1,1,1]))) (7*256) (Xs 4 ((7:Nat):Int) (Dp [(6,0,8)])):=by rw[meta47]
 rw[←e7] at a7 b7 c7
 obtain⟨a0,b0,c0⟩:=put_at (k:=0) (n:=8) (kind:=1) (li:=Wj (Zb6 0 0 1 0 [] 8)) a7 (by decide) (by rw[Ja];decide)
 refine⟨a0,?_,?_,?_,?_,?_,?_,?_⟩
 ·exact(c0 1 (by decide) (by decide)).trans ((c7 1 (by decide) (by decide)).trans ((c6 1 (by decide) (by decide)).trans ((c5 1 (by decide) (by decide)).trans ((c4 1 (by decide) (by decide)).trans ((c3 1 (by decide) (by decide)).trans ((c2 1 (by decide) (by decide)).trans b1))))))
 ·exact(c0 2 (by decide) (by decide)).trans ((c7 2 (by decide) (by decide)).trans ((c6 2 (by decide) (by decide)).trans ((c5 2 (by decide) (by decide)).trans ((c4 2 (by decide) (by decide)).trans ((c3 2 (by decide) (by decide)).trans b2)))))
 ·exact(c0 3 (by decide) (by decide)).trans ((c7 3 (by decide) (by decide)).trans ((c6 3 (by decide) (by decide)).trans ((c5 3 (by decide) (by decide)).trans ((c4 3 (by decide) (by decide)).trans b3))))
 ·exact(c0 4 (by decide) (by decide)).trans ((c7 4 (by decide) (by decide)).trans ((c6 4 (by decide) (by decide)).trans ((c5 4 (by decide) (by decide)).trans b4)))
 ·exact(c0 5 (by decide) (by decide)).trans ((c7 5 (by decide) (by decide)).trans ((c6 5 (by decide) (by decide)).trans b5))
 ·exact(c0 6 (by decide) (by decide)).trans ((c7 6 (by decide) (by decide)).trans b6)
 ·exact(c0 7 (by decide) (by decide)).trans b7
theorem Zdz{q:Nat}{t:Int}(h1:1≤t)(h2:t≤5)(hq:q<8)(hb:Yx B47 q=Xs 2 ((q:Nat):Int) (Ze8 t)):Wx B47 (q:Int) t=0∧Mc B47 (q:Int) t=[]:=by
 obtain⟨e,_,_,_,hv⟩:=one_read (l:=[]) (entsNil _) h1 h2 (Nat.zero_le _) (by rw[Zay.1];omega) (by omega) hb
 constructor
 ·unfold Wx;rw[if_neg (by omega),if_neg (by omega)];exact e
 ·unfold Mc;rw[if_neg (by omega),if_neg (by omega)]
  unfold Zea
  rw[hv]
  split<;>rfl
theorem idx47:Wx B47 7 6=0∧Mc B47 7 6=[(7,6,7,0)]:=by
 obtain⟨h1,h2⟩:=Zf1 (l:=B47) (kind:=4) (k:=7) (li:=Dp [(6,0,8)]) (by decide) (by decide) (by rw[Zay.1];decide) (by decide) (Bq (by decide)) Zay.2.2.2.2.2.2.2
 have hS:Tq [(6,0,8)]:=⟨by decide,fun i hi=>by
  obtain rfl:i=0:=by simpa using hi
  exact⟨by decide,by decide,by decide,by decide⟩⟩
 have a0:Xy B47 ((7:Nat):Int)=0:=by unfold Xy;rw[if_pos h1,h2];exact(Zc3 hS).1
 have a1:Vz B47 ((7:Nat):Int)=[(6,0,8)]:=by rw[(Ee a0).1,h2,idxB_cnt (by decide)];exact(Zc3 hS).2
 exact⟨a0,by show(Vz B47 7).map (Fh 7)=_;rw[show Vz B47 7=_ from a1];rfl⟩
theorem bit47:Wx B47 6 7=0∧Mc B47 6 7=[]:=by
 obtain⟨h1,_⟩:=data_bits (F:=B47) (k:=6) (c:=[1,1,1,1,1,1,1,1]) (by rw[Zay.1];decide) (by decide) Zay.2.2.2.2.2.2.1 (fun x hx=>by revert x hx;decide) (by decide)
 exact⟨h1,rfl⟩
theorem s47r:Zp (Zb6 0 0 1 0 [] 8)=true:=by
 refine Tw (t:=0) (u:=0) (v:=1) (x:=0) (L:=[]) (k:=8) ⟨by decide,by decide,by decide,by decide,DevsOk.nil _⟩ ?_ (by decide)
 have e:Di 0 []=1+Xx 3 0+Xx 1 0+0+0+Xx 4 0+Xx 5 0:=rfl
 unfold Mi
 rw[e,Zcf,Zcf,Zcf,Zcf]
 decide
theorem lay47_F1:Xw (F1 [])=1:=by
 show Xx 1 0+0=1
 rw[Zcf]
theorem s47_is:Zb6 0 0 1 0 [] 8=⟨0,0,1,0,8,1,2,3,4,7,5⟩:=by
 have hD:(Jb 0 [] 8).1=3∧(Jb 0 [] 8).2.1=4:=by
  unfold Jb
  rw[Za5]
  show(Yl 4 [] (1+2+0) (Mh [] 8)).1=3∧(Yl 5 [] (1+2+0+Xx 4 0) (Yl 4 [] (1+2+0) (Mh [] 8)).2).1=4
  rw[Zcf,Fy (Nat.zero_le _),Fy (Nat.zero_le _)]
  exact⟨rfl,rfl⟩
 unfold Zb6
 rw[lay47_F1,Za5,hD.1,hD.2,meta47]
 rfl
theorem Af{out r J:List Lk}{x:Lk}(h:x.2.2.2=0)(h2:0≤x.2.1∧x.2.1<((8:Nat):Int))(h3:Vg out x.2.1=false)(h4:Wx B47 x.2.1 x.2.2.1=0)(h5:Mc B47 x.2.1 x.2.2.1=J):Wg B47 8 out (x::r)=Wg B47 8 (out++[x]) (J++r):=by
 rw[Rr h h2 h3 h4,h5]
def lk47:List Lk:=[(0,1,1,0),(0,2,3,0),(0,3,4,0),(0,4,5,0),(0,7,6,0),(7,6,7,0),(0,5,5,0)]
theorem links47:Xr B47 (Zb6 0 0 1 0 [] 8)=(lk47,[],0):=by
 obtain⟨_,b1,b2,b3,b4,b5,b6,b7⟩:=Zay
 have e1:=Zdz (q:=1) (t:=1) (by decide) (by decide) (by decide) b1
 have e2:=Zdz (q:=2) (t:=3) (by decide) (by decide) (by decide) b2
 have e3:=Zdz (q:=3) (t:=4) (by decide) (by decide) (by decide) b3
 have e4:=Zdz (q:=4) (t:=5) (by decide) (by decide) (by decide) b4
 have e5:=Zdz (q:=5) (t:=5) (by decide) (by decide) (by decide) b5
 unfold Xr
 rw[if_neg (by rw[s47r];decide),s47_is]
 show Wg B47 8 [] [(0,1,1,0),(0,2,3,0),(0,3,4,0),(0,4,5,0),(0,7,6,0),(0,5,5,0)]=_
 rw[Af (x:=(0,1,1,0)) rfl (by decide) (by decide) e1.1 e1.2]
 simp only[List.nil_append]
 rw[Af (x:=(0,2,3,0)) rfl (by decide) (by decide) e2.1 e2.2]
 simp only[List.nil_append,List.cons_append]
 rw[Af (x:=(0,3,4,0)) rfl (by decide) (by decide) e3.1 e3.2]
 simp only[List.nil_append,List.cons_append]
 rw[Af (x:=(0,4,5,0)) rfl (by decide) (by decide) e4.1 e4.2]
 simp only[List.nil_append,List.cons_append]
 rw[Af (x:=(0,7,6,0)) rfl (by decide) (by decide) idx47.1 idx47.2]
 simp only[List.nil_append,List.cons_append]
 rw[Af (x:=(7,6,7,0)) rfl (by decide) (by decide) bit47.1 bit47.2]
 simp only[List.nil_append,List.cons_append]
 rw[Af (x:=(0,5,5,0)) rfl (by decide) (by decide) e5.1 e5.2]
 simp only[List.nil_append,List.cons_append]
 rfl
end Go.Proofs.YtceeiinepijokaaGreatDoor
namespace Go.Proofs.YtceeiinepijokaaGreatDoor
set_option maxHeartbeats 8000000
set_option maxRecDepth 100000
open Go.RowKit Go.Extern.Stop Go.Stop Go.Extern
set_option linter.unusedVariables false
attribute [local irreducible] wpList wpAnyH Code.wp Oper.wp Go
section
attribute [local semireducible] Oper.wp
theorem op_deferV{P:Program}{Q:Exit→Act→World→Prop}{a:Act}{w:World}{K:Act→World→Prop}{o:Oper}{c:Operand}{f:FuncId}{cap:Array Value}(ho:o.op=.defer { callee:=.value c,args:=#[],argTypes:=#[] })(hc:a.eval c=.func (.func f) #[] cap)
 (k:K ({ a with defers:={ target:=.fn (.func f) cap,args:=#[] }::a.defers }.put o.dst undef) w):o.wp P a w K Q:=by
 have h2:(execOp a.eval o).run P w=.ok (.defer { target:=.fn (.func f) cap,args:=#[] }) w:=by
  simp[execOp,ho,resolve,hc,Deferred.ofValue]
 simp only[Oper.wp,h2,Oper.upon]
 exact k
end
theorem g_retD{P:Program}{fn:Func}{R:Ending→World→Prop}{a:Act}{w:World}(f:FuncId)(cap:Array Value)(v:Value)(hd:a.defers=[{ target:=.fn (.func f) cap,args:=#[] }])(hi:∀ w,(invoke (.fn (.func f) cap) #[]).run P w=.ok (.enter f cap) w)
 (hc:CallsD P f cap .returning w fun e u w'=>e=.returned (.tuple #[])∧u=.returning∧B3 w w') (h:∀ W,B3 w W→(results fn a.tmps).run P W=.ok v W∧R (.returned v) W):bodyPostD P fn R .ret a w:=by
 show Leaves P fn a.tmps R a.defers .returning w
 rw[hd]
 refine leaves_cons (by simp) (hi w) (hc.mono ?_)
 rintro e u w' ⟨rfl,rfl,hb⟩
 obtain⟨h1,h2⟩:=h w' hb
 exact⟨v,h1,h2⟩
theorem Em{P:Program}{w:World}{b:Nat}{t:TypeId}{x:Value}(k:Blk w b [x] t)(hu:aggB P t=some false):(loadVar t ⟨b,0,none⟩).run P w=.ok x w:=by
 have hc:w.cell? ⟨b,0,none⟩=some x:=k.cell (i:=0) rfl
 simp[loadVar,Sem.run_bind,Zdt hu,load,Sem.run,hc]
theorem res_kk{P:Program}{fn:Func}{tmps:Array Value}{w:World}{k j:Nat}{t s:TypeId}{b c:Nat}{x y:Value}(hfn:fn.results=#[.cell k t,.cell j s])(e:tmps.getD k undef=P0 b)(e2:tmps.getD j undef=P0 c)
 (hx:Blk w b [x] t) (hy:Blk w c [y] s) (hu:aggB P t=some false) (hu2:aggB P s=some false):(results fn tmps).run P w=.ok (.tuple #[x,y]) w:=by
 have h:=Em hx hu
 have h2:=Em hy hu2
 have e':tmps[k]?.getD undef=P0 b:=by simpa using e
 have a0:tmps[j]?.getD undef=P0 c:=by simpa using e2
 simp[results,hfn,e',a0,asAddr,h,h2]
theorem lay_idle(b c:Nat)(w:World):CallsD Tryz.prog 50 #[P0 b,P0 c] .returning w fun e u w'=>e=.returned (.tuple #[])∧u=.returning∧B3 w w':=by
 refine callsD_of_wpS Tryz.func50 rfl fun c₀ cs hu=>?_
 have a0:∀ w,(Instr.typeAssert .nilIface 20 106 true).run Tryz.prog w=.ok (.tuple #[.agg #[.nilIface],.bool false]) w:=fun w=>by kernel_rfl
 apply wpS_seq
 apply wpS_region
 simp[wpOpsS,go_sem,recoverD,hu,Tryz.ntmps50,Exit.thenS,a0]
 apply wpS_seq
 apply wpS_region
 simp[wpOpsS,go_sem,Exit.thenS]
 refine wpS_cond (t:=false) (by simp[Act.eval,Array.replicate]) ?_
 simp only[Bool.false_eq_true,if_false]
 refine wpS_of_wp (wp_skip ?_)
 cases c₀
 have hb:=blx w (Obj.cells #[Value.nilIface] 106)
 simp_all [bodyPostS,results,Tryz.results50]
end Go.Proofs.YtceeiinepijokaaGreatDoor
namespace Go.Proofs.YtceeiinepijokaaGreatDoor
set_option maxHeartbeats 8000000
set_option maxRecDepth 100000
open Go.RowKit Go.Extern.Stop Go.Stop Go.Extern
set_option linter.unusedVariables false
attribute [local irreducible] wpList wpAnyH Code.wp Oper.wp Go
theorem image_NewR(k:Nat)(w:World)(hk:k≤14400) :
 C0 51 #[V0 (k:Int)] w (Qe (fun w' r=>∃ b p c,r=.tuple #[P0 b,V0 0]∧w.heap.size≤b∧ImgR w.heap.size b p (k*256) c (List.replicate (k*256) (0:UInt8)) w') w):=by
 refine zin 15 Tryz.func51 ?_
 refine xgk 12 [5,6] (show(decide ((k:Int)<(0:Int)):Bool)=false from decide_eq_false (by omega)) ?_
 refine xk 5 (show(decide ((k:Int)>(14400:Int)):Bool)=false from decide_eq_false (by omega)) ?_
 refine xwm 5 ((k:Int)*256) (↑(k*256):Int) ?_
 refine xmk 0 fun _ _ _ _ zJ zQ zo zx zy zK=>Kf (k*256) (.int .u8 0) 1 1 ((List.replicate (k*256) (0:UInt8)).map bv) zo zx zy Tryz.underlying22 (by kernel_rfl) rfl (by omega) (by omega) (Zd9 (k*256)) fun b2 W2 n2=>?_
 refine zK _ _ ?_
 refine xa 1 [.slice (S1 b2) (k*256) (k*256)] 80 fun b3 W3 n3=>?_
 have hB:=bln n2.below n3.below
 have g3:=n3.ge n2.below
 have o2:=Zb (Xb (size:=1) (n:=(k*256)) n2.blk (n2.ge (B4 w)) (by rw[List.length_map,List.length_replicate,Nat.mul_one]) (by unfold maxLen;omega)) n3.below
 exact xe 5 (.tuple #[P0 b3,V0 0]) ⟨_,rfl,hB,_,_,_,rfl,g3,⟨n3.blk,o2,by omega⟩⟩
def LayO(l:Bl)(k:Nat)(w:World)(e:Ending)(w':World):Prop:=∃ bi g ci,e=.returned (.tuple #[P0 bi,.nilIface])∧B3 w w'∧ImgR w.heap.size bi (S1 g) (k*256) ci l w'
theorem lay_LayY(p:O0)(c n x k:Nat)(t u v:Int)(Z:List Zv)(w:World)(hZ:Z.length=n)(hP:DevsR w p c Z)(hk:PoolOk t u v (x:Int) (Z.map Prod.fst))(hk3:k≤3000)(hr:Mi x (Z.map Prod.fst)≤k) :
 C0 18 #[.agg #[V0 t,V0 u,V0 v,V0 (x:Int),.slice p n c],V0 (k:Int)] w (LayO (Ea t u v x (Z.map Prod.fst) k) k w):=by
 have c3:k≤14400:=by omega
 refine calls_of_wp_defers Tryz.func18 rfl ?_
 refine g_fr ⟨#[.agg #[V0 t,V0 u,V0 v,V0 (x:Int),.slice p n c],V0 (k:Int),undef,undef,undef,undef,undef,undef,undef,undef,undef,undef,undef,undef,undef,undef,undef,undef,undef,undef,undef,undef,undef,undef,undef,undef,undef,undef,undef,undef,undef,undef,undef,undef,undef,undef,undef,undef,undef,undef,undef,undef],[]⟩ (by kernel_rfl) ?_
 refine wp_seq ?_
 refine wp_region_lit ?_
 refine Hg (by kernel_rfl) (op_box [V0 t,V0 u,V0 v,V0 (x:Int),.slice p n c] rfl (by kernel_rfl) ?_)
 intro b1 W1 n1
 have g1:=n1.ge (B4 w)
 have hB:=n1.below
 have k1:=n1.blk
 refine Hg (by kernel_rfl) (Nn [.pointer none] rfl (by kernel_rfl) ?_)
 intro b2 W2 n2
 have a6:=n2.ne k1
 have g2:=n2.ge hB
 replace hB:=bln hB n2.below
 replace k1:=k1.below n2.below
 have k2:=n2.blk
 refine Hg (by kernel_rfl) (Nn [.nilIface] rfl (by kernel_rfl) ?_)
 intro b3 W3 n3
 have a7:=n3.ne k1
 have a0:=n3.ne k2
 have g3:=n3.ge hB
 replace hB:=bln hB n3.below
 replace k1:=k1.below n3.below
 replace k2:=k2.below n3.below
 have k3:=n3.blk
 refine wpList_nil ?_
 refine wp_seq ?_
 refine wp_region_lit ?_
 refine Uh 1 [(9,.func (.func 50) #[] #[P0 b2,P0 b3])] (by kernel_rfl) ?_
 refine Hg (by kernel_rfl) (op_deferV (f:=50) (cap:=#[P0 b2,P0 b3]) rfl (by kernel_rfl) ?_)
 refine wpList_nil ?_
 refine wp_seq ?_
 refine wp_seq ?_
 refine wp_region_lit ?_
 refine Hg (by kernel_rfl) (Ce (b:=b1) (off:=0) [V0 t,V0 u,V0 v,V0 (x:Int),.slice p n c] _ rfl (by kernel_rfl) Tryz.underlying48 rfl (by kernel_rfl) k1.whole ?_)
 refine Hg (by kernel_rfl) (Vp (lb:=#[]) 17 #[.agg #[V0 t,V0 u,V0 v,V0 (x:Int),.slice p n c]] rfl (by kernel_rfl) (fun _ _=>by kernel_rfl) (by kernel_rfl) ((Ct p c n t u v (x:Int) Z _ hZ (hP.below hB)).mono ?_))
 rintro e W4 ⟨rfl,b5⟩
 refine⟨_,rfl,?_⟩
 replace hB:=bln hB b5
 replace k1:=k1.below b5
 replace k2:=k2.below b5
 replace k3:=k3.below b5
 refine Uh 1 [(6,V0 (Gw t u v (x:Int) (Z.map Prod.fst)))] (by kernel_rfl) ?_
 refine wpList_nil ?_
 refine wp_seq ?_
 refine wp_region_lit ?_
 refine Uh 2 [(12,V0 (Gw t u v (x:Int) (Z.map Prod.fst))),(13,.bool ((Gw t u v (x:Int) (Z.map Prod.fst)) != (0:Int)))] (by kernel_rfl) ?_
 refine wpList_nil ?_
 refine wp_cond_split (t:=((Gw t u v (x:Int) (Z.map Prod.fst)) != (0:Int))) (by kernel_rfl) (fun hh=>absurd (hh.symm.trans (show(((Gw t u v (x:Int) (Z.map Prod.fst)) != (0:Int)):Bool)=false from(by rw[Zbz.2 hk];rfl))) (by decide)) (fun _=>?_)
 refine wp_skip ?_
 refine wp_seq ?_
 refine wp_region_lit ?_
 refine Uh 1 [(17,V0 (k:Int))] (by kernel_rfl) ?_
 have b9:w.heap.size≤W4.heap.size:=hB.size
 have c2:=k2.lt
 have c4:=k3.lt
 refine Hg (by kernel_rfl) (Vp (lb:=#[]) 51 #[V0 (k:Int)] rfl (by kernel_rfl) (fun _ _=>by kernel_rfl) (by kernel_rfl) ((image_NewR k _ (by omega)).mono ?_))
 rintro e W6 ⟨_,rfl,b6,bi,pi,ci,rfl,gi,hI⟩
 refine⟨_,rfl,?_⟩
 replace hB:=bln hB b6
 replace k1:=k1.below b6
 replace k2:=k2.below b6
 replace k3:=k3.below b6
 refine Uh 3 [(16,.tuple #[P0 bi,V0 0]),(19,P0 bi),(20,V0 0)] (by kernel_rfl) ?_
 refine Hg (by kernel_rfl) (Jc (v:=P0 bi) (b:=b2) (off:=0) rfl (by kernel_rfl) (by kernel_rfl) (by kernel_rfl) rfl k2 (by first|decide|simp) ?_)
 intro W7 u7 k7
 change Blk _ _ [P0 bi] _ at k7
 replace hB:=u7.below hB g2
 replace k1:=u7.blk k1 (Ne.symm (Ne.symm a6))
 replace k3:=u7.blk k3 (Ne.symm a0)
 replace hI:=hI.only (Zf.of_upd (T:=[31]) u7 k2 (by decide)) (by decide)
 refine Uh 1 [(7,V0 0)] (by kernel_rfl) ?_
 refine wpList_nil ?_
 refine wp_seq ?_
 refine wp_seq ?_
 refine wp_region_lit ?_
 refine Uh 2 [(21,V0 0),(22,.bool false)] (by kernel_rfl) ?_
 refine wpList_nil ?_
 refine wp_cond_false (by kernel_rfl) ?_
 refine wp_skip ?_
 refine wp_seq ?_
 refine wp_seq ?_
 refine wp_region_lit ?_
 refine Hg (by kernel_rfl) (Ce (b:=b1) (off:=0) [V0 t,V0 u,V0 v,V0 (x:Int),.slice p n c] _ rfl (by kernel_rfl) Tryz.underlying48 rfl (by kernel_rfl) k1.whole ?_)
 refine Uh 1 [(26,V0 (k:Int))] (by kernel_rfl) ?_
 refine Hg (by kernel_rfl) (Vp (lb:=#[]) 52 #[.agg #[V0 t,V0 u,V0 v,V0 (x:Int),.slice p n c],V0 (k:Int)] rfl (by kernel_rfl) (fun _ _=>by kernel_rfl) (by kernel_rfl) ((size_FitsY p c n x k t u v Z _ hZ (hP.below hB) hk hr c3).mono ?_))
 rintro e W8 ⟨rfl,a9⟩
 refine⟨_,rfl,?_⟩
 replace hB:=bln hB a9
 replace k1:=k1.below a9
 replace k7:=k7.below a9
 replace k3:=k3.below a9
 replace hI:=hI.below a9
 refine Uh 1 [(28,.bool false)] (by kernel_rfl) ?_
 refine wpList_nil ?_
 refine wp_cond_false (by kernel_rfl) ?_
 refine wp_skip ?_
 refine wp_seq ?_
 refine wp_region_lit ?_
 refine Hg (by kernel_rfl) (Jz ⟨b2,0,none⟩ (P0 bi) rfl (by kernel_rfl) (by kernel_rfl) (k7.cell (i:=0) rfl) ?_)
 have c6:Mi x (Z.map Prod.fst)≥3:=by unfold Mi Zf0;omega
 have c1:W4.heap.size≤(W8).heap.size:=Nat.le_trans gi (Nat.le_of_lt hI.blk.lt)
 obtain⟨g,rfl,c5⟩:=hI.base (by omega)
 refine Hg (by kernel_rfl) (Vp (lb:=#[]) 53 #[P0 bi,V0 1] rfl (by kernel_rfl) (fun _ _=>by kernel_rfl) (by kernel_rfl) ((alloc_NewN bi (S1 g) (k*256) ci 1 (k-1) (1:Int) rfl (by omega) _ hI.blk (by omega) (by decide) (by omega)).mono ?_))
 rintro e W9 ⟨_,rfl,a3,ba,pa,ca,rfl,ga,ka,ho⟩
 refine⟨_,rfl,?_⟩
 replace hB:=bln hB a3
 replace k1:=k1.below a3
 replace k7:=k7.below a3
 replace k3:=k3.below a3
 replace hI:=hI.below a3
 have hA:AlF (W4.heap.size) ba bi g (k*256) ci pa ca (k-1) (List.replicate (k*256) (0:UInt8)) [] _:=⟨ka,hI.blk,hI.row,Zd ho c1⟩
 have hC:AlC (W4.heap.size) ba (k*256) ci ca 1 (k-1):=⟨by omega,c5,Zfx ho (by omega),by omega,Nat.le_trans c1 ga⟩
 refine Uh 4 [(30,.tuple #[P0 ba,.nilIface]),(33,P0 ba),(34,.nilIface),(8,P0 ba)] (by kernel_rfl) ?_
 refine Hg (by kernel_rfl) (Jc (v:=.nilIface) (b:=b3) (off:=0) rfl (by kernel_rfl) (by kernel_rfl) (by kernel_rfl) rfl k3 (by first|decide|simp) ?_)
 intro c8 b4 a8
 change Blk _ _ [.nilIface] _ at a8
 replace hB:=b4.below hB g3
 replace k1:=b4.blk k1 (Ne.symm (Ne.symm a7))
 replace k7:=b4.blk k7 (Ne.symm (Ne.symm a0))
 replace hA:=hA.only (Zf.of_upd (T:=[28]) b4 k3 (by decide)) (by decide)
 refine wpList_nil ?_
 refine wp_seq ?_
 refine wp_region_lit ?_
 refine Hg (by kernel_rfl) (Jz ⟨b3,0,none⟩ .nilIface rfl (by kernel_rfl) (by kernel_rfl) (a8.cell (i:=0) rfl) ?_)
 refine Hg (by kernel_rfl) (Vp (lb:=#[]) 54 #[.nilIface] rfl (by kernel_rfl) (fun _ _=>by kernel_rfl) (by kernel_rfl) ((Kh _).mono ?_))
 rintro e d0 ⟨rfl,a4⟩
 refine⟨_,rfl,?_⟩
 replace hB:=bln hB a4
 replace k1:=k1.below a4
 replace k7:=k7.below a4
 replace a8:=a8.below a4
 replace hA:=hA.below a4
 refine wpList_nil ?_
 refine wp_seq ?_
 refine wp_region_lit ?_
 refine Uh 2 [(37,P0 ba),(38,.agg #[P0 ba])] (by kernel_rfl) ?_
 refine Hg (by kernel_rfl) (Ce (b:=b1) (off:=0) [V0 t,V0 u,V0 v,V0 (x:Int),.slice p n c] _ rfl (by kernel_rfl) Tryz.underlying48 rfl (by kernel_rfl) k1.whole ?_)
 refine Hg (by kernel_rfl) (Vp (lb:=#[]) 55 #[.agg #[P0 ba],.agg #[V0 t,V0 u,V0 v,V0 (x:Int),.slice p n c]] rfl (by kernel_rfl) (fun _ _=>by kernel_rfl) (by kernel_rfl) ((lay_all (W4.heap.size) ba bi g ci pa ca (k-1) k p c n x t u v Z (Z.map Prod.fst) _ hZ rfl hk (fun W h=>hP.below (hB.trans (h.mono b9))) rfl hC hA hr hk3 (Nat.le_trans gi (Nat.le_of_lt hA.blkI.lt))).mono ?_))
 rintro e c7 ⟨rfl,a5,hI⟩
 refine⟨_,rfl,?_⟩
 have a2:=k7.below' a5 c2
 have a1:=a8.below' a5 c4
 replace hB:=hB.trans (a5.mono b9)
 refine wpList_nil ?_
 refine wp_seq ?_
 refine wp_region_lit ?_
 refine Hg (by kernel_rfl) (Jz ⟨b2,0,none⟩ (P0 bi) rfl (by kernel_rfl) (by kernel_rfl) (a2.cell (i:=0) rfl) ?_)
 refine Hg (by kernel_rfl) (Jc (v:=P0 bi) (b:=b2) (off:=0) rfl (by kernel_rfl) (by kernel_rfl) (by kernel_rfl) rfl a2 (by first|decide|simp) ?_)
 intro d1 b8 b0
 change Blk _ _ [P0 bi] _ at b0
 replace hB:=b8.below hB g2
 replace a1:=b8.blk a1 (Ne.symm a0)
 replace hI:=hI.only (Zf.of_upd (T:=[31]) b8 a2 (by decide)) (by decide)
 refine Hg (by kernel_rfl) (Jc (v:=.nilIface) (b:=b3) (off:=0) rfl (by kernel_rfl) (by kernel_rfl) (by kernel_rfl) rfl a1 (by first|decide|simp) ?_)
 intro c9 b7 c0
 change Blk _ _ [.nilIface] _ at c0
 replace hB:=b7.below hB g3
 replace b0:=b7.blk b0 (Ne.symm (Ne.symm a0))
 replace hI:=hI.only (Zf.of_upd (T:=[28]) b7 a1 (by decide)) (by decide)
 refine wpList_nil ?_
 refine wp_ret ?_
 refine g_retD 50 #[P0 b2,P0 b3] (.tuple #[P0 bi,.nilIface]) rfl (fun _=>by kernel_rfl) (lay_idle b2 b3 _) fun W9 a3=>⟨res_kk rfl (by kernel_rfl) (by kernel_rfl) (b0.below a3) (c0.below a3) (by kernel_rfl) (by kernel_rfl),?_⟩
 exact⟨_,_,_,rfl,hB.trans (a3.mono hB.size),⟨hI.blk.below a3,Zd (Zb hI.row a3) b9,hI.hn⟩⟩
theorem Ou:Mi 0 []=8:=by
 unfold Mi Zf0 Di Ds
 rw[show([]:List Dv).length=0 from rfl,Zcf,Zcf,show bmN 0=0 from rfl,Zcf,show oftL 0 []=0 from rfl,Zcf]
 rfl
theorem lay26_Lay(w:World):C0 18 #[.agg #[V0 0,V0 0,V0 1,V0 0,S0],V0 8] w (LayO (Ea 0 0 1 0 [] 8) 8 w) :=
 lay_LayY none 0 0 0 8 0 0 1 [] w rfl ⟨.inl ⟨none,0,rfl,rfl,rfl⟩,fun i hi=>absurd hi (Nat.not_lt_zero _)⟩ ⟨by decide,by decide,by decide,by decide,DevsOk.nil _⟩ (by decide) (by rw[show([]:List Zv).map Prod.fst=[] from rfl,Ou];exact Nat.le_refl _)
def mapX(x:Ent):Mp:=(x.1,(mapB x.2.1:Int),(mapT x.2.1:Int))
end Go.Proofs.YtceeiinepijokaaGreatDoor
namespace Go.Proofs.YtceeiinepijokaaGreatDoor
set_option maxHeartbeats 8000000
set_option maxRecDepth 100000
open Go.RowKit Go.Extern.Stop Go.Stop Go.Extern
set_option linter.unusedVariables false
attribute [local irreducible] wpList wpAnyH Code.wp Oper.wp
def dl (kind:Int)(l:List Int):List (Int×Int×Int):=l.map fun i=>(kind,i,13)
end Go.Proofs.YtceeiinepijokaaGreatDoor
namespace Go.Proofs.YtceeiinepijokaaGreatDoor
set_option maxHeartbeats 8000000
set_option maxRecDepth 100000
open Go.RowKit Go.Extern.Stop Go.Stop Go.Extern
set_option linter.unusedVariables false
attribute [local irreducible] wpList wpAnyH Code.wp Oper.wp Go
def mapM1(data:Int)(x:Ent):List Mp:=if mapE data x.2.1=0 then [mapX x] else []
def mapM(data:Int)(es:List Ent):List Mp:=es.flatMap (mapM1 data)
theorem Zdh:∀ {P Q:List Int},P.Pairwise (·<·)→Q.Pairwise (·<·)→(∀ z,z∈P↔z∈Q)→P=Q
  | [],[],_,_,_=>rfl
  | [],b::Q,_,_,h=>absurd ((h b).2 List.mem_cons_self) (by simp)
  | a::P,[],_,_,h=>absurd ((h a).1 List.mem_cons_self) (by simp)
  | a::P,b::Q,hp,hq,h=>by
    rw[List.pairwise_cons] at hp hq
    have e:a=b:=by
      rcases List.mem_cons.1 ((h a).1 List.mem_cons_self) with e|m
      · exact e
      · rcases List.mem_cons.1 ((h b).2 List.mem_cons_self) with e|m2
        · exact e.symm
        · have:=hq.1 a m;have:=hp.1 b m2;omega
    subst e
    congr 1
    refine Zdh hp.2 hq.2 fun z=>?_
    constructor
    · intro m
      have:=hp.1 z m
      rcases List.mem_cons.1 ((h z).1 (List.mem_cons_of_mem _ m)) with e|m2
      · omega
      · exact m2
    · intro m
      have:=hq.1 z m
      rcases List.mem_cons.1 ((h z).2 (List.mem_cons_of_mem _ m)) with e|m2
      · omega
      · exact m2
end Go.Proofs.YtceeiinepijokaaGreatDoor
namespace Go.Proofs.YtceeiinepijokaaGreatDoor
set_option maxHeartbeats 8000000
set_option maxRecDepth 100000
set_option linter.unusedVariables false
abbrev Lj:=Int×Int×Int
inductive Lead (l:List Lj) (fr:Int):Int→Prop
 | one (x:Lj) (h:x∈l) (hf:x.1=fr):Lead l fr x.2.1
 | more (a:Int) (ha:Lead l fr a) (x:Lj) (h:x∈l) (hf:x.1=a):Lead l fr x.2.1
def La(P:Int→Prop)(R:List Int):Prop:=R.Pairwise (·<·)∧∀ z,z∈R↔P z
theorem La.eq{P:Int→Prop}{R S:List Int}(h:La P R)(k:La P S):R=S:=Zdh h.1 k.1 fun z=>(h.2 z).trans (k.2 z).symm
def unB (l:List Lj)(out:List Int):Nat:=(l.filter fun x=>decide (x.2.1∉out)).length
theorem unB_le(l:List Lj)(out:List Int):unB l out≤l.length:=List.length_filter_le _ _
theorem unB_le2(l:List Lj){A B:List Int}(h:∀ z∈A,z∈B):unB l B≤unB l A:=by
 unfold unB
 induction l with
 | nil=>exact Nat.le_refl _
 | cons x l ih =>
  by_cases h1:x.2.1∈B
  ·rw[List.filter_cons_of_neg (by simpa using h1)]
   by_cases h2:x.2.1∈A
   ·rw[List.filter_cons_of_neg (by simpa using h2)];exact ih
   ·rw[List.filter_cons_of_pos (by simpa using h2),List.length_cons];omega
  ·rw[List.filter_cons_of_pos (by simpa using h1),List.filter_cons_of_pos (by simpa using fun q=>h1 (h _ q)),List.length_cons,List.length_cons];omega
theorem unB_lt{l:List Lj}{A B:List Int}{x:Lj}(hx:x∈l)(h:∀ z∈A,z∈B)(h1:x.2.1∉A)(h2:x.2.1∈B):unB l B+1≤unB l A:=by
 obtain⟨s,t,rfl⟩:=List.append_of_mem hx
 have a:=unB_le2 s h
 have b:=unB_le2 t h
 unfold unB at a b ⊢
 rw[List.filter_append,List.filter_append,List.length_append,List.length_append,List.filter_cons_of_neg (by simpa using h2),List.filter_cons_of_pos (by simpa using h1),List.length_cons]
 omega
structure BelI(l:List Lj)(fr:Int)(out ts:List Int):Prop where
 leads:∀ k∈out,Lead l fr k
 waits:∀ k∈ts,k=fr∨k∈out
 closed:∀ x∈l,x.1=fr∨x.1∈out→x.1∉ts→x.2.1∈out
 few:out.length+unB l out≤l.length
 wt:ts.length≤1+out.length
theorem BelI.start(l:List Lj)(fr:Int):BelI l fr [] [fr]:=by
 refine⟨fun _ h=>(by cases h),fun k h=>.inl (by simpa using h),fun x _ h hn=>?_,by have:=unB_le l [];simpa using this,by simp⟩
 rcases h with h|h
 ·exact absurd (by rw[h];simp) hn
 ·cases h
theorem BelI.done{l:List Lj}{fr:Int}{out:List Int}(h:BelI l fr out []):∀ k,k∈out↔Lead l fr k:=fun k=>⟨h.leads k,fun q=>by
 induction q with
 | one x hx hf=>exact h.closed x hx (.inl hf) (by simp)
 | more a ha x hx hf ih=>exact h.closed x hx (.inr (hf▸ih)) (by simp)⟩
structure BelJ(l:List Lj)(fr no:Int)(i:Nat)(out ts:List Int):Prop where
 leads:∀ k∈out,Lead l fr k
 waits:∀ k∈ts,k=fr∨k∈out
 no_:no=fr∨no∈out
 closed:∀ x∈l,x.1=fr∨x.1∈out→x.1∉ts→x.1≠no→x.2.1∈out
 here:∀ x∈l.take i,x.1=no→x.2.1∈out
 few:out.length+unB l out≤l.length
theorem BelI.go{l:List Lj}{fr no:Int}{out ts:List Int}(h:BelI l fr out (no::ts)):BelJ l fr no 0 out ts:=by
 refine⟨h.leads,fun k hk=>h.waits k (List.mem_cons_of_mem _ hk),h.waits no List.mem_cons_self,fun x hx h1 h2 h3=>h.closed x hx h1 (fun q=>?_),fun x hx=>by simp at hx,h.few⟩
 rcases List.mem_cons.1 q with q|q
 ·exact h3 q
 ·exact h2 q
def ljD:Lj:=(0,0,0)
theorem Sy{l:List Lj}{i:Nat}(hi:i<l.length):l.getD i ljD=l[i]:=by simp[List.getD,hi]
theorem ljD_mem{l:List Lj}{i:Nat}(hi:i<l.length):l.getD i ljD∈l:=by rw[Sy hi];exact List.getElem_mem hi
theorem BelJ.skip{l:List Lj}{fr no:Int}{i:Nat}{out ts:List Int}(h:BelJ l fr no i out ts)(hi:i<l.length)(hs:(l.getD i ljD).1≠no∨(l.getD i ljD).2.1∈out):BelJ l fr no (i+1) out ts:=by
 refine⟨h.leads,h.waits,h.no_,h.closed,fun x hx hn=>?_,h.few⟩
 rw[List.take_succ_eq_append_getElem hi,List.mem_append,List.mem_singleton] at hx
 rcases hx with hx|rfl
 ·exact h.here x hx hn
 ·rw[Sy hi] at hs
  rcases hs with hs|hs
  ·exact absurd hn hs
  ·exact hs
theorem BelJ.add{l:List Lj}{fr no:Int}{i:Nat}{out ts:List Int}(h:BelJ l fr no i out ts)(hi:i<l.length)(hn:(l.getD i ljD).1=no)(ht:(l.getD i ljD).2.1∉out):BelJ l fr no (i+1) (out++[(l.getD i ljD).2.1]) (ts++[(l.getD i ljD).2.1]):=by
 have hm:=ljD_mem hi
 have hl:Lead l fr (l.getD i ljD).2.1:=by
  rcases h.no_ with q|q
  ·exact .one _ hm (hn.trans q)
  ·exact .more no (h.leads no q) _ hm hn
 refine⟨fun k hk=>?_,fun k hk=>?_,?_,fun x hx h1 h2 h3=>?_,fun x hx a1=>?_,?_⟩
 ·rcases List.mem_append.1 hk with q|q
  ·exact h.leads k q
  ·obtain rfl:=List.mem_singleton.1 q;exact hl
 ·rcases List.mem_append.1 hk with q|q
  ·exact(h.waits k q).imp id (fun r=>List.mem_append_left _ r)
  ·exact .inr (List.mem_append_right _ q)
 ·exact h.no_.imp id (fun r=>List.mem_append_left _ r)
 ·have a2:x.1∉ts:=fun q=>h2 (List.mem_append_left _ q)
  have a0:x.1≠(l.getD i ljD).2.1:=fun q=>h2 (List.mem_append_right _ (by rw[q];simp))
  refine List.mem_append_left _ (h.closed x hx ?_ a2 h3)
  rcases h1 with q|q
  ·exact .inl q
  ·rcases List.mem_append.1 q with q|q
   ·exact .inr q
   ·exact absurd (List.mem_singleton.1 q) a0
 ·rw[List.take_succ_eq_append_getElem hi,List.mem_append,List.mem_singleton] at hx
  rcases hx with hx|rfl
  ·exact List.mem_append_left _ (h.here x hx a1)
  ·exact List.mem_append_right _ (by rw[Sy hi];simp)
 ·have:=unB_lt (A:=out) (B:=out++[(l.getD i ljD).2.1]) hm (fun z hz=>List.mem_append_left _ hz) ht (List.mem_append_right _ (by simp))
  have:=h.few
  rw[List.length_append,List.length_singleton];omega
theorem BelJ.end_{l:List Lj}{fr no:Int}{out ts:List Int}(h:BelJ l fr no l.length out ts)(hw:ts.length≤1+out.length):BelI l fr out ts:=by
 refine⟨h.leads,h.waits,fun x hx h1 h2=>?_,h.few,hw⟩
 by_cases h3:x.1=no
 ·exact h.here x (by rw[List.take_length];exact hx) h3
 ·exact h.closed x hx h1 h2 h3
def Ap(l:List Lj)(to:Int)(z:Int):Prop:=∃ x∈l,x.2.1=to∧x.1=z
theorem intoP_zero(l:List Lj)(to z:Int):¬ Ap (l.take 0) to z:=fun⟨x,hx,_⟩=>by simp at hx
theorem intoP_yes{l:List Lj}{to:Int}{i:Nat}(hi:i<l.length)(h:(l.getD i ljD).2.1=to)(z:Int):Ap (l.take (i+1)) to z↔Ap (l.take i) to z∨z=(l.getD i ljD).1:=by
 unfold Ap
 rw[List.take_succ_eq_append_getElem hi,←Sy hi]
 constructor
 ·rintro⟨x,hx,h1,h2⟩
  rcases List.mem_append.1 hx with q|q
  ·exact .inl ⟨x,q,h1,h2⟩
  ·obtain rfl:=List.mem_singleton.1 q;exact .inr h2.symm
 ·rintro(⟨x,hx,h1,h2⟩|q)
  ·exact⟨x,List.mem_append_left _ hx,h1,h2⟩
  ·exact⟨_,List.mem_append_right _ (by simp),h,q.symm⟩
theorem intoP_no{l:List Lj}{to:Int}{i:Nat}(hi:i<l.length)(h:(l.getD i ljD).2.1≠to)(z:Int):Ap (l.take (i+1)) to z↔Ap (l.take i) to z:=by
 unfold Ap
 rw[List.take_succ_eq_append_getElem hi,←Sy hi]
 constructor
 ·rintro⟨x,hx,h1,h2⟩
  rcases List.mem_append.1 hx with q|q
  ·exact⟨x,q,h1,h2⟩
  ·obtain rfl:=List.mem_singleton.1 q;exact absurd h1 h
 ·rintro⟨x,hx,h1,h2⟩
  exact⟨x,List.mem_append_left _ hx,h1,h2⟩
end Go.Proofs.YtceeiinepijokaaGreatDoor
namespace Go.Proofs.YtceeiinepijokaaGreatDoor
set_option maxHeartbeats 8000000
set_option maxRecDepth 100000
open Go.Shelf
set_option linter.unusedVariables false
def Ia:Go.Shelf.Ren:=⟨fun|189=>130|125=>200|257=>199|128=>251|129=>252|294=>242|295=>243|296=>244|297=>245|298=>246|299=>247|216=>248|300=>249|301=>250|328=>271|329=>272|330=>273|331=>274|332=>275|215=>276|343=>285|n=>n,fun|28=>34|3=>3|46=>339|0=>0|51=>381|53=>346|4=>4|183=>374|182=>373|131=>378|5=>5|9=>9|218=>405|222=>171|228=>421|229=>186|n=>n,fun|n=>n⟩
theorem It:Go.Proofs.Lays.n189 Tryz.prog Ia:={
 mixed:=by kernel_rfl
 f125:=Tryz.func200.trans (congrArg some (by kernel_rfl))
 f128:=Tryz.func251.trans (congrArg some (by kernel_rfl))
 f129:=Tryz.func252.trans (congrArg some (by kernel_rfl))
 f189:=Tryz.func130.trans (congrArg some (by kernel_rfl))
 f215:=Tryz.func276.trans (congrArg some (by kernel_rfl))
 f216:=Tryz.func248.trans (congrArg some (by kernel_rfl))
 f257:=Tryz.func199.trans (congrArg some (by kernel_rfl))
 f294:=Tryz.func242.trans (congrArg some (by kernel_rfl))
 f295:=Tryz.func243.trans (congrArg some (by kernel_rfl))
 f296:=Tryz.func244.trans (congrArg some (by kernel_rfl))
 f297:=Tryz.func245.trans (congrArg some (by kernel_rfl))
 f298:=Tryz.func246.trans (congrArg some (by kernel_rfl))
 f299:=Tryz.func247.trans (congrArg some (by kernel_rfl))
 f300:=Tryz.func249.trans (congrArg some (by kernel_rfl))
 f301:=Tryz.func250.trans (congrArg some (by kernel_rfl))
 f328:=Tryz.func271.trans (congrArg some (by kernel_rfl))
 f329:=Tryz.func272.trans (congrArg some (by kernel_rfl))
 f330:=Tryz.func273.trans (congrArg some (by kernel_rfl))
 f331:=Tryz.func274.trans (congrArg some (by kernel_rfl))
 f332:=Tryz.func275.trans (congrArg some (by kernel_rfl))
 f343:=Tryz.func285.trans (congrArg some (by kernel_rfl))
 t0:=Tryz.underlying0
 a0:=Tryz.isAgg0
 z0:=Tryz.sizeOf0
 v0:=Tryz.zeroValue0
 t3:=Tryz.underlying3
 a3:=Tryz.isAgg3
 z3:=Tryz.sizeOf3
 v3:=Tryz.zeroValue3
 t4:=Tryz.underlying4
 a4:=Tryz.isAgg4
 z4:=Tryz.sizeOf4
 v4:=Tryz.zeroValue4
 t5:=Tryz.underlying5
 a5:=Tryz.isAgg5
 z5:=Tryz.sizeOf5
 v5:=Tryz.zeroValue5
 t9:=Tryz.underlying9
 a9:=Tryz.isAgg9
 z9:=Tryz.sizeOf9
 v9:=Tryz.zeroValue9
 t28:=Tryz.underlying34
 a28:=Tryz.isAgg34
 z28:=Tryz.sizeOf34
 v28:=Tryz.zeroValue34
 t46:=Tryz.underlying339
 a46:=Tryz.isAgg339
 z46:=Tryz.sizeOf339
 v46:=Tryz.zeroValue339
 t51:=Tryz.underlying381
 a51:=Tryz.isAgg381
 z51:=Tryz.sizeOf381
 v51:=Tryz.zeroValue381
 t53:=Tryz.underlying346
 a53:=Tryz.isAgg346
 z53:=Tryz.sizeOf346
 v53:=Tryz.zeroValue346
 t131:=Tryz.underlying378
 a131:=Tryz.isAgg378
 z131:=Tryz.sizeOf378
 v131:=Tryz.zeroValue378
 t182:=Tryz.underlying373
 a182:=Tryz.isAgg373
 z182:=Tryz.sizeOf373
 v182:=Tryz.zeroValue373
 t183:=Tryz.underlying374
 a183:=Tryz.isAgg374
 z183:=Tryz.sizeOf374
 v183:=Tryz.zeroValue374
 t218:=Tryz.underlying405
 a218:=Tryz.isAgg405
 z218:=Tryz.sizeOf405
 v218:=Tryz.zeroValue405
 t222:=Tryz.underlying171
 a222:=Tryz.isAgg171
 z222:=Tryz.sizeOf171
 v222:=Tryz.zeroValue171
 t228:=Tryz.underlying421
 a228:=Tryz.isAgg421
 z228:=Tryz.sizeOf421
 v228:=Tryz.zeroValue421
 t229:=Tryz.underlying186
 a229:=Tryz.isAgg186
 z229:=Tryz.sizeOf186
 v229:=Tryz.zeroValue186 }
open Go.Sort Go.RowKit in
theorem Bm(blk off cap:Nat)(zs:List Int)(w:World)(hH:Holds V0 w blk off zs.toArray)(hblk:blk<w.heap.size)(hsz:zs.length<4611686018427387904) :
 C0 130 #[.slice (some ⟨blk,off,none⟩) zs.length cap] w fun e w' =>
  e=.returned (.tuple #[])∧∃ n os,w'=grow (putRow V0 (Sort.ahead w n) blk off (zs.mergeSort fun x y=>decide (x≤y)).toArray) os:=Any.slices_Sort_int It blk off cap zs w hH hblk hsz
open Go.RowKit Go.Sort in
theorem Wn(p:O0)(cap:Nat)(w:World) :
 C0 130 #[.slice p 0 cap] w fun e w'=>e=.returned (.tuple #[])∧w'=w:=Any.slices_Sort_int_none It p cap w
def Nb:Go.Shelf.Ren:=⟨fun|43=>131|n=>n,fun|22=>34|23=>3|3=>3|4=>4|0=>0|n=>n,fun|n=>n⟩
theorem Ua:Go.Proofs.SlLaysN.n43 Tryz.prog Nb:={
 mixed:=by kernel_rfl
 f43:=⟨Tryz.f131.name,by decide,Tryz.func131.trans (congrArg some (by kernel_rfl))⟩
 t0:=Tryz.underlying0
 a0:=Tryz.isAgg0
 z0:=Tryz.sizeOf0
 v0:=Tryz.zeroValue0
 t3:=Tryz.underlying3
 a3:=Tryz.isAgg3
 z3:=Tryz.sizeOf3
 v3:=Tryz.zeroValue3
 t4:=Tryz.underlying4
 a4:=Tryz.isAgg4
 z4:=Tryz.sizeOf4
 v4:=Tryz.zeroValue4
 t22:=Tryz.underlying34
 a22:=Tryz.isAgg34
 z22:=Tryz.sizeOf34
 v22:=Tryz.zeroValue34
 t23:=Tryz.underlying3
 a23:=Tryz.isAgg3
 z23:=Tryz.sizeOf3
 v23:=Tryz.zeroValue3
 i23:=by kernel_rfl }
open Go.RowKit Go.Lib Go.Sort in
theorem Pi(blk off cap:Nat)(zs:List Int)(w:World)(hH:Holds V0 w blk off zs.toArray)(hsz:zs.length≤9223372036854775807)(hcap:zs.length≤cap) :
 C0 131 #[.slice (some ⟨blk,off,none⟩) zs.length cap] w fun e w'=>e=.returned (.slice (some ⟨blk,off,none⟩) (Lib.compact zs).length cap)∧∃ q,w'=putRow V0 (Sort.ahead w q) blk off (Lib.compact zs++List.replicate (zs.length-(Lib.compact zs).length) 0).toArray:=AnyG.slices_Compact_int Ua blk off cap zs w hH hsz hcap
open Go.RowKit Go.Lib Go.Sort in
theorem Ht(a:O0)(cap:Nat)(w:World) :
 C0 131 #[.slice a 0 cap] w fun e w'=>e=.returned (.slice a 0 cap)∧w'=w:=AnyG.slices_Compact_int_empty Ua a cap w
end Go.Proofs.YtceeiinepijokaaGreatDoor
namespace Go.Proofs.YtceeiinepijokaaGreatDoor
set_option maxHeartbeats 8000000
set_option maxRecDepth 100000
open Go.RowKit Go.Extern.Stop Go.Stop Go.Extern
set_option linter.unusedVariables false
attribute [local irreducible] wpList wpAnyH Code.wp Oper.wp Go
open Go.Sort in
theorem sort_row{base:Nat}{p:O0}{c:Nat}{L:List Int}(w:World)(hB:base≤w.heap.size)(hl:L.length≤1000000)(ho:w.ownsRow base 3 1 (.slice p L.length c) L.length (L.map V0)):C0 130 #[.slice p L.length c] w (fun e w'=>∃ (u:Value) (L2:List Int),e=.returned u∧L2.length=L.length∧L2.Perm L∧L2.Pairwise (·≤·)∧Below base w w'∧w.grownBy w' (Value.slice p L.length c).ownBlock∧w'.ownsRow base 3 1 (.slice p L.length c) L.length (L2.map V0)):=by
  rcases ho.2 with ⟨h1,h2⟩|⟨g,a7,a6,hv,hb,hh,a1,a4,a2,a5⟩
  · have hL:L=[]:=List.eq_nil_of_length_eq_zero h2
    subst hL
    refine(Wn p c w).mono ?_
    rintro e W ⟨rfl,rfl⟩
    exact⟨_,[],rfl,rfl,List.Perm.refl _,.nil,Below.refl _ _,⟨rfl,rfl,rfl,Nat.le_refl _,fun _ _ _=>rfl⟩,ho⟩
  · simp only[Value.slice.injEq] at hv
    obtain⟨rfl,_,rfl⟩:=hv
    have hH:=holds_of_blockI hh (by simpa using a5)
    have a3:=(Array.getElem?_eq_some_iff.1 hh).1
    refine(Bm g 0 _ L w hH a3 (by omega)).mono ?_
    rintro e W ⟨rfl,n,os,rfl⟩
    have a0:(L.mergeSort fun x y=>decide (x≤y)).length=L.length:=List.length_mergeSort _
    have hg:=grownBy_sortedI (w:=w) (g:=g) (n:=n) (os:=os) (L.mergeSort fun x y=>decide (x≤y)).toArray
    refine⟨_,L.mergeSort fun x y=>decide (x≤y),rfl,a0,List.mergeSort_perm _ _,?_,(Below.refl base w).grown hg hB (fun k e=>by cases e;exact hb),hg,ownsRow_sortedI a0 hb hh a1 a4 a2⟩
    have:=List.pairwise_mergeSort (le:=fun x y:Int=>decide (x≤y)) (fun a b c h1 h2=>by simp at h1 h2 ⊢;omega) (fun a b=>by simp;omega) L
    exact this.imp fun h=>of_decide_eq_true h
theorem Ml(zs:List Int)(hs:zs.Pairwise (·≤·)):∀ m,m≤zs.length→(Lib.compactUpTo zs.toArray m).Pairwise (·<·)∧(∀ z,z∈Lib.compactUpTo zs.toArray m↔z∈zs.take m)
  | 0,_=>⟨by simp[Lib.compactUpTo],fun z=>by simp[Lib.compactUpTo]⟩
  | m+1,h=>by
    obtain⟨h1,h2⟩:=Ml zs hs m (by omega)
    have hm:zs.toArray[m]! = zs[m]'(by omega):=by simp[show m<zs.length by omega]
    rw[Lib.compactUpTo_succ,List.take_succ_eq_append_getElem (show m<zs.length by omega),hm]
    have a2:zs.toArray[m-1]! = zs[m-1]'(by omega):=by simp[show m-1<zs.length by omega]
    have a5:∀ z∈zs.take m,z≤zs[m]'(by omega):=fun z hz=>by
      obtain⟨j,hj,rfl⟩:=List.mem_take_iff_getElem.1 hz
      exact List.pairwise_iff_getElem.1 hs j m (by omega) (by omega) (by omega)
    by_cases hk:Lib.keeps zs.toArray m=true
    · rw[if_pos hk]
      refine⟨List.pairwise_append.2 ⟨h1,by simp,fun a ha b hb=>?_⟩,fun z=>by rw[List.mem_append,List.mem_append,h2]⟩
      obtain rfl:=List.mem_singleton.1 hb
      have a4:=(h2 a).1 ha
      obtain⟨j,hj,rfl⟩:=List.mem_take_iff_getElem.1 a4
      have a3:0<m:=by omega
      have a0:zs[m-1]'(by omega)≠zs[m]'(by omega):=by
        have a1:=(of_decide_eq_true hk).resolve_left (by omega)
        rw[hm,a2] at a1
        exact fun e=>a1 e.symm
      have a6:zs[j]'(by omega)≤zs[m-1]'(by omega):=by
        by_cases e:j=m-1
        · subst e;exact Int.le_refl _
        · exact List.pairwise_iff_getElem.1 hs j (m-1) (by omega) (by omega) (by omega)
      have:=List.pairwise_iff_getElem.1 hs (m-1) m (by omega) (by omega) (by omega)
      omega
    · rw[if_neg hk,List.append_nil]
      refine⟨h1,fun z=>?_⟩
      rw[h2,List.mem_append,List.mem_singleton]
      constructor
      · exact .inl
      · rintro(h|rfl)
        · exact h
        · have a1:=fun q=>hk (decide_eq_true q)
          have a3:m≠0:=fun e=>a1 (.inl e)
          have a0:zs[m-1]'(by omega)=zs[m]'(by omega):=by
            by_cases e:zs[m-1]'(by omega)=zs[m]'(by omega)
            · exact e
            · exact absurd (.inr (by rw[hm,a2];exact fun q=>e q.symm)) a1
          rw[←a0]
          exact List.mem_take_iff_getElem.2 ⟨m-1,by omega,rfl⟩
open Go.Sort in
theorem Zfm{base:Nat}{p:O0}{c:Nat}{L:List Int}(w:World)(hB:base≤w.heap.size)(hl:L.length≤1000000)(hs:L.Pairwise (·≤·))(ho:w.ownsRow base 3 1 (.slice p L.length c) L.length (L.map V0)):C0 131 #[.slice p L.length c] w (fun e w'=>∃ (q:O0) (d:Nat) (L2:List Int),e=.returned (.slice q L2.length d)∧L2.Pairwise (·<·)∧(∀ z,z∈L2↔z∈L)∧Below base w w'∧w.grownBy w' (Value.slice p L.length c).ownBlock∧w'.ownsRow base 3 1 (.slice q L2.length d) L2.length (L2.map V0)):=by
  rcases ho.2 with ⟨h1,h2⟩|⟨g,a9,a7,hv,hb,hh,a2,a5,a4,a6⟩
  · have hL:L=[]:=List.eq_nil_of_length_eq_zero h2
    subst hL
    refine(Ht p c w).mono ?_
    rintro e W ⟨rfl,rfl⟩
    exact⟨p,c,[],rfl,.nil,fun _=>Iff.rfl,Below.refl _ _,⟨rfl,rfl,rfl,Nat.le_refl _,fun _ _ _=>rfl⟩,ho⟩
  · simp only[Value.slice.injEq] at hv
    obtain⟨rfl,_,rfl⟩:=hv
    have hH:=holds_of_blockI hh (by simpa using a6)
    have a8:=(Array.getElem?_eq_some_iff.1 hh).1
    refine(Pi g 0 _ L w hH (by omega) a2).mono ?_
    rintro e W ⟨rfl,n,rfl⟩
    have a1:=Ml L hs L.length (Nat.le_refl _)
    have a3:(Lib.compact L).length≤L.length:=by unfold Lib.compact Lib.compactUpTo;rw[List.length_map];exact Nat.le_trans (List.length_filter_le _ _) (by simp)
    have a0:(Lib.compact L++List.replicate (L.length-(Lib.compact L).length) 0).length=L.length:=by rw[List.length_append,List.length_replicate];omega
    have hg:=grownBy_sortedI (w:=w) (g:=g) (n:=n) (os:=#[]) (Lib.compact L++List.replicate (L.length-(Lib.compact L).length) 0).toArray
    have hw:=ownsRow_sortedI (os:=#[]) (n:=n) a0 hb hh a2 a5 a4
    rw[grow_empty] at hg hw
    refine⟨_,_,Lib.compact L,rfl,a1.1,fun z=>(a1.2 z).trans (by rw[List.take_length]),(Below.refl base w).grown hg hB (fun k e=>by cases e;exact hb),hg,?_⟩
    have:=own_cut hw a3 rfl
    rw[List.map_append,List.take_append_of_le_length (by simp),List.take_of_length_le (by simp)] at this
    exact this
end Go.Proofs.YtceeiinepijokaaGreatDoor
namespace Go.Proofs.YtceeiinepijokaaGreatDoor
set_option maxHeartbeats 8000000
set_option maxRecDepth 100000
open Go.RowKit Go.Extern.Stop Go.Stop Go.Extern
set_option linter.unusedVariables false
attribute [local irreducible] wpList wpAnyH Code.wp Oper.wp
def Au(base:Nat)(w:World)(v:Value)(ts:List Int):Prop :=
 (v=S0∧ts=[])∨∃ g off cap cur,v=.slice (some ⟨g,off,none⟩) ts.length cap∧base≤g∧w.heap[g]? = some (.cells cur 3 (0,0))∧ts.length≤cap∧cur.size≤maxLen∧off+cap≤cur.size∧(cur.toList.drop off).take ts.length=ts.map V0
variable {base N:Nat} {w W:World} {v vo:Value} {ts:List Int}
theorem Au.of_own{p:O0}{n c:Nat}(h:w.ownsRow base 3 1 (.slice p n c) n (ts.map V0)):Au base w (.slice p n c) ts:=by
 obtain⟨h1,h2⟩:=h
 have hn:ts.length=n:=by simpa using h1
 subst hn
 rcases h2 with ⟨h2,h3⟩|⟨g,a1,a0,hv,hb,hh,hc,hm,hs,ht⟩
 ·exact .inl ⟨h2,List.eq_nil_of_length_eq_zero h3⟩
 ·simp only[Value.slice.injEq] at hv
  obtain⟨rfl,_,rfl⟩:=hv
  exact .inr ⟨g,0,c,a0,rfl,hb,hh,hc,by omega,by omega,by simpa using ht⟩
theorem Au.lt(h:Au base w v ts):∀ j,v.ownBlock=some j→j<w.heap.size:=fun j hj=>by
 rcases h with ⟨rfl,_⟩|⟨g,a1,a2,a0,rfl,_,hh,_⟩
 ·cases hj
 ·simp only[Value.ownBlock,Option.some.injEq] at hj
  subst hj
  exact(Array.getElem?_eq_some_iff.1 hh).1
theorem Au.kept(h:Au base w v ts)(hk:∀ j,v.ownBlock=some j→W.heap[j]? = w.heap[j]?):Au base W v ts:=by
 rcases h with h|⟨g,a1,a2,a0,rfl,hb,hh,r⟩
 ·exact .inl h
 ·exact .inr ⟨g,a1,a2,a0,rfl,hb,(hk g rfl).trans hh,r⟩
theorem Au.whole(h:Au base w v ts):∃ v0 n0 xs0,w.ownsRow base 3 1 v0 n0 xs0∧v0.ownBlock=v.ownBlock:=by
 rcases h with ⟨rfl,_⟩|⟨g,a1,a2,a0,rfl,hb,hh,hc,hm,hs,ht⟩
 ·exact⟨_,_,_,World.ownsRow_nil w base _ _,rfl⟩
 ·exact⟨.slice (S1 g) a0.size a0.size,a0.size,a0.toList.take (a0.size*1),⟨by rw[List.length_take,Array.length_toList];omega,.inr ⟨g,a0.size,a0,rfl,hb,hh,Nat.le_refl _,hm,by omega,rfl⟩⟩,rfl⟩
theorem Au.ints(h:Au base w v ts):Ints w v ts:=by
 rcases h with ⟨rfl,rfl⟩|⟨g,a0,a2,a1,rfl,hb,hh,hc,hm,hs,ht⟩
 ·exact .inl ⟨_,_,rfl,rfl,rfl⟩
 ·refine .inr ⟨g,a0,a2,rfl,hc,by omega,fun j x hj=>?_⟩
  rw[←ht,List.getElem?_take] at hj
  split at hj
  ·rw[List.getElem?_drop] at hj
   rw[cell_of_row w g (a0+j) a1 3 (0,0) hh]
   simpa using hj
  ·cases hj
theorem Au.tail{p:O0}{n c:Nat}{t:Int}(h:Au base w (.slice p n c) (t::ts)):Au base w (.slice (Qu p 1 c 1) (n-1) (c-1)) ts:=by
 rcases h with ⟨_,h⟩|⟨g,a1,a3,a0,hv,hb,hh,hc,hm,hs,ht⟩
 ·cases h
 ·simp only[Value.slice.injEq] at hv
  obtain⟨rfl,rfl,rfl⟩:=hv
  have a2:(a0.toList.drop (a1+1)).take ts.length=ts.map V0:=by
   have:=congrArg (List.drop 1) ht
   rw[List.drop_take,List.drop_drop] at this
   simpa using this
  by_cases h1:c=1
  ·subst h1
   have h0:ts=[]:=List.eq_nil_of_length_eq_zero (by rw[List.length_cons] at hc;omega)
   subst h0
   exact .inr ⟨g,a1,0,a0,by simp[Qu],hb,hh,Nat.le_refl _,hm,by omega,by simp⟩
  ·refine .inr ⟨g,a1+1,c-1,a0,?_,hb,hh,by rw[List.length_cons] at hc;omega,by omega,by rw[List.length_cons] at hc;omega,a2⟩
   unfold Qu
   rw[if_neg h1]
   simp[Addr.add]
def Jw(base N:Nat)(w:World)(vo v:Value)(ts:List Int):Prop:=Au base w v ts∧(∀ j,v.ownBlock=some j→j<N)∧∀ j,v.ownBlock=some j→vo.ownBlock≠some j
theorem Jw.ints(h:Jw base N w vo v ts):Ints w v ts:=h.1.ints
theorem Jw.below(h:Jw base N w vo v ts)(hb:B3 w W):Jw base N W vo v ts:=⟨h.1.kept fun j hj=>hb.block j (h.1.lt j hj),h.2⟩
theorem Jw.at_(h:Jw base N w vo v ts):Jw base w.heap.size w vo v ts:=⟨h.1,h.1.lt,h.2.2⟩
theorem Jw.updN{w0 W2:World}{b:Nat}{cs:List Value}{e:TypeId}(h:Jw base N w vo v ts)(u:Upd w b W)(n:New w0 b cs e W2)(hN:N≤w0.heap.size):Jw base N W vo v ts:=⟨h.1.kept fun j hj=>u.block j (by have:=h.2.1 j hj;have:=n.at_;omega),h.2⟩
theorem Jw.updB{b:Nat}{cs:List Value}{e:TypeId}(h:Jw base N w vo v ts)(u:Upd w b W)(k:Blk w b cs e)(he:(e==3)=false):Jw base N W vo v ts:=⟨h.1.kept fun j hj=>u.block j (fun q=>by
 subst q
 rcases h.1 with ⟨rfl,_⟩|⟨g,a1,a2,a0,rfl,_,hh,_⟩
 ·cases hj
 ·simp only[Value.ownBlock,Option.some.injEq] at hj
  subst hj
  have k:w.heap[g]? = some (.cells cs.toArray e (0,0)):=k
  rw[hh] at k
  cases k
  simp at he),h.2⟩
theorem Jw.grow{n:Nat}{xs:List Value}{v':Value}(h:Jw base N w vo v ts)(k:w.ownsRow base 3 1 vo n xs)(hg:w.grownBy W vo.ownBlock)(ha:v'.ownBlock=vo.ownBlock∨v'.ownBlock=some w.heap.size):Jw base W.heap.size W v' v ts :=
 have hk:Au base W v ts:=h.1.kept fun j hj=>hg.block j (h.1.lt j hj) (fun q=>h.2.2 j hj q.symm)
 ⟨hk,hk.lt,fun j hj q=>by
  rcases ha with ha|ha
  ·exact h.2.2 j hj (ha.symm.trans q)
  ·have:=h.1.lt j hj
   rw[ha,Option.some.injEq] at q
   omega⟩
theorem Jw.tail{p:O0}{n c:Nat}{t:Int}(h:Jw base N w vo (.slice p n c) (t::ts)):Jw base N w vo (.slice (Qu p 1 c 1) (n-1) (c-1)) ts:=by
 have e:∀ j,(Value.slice (Qu p 1 c 1) (n-1) (c-1)).ownBlock=some j→(Value.slice p n c).ownBlock=some j:=fun j hj=>by
  cases p with
  | none=>unfold Qu at hj;split at hj<;>cases hj
  | some a =>
   unfold Qu at hj
   split at hj
   ·exact hj
   ·simp only[Option.map_some,Value.ownBlock,Option.some.injEq] at hj ⊢
    rw[←hj];unfold Addr.add;split<;>rfl
 exact⟨h.1.tail,fun j hj=>h.2.1 j (e j hj),fun j hj=>h.2.2 j (e j hj)⟩
theorem cutA_start{p:O0}{n c:Nat}(h:w.ownsRow base 3 1 (.slice p n c) n (ts.map V0)):Jw base w.heap.size w (S0) (.slice p n c) ts:=⟨Au.of_own h,(Au.of_own h).lt,fun j _ q=>by cases q⟩
theorem Jw.elem0{p:O0}{n c:Nat}{t:Int}{r:List Int}(h:Jw base N w vo (.slice p n c) ts)(e:ts=t::r):p.isSome=true∧w.cell? (Xd p (0*1))=some (V0 t):=by
 subst e
 have q:=h.ints
 have hn:n=(t::r).length:=by
  rcases h.1 with ⟨_,h0⟩|⟨g,a1,a2,a0,hv,_⟩
  ·cases h0
  ·simp only[Value.slice.injEq] at hv;exact hv.2.1
 subst hn
 exact Ints.elem q (k:=0) (by simp)
theorem Jw.tailE{p:O0}{n c:Nat}{t:Int}{r:List Int}(h:Jw base N w vo (.slice p n c) ts)(e:ts=t::r):Jw base w.heap.size w vo (.slice (Qu p 1 c 1) r.length (c-1)) r:=by
 subst e
 have hn:n=(t::r).length:=by
  rcases h.1 with ⟨_,h0⟩|⟨g,a1,a2,a0,hv,_⟩
  ·cases h0
  ·simp only[Value.slice.injEq] at hv;exact hv.2.1
 subst hn
 exact h.tail.at_
theorem Ai{P:Program}(w:World)(t ty e:TypeId)(i:TypeInfo)(ht:P.underlying t=some (.slice e))(hi:P.info? e=some i)(g off n cap:Nat)(cur:Array Value)(hg:w.heap[g]? = some (.cells cur e (0,0)))
 (a:Addr) (m c:Nat) (news:List Value) (hl:news.length=m*i.size) (hnews:∀ j u,news[j]? = some u→w.cell? (a.add j)=some u) (h1:∀ u∈news,u.oneCell'=true) (hroom:n+m≤cap) (hfit:off+n*i.size+news.length≤cur.size) :
 (Builtin.append_ #[t,t] ty #[.slice (some ⟨g,off,none⟩) n cap,.slice (some a) m c]).run P w=.ok (.slice (some ⟨g,off,none⟩) (n+m) cap) (w.setRow g (cur.toList.take (off+n*i.size)++news++cur.toList.drop (off+n*i.size+news.length)).toArray):=by
 have hf:=run_firstCells_some (P:=P) w i.size m a m c news hl hnews
 have a0:=run_storeCells_at P g (off+n*i.size) e news 0 cur w hg (by simpa using hfit) h1
 simp only[Nat.add_zero] at a0
 simp[Builtin.append_,run_underlying ht,sizeOf,typeInfo,hi,Builtin.lenOf,hroom,hf,Addr.add_lit,a0]
theorem op_app_cut{P:Program}{a:Act}{w:World}{K:Act→World→Prop}{Q:Exit→Act→World→Prop}{o:Oper}{s x:Operand}{t te:TypeId}{vo:Value}{no:Nat}{xo:List Value}{b c:Nat}{k:Int}{p:O0}{n cp:Nat}(z:Value)(n':Nat)
 (ho:o.op=.call { callee:=.builtin .append,args:=#[s,x],argTypes:=#[t,t] }) (ht:P.underlying t=some (.slice 3)) (hi:(P.info? 3).map (fun i=>(i.zero,i.size,i.bytes))=some (some z,1,8)) (hzs:z.cells.size=1) (hs:a.eval s=.slice p n cp)
 (hown:Jw base N w vo (.slice p n cp) ts) (hvo:w.ownsRow base 3 1 vo no xo) (hx:a.eval x=.slice (S1 b) 1 c) (hnew:Blk w b [V0 k] te) (hlen:ts.length≤1000000) (hbase:base≤w.heap.size) (hn:n+1=n')
 (h:∀ p2 c2 W v0 n0 xs0,w.ownsRow base 3 1 v0 n0 xs0→w.grownBy W v0.ownBlock→Below base w W→W.ownsRow base 3 1 vo no xo→Jw base W.heap.size W vo (.slice p2 n' c2) (ts++[k])→K (a.put o.dst (.slice p2 n' c2)) W):o.wp P a w K Q:=by
 subst hn
 cases hq:P.info? 3 with
 | none=>simp[hq] at hi
 | some i =>
  simp only[hq,Option.map_some,Option.some.injEq,Prod.mk.injEq] at hi
  obtain⟨hz,a1,a8⟩:=hi
  have hc:∀ j u,[Value.int .i64 k][j]? = some u→w.cell? ((⟨b,0,none⟩:Addr).add j)=some u:=fun j u hj=>by
   have hc:=hnew.cell hj
   by_cases h0:j=0
   ·subst h0;simpa [Addr.add] using hc
   ·simpa [Addr.add,h0] using hc
  have a5:∀ p2 c2 W,(Builtin.append_ #[t,t] o.type #[.slice p n cp,.slice (S1 b) 1 c]).run P w=.ok (.slice p2 (n+1) c2) W→Au base W (.slice p2 (n+1) c2) (ts++[k])→w.grownBy W (Value.slice p n cp).ownBlock →
    (∀ j,(Value.slice p2 (n+1) c2).ownBlock=some j→(Value.slice p n cp).ownBlock=some j∨w.heap.size≤j)→o.wp P a w K Q:=fun p2 c2 W hr hW hg ha=>by
   obtain⟨v0,n0,xs0,b1,b0⟩:=hown.1.whole
   rw[←b0] at hg
   have b2:W.ownsRow base 3 1 vo no xo:=by
    obtain⟨k1,k2⟩:=hvo
    refine⟨k1,?_⟩
    rcases k2 with k2|⟨g,a9,a2,rfl,hb,hh,r⟩
    ·exact Or.inl k2
    ·exact Or.inr ⟨g,a9,a2,rfl,hb,(hg.block g (Array.getElem?_eq_some_iff.1 hh).1 (fun q=>hown.2.2 g (b0▸q.symm) rfl)).trans hh,r⟩
   have hA:Jw base W.heap.size W vo (.slice p2 (n+1) c2) (ts++[k]):=⟨hW,hW.lt,fun j hj q=>by
    rcases ha j hj with ha|ha
    ·exact hown.2.2 j ha q
    ·have:=(hvo.lt j q).2
     omega⟩
   unfold Oper.wp execOp
   simp only[ho,resolve,invoke,builtin,Sem.run_bind,Sem.run_pure,Result.andThen_ok,List.map_toArray,List.map_cons,List.map_nil,hs,hx,hr]
   exact h p2 c2 W v0 n0 xs0 b1 hg (Vc hg b1 (Nat.le_refl _) hbase) b2 hA
  rcases hown.1 with ⟨hv,h0⟩|⟨g,a0,a9,a2,hv,hb,hh,b3,hm,b4,a7⟩
  ·simp only[Value.slice.injEq] at hv
   obtain⟨rfl,rfl,rfl⟩:=hv
   subst h0
   obtain⟨v',W,hr,h2,h3,_⟩:=run_append_own (P:=P) w w.heap.size t o.type 3 i z 1 8 ht hq hz a1 a8 hzs (by decide) (S0) 0 [] (World.ownsRow_nil w _ _ _) ⟨b,0,none⟩ 1 c [V0 k] rfl hc (by simp[Value.oneCell']) (by unfold maxLen;omega) (by omega) (Nat.le_refl _)
   obtain⟨p2,c2,rfl⟩:=(Ze h2).slice
   exact a5 p2 c2 W hr (Au.of_own (Zd h2 hbase)) h3 fun j hj=>.inr (h2.lt j hj).1
  ·simp only[Value.slice.injEq] at hv
   obtain⟨rfl,rfl,rfl⟩:=hv
   by_cases hr:ts.length+1≤cp
   ·have a4:=Ai (P:=P) w t o.type 3 i ht hq g a0 ts.length cp a2 hh ⟨b,0,none⟩ 1 c [V0 k] (by rw[a1];rfl) hc (by simp[Value.oneCell']) hr (by rw[a1,List.length_singleton];omega)
    refine a5 _ _ _ a4 (.inr ⟨g,a0,cp,_,by rw[List.length_append,List.length_singleton],hb,setRow_heap w g a2 _ 3 _ hh,by rw[List.length_append,List.length_singleton];exact hr,?_,?_,?_⟩) ⟨rfl,rfl,rfl,by simp,fun k _ hk=>setRow_other w g k _ (fun e=>hk (by simp[Value.ownBlock,e]))⟩ fun j hj=>.inl hj
    ·simp only[List.size_toArray,List.length_append,List.length_take,List.length_drop,Array.length_toList,List.length_singleton,a1];omega
    ·simp only[List.size_toArray,List.length_append,List.length_take,List.length_drop,Array.length_toList,List.length_singleton,a1];omega
    ·have e1:(a2.toList.take (a0+ts.length*i.size)).drop a0=ts.map V0:=by
      rw[List.drop_take,show a0+ts.length*i.size-a0=ts.length by rw[a1];omega];exact a7
     have e2:a0≤(a2.toList.take (a0+ts.length*i.size)).length:=by simp only[List.length_take,Array.length_toList,a1];omega
     rw[List.toList_toArray,List.append_assoc,List.drop_append_of_le_length e2,e1,List.length_append,List.length_singleton,List.map_append,List.map_singleton,←List.append_assoc]
     exact List.take_left' (by simp)
   ·have a3:∀ j u,(ts.map V0)[j]? = some u→w.cell? ((⟨g,a0,none⟩:Addr).add j)=some u:=fun j u hj=>by
     rw[←a7,List.getElem?_take] at hj
     split at hj
     ·rw[List.getElem?_drop] at hj
      have a6:(⟨g,a0,none⟩:Addr).add j=⟨g,a0+j,none⟩:=by unfold Addr.add;split<;>simp_all
      rw[a6,cell_of_row w g (a0+j) a2 3 (0,0) hh]
      simpa using hj
     ·cases hj
    obtain⟨v',W,a4,h2,h3⟩:=run_append_arg_grows (P:=P) w t o.type 3 i z 1 8 ht hq hz a1 a8 hzs (by decide) ⟨g,a0,none⟩ ts.length cp (ts.map V0) (by simp) a3 ⟨b,0,none⟩ 1 c [V0 k] rfl hc (by omega) (by unfold maxLen;omega) (by omega)
    obtain⟨p2,c2,rfl⟩:=(Ze h2).slice
    exact a5 p2 c2 W a4 (Au.of_own (Zd (by rw[List.map_append];exact h2) hbase)) ⟨h3.os,h3.tape,h3.output,h3.size,fun k hk _=>h3.block k hk (by simp)⟩ fun j hj=>.inr (h2.lt j hj).1
end Go.Proofs.YtceeiinepijokaaGreatDoor
namespace Go.Proofs.YtceeiinepijokaaGreatDoor
set_option maxHeartbeats 8000000
set_option maxRecDepth 100000
open Go.RowKit Go.Extern.Stop Go.Stop Go.Extern
set_option linter.unusedVariables false
attribute [local irreducible] wpList wpAnyH Code.wp Oper.wp Go
theorem ljE_D:ljE=ljD:=rfl
def OnceP(base:Nat)(L:List Int)(w:World)(e:Ending)(w':World):Prop:=∃ (q:O0) (d:Nat) (L2:List Int),e=.returned (.slice q L2.length d)∧L2.Pairwise (·<·)∧(∀ z,z∈L2↔z∈L)∧Below base w w'∧w'.ownsRow base 3 1 (.slice q L2.length d) L2.length (L2.map V0)
theorem sort_rowN{base n:Nat}{p:O0}{c:Nat}{L:List Int}(w:World)(hn:L.length=n)(hB:base≤w.heap.size)(hl:L.length≤1000000)(ho:w.ownsRow base 3 1 (.slice p n c) n (L.map V0)):C0 130 #[.slice p n c] w (fun e w'=>∃ (u:Value) (L2:List Int),e=.returned u∧L2.length=n∧L2.Perm L∧L2.Pairwise (·≤·)∧Below base w w'∧w'.ownsRow base 3 1 (.slice p n c) n (L2.map V0)):=by
  subst hn
  refine(sort_row w hB hl ho).mono ?_
  rintro e W ⟨u,L2,h1,h2,h3,h4,h5,_,h6⟩
  exact⟨u,L2,h1,h2,h3,h4,h5,h6⟩
theorem Zer{base n:Nat}{p:O0}{c:Nat}{L:List Int}(w:World)(hn:L.length=n)(hB:base≤w.heap.size)(hl:L.length≤1000000)(hs:L.Pairwise (·≤·))(ho:w.ownsRow base 3 1 (.slice p n c) n (L.map V0)):C0 131 #[.slice p n c] w (fun e w'=>∃ (q:O0) (d:Nat) (L2:List Int),e=.returned (.slice q L2.length d)∧L2.Pairwise (·<·)∧(∀ z,z∈L2↔z∈L)∧Below base w w'∧w'.ownsRow base 3 1 (.slice q L2.length d) L2.length (L2.map V0)):=by
  subst hn
  refine(Zfm w hB hl hs ho).mono ?_
  rintro e W ⟨q,d,L2,h1,h2,h3,h4,_,h6⟩
  exact⟨q,d,L2,h1,h2,h3,h4,h6⟩
theorem Zcm(B:Nat)(p:O0)(c n:Nat)(L:List Int)(w:World)(hBw:B≤w.heap.size)(hn:L.length=n)(hl:L.length≤1000000)(ho:w.ownsRow B 3 1 (.slice p n c) n (L.map V0)) :
 C0 76 #[.slice p n c] w (OnceP B L w):=by
 refine zin 7 Tryz.func76 ?_
 refine xc 8 (args:=#[.slice p n c]) (sort_rowN (base:=B) _ hn (Nat.le_trans hBw (Below.refl B _).size) hl ho) ?_
 rintro _ W1 ⟨u,L1,rfl,a9,a3,a7,a1,a8⟩
 refine xc 5 (args:=#[.slice p n c]) (Zer (base:=B) _ a9 (Nat.le_trans hBw a1.size) (by omega) a7 a8) ?_
 rintro _ W2 ⟨q2,d2,L2,rfl,a5,a4,a2,a6⟩
 have a0:=a1.trans a2
 exact xe 4 (.slice q2 L2.length d2) ⟨_,_,_,rfl,a5,fun z=>(a4 z).trans a3.mem_iff,a0,a6⟩
theorem link_Into(pl:O0)(cl:Nat)(L:List Lj)(to:Int)(w:World)(hL:Sts ljC w (.slice pl L.length cl) L)(hll:L.length≤100000) :
 C0 32 #[.slice pl L.length cl,V0 to] w ((fun e w'=>∃ (q:O0) (d:Nat) (L2:List Int),e=.returned (.slice q L2.length d)∧La (Ap L to) L2∧B3 w w'∧w'.ownsRow w.heap.size 3 1 (.slice q L2.length d) L2.length (L2.map V0))):=by
 have c2:=Sl.len hL
 refine zin 26 Tryz.func32 ?_
 have hB:=Below.refl w.heap.size w
 refine zl 19 26 (fun zm b5 V=>∃ (i:Nat) (a1:List Int) (po:O0) (co:Nat),b5=[(1,V0 to),(4,S0),(5,.slice po a1.length co),(8,.slice pl L.length cl),(9,V0 (L.length:Int)),(10,V0 (i:Int))]∧zm=L.length-((i:Int)).toNat∧B3 w V∧V.ownsRow w.heap.size 3 1 (.slice po a1.length co) a1.length (a1.map V0)∧i≤L.length∧((∀ z,z∈a1↔Ap (L.take i) to z))∧a1.length≤i) ⟨0,[],none,0,rfl,rfl,hB,World.ownsRow_nil _ _ _ _,Nat.zero_le _,?_,Nat.le_refl _⟩ ?_
 ·exact fun z=>⟨fun q=>(by cases q),fun q=>absurd q (intoP_zero L to z)⟩
 rintro _ _ W1 ⟨i,a1,po,co,rfl,rfl,a0,ho,hi,hm,c4⟩ J1 b0 r1
 refine xid 6 ((i:Int)<(L.length:Int)) (fun c1=>?_) (fun c1=>?_)
 ·refine xx 6 _ L.length i 3 (Sts.cell (f:=ljC) hL Gs ljE (k:=i) (i:=0) (by omega) rfl).1 ?_
  refine xlv 0 (Sts.rp (k:=i) (hL.below a0) Gs ljE (by omega) (by decide)) ?_
  refine xa 0 [V0 0,V0 0,V0 0] 76 fun b3 W3 n3=>?_
  have g3:=n3.ge a0
  refine xsv 0 n3.blk [V0 ((L.getD i ljE).1),V0 ((L.getD i ljE).2.1),V0 ((L.getD i ljE).2.2)] fun W4 u4 k4=>?_
  refine xb 5 1 k4 ?_
  refine xie 4 ((L.getD i ljE).2.1) to (fun b8=>?_) (fun b8=>?_)
  ·refine xb 3 0 k4 ?_
   refine xbs 0 1 [V0 ((L.getD i ljE).1)] 3 fun b6 W6 n6=>?_
   have a2:=u4.below (bln a0 n3.below) g3
   have g6:=n6.ge a2
   have a3:=u4.own2 (Zb ho n3.below) n3.blk (by decide)
   have b1:=Zn a3 n6
   have a5:=Zb a3 n6.below
   have a4:=bln a2 n6.below
   refine xbi 0 fun _ _ _ _ zJ zQ zo zx zy zK=>Zr (m:=1) (news:=[V0 ((L.getD i ljE).1)]) (V0 0) 1 8 ((a1++[(L.getD i ljE).1]).length) (((a1++[(L.getD i ljE).1]).map V0)) zo Tryz.underlying34 (by kernel_rfl) rfl (by decide) zx a5 zy (n6.blk.sl 1 1 (by decide) (by decide)) rfl (by simp[Value.oneCell']) (by unfold maxLen;omega) (by omega) a4.size (by simp) (by simp) fun c6 c3 W7 o7 c5 b9=>?_
   refine zK _ _ ?_
   refine xwm 5 ((i:Int)+1) (↑(i+1):Int) ?_
   have a7:=a4.trans b9
   exact ze 2 (b0 _ _ _ ⟨i+1,(a1++[(L.getD i ljE).1]),_,_,rfl,rfl,a7,o7,by omega,(fun z=>by rw[intoP_yes (i:=i) (by omega) (by assumption),List.mem_append,List.mem_singleton,hm];rfl),by rw[List.length_append,List.length_singleton];omega⟩ (by omega))
  refine xwm 4 ((i:Int)+1) (↑(i+1):Int) ?_
  have a9:=u4.below (bln a0 n3.below) g3
  have a6:=u4.own2 (Zb ho n3.below) n3.blk (by decide)
  exact ze 2 (b0 _ _ _ ⟨i+1,a1,po,co,rfl,rfl,a9,a6,by omega,(fun z=>by rw[intoP_no (i:=i) (by omega) (by assumption)];exact hm z),by omega⟩ (by omega))
 refine xc 8 (args:=#[.slice po a1.length co]) (Zcm w.heap.size _ _ _ a1 _ a0.size rfl (by omega) ho) ?_
 rintro _ W8 ⟨q2,d2,L2,rfl,b7,b2,c0,b4⟩
 have a8:=a0.trans c0
 refine xe 4 (.slice q2 L2.length d2) ?_
 obtain rfl:i=L.length:=by omega
 rw[List.take_length] at hm
 exact⟨_,_,_,rfl,⟨b7,fun z=>(b2 z).trans (hm z)⟩,a8,b4⟩
theorem mem_getD{out:List Int}{k:Nat}{x:Int}(hk:k<out.length)(h:out.getD k 0=x):x∈out:=by
 subst h;simp[List.getD,hk]
theorem link_Below(pl:O0)(cl:Nat)(L:List Lj)(fr:Int)(w:World)(hL:Sts ljC w (.slice pl L.length cl) L)(hll:L.length≤100000) :
 C0 33 #[.slice pl L.length cl,V0 fr] w ((fun e w'=>∃ (q:O0) (d:Nat) (L2:List Int),e=.returned (.slice q L2.length d)∧La (Lead L fr) L2∧B3 w w'∧w'.ownsRow w.heap.size 3 1 (.slice q L2.length d) L2.length (L2.map V0))):=by
 have k5:=Sl.len hL
 refine zin 56 Tryz.func33 ?_
 refine xbs 13 1 [V0 fr] 3 fun b1 W1 n1=>?_
 have g1:=n1.ge (B4 w)
 refine zl 5 56 (fun zm c8 V=>∃ (a0:List Int) (po:O0) (co:Nat) (ts:List Int) (pw:O0) (cw:Nat),c8=[(0,.slice pl L.length cl),(4,S0),(5,.slice po a0.length co),(6,.slice pw ts.length cw)]∧zm=2*unB L a0+ts.length∧B3 w V∧V.ownsRow w.heap.size 3 1 (.slice po a0.length co) a0.length (a0.map V0)∧Jw w.heap.size V.heap.size V (.slice po a0.length co) (.slice pw ts.length cw) ts∧BelI L fr a0 ts) ⟨[],none,0,[fr],(S1 b1),1,rfl,rfl,n1.below,World.ownsRow_nil _ _ _ _,(cutA_start (ts:=[fr]) (Xb (size:=1) (n:=1) n1.blk g1 rfl (by decide))),BelI.start L fr⟩ ?_
 rintro _ _ W2 ⟨a0,po,co,ts,pw,cw,rfl,rfl,b3,ho,hW,hi⟩ J2 i6 r2
 have i7:=hi.few
 have j7:=hi.wt
 have c9:=Jw.at_ hW
 refine xid 8 ((ts.length:Int)>(0:Int)) (fun f8=>?_) (fun f8=>?_)
 ·obtain⟨no,r,b5⟩:∃ x r,ts=x::r:=List.exists_cons_of_ne_nil (fun q=>by rw[q] at f8;simp at f8)
  have b0:=Jw.at_ c9
  refine xx 7 _ ts.length 0 1 (Jw.elem0 b0 b5).1 ?_
  refine xl 0 ((Jw.elem0 b0 b5).2) ?_
  have g6:=Jw.at_ b0
  refine xsL 6 (fun _ _ _ _ zo zx zy V=>Xv (k:=1) (b:=pw) (n:=ts.length) (c:=cw) (i:=1) (ki:=.i64) 1 zo zx zy rfl (by omega) Tryz.underlying34 (by kernel_rfl) V) ?_
  have f3:=Jw.at_ g6
  obtain⟨f2,d6⟩:∃ m,m=2*unB L a0+ts.length:=⟨_,rfl⟩
  have e3:=d6
  rw[b5,List.length_cons] at d6
  have j4:=BelI.go (b5▸hi)
  refine xv1 14 6 (show(.slice (Qu pw 1 cw 1) (ts.length-1) (cw-1):Value)=.slice (Qu pw 1 cw 1) r.length (cw-1) from by rw[b5];rfl) ?_
  refine zl 0 56 (fun zm c8 V=>∃ (i:Nat) (a0:List Int) (po:O0) (co:Nat) (ts:List Int) (pw:O0) (cw:Nat),c8=[(0,.slice pl L.length cl),(4,S0),(5,.slice po a0.length co),(6,.slice pw ts.length cw),(7,V0 no),(22,.slice pl L.length cl),(23,V0 (L.length:Int)),(24,V0 (i:Int))]∧zm=L.length-((i:Int)).toNat∧B3 w V∧V.ownsRow w.heap.size 3 1 (.slice po a0.length co) a0.length (a0.map V0)∧Jw w.heap.size V.heap.size V (.slice po a0.length co) (.slice pw ts.length cw) ts∧i≤L.length∧BelJ L fr no i a0 ts∧2*unB L a0+ts.length<f2∧ts.length≤1+a0.length) ⟨0,_,_,_,r,_,_,rfl,rfl,b3,ho,(Jw.tailE f3 b5),Nat.zero_le _,j4,(by omega),(by have:=hi.wt;rw[b5,List.length_cons] at this;omega)⟩ ?_
  rintro _ _ W8 ⟨i,a0,po,co,ts,pw,cw,rfl,rfl,a4,a5,hW,k1,hj,h6,h2⟩ J8 f7 r8
  have i7:=hj.few
  have d9:=Jw.at_ hW
  refine xid 6 ((i:Int)<(L.length:Int)) (fun g7=>?_) (fun g7=>?_)
  ·have c2:=Jw.at_ d9
   refine xx 6 _ L.length i 3 (Sts.cell (f:=ljC) hL Gs ljE (k:=i) (i:=0) (by omega) rfl).1 ?_
   refine xlv 0 (Sts.rp (k:=i) (hL.below a4) Gs ljE (by omega) (by decide)) ?_
   refine xa 0 [V0 0,V0 0,V0 0] 76 fun h3 k3 a2=>?_
   have e9:=a2.ge a4
   refine xsv 0 a2.blk [V0 ((L.getD i ljE).1),V0 ((L.getD i ljE).2.1),V0 ((L.getD i ljE).2.2)] fun i4 b4 h5=>?_
   have g3:=(c2.below a2.below).updB b4 a2.blk (by decide)
   have a8:=Jw.at_ g3
   refine xb 6 0 h5 ?_
   refine xin 4 ((L.getD i ljE).1) no (fun e5=>?_) (fun e5=>?_)
   ·have d5:=Jw.at_ a8
    refine xwm 5 ((i:Int)+1) (↑(i+1):Int) ?_
    have e4:=b4.below (bln a4 a2.below) e9
    have f6:=b4.own2 (Zb a5 a2.below) a2.blk (by decide)
    exact ze 2 (f7 _ _ _ ⟨i+1,a0,po,co,ts,pw,cw,rfl,rfl,e4,f6,d5,by omega,(hj.skip (by omega) (.inl (by assumption))),h6,h2⟩ (by omega))
   have d7:=Jw.at_ a8
   refine zl 11 56 (fun zm c8 V=>∃ (k:Nat),c8=[(0,.slice pl L.length cl),(4,S0),(5,.slice po a0.length co),(6,.slice pw ts.length cw),(7,V0 no),(9,P0 h3),(22,.slice pl L.length cl),(23,V0 (L.length:Int)),(24,V0 (i:Int)),(32,.slice po a0.length co),(33,V0 (a0.length:Int)),(34,V0 (k:Int))]∧zm=a0.length-((k:Int)).toNat∧V=i4∧Blk V h3 ([V0 ((L.getD i ljE).1),V0 ((L.getD i ljE).2.1),V0 ((L.getD i ljE).2.2)]) 76∧k≤a0.length∧(∀ j,j<k→a0.getD j 0≠(L.getD i ljE).2.1)) ⟨0,rfl,rfl,rfl,h5,Nat.zero_le _,?_⟩ ?_
   ·exact fun j hj=>absurd hj (by omega)
   rintro _ _ _ ⟨k,rfl,rfl,rfl,a1,hk,g9⟩ k8 e8 k0
   have a7:=Jw.at_ d7
   refine xid 6 ((k:Int)<(a0.length:Int)) (fun f9=>?_) (fun f9=>?_)
   ·have e0:=Jw.at_ a7
    have b2:=b4.own2 (Zb a5 a2.below) a2.blk (by decide)
    refine xx 6 _ a0.length k 1 (Ints.elem (l:=a0) (Ze b2) (k:=k) (by omega)).1 ?_
    refine xl 0 ((Ints.elem (l:=a0) (Ze b2) (k:=k) (by omega)).2) ?_
    have a6:=Jw.at_ e0
    refine xb 7 1 a1 ?_
    refine xie 3 (a0.getD k 0) ((L.getD i ljE).2.1) (fun e6=>?_) (fun e6=>?_)
    ·have b8:=Jw.at_ a6
     refine xwm 9 ((i:Int)+1) (↑(i+1):Int) ?_
     have e7:=b4.below (bln a4 a2.below) e9
     exact ze 2 (f7 _ _ _ ⟨i+1,a0,po,co,ts,pw,cw,rfl,rfl,e7,b2,b8,by omega,(hj.skip (by omega) (.inr (mem_getD (k:=k) (x:=(L.getD i ljE).2.1) (by omega) (by assumption)))),h6,h2⟩ (by omega))
    have h0:=Jw.at_ a6
    refine xwm 4 ((k:Int)+1) (↑(k+1):Int) ?_
    exact ze 2 (e8 _ _ _ ⟨k+1,rfl,rfl,rfl,a1,by omega,(fun j hj=>by rcases Nat.lt_succ_iff_lt_or_eq.1 hj with q|q;exact g9 j q;subst q;assumption)⟩ (by omega))
   have c4:(L.getD i ljE).2.1∉a0:=fun q=>by
    obtain⟨j,hj,he⟩:=List.mem_iff_getElem.1 q
    exact g9 j (by omega) (by rw[←he];simp[List.getD,hj])
   have i9:=unB_lt (A:=a0) (B:=a0++[(L.getD i ljE).2.1]) (ljD_mem (l:=L) (i:=i) (by omega)) (fun z hz=>List.mem_append_left _ hz) c4 (List.mem_append_right _ (by simp[ljE_D]))
   have c1:=Jw.at_ a7
   refine xb 9 1 a1 ?_
   refine xbs 0 1 [V0 ((L.getD i ljE).2.1)] 3 fun i1 k4 a9=>?_
   have c0:=b4.below (bln a4 a2.below) e9
   have j8:=a9.ge c0
   have b9:=b4.own2 (Zb a5 a2.below) a2.blk (by decide)
   have f4:=Zn b9 a9
   have b6:=Zb b9 a9.below
   have c6:=bln c0 a9.below
   refine xbi 0 fun _ _ _ _ zJ zQ zo zx zy zK=>Kg (b:=i1) (c:=1) (m:=1) (news:=[V0 ((L.getD i ljE).2.1)]) (V0 0) 1 8 ((a0++[(L.getD i ljE).2.1]).length) (((a0++[(L.getD i ljE).2.1]).map V0)) zo Tryz.underlying34 (by kernel_rfl) rfl (by decide) zx b6 zy a9.blk rfl (by simp[Value.oneCell']) (by unfold maxLen;omega) (by omega) c6.size (by simp) (by simp) fun j1 i2 k9 h7 c5 g8 g0=>?_
   refine zK _ _ ?_
   have g2:=(c1.below a9.below).grow b6 c5 g0
   have c3:=Jw.at_ g2
   have a3:=(a1.below a9.below).grown c5 b6 (by decide)
   refine xb 6 1 a3 ?_
   refine xbs 0 1 [V0 ((L.getD i ljE).2.1)] 3 fun h8 k2 b7=>?_
   have d1:=c6.trans g8
   have k7:=b7.ge d1
   have e1:=Zn h7 b7
   have f5:=c3.below b7.below
   have d3:=Zb h7 b7.below
   have d8:=bln d1 b7.below
   refine xbi 0 fun _ _ _ _ zJ zQ zo zx zy zK=>op_app_cut (b:=h8) (c:=1) (k:=((L.getD i ljE).2.1)) (V0 0) (ts++[(L.getD i ljE).2.1]).length zo Tryz.underlying34 (by kernel_rfl) (by kernel_rfl) zx f5 d3 zy b7.blk (by omega) d8.size (by rw[List.length_append];rfl) fun j2 i5 j9 j3 h9 h4 i0 j0 f0 c7 d4=>?_
   refine zK _ _ ?_
   have d0:=Jw.at_ d4
   refine xwm 5 ((i:Int)+1) (↑(i+1):Int) ?_
   have f1:=d8.trans f0
   exact ze 2 (f7 _ _ _ ⟨i+1,(a0++[(L.getD i ljE).2.1]),_,_,(ts++[(L.getD i ljE).2.1]),_,_,rfl,rfl,f1,c7,d0,by omega,(hj.add (by omega) (by assumption) c4),(by rw[List.length_append,List.length_singleton];omega),(by simp only[List.length_append,List.length_singleton];omega)⟩ (by omega))
  refine ze 6 (i6 _ _ _ ⟨_,_,_,_,_,_,rfl,rfl,a4,a5,d9,(BelJ.end_ (by rw[←show i=L.length from by omega];exact hj) (by omega))⟩ ?_)
  refine Nat.lt_of_lt_of_eq (m:=f2) ?_ e3
  show 2*unB L a0+ts.length<f2
  omega
 have i3:ts=[]:=List.eq_nil_of_length_eq_zero (by omega)
 have h1:=Jw.at_ c9
 refine xc 8 (args:=#[.slice po a0.length co]) (Zcm w.heap.size _ _ _ a0 _ b3.size rfl (by omega) ho) ?_
 rintro _ k6 ⟨q2,d2,L2,rfl,j6,i8,g5,j5⟩
 have e2:=b3.trans g5
 refine xe 4 (.slice q2 L2.length d2) ?_
 rw[i3] at hi
 exact⟨_,_,_,rfl,⟨j6,fun z=>(i8 z).trans (hi.done z)⟩,e2,j5⟩
def S47:Sup:=⟨0,0,1,0,8,1,2,3,4,7,5⟩
def j47:List Lj:=[(0,1,1),(0,2,3),(0,3,4),(0,4,5),(0,7,6),(7,6,7),(0,5,5)]
theorem into47:La (Ap j47 6) [7]:=by
 refine⟨by decide,fun z=>⟨fun h=>?_,fun⟨x,hx,h1,h2⟩=>?_⟩⟩
 ·obtain rfl:=List.mem_singleton.1 h
  exact⟨(7,6,7),by decide,rfl,rfl⟩
 ·subst h2
  have a0:∀ x∈j47,x.2.1=6→x.1∈([7]:List Int):=by decide
  exact a0 x hx h1
theorem below47:La (Lead j47 0) [1,2,3,4,5,6,7]:=by
 have a0:∀ x∈j47,x.2.1∈([1,2,3,4,5,6,7]:List Int):=by decide
 have h7:Lead j47 0 7:=.one (0,7,6) (by decide) rfl
 refine⟨by decide,fun z=>⟨fun h=>?_,fun h=>?_⟩⟩
 ·simp only[List.mem_cons,List.not_mem_nil,or_false] at h
  rcases h with rfl|rfl|rfl|rfl|rfl|rfl|rfl
  ·exact .one (0,1,1) (by decide) rfl
  ·exact .one (0,2,3) (by decide) rfl
  ·exact .one (0,3,4) (by decide) rfl
  ·exact .one (0,4,5) (by decide) rfl
  ·exact .one (0,5,5) (by decide) rfl
  ·exact .more 7 h7 (7,6,7) (by decide) rfl
  ·exact h7
 ·cases h with
  | one x hx _=>exact a0 x hx
  | more a ha x hx _=>exact a0 x hx
theorem sup47(Bi bm:Nat)(p:O0)(n c:Nat)(w:World)(hI:RefI Bi bm p n c B47 w):C0 29 #[P0 bm] w (Ret (.tuple #[.agg #[V0 0,V0 0,V0 1,V0 0,V0 8,V0 1,V0 2,V0 3,V0 4,V0 7,V0 5],.agg #[S0,V0 0]]) w):=by
 have hk:PoolOk 0 0 1 ((0:Nat):Int) []:=⟨by decide,by decide,by decide,by decide,DevsOk.nil _⟩
 obtain⟨_,h1,h2,_⟩:=lay_parts (k:=8) hk (by rw[Ou];exact Nat.le_refl _) (by decide)
 have h2:Xe (inB B47 0)=S47:=h2.trans s47_is
 refine(Zf9 Bi bm p n c B47 w hI).mono ?_
 rintro e W q
 rcases q with ⟨q,_⟩|⟨_,rfl,hb⟩
 ·exact absurd h1 q
 ·rw[h2];exact⟨rfl,hb⟩
theorem links47W(Bi b:Nat)(pi:O0)(ni ci:Nat)(w:World)(hI:ImgR Bi b pi ni ci B47 w):C0 6 #[P0 b,.agg #[V0 0,V0 0,V0 1,V0 0,V0 8,V0 1,V0 2,V0 3,V0 4,V0 7,V0 5]] w (Qe (fun w' r=>∃ p c,r=.tuple #[.slice p 7 c,.nilIface]∧w'.ownsRow w.heap.size 76 3 (.slice p 7 c) 7 (j47.flatMap ljC)) w):=by
 have h:=links47
 rw[s47_is] at h
 refine(Zaf Bi b pi ni ci B47 S47 w hI).mono ?_
 rintro e W q
 rw[show Xr B47 S47=(lk47,[],0) from h] at q
 rcases q with ⟨q,_⟩|⟨_,p,c,rfl,hb,ho⟩
 ·exact absurd rfl q
 ·exact⟨_,rfl,hb,p,c,rfl,ho⟩
theorem into47W(p:O0)(c:Nat)(w:World)(h:Sl w (.slice p 7 c) 7 (j47.flatMap ljC)):C0 32 #[.slice p 7 c,V0 6] w (Qe (fun w' r=>∃ q d,r=.slice q 1 d∧w'.ownsRow w.heap.size 3 1 (.slice q 1 d) 1 (([7]:List Int).map V0)) w):=by
 refine(link_Into p c j47 6 w h (by decide)).mono ?_
 rintro e W ⟨q,d,L2,rfl,hR,hb,ho⟩
 rw[hR.eq into47] at ho ⊢
 exact⟨_,rfl,hb,q,d,rfl,ho⟩
theorem below47W(p:O0)(c:Nat)(w:World)(h:Sl w (.slice p 7 c) 7 (j47.flatMap ljC)):C0 33 #[.slice p 7 c,V0 0] w (Qe (fun w' r=>∃ q d,r=.slice q 7 d) w):=by
 refine(link_Below p c j47 0 w h (by decide)).mono ?_
 rintro e W ⟨q,d,L2,rfl,hR,hb,ho⟩
 rw[hR.eq below47]
 exact⟨_,rfl,hb,q,d,rfl⟩
theorem ref_Of47(a:O0)(c:Nat)(w:World)(h:Bys w (.slice a (8*256) c) B47):C0 9 #[.slice a (8*256) c] w (Qe (fun w' r=>∃ bj p d,r=P0 bj∧∃ B,RefI B bj p 8 d B47 w') w):=by
 refine(Zfb a c (8*256) 8 B47 w Zay.1 (by decide) h (by decide)).mono ?_
 rintro e W ⟨r,rfl,hb,bj,p,d,rfl,_,hJ⟩
 rw[List.take_of_length_le (by rw[Zay.1];decide)] at hJ
 exact⟨_,rfl,hb,bj,p,d,rfl,_,hJ⟩
theorem Zbm(w:World) :
 C0 5 #[] w (Ret (.bool true) w):=by
 refine zin 51 Tryz.func5 ?_
 refine xc 8 (args:=#[.agg #[V0 0,V0 0,V0 1,V0 0,S0],V0 8]) (lay26_Lay _) ?_
 rintro _ W1 ⟨bi,g,ci,rfl,a2,hI⟩
 refine xc 20 (args:=#[P0 bi]) (Zgs bi _ (8*256) ci B47 _ hI.blk (Yk (Ze hI.row) hI.len) hI.len (by decide)) ?_
 rintro _ W2 ⟨_,rfl,a1,c4⟩
 have a0:=Zd c4 a2.size
 have a8:=hI.below a1
 unfold Nk at a0
 rw[a8.len] at a0
 obtain⟨q1,d1,rfl⟩:=(Ze a0).slice
 refine xc 0 (args:=#[.slice q1 (8*256) d1]) (ref_Of47 q1 d1 _ (Yk (Ze a0) Zay.1)) ?_
 rintro _ W3 ⟨_,rfl,a5,bj,pj,dj,rfl,_,hJ⟩
 refine xr 0 (args:=#[P0 bj]) (sup47 _ bj _ _ _ _ hJ) fun W4 a3=>?_
 refine xa 3 [V0 0,V0 0,V0 0,V0 0,V0 0,V0 0,V0 0,V0 0,V0 0,V0 0,V0 0] 24 fun b5 W5 n5=>?_
 refine xa 0 [S0,V0 0] 36 fun b6 W6 n6=>?_
 have k5:=n5.blk.below n6.below
 refine xsv 0 k5 [V0 0,V0 0,V0 1,V0 0,V0 8,V0 1,V0 2,V0 3,V0 4,V0 7,V0 5] fun W7 u7 k7=>?_
 have g5:=n5.ge (bln (bln (bln a2 a1) a5) a3)
 have k6:=u7.blkT n6.blk k5 (by decide)
 refine xsv 0 k6 [S0,V0 0] fun W8 u8 k8=>?_
 have g6:=n6.ge (bln (bln (bln (bln a2 a1) a5) a3) n5.below)
 have c2:=u8.blkT k7 k6 (by decide)
 refine xlv 5 c2.rp ?_
 have b7:=(((((a8.below a5).below a3).below n5.below).below n6.below).only (Zf.of_upd (T:=[24]) u7 k5 (by decide)) (by decide)).only (Zf.of_upd (T:=[36]) u8 k6 (by decide)) (by decide)
 refine xc 0 (args:=#[P0 bi,.agg #[V0 0,V0 0,V0 1,V0 0,V0 8,V0 1,V0 2,V0 3,V0 4,V0 7,V0 5]]) (links47W _ bi _ _ ci _ b7) ?_
 rintro _ W9 ⟨_,rfl,c1,pl,cl,rfl,hl⟩
 have c5:=(u8.below (u7.below (bln (bln (bln (bln (bln a2 a1) a5) a3) n5.below) n6.below) g5) g6).size
 have b8:=k8.below c1
 refine xb 10 1 b8 ?_
 have a9:=Zd hl c5
 refine xc 12 (args:=#[.slice pl 7 cl,V0 6]) (into47W pl cl _ (Ze a9)) ?_
 rintro _ c8 ⟨_,rfl,b0,q2,d2,rfl,h2⟩
 have b3:=(bln (u8.below (u7.below (bln (bln (bln (bln (bln a2 a1) a5) a3) n5.below) n6.below) g5) g6) c1).size
 refine xbs 0 1 [V0 7] 3 fun c3 d0 a4=>?_
 have hB:=bln (bln (u8.below (u7.below (bln (bln (bln (bln (bln a2 a1) a5) a3) n5.below) n6.below) g5) g6) c1) b0
 have c7:=a4.ge hB
 have a7:=Zd h2 b3
 have c0:=Zn a7 a4
 have b1:=Zb a7 a4.below
 refine xr 0 (args:=#[.slice q2 1 d2,.slice (S1 c3) 1 1]) (ref01_Same q2 (S1 c3) d2 1 [7] _ (Ze b1) (a4.blk.sl 1 1 (by decide) (by decide))) fun c6 a6=>?_
 have b2:=Zb (Zb (Zb a9 b0) a4.below) a6
 refine xc 3 (args:=#[.slice pl 7 cl,V0 0]) (below47W pl cl _ (Ze b2)) ?_
 rintro _ c9 ⟨_,rfl,b9,q3,d3,rfl⟩
 have b4:=bln (bln (bln hB a4.below) a6) b9
 exact xe 7 (.bool true) ⟨rfl,b4⟩
def triK(x:Lk):Int×Int×Int:=(x.1,x.2.1,x.2.2.1)
theorem tri_lk(L:List Lk):L.flatMap lkC=(L.map triK).flatMap ljC:=by rw[List.flatMap_map];rfl
theorem tri_lr(L:List Lk):L.flatMap lrC=(L.map triK).flatMap ljC:=by rw[List.flatMap_map];rfl
def Kc(O:Kx):List (Int×Int×Int):=if O.2.2=0 then O.1.map triK else []
structure KxOk(O:Kx):Prop where
 ok:O.2.2=0→O.2.1=[]
 len:O.2.1.length≤1
 few:O.1.length≤20000000
theorem Zef(l:Bl)(n:Nat):∀ (d:Nat) (out:List Lk) (x:Lk),(Xu l n d out x).2.1.length≤1
 | 0,_,_=>Nat.zero_le _
 | d+1,out,x=>by
  have a0:∀ (L:List Lk) (o:List Lk),(Qr (Xu l n d) o L).2.1.length≤1:=by
   intro L
   induction L with
   | nil=>intro o;exact Nat.zero_le _
   | cons y L ih =>
    intro o
    rw[Yd]
    split
    ·exact Zef l n d o y
    ·exact ih _
  unfold Xu
  split
  ·exact Nat.le_refl _
  split
  ·exact Nat.le_refl _
  split
  ·exact Nat.zero_le _
  split
  ·exact Nat.le_refl _
  ·exact a0 _ _
theorem Zca(l:Bl)(n d:Nat):∀ (L:List Lk) (o:List Lk),(Qr (Xu l n d) o L).2.1.length≤1
 | [],_=>Nat.zero_le _
 | y::L,o=>by
  rw[Yd]
  split
  ·exact Zef l n d o y
  ·exact Zca l n d L _
theorem Zgi(l:Bl)(s:Sup):KxOk (Xr l s):=by
 cases h:Zp s with
 | false=>rw[Oy h];exact⟨fun q=>(by cases q),Nat.zero_le _,Nat.zero_le _⟩
 | true =>
  rw[Jd h]
  refine⟨fun q=>Ul q,Zca _ _ _ _ _,?_⟩
  have hw:=(Nr (Ur l s.blocks.toNat (s.blocks.toNat+1)) (Az s) []).phi
  have hb:=Th h
  have hu:=Zb8 [] s.blocks.toNat
  unfold Ql at hw
  simp only[List.length_nil,Az,List.length_cons] at hw
  simp only[Az]
  omega
def LinksU(O:Kx)(w:World)(e:Ending)(w':World):Prop :=
 ∃ p c v,e=.returned (.tuple #[.slice p (Kc O).length c,v])∧B3 w w'∧w'.ownsRow w.heap.size 76 3 (.slice p (Kc O).length c) (Kc O).length ((Kc O).flatMap ljC)∧Hb w' (O.2.1.map some) (erT O.2.2) v
theorem Zdj.u{O:Kx}{w:World}{e:Ending}{w':World}(hO:KxOk O)(h:Zdj O w e w'):LinksU O w e w':=by
 rcases h with ⟨hc,ty,x,rfl,hb,hv⟩|⟨hc,p,c,rfl,hb,ho⟩
 ·have e1:Kc O=[]:=if_neg hc
  refine⟨none,0,.iface ty x,by rw[e1];rfl,hb,?_,?_⟩
  ·rw[e1];exact World.ownsRow_nil _ _ _ _
  ·unfold erT;rw[if_neg hc];exact hv
 ·have e1:Kc O=O.1.map triK:=if_pos hc
  refine⟨p,c,.nilIface,by rw[e1,List.length_map],hb,?_,?_⟩
  ·rw[e1,List.length_map,←tri_lk];exact ho
  ·rw[hO.ok hc,hc];rfl
def RLinkU(O:Kx)(w:World)(e:Ending)(w':World):Prop :=
 ∃ p c a d,e=.returned (.tuple #[.slice p (Kc O).length c,.agg #[.slice a O.2.1.length d,V0 O.2.2]])∧B3 w w'∧w'.ownsRow w.heap.size 81 3 (.slice p (Kc O).length c) (Kc O).length ((Kc O).flatMap ljC)∧w'.ownsRow w.heap.size 3 1 (.slice a O.2.1.length d) O.2.1.length (O.2.1.map V0)
theorem Zep.u{O:Kx}{w:World}{e:Ending}{w':World}(hO:KxOk O)(h:Zep O w e w'):RLinkU O w e w':=by
 rcases h with ⟨hc,a,m,d,rfl,rfl,hb,ho⟩|⟨hc,p,c,rfl,hb,ho⟩
 ·have e1:Kc O=[]:=if_neg hc
  refine⟨none,0,a,d,by rw[e1];rfl,hb,?_,ho⟩
  rw[e1];exact World.ownsRow_nil _ _ _ _
 ·have e1:Kc O=O.1.map triK:=if_pos hc
  refine⟨p,c,none,0,by rw[e1,List.length_map,hO.ok hc,hc];rfl,hb,?_,?_⟩
  ·rw[e1,List.length_map,←tri_lr];exact ho
  ·rw[hO.ok hc];exact World.ownsRow_nil _ _ _ _
theorem told_K{O:Kx}(hO:KxOk O)(v:Value)(w:World)(hg:ErrT w)(hv:Hb w (O.2.1.map some) (erT O.2.2) v):C0 13 #[v] w (Qe (fun w' r=>FltV w' r O.2.1 O.2.2) w):=by
 have hl:=hO.len
 by_cases hc:O.2.2=0
 ·have:=Ob none [] v w (by decide) hg (by rw[hO.ok hc,hc] at hv;exact hv)
  rw[hO.ok hc,hc];exact this
 ·have:=Ob (some O.2.2) (O.2.1.map some) v w (by rw[List.length_map];omega) hg (by unfold erT at hv;rw[if_neg hc] at hv;exact hv)
  rwa [Zfi,Zal] at this
theorem toldL_few{O:Kx}(h:KxOk O):(Kc O).length≤20000000:=by
 unfold Kc
 split
 ·rw[List.length_map];exact h.few
 ·exact Nat.zero_le _
theorem Zbk(a:O0)(c:Nat)(l:Bl)(s:Sup)(w:World)(h:Bys w (.slice a l.length c) l)(hg:ErrT w) :
 C0 3 #[.slice a l.length c,.agg #[V0 s.tx,V0 s.time,V0 s.unit,V0 s.data,V0 s.blocks,V0 s.top,V0 s.details,V0 s.dslots,V0 s.dover,V0 s.mindex,V0 s.mover]] w (Ret (.bool true) w):=by
 have i2:=h.cap rfl
 have b7:=Zgi (l.take ((l.length/256)*256)) s
 have i8:=toldL_few b7
 refine zin 40 Tryz.func3 ?_
 refine xa 2 [V0 s.tx,V0 s.time,V0 s.unit,V0 s.data,V0 s.blocks,V0 s.top,V0 s.details,V0 s.dslots,V0 s.dover,V0 s.mindex,V0 s.mover] 24 fun b1 W1 n1=>?_
 refine xid 11 ((l.length:Int)>(12000:Int)) (fun i9=>?_) (fun i9=>?_)
 ·refine xr 2 (args:=#[]) (Zbm _) fun W3 j0=>?_
  have hB:=bln n1.below j0
  exact xe 5 (.bool true) ⟨rfl,hB⟩
 refine xd 3 .z ?_
 have k1:=n1.blk.below (Za W1)
 refine xlv (.e [0] 2) k1.rp ?_
 have hB:=bln n1.below (Za W1)
 refine yc (.o [] 1) (args:=#[.slice a l.length c]) .z (image_OfR a c l.length ((l.length/256)*256) l _ rfl (by omega) (h.below hB) (by omega) i2) ?_
 rintro _ W4 ⟨_,rfl,f4,bi,pi,ci,rfl,_,hI⟩
 refine⟨f4,?_⟩
 refine yc (.o [] 3) (args:=#[P0 bi,.agg #[V0 s.tx,V0 s.time,V0 s.unit,V0 s.data,V0 s.blocks,V0 s.top,V0 s.details,V0 s.dslots,V0 s.dover,V0 s.mindex,V0 s.mover]]) .z ((Zaf _ bi pi _ ci (l.take ((l.length/256)*256)) s _ hI).mono (fun _ _ q=>q.u b7)) ?_
 rintro _ W5 ⟨p1,c1,v1,rfl,g1,h8,h5⟩
 have g7:=(bln hB f4).size
 refine⟨g1,?_⟩
 refine xd (.r [4,5,6,7,8] 3) (.t w.heap.size [36]) ?_
 have i0:=((k1.below f4).below g1).below (Za W5)
 refine xlvt (.e [0] 2) (.t w.heap.size [36]) (fun V hV=>(i0.only hV.2 (by decide)).rp) ?_
 refine xm2 0 1 7 ?_ ?_
 ·have a7:=bln (bln (bln hB f4) g1) (Za W5)
  refine yc 0 (args:=#[.slice a l.length c]) (.t w.heap.size [36]) (Zfb a c l.length (l.length/256) l _ rfl (by omega) (h.below a7) (by omega)) ?_
  rintro _ W6 ⟨_,rfl,b4,bj,pj,cj,rfl,_,hJ⟩
  refine⟨(SF.of_below _ b4),?_⟩
  refine xm2 0 3 7 ?_ ?_
  ·refine yc 0 (args:=#[P0 bj,.agg #[V0 s.tx,V0 s.time,V0 s.unit,V0 s.data,V0 s.blocks,V0 s.top,V0 s.details,V0 s.dslots,V0 s.dover,V0 s.mindex,V0 s.mover]]) (.t w.heap.size [36]) ((Mx _ bj pj _ cj (l.take ((l.length/256)*256)) s _ hJ).mono (fun _ _ q=>q.u b7)) ?_
   rintro _ W7 ⟨p2,c2,a2,d2,rfl,g2,f3,e4⟩
   have i5:=(bln a7 b4).size
   refine⟨(SF.of_below _ g2),?_⟩
   refine xa (.o [4,5,6] 7) [S0,V0 0] 36 fun b8 W8 n8=>?_
   have b9:=bln (bln a7 b4) g2
   have g8:=n8.ge b9
   refine ysv (.o [8] 9) n8.blk [.slice a2 ((Xr (l.take ((l.length/256)*256)) s).2.1.length) d2,V0 ((Xr (l.take ((l.length/256)*256)) s).2.2)] (.t w.heap.size [36]) fun W9 u9 k9=>⟨(Zl u9 n8.blk g8 (by decide)),?_⟩
   refine xd 3 .z ?_
   have f1:=Zb (u9.own2 (Zb (Zb (Zb (Zb (Zd h8 g7) (Za W5)) b4) g2) n8.below) n8.blk (by decide)) (Za W9)
   refine yc (.o [0,2] 1) (args:=#[.slice p1 ((Kc (Xr (l.take ((l.length/256)*256)) s)).length) c1]) .z (Tf p1 c1 (Kc (Xr (l.take ((l.length/256)*256)) s)) _ (Ze f1) (by omega)) ?_
   rintro _ j1 ⟨_,rfl,a5,p3,c3,rfl,f6⟩
   have i1:=(bln (u9.below (bln b9 n8.below) g8) (Za W9)).size
   refine⟨a5,?_⟩
   have e3:=Zd f6 i1
   have e1:=Zb (Zb (u9.own2 (Zb (Zd f3 i5) n8.below) n8.blk (by decide)) (Za W9)) a5
   refine xr (.o [] 3) (args:=#[.slice p3 ((Kc (Xr (l.take ((l.length/256)*256)) s)).length) c3,.slice p2 ((Kc (Xr (l.take ((l.length/256)*256)) s)).length) c2]) (Dt p3 p2 c3 c2 (Kc (Xr (l.take ((l.length/256)*256)) s)) _ (Ze e3) (Ze e1)) fun j3 b0=>?_
   have g3:=((k9.below (Za W9)).below a5).below b0
   refine xlv (.e [4,5] 7) g3.rp ?_
   have f7:=(((((((h5.below (Za W5)).below b4).below g2).below n8.below).only (Zf.of_upd (T:=[36]) u9 n8.blk (by decide)) (by decide)).below (Za W9)).below a5).below b0
   have d6:=bln (bln (bln (u9.below (bln b9 n8.below) g8) (Za W9)) a5) b0
   refine yc (.o [] 6) (args:=#[v1]) .z (told_K (O:=(Xr (l.take ((l.length/256)*256)) s)) b7 v1 _ (hg.below d6) f7) ?_
   rintro _ k2 ⟨vt,rfl,c4,hq⟩
   refine⟨c4,?_⟩
   have d4:=Zb (Zb (Zb (Zb (u9.own2 (Zb (Zd e4 i5) n8.below) n8.blk (by decide)) (Za W9)) a5) b0) c4
   refine xr (.o [] 8) (args:=#[vt,.agg #[.slice a2 ((Xr (l.take ((l.length/256)*256)) s).2.1.length) d2,V0 ((Xr (l.take ((l.length/256)*256)) s).2.2)]]) (Du (Xr (l.take ((l.length/256)*256)) s).2.1 (Xr (l.take ((l.length/256)*256)) s).2.2 vt _ _ hq ⟨_,rfl,Ze d4⟩) fun j4 h2=>?_
   refine xr (.o [9,10] 11) (args:=#[]) (Zbm _) fun j2 i3=>?_
   have h6:=bln (bln (bln d6 c4) h2) i3
   exact xe (.r [12,13] 3) (.bool true) ⟨rfl,h6⟩
  refine xa 0 [S0,V0 0] 36 fun j8 l2 b5=>?_
  have a9:=bln a7 b4
  have g5:=b5.ge a9
  have h1:=hJ.below b5.below
  refine yc (.o [] 3) (args:=#[P0 bj,.agg #[V0 s.tx,V0 s.time,V0 s.unit,V0 s.data,V0 s.blocks,V0 s.top,V0 s.details,V0 s.dslots,V0 s.dover,V0 s.mindex,V0 s.mover]]) (.t w.heap.size [36]) ((Mx _ bj pj _ cj (l.take ((l.length/256)*256)) s _ h1).mono (fun _ _ q=>q.u b7)) ?_
  rintro _ k7 ⟨p2,c2,a2,d2,rfl,a3,f3,e4⟩
  have d5:=(bln a9 b5.below).size
  refine⟨(SF.of_below _ a3),?_⟩
  have d1:=b5.blk.below a3
  refine ysv (.o [4,5,6,8] 9) d1 [.slice a2 ((Xr (l.take ((l.length/256)*256)) s).2.1.length) d2,V0 ((Xr (l.take ((l.length/256)*256)) s).2.2)] (.t w.heap.size [36]) fun c5 c8 i6=>⟨(Zl c8 d1 g5 (by decide)),?_⟩
  refine xd 3 .z ?_
  have f0:=Zb (c8.own2 (Zb (Zb (Zb (Zb (Zd h8 g7) (Za W5)) b4) b5.below) a3) d1 (by decide)) (Za c5)
  refine yc (.o [0,2] 1) (args:=#[.slice p1 ((Kc (Xr (l.take ((l.length/256)*256)) s)).length) c1]) .z (Tf p1 c1 (Kc (Xr (l.take ((l.length/256)*256)) s)) _ (Ze f0) (by omega)) ?_
  rintro _ k8 ⟨_,rfl,a1,p3,c3,rfl,f6⟩
  have g9:=(bln (c8.below (bln (bln a9 b5.below) a3) g5) (Za c5)).size
  refine⟨a1,?_⟩
  have e0:=Zd f6 g9
  have d8:=Zb (Zb (c8.own2 (Zd f3 d5) d1 (by decide)) (Za c5)) a1
  refine xr (.o [] 3) (args:=#[.slice p3 ((Kc (Xr (l.take ((l.length/256)*256)) s)).length) c3,.slice p2 ((Kc (Xr (l.take ((l.length/256)*256)) s)).length) c2]) (Dt p3 p2 c3 c2 (Kc (Xr (l.take ((l.length/256)*256)) s)) _ (Ze e0) (Ze d8)) fun l3 b2=>?_
  have f5:=((i6.below (Za c5)).below a1).below b2
  refine xlv (.e [4,5] 7) f5.rp ?_
  have e2:=(((((((h5.below (Za W5)).below b4).below b5.below).below a3).only (Zf.of_upd (T:=[36]) c8 d1 (by decide)) (by decide)).below (Za c5)).below a1).below b2
  have f9:=bln (bln (bln (c8.below (bln (bln a9 b5.below) a3) g5) (Za c5)) a1) b2
  refine yc (.o [] 6) (args:=#[v1]) .z (told_K (O:=(Xr (l.take ((l.length/256)*256)) s)) b7 v1 _ (hg.below f9) e2) ?_
  rintro _ l1 ⟨vt,rfl,c6,hq⟩
  refine⟨c6,?_⟩
  have e8:=Zb (Zb (Zb (Zb (c8.own2 (Zd e4 d5) d1 (by decide)) (Za c5)) a1) b2) c6
  refine xr (.o [] 8) (args:=#[vt,.agg #[.slice a2 ((Xr (l.take ((l.length/256)*256)) s).2.1.length) d2,V0 ((Xr (l.take ((l.length/256)*256)) s).2.2)]]) (Du (Xr (l.take ((l.length/256)*256)) s).2.1 (Xr (l.take ((l.length/256)*256)) s).2.2 vt _ _ hq ⟨_,rfl,Ze e8⟩) fun k6 h7=>?_
  refine xr (.o [9,10] 11) (args:=#[]) (Zbm _) fun k3 g6=>?_
  have h4:=bln (bln (bln f9 c6) h7) g6
  exact xe (.r [12,13] 3) (.bool true) ⟨rfl,h4⟩
 refine xa 0 [S0,V0 0] 36 fun k4 j7 e9=>?_
 have d3:=bln (bln (bln hB f4) g1) (Za W5)
 have h0:=e9.ge d3
 have a8:=bln d3 e9.below
 refine yc (.o [] 1) (args:=#[.slice a l.length c]) (.t w.heap.size [36]) (Zfb a c l.length (l.length/256) l _ rfl (by omega) (h.below a8) (by omega)) ?_
 rintro _ k5 ⟨_,rfl,a0,bj,pj,cj,rfl,_,hJ⟩
 refine⟨(SF.of_below _ a0),?_⟩
 refine yc (.o [] 3) (args:=#[P0 bj,.agg #[V0 s.tx,V0 s.time,V0 s.unit,V0 s.data,V0 s.blocks,V0 s.top,V0 s.details,V0 s.dslots,V0 s.dover,V0 s.mindex,V0 s.mover]]) (.t w.heap.size [36]) ((Mx _ bj pj _ cj (l.take ((l.length/256)*256)) s _ hJ).mono (fun _ _ q=>q.u b7)) ?_
 rintro _ j5 ⟨p2,c2,a2,d2,rfl,a4,f3,e4⟩
 have e6:=(bln a8 a0).size
 refine⟨(SF.of_below _ a4),?_⟩
 have d0:=(e9.blk.below a0).below a4
 refine ysv (.o [4,5,6,8] 9) d0 [.slice a2 ((Xr (l.take ((l.length/256)*256)) s).2.1.length) d2,V0 ((Xr (l.take ((l.length/256)*256)) s).2.2)] (.t w.heap.size [36]) fun c7 c9 i7=>⟨(Zl c9 d0 h0 (by decide)),?_⟩
 refine xd 3 .z ?_
 have g0:=Zb (c9.own2 (Zb (Zb (Zb (Zb (Zd h8 g7) (Za W5)) e9.below) a0) a4) d0 (by decide)) (Za c7)
 refine yc (.o [0,2] 1) (args:=#[.slice p1 ((Kc (Xr (l.take ((l.length/256)*256)) s)).length) c1]) .z (Tf p1 c1 (Kc (Xr (l.take ((l.length/256)*256)) s)) _ (Ze g0) (by omega)) ?_
 rintro _ l0 ⟨_,rfl,a6,p3,c3,rfl,f6⟩
 have h9:=(bln (c9.below (bln (bln a8 a0) a4) h0) (Za c7)).size
 refine⟨a6,?_⟩
 have f8:=Zd f6 h9
 have d7:=Zb (Zb (c9.own2 (Zd f3 e6) d0 (by decide)) (Za c7)) a6
 refine xr (.o [] 3) (args:=#[.slice p3 ((Kc (Xr (l.take ((l.length/256)*256)) s)).length) c3,.slice p2 ((Kc (Xr (l.take ((l.length/256)*256)) s)).length) c2]) (Dt p3 p2 c3 c2 (Kc (Xr (l.take ((l.length/256)*256)) s)) _ (Ze f8) (Ze d7)) fun l4 b3=>?_
 have f2:=((i7.below (Za c7)).below a6).below b3
 refine xlv (.e [4,5] 7) f2.rp ?_
 have e7:=(((((((h5.below (Za W5)).below e9.below).below a0).below a4).only (Zf.of_upd (T:=[36]) c9 d0 (by decide)) (by decide)).below (Za c7)).below a6).below b3
 have b6:=bln (bln (bln (c9.below (bln (bln a8 a0) a4) h0) (Za c7)) a6) b3
 refine yc (.o [] 6) (args:=#[v1]) .z (told_K (O:=(Xr (l.take ((l.length/256)*256)) s)) b7 v1 _ (hg.below b6) e7) ?_
 rintro _ k0 ⟨vt,rfl,c0,hq⟩
 refine⟨c0,?_⟩
 have d9:=Zb (Zb (Zb (Zb (c9.own2 (Zd e4 e6) d0 (by decide)) (Za c7)) a6) b3) c0
 refine xr (.o [] 8) (args:=#[vt,.agg #[.slice a2 ((Xr (l.take ((l.length/256)*256)) s).2.1.length) d2,V0 ((Xr (l.take ((l.length/256)*256)) s).2.2)]]) (Du (Xr (l.take ((l.length/256)*256)) s).2.1 (Xr (l.take ((l.length/256)*256)) s).2.2 vt _ _ hq ⟨_,rfl,Ze d9⟩) fun j9 i4=>?_
 refine xr (.o [9,10] 11) (args:=#[]) (Zbm _) fun j6 h3=>?_
 have e5:=bln (bln (bln b6 c0) i4) h3
 exact xe (.r [12,13] 3) (.bool true) ⟨rfl,e5⟩
end Go.Proofs.YtceeiinepijokaaGreatDoor
namespace Go.Proofs.YtceeiinepijokaaGreatDoor
set_option maxHeartbeats 8000000
set_option maxRecDepth 100000
open Go.ChangeShapes Go.WideShapes Go.ChangeAt Go.RowKit Go.Joins
set_option linter.unusedVariables false
theorem bytes_open{H:Type}{enc:TypeId×Value→H}{P:Program}{W:World}{r:Reach}{b0:Nat}{t e:TypeId}{v:Value}{d:DataW H}{p:List MemPlace}(ht:P.underlying t=some (.slice e))(he:P.underlying e=some (.int .u8))(hC:P.cellsOf e=1)
 (hv:Value.okWide P W r b0 t v) (h:DataW.Trod enc P W 0 (fun _=>true) true t v d p):∃ l,Bys W v l:=by
 obtain⟨a,a1,a7,rfl⟩:=okWide_slice ht hv
 obtain⟨a8,hf⟩:=h
 rcases open_ints ht he hC hf with ⟨a3,_⟩|⟨x,l,c,zs,a3,_,hl,hm,hz,_,a0,b2⟩
 ·simp[Value.cells] at a3
  obtain⟨rfl,rfl,rfl⟩:=a3
  exact⟨[],.inl ⟨_,_,rfl,rfl,rfl⟩⟩
 ·simp[Value.cells] at a3
  obtain⟨rfl,rfl,rfl⟩:=a3
  have b3:zs.length=a7:=by simpa using hz
  by_cases h0:a1=0
  ·subst h0
   exact⟨[],.inl ⟨_,_,rfl,rfl,rfl⟩⟩
  ·obtain⟨b,b1,a5⟩:=x
   have hc:=a0 0 (by omega)
   have a2:a5=none:=by simpa [Addr.add] using World.cell?_spot hc
   subst a2
   have a6:((zs.take a1).map fun n=>UInt8.ofNat n.toNat).length=a1:=by simp;omega
   refine⟨(zs.take a1).map fun n=>UInt8.ofNat n.toNat,.inr ⟨b,b1,a7,by rw[a6],by omega,hm,fun j x hj=>?_⟩⟩
   have a9:j<a1:=by have:=(List.getElem?_eq_some_iff.1 hj).1;simp at this;omega
   have e1:zs[j]? = some zs[j]:=List.getElem?_eq_getElem (by omega)
   have hw:=b2 zs[j] (List.getElem_mem _)
   have a4:=a0 j (by omega)
   have e2:zs.getD j 0=zs[j]:=by simp[List.getD,e1]
   rw[e2] at a4
   have hx:x=.int .u8 zs[j]:=by
    rw[List.getElem?_map,List.getElem?_map,List.getElem?_take_of_lt a9,e1] at hj
    simp only[Option.map_some,Option.some.injEq] at hj
    rw[←hj]
    have hb:0≤zs[j]∧zs[j]≤255:=by simpa [Lit.wf,IntKind.min,IntKind.max,IntKind.signed,IntKind.bits] using hw
    have h3:(zs[j].toNat%256:Nat)=zs[j].toNat:=Nat.mod_eq_of_lt (by omega)
    simp only[bv,UInt8.toNat_ofNat']
    rw[show(2 ^ 8:Nat)=256 from rfl,h3,Int.toNat_of_nonneg hb.1]
   subst hx
   by_cases hj0:j=0
   ·subst hj0;simpa [Addr.add] using a4
   ·simpa [Addr.add,hj0] using a4
end Go.Proofs.YtceeiinepijokaaGreatDoor
namespace Go.Proofs.YtceeiinepijokaaGreatDoor
set_option maxHeartbeats 8000000
set_option maxRecDepth 100000
open Go.ChangeShapes Go.WideShapes Go.ChangeAt Go.RowKit Go.Joins Go.Deep
set_option linter.unusedVariables false
def intOfS:Value→Int
 | .int _ z=>z
 | _=>0
theorem Ze7{H:Type}{enc:TypeId×Value→H}{P:Program}{W:World}{r:Reach}{b0:Nat}{t ti:TypeId}{fs:Array Field}{v:Value}{d:DataW H}{p:List MemPlace}(hs:P.underlying t=some (.struct fs))(hone:oneCellFields P fs=true)(hC:P.cellsOf t=fs.size)
 (hf:fs.toList.all (fun f=>f.type==ti)=true) (hti:P.underlying ti=some (.int .i64)) (hv:Value.okWide P W r b0 t v) (h:DataW.Trod enc P W 0 (fun _=>true) true t v d p) :
 ∃ N:List Int,N.length=fs.size∧v=.agg (N.map V0).toArray:=by
 obtain⟨cs,rfl,a8⟩:=okWide_struct hs hv
 obtain⟨a4,hx⟩:=h
 obtain⟨xs,n,_,_,hl,a7,a5⟩:=DataW.trod_struct hs hx
 have a6:∀ i,i<fs.size→∃ z:Int,cs[i]? = some (V0 z):=by
  intro i hi
  have a1:fs[i]? = some fs[i]:=by simp[hi]
  obtain⟨o0,k0⟩:=hone_of hone i fs[i] a1
  have a0:fs[i].type=ti:=by
   have:=List.all_eq_true.1 hf fs[i] (by simp)
   simpa using this
  have hq:=a5 i fs[i] a1
  have a2:i<cs.size:=by omega
  have e:((Value.agg cs).cells.toList.drop fs[i].offset).take (P.cellsOf fs[i].type)=[cs[i]]:=by
   rw[o0,k0]
   simp[Value.cells,List.drop_eq_getElem_cons,a2]
  rw[e,a0,List.getElem?_eq_getElem (show i<xs.length by omega)] at hq
  obtain⟨z,hz,_⟩:=DataW.trod_int hti hq
  simp only[List.cons.injEq,and_true] at hz
  exact⟨z,by simp[a2,hz]⟩
 refine⟨cs.toList.map intOfS,by simp;omega,?_⟩
 congr 1
 apply Array.ext'
 rw[List.toList_toArray]
 apply List.ext_getElem?
 intro i
 by_cases hi:i<fs.size
 ·obtain⟨z,hz⟩:=a6 i hi
  have a3:cs.toList[i]? = some (V0 z):=by simpa using hz
  rw[a3,List.getElem?_map,List.getElem?_map,a3];rfl
 ·rw[List.getElem?_eq_none (by simp;omega),List.getElem?_eq_none (by simp;omega)]
theorem sup_open{H:Type}{enc:TypeId×Value→H}{P:Program}{W:World}{r:Reach}{b0:Nat}{t ti:TypeId}{fs:Array Field}{v:Value}{d:DataW H}{p:List MemPlace}(hs:P.underlying t=some (.struct fs))(hone:oneCellFields P fs=true)(hC:P.cellsOf t=fs.size)(h11:fs.size=11)
 (hf:fs.toList.all (fun f=>f.type==ti)=true) (hti:P.underlying ti=some (.int .i64)) (hv:Value.okWide P W r b0 t v) (h:DataW.Trod enc P W 0 (fun _=>true) true t v d p) :
 ∃ s:Sup,v=.agg (supC s).toArray:=by
 obtain⟨N,hN,rfl⟩:=Ze7 hs hone hC hf hti hv h
 rw[h11] at hN
 match N,hN with
 | [a,b,c,d,e,f,g,h,i,j,k],_=>exact⟨⟨a,b,c,d,e,f,g,h,i,j,k⟩,rfl⟩
end Go.Proofs.YtceeiinepijokaaGreatDoor
