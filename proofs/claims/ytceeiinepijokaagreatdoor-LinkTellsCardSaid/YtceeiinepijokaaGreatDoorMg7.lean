/- plot.Data with room, for up to 65536 counts. -/
import Derived.Defers
import Derived.Recover
import Derived.Shelf.Sort.Plain
import Derived.Shelf.Slices.In.SortNone
import Derived.Ground.SlgnProg
import Derived.Shelf.SlicesG.CompactI
import Derived.Test.YtceeiinepijokaaGreatDoorProg
import Derived.Sort.OwnSortedInts
import Derived.Lib.SlicesCompact
import Derived.ArgAppend
import Derived.Lib.SmallJoins
import Derived.Test.YtceeiinepijokaaGreatDoorMg6
namespace Go.Proofs.YtceeiinepijokaaGreatDoor
set_option maxHeartbeats 8000000
set_option maxRecDepth 100000
open Go.RowKit Go.Extern.Stop Go.Stop Go.Extern
set_option linter.unusedVariables false
attribute [local irreducible] wpList wpAnyH Code.wp Oper.wp Go
theorem plotN_bdW{l:List Int}(h:l.length≤65536)(ho:(Zy l l.length).length≤32768):2≤Pr l∧Pr l≤80000∧bmN l.length≤69:=by
 have h4:=Hn 4 (bmN l.length)
 have h5:=Hn 5 (Zy l l.length).length
 have a1:=Wr 4 (bmN l.length)
 have a0:=Wr 5 (Zy l l.length).length
 have hb:bmN l.length≤69:=by unfold bmN;omega
 unfold Pr
 omega
theorem Di(B ba b g nn cc:Nat)(pa:O0)(ca f N k0:Nat)(bs:Bl)(a:O0)(c:Nat)(l:List Int)(w:World)(hC:AlC B ba nn cc ca f N)(hA:Al B ba b g nn cc pa ca f N k0 bs w)(h:Sl w (.slice a l.length c) l.length (l.map V0))(hl:l.length≤65536)(ho:(Zy l l.length).length≤32768)(hs:Ji l=0)(hf1:1≤f)(hkN:k0≤N)(hk:k0+Pr l≤N)(hBw:B≤w.heap.size) :
 C0 97 #[P0 ba,.slice a l.length c] w (DataP B ba b g nn cc pa ca f N k0 bs l w):=by
 have d8:=hC.hf
 have d9:=hC.hn
 have d3:=plotN_bdW hl ho
 have c5:=So hs
 have d5:=Cg l l.length
 have d4:Pr l=(bmN l.length)+Xy 4 (bmN l.length)+Xy 5 (Zy l l.length).length:=rfl
 have d7:=Hn 4 (bmN l.length)
 have d6:=Hn 5 (Zy l l.length).length
 refine zin 70 Tryz.func97 ?_
 refine xr 11 (args:=#[P0 ba]) (Qr ba b _ _ _ hA.blkA) fun W1 a0=>?_
 refine xc 9 (args:=#[.slice a l.length c]) (Ms a c l _ (h.below a0) (by omega) hs) ?_
 rintro _ W2 ⟨pb,cb,gs,po,co,rfl,a4,hL,b4⟩
 have c2:=(blB (Below.refl B w) hBw a0).size
 have a9:=(hA.below a0).below a4
 refine xr 23 (args:=#[P0 ba]) (Ds ba b pa N ca k0 _ a9.blkA hkN) fun W3 a3=>?_
 refine xr 4 (args:=#[V0 4,V0 (↑(bmN l.length):Int)]) (Qw 4 (bmN l.length) _ (by decide) (by decide) (by omega)) fun W4 a2=>?_
 refine xwm 0 ((↑(bmN l.length):Int)+(↑(Xy 4 (bmN l.length)):Int)) (↑((bmN l.length)+(Xy 4 (bmN l.length))):Int) ?_
 refine xr 2 (args:=#[V0 5,V0 (↑((Zy l l.length).length):Int)]) (Qw 5 (Zy l l.length).length _ (by decide) (by decide) (by omega)) fun W5 a1=>?_
 refine xwm 0 ((↑((bmN l.length)+(Xy 4 (bmN l.length))):Int)+(↑(Xy 5 (Zy l l.length).length):Int)) (↑(((bmN l.length)+(Xy 4 (bmN l.length)))+(Xy 5 (Zy l l.length).length)):Int) ?_
 refine xk 3 (show(decide ((↑(N-k0):Int)<(↑(((bmN l.length)+(Xy 4 (bmN l.length)))+(Xy 5 (Zy l l.length).length)):Int)):Bool)=false from decide_eq_false (by omega)) ?_
 refine xa 4 [S0] 123 fun b6 W6 n6=>?_
 have hX:=(((((show Fr [ba,g] w _ from(Fr.of_below a0)).trans (Fr.of_below a4)).trans (Fr.of_below a3)).trans (Fr.of_below a2)).trans (Fr.of_below a1)).trans (Fr.of_below n6.below)
 have a6:=Zb (Zb (Zb (Zb (Zd b4 c2) a3) a2) a1) n6.below
 have a7:=(((a9.below a3).below a2).below a1).below n6.below
 have b7:=fun(W:World) (hX:Fr ([ba,g]++[b6]) _ W)=>own_keep a6 a7 n6.blk hX
 have b5:=(((hL.below a3).below a2).below a1).below n6.below
 have g6:=n6.ge0 (blB (blB (blB (blB (blB (Below.refl B w) hBw a0) hBw a4) hBw a3) hBw a2) hBw a1)
 have hB:=blB (blB (blB (blB (blB (blB (Below.refl B w) hBw a0) hBw a4) hBw a3) hBw a2) hBw a1) hBw n6.below
 refine xc 8 (args:=#[P0 ba,.slice pb (bmN l.length) cb,.func (.func 159) #[] #[P0 b6]]) (plot_layDN B ba b g nn cc pa ca f N k0 bs b6 _ pb cb gs (Xp (Zu l) (bmN l.length)) (bmN l.length) (Hw _ _) _ hC a7 b5 (Fi c5.2 _) hf1 (by omega) n6.blk (Nat.le_trans hBw g6) (Nat.le_trans hBw hB.size)) ?_
 rintro _ W7 ⟨p8,c8,rfl,d2,d0,b8,hA,c0,c3⟩
 have d1:=(blB (blB (blB (blB (blB (blB (Below.refl B w) hBw a0) hBw a4) hBw a3) hBw a2) hBw a1) hBw n6.below).size
 replace b4:=b7 _ b8
 refine xb 15 0 c0 ?_
 have a8:=Zd c3 d1
 have b1:=hB.trans d2
 refine xc 0 (args:=#[P0 ba,V0 4,.slice p8 (bmN l.length) c8]) (Wq B ba b g nn cc pa ca f N (k0+(bmN l.length)) (Kr (Xp (Zu l) (bmN l.length)) (f+k0) bs (bmN l.length)) 4 p8 c8 (Yj (Xp (Zu l) (bmN l.length)) (f+k0) (bmN l.length)) (bmN l.length) _ (Hl _ _ _) hC hA (by decide) (by decide) (Oc _ _ _ (by omega)) (by omega) hf1 (by omega) (by omega) (fun W _ h2=>by unfold Sts;rw[Hl];exact Ze (Zj a8 h2 (by decide))) (Nat.le_trans hBw b1.size)) ?_
 rintro _ W8 ⟨rfl,c6,b9,c4,hA⟩
 rw[Hl] at hA
 have a5:=Zj b4 b9 (by decide)
 have b0:=b1.trans c6
 refine xc 21 (args:=#[P0 ba,V0 5,.slice po ((Zy l l.length).length) co]) (Wq B ba b g nn cc pa ca f N (k0+(bmN l.length)+Xy 4 (bmN l.length)) (Ym 4 (Yj (Xp (Zu l) (bmN l.length)) (f+k0) (bmN l.length)) (f+(k0+(bmN l.length))) (Kr (Xp (Zu l) (bmN l.length)) (f+k0) bs (bmN l.length))).2 5 po co (Zy l l.length) (Zy l l.length).length _ rfl hC hA (by decide) (by decide) (Ch _ _ (by omega)) (by omega) hf1 (by omega) (by omega) (fun W _ h2=>Ze (Zj a5 h2 (by decide))) (Nat.le_trans hBw b0.size)) ?_
 rintro _ W9 ⟨rfl,c9,c7,c1,hA⟩
 have b3:=b0.trans c9
 have hO:=((((((((show Zf [200,5,123,132,28] w _ from(Zf.of_below a0)).trans (Zf.of_below a4)).trans (Zf.of_below a3)).trans (Zf.of_below a2)).trans (Zf.of_below a1)).trans (Zf.of_below n6.below)).trans (d0.wide)).trans (b9.wide)).trans (c7.wide)
 have b2:=((Fr.trans_new hX b8 g6).trans (c4.mono (by simp))).trans (c1.mono (by simp))
 refine xe 27 (.tuple #[V0 ((Ym 4 (Yj (Xp (Zu l) (bmN l.length)) (f+k0) (bmN l.length)) (f+(k0+(bmN l.length))) (Kr (Xp (Zu l) (bmN l.length)) (f+k0) bs (bmN l.length))).1),V0 ((Ym 5 (Zy l l.length) (f+(k0+(bmN l.length)+Xy 4 (bmN l.length))) (Ym 4 (Yj (Xp (Zu l) (bmN l.length)) (f+k0) (bmN l.length)) (f+(k0+(bmN l.length))) (Kr (Xp (Zu l) (bmN l.length)) (f+k0) bs (bmN l.length))).2).1),.nilIface]) ?_
 have e1:f+(k0+(bmN l.length))=f+k0+(bmN l.length):=by omega
 have e2:f+(k0+(bmN l.length)+Xy 4 (bmN l.length))=f+k0+(bmN l.length)+Xy 4 (bmN l.length):=by omega
 rw[e2,e1] at hA ⊢
 have e3:k0+(bmN l.length)+Xy 4 (bmN l.length)+Xy 5 (Zy l l.length).length=k0+Pr l:=by omega
 rw[e3] at hA
 exact⟨rfl,b3,hO,b2,hA⟩
theorem As(w:World) :
 C0 256 #[] w (Qe (fun w' r=>∃ b,r=.slice (S1 b) 1 1∧w.heap.size≤b∧Blk w' b [V0 8,V0 0,V0 1099511627775] 312) w):=by
 refine zin 3 Tryz.func256 ?_
 refine xbs 8 1 [V0 8,V0 0,V0 1099511627775] 312 fun b1 W1 n1=>?_
 exact xe 4 (.slice (S1 b1) 1 1) ⟨_,rfl,n1.below,b1,rfl,(n1.ge (B4 w)),n1.blk⟩
theorem Mo(w:World) :
 C0 215 #[] w (Qe (fun w' r=>∃ b,r=.slice (S1 b) 4 4∧w.heap.size≤b∧Blk w' b [V0 8,V0 0,V0 16384,V0 8,V0 0,V0 2147483647,V0 4,V0 0,V0 16777215,V0 4,V0 0,V0 16777215] 312) w):=by
 refine zin 6 Tryz.func215 ?_
 refine xbs 11 4 [V0 8,V0 0,V0 16384,V0 8,V0 0,V0 2147483647,V0 4,V0 0,V0 16777215,V0 4,V0 0,V0 16777215] 312 fun b1 W1 n1=>?_
 exact xe 4 (.slice (S1 b1) 4 4) ⟨_,rfl,n1.below,b1,rfl,(n1.ge (B4 w)),n1.blk⟩
theorem Eg(ps:List Ma)(N:List Int)(gl gn:O0)(cl cn n:Nat)(w:World)(hps:Hs ps)(hn:n=ps.length)(hNl:N.length=n)(hP:Sts Zf2 w (.slice gl ps.length cl) ps)(hN:Sl w (.slice gn n cn) n (N.map V0))(h:Pg ps N n=true) :
  C0 181 #[.slice gl ps.length cl,.slice gn n cn] w (Ret (.string ⟨(Zg8 ps N ps.length).toArray⟩) w):=(Tx ps N gl gn cl cn n w hps hn hNl hP hN).mono (by
 rintro e W q
 rcases q with ⟨q,_⟩|⟨_,rfl,hb⟩
 ·rw[h] at q;cases q
 ·exact⟨rfl,hb⟩)
theorem map_or{b t:Int}(h1:0≤b∧b≤65535)(h2:0≤t∧t≤16777215):IntKind.i64.wrap (↑(BitVec.ofInt 64 (b*16777216) ||| BitVec.ofInt 64 t).toNat:Int)=b*16777216+t:=by
 obtain⟨p,rfl⟩:∃ p:Nat,b=(p:Int):=⟨b.toNat,by omega⟩
 obtain⟨q,rfl⟩:∃ q:Nat,t=(q:Int):=⟨t.toNat,by omega⟩
 have e:((p:Int)*16777216)=((p*16777216:Nat):Int):=by omega
 rw[e,BitVec.ofInt_natCast,BitVec.ofInt_natCast,BitVec.toNat_or,BitVec.toNat_ofNat,BitVec.toNat_ofNat,Nat.mod_eq_of_lt (by omega),Nat.mod_eq_of_lt (by omega)]
 have h:=Nat.two_pow_add_eq_or_of_lt (i:=24) (b:=q) (by omega) p
 rw[show(2:Nat) ^ 24*p=p*16777216 by omega] at h
 rw[←h]
 exact(IntWalk.i64_in _ (by omega)).trans (by omega)
theorem value_MapP(m:Mp)(w:World)(h1:0≤m.2.1∧m.2.1≤65535)(h2:0≤m.2.2∧m.2.2≤16777215) :
 C0 213 #[V0 m.2.1,V0 m.2.2] w (Ret (.string ⟨(mapV m).toArray⟩) w):=by
 refine zin 26 Tryz.func213 ?_
 refine xgk 11 [6,7] (show(decide (m.2.1<(0:Int)):Bool)=false from decide_eq_false (by omega)) ?_
 refine xgk 4 [9,10,11] (show(decide (m.2.1≥(65536:Int)):Bool)=false from decide_eq_false (by omega)) ?_
 refine xgk 4 [13,14,15] (show(decide (m.2.2<(0:Int)):Bool)=false from decide_eq_false (by omega)) ?_
 refine xk 5 (show(decide (m.2.2>(16777215:Int)):Bool)=false from decide_eq_false (by omega)) ?_
 refine xc 4 (args:=#[]) (As _) ?_
 rintro _ W4 ⟨_,rfl,a2,gl,rfl,gg,kl⟩
 refine xq 1 (congrArg V0 (show(IntKind.i64.wrap (m.2.1*2 ^ 24):Int)=m.2.1*16777216 from IntWalk.i64_in _ (by omega))) ?_
 refine xq 1 (congrArg V0 (show(IntKind.i64.wrap (↑(BitVec.ofInt 64 (m.2.1*16777216) ||| BitVec.ofInt 64 m.2.2).toNat:Int):Int)=m.2.1*16777216+m.2.2 from map_or h1 h2)) ?_
 refine xbs 0 1 [V0 (m.2.1*16777216+m.2.2)] 3 fun b5 W5 n5=>?_
 have a0:=kl.below n5.below
 refine xr 0 (args:=#[.slice (S1 gl) 1 1,.slice (S1 b5) 1 1]) (Eg mapP [m.2.1*16777216+m.2.2] (S1 gl) (S1 b5) 1 1 1 _ mapP_ok rfl rfl (a0.sl 1 1 (by decide) (by decide)) (n5.blk.sl 1 1 (by decide) (by decide)) (by unfold Pg;rw[show List.range 1=[0] from rfl];simp[inP,mapP,List.getD];omega)) fun W6 a1=>?_
 have hB:=bln (bln a2 n5.below) a1
 exact xe 4 (.string ⟨(mapV m).toArray⟩) ⟨rfl,hB⟩
theorem Zap(data n:Int)(d:Dv)(w:World)(h:DevOk data d)(hn:0≤n∧n≤16384) :
 C0 155 #[.agg #[V0 n,V0 d.1.2.1,V0 d.1.2.2.1,V0 d.1.2.2.2]] w (Ret (.string ⟨(Bg n d).toArray⟩) w):=by
 refine zin 14 Tryz.func155 ?_
 refine xa 2 [V0 n,V0 d.1.2.1,V0 d.1.2.2.1,V0 d.1.2.2.2] 280 fun b1 W1 n1=>?_
 refine xd 4 .z ?_
 have k1:=n1.blk.below (Za W1)
 refine xb (.e [1] 2) 0 k1 ?_
 refine xb (.e [3] 4) 1 k1 ?_
 refine xb (.e [5] 6) 2 k1 ?_
 refine xb (.e [7] 8) 3 k1 ?_
 refine xm2 0 0 9 ?_ ?_
 ·refine yc 0 (args:=#[]) .z (Mo _) ?_
  rintro _ W2 ⟨_,rfl,a2,gl,rfl,gg,kl⟩
  refine⟨a2,?_⟩
  refine xbs (.o [] 9) 4 [V0 n,V0 d.1.2.1,V0 d.1.2.2.1,V0 d.1.2.2.2] 3 fun b3 W3 n3=>?_
  have a1:=kl.below n3.below
  refine xr (.o [] 10) (args:=#[.slice (S1 gl) 4 4,.slice (S1 b3) 4 4]) (Eg detP [n,d.1.2.1,d.1.2.2.1,d.1.2.2.2] (S1 gl) (S1 b3) 4 4 4 _ detP_ok rfl rfl (a1.sl 4 4 (by decide) (by decide)) (n3.blk.sl 4 4 (by decide) (by decide)) (by have a:=h.tx;have b:=h.made;have c:=h.snap;unfold Pg;rw[show List.range 4=[0,1,2,3] from rfl];simp[inP,detP,List.getD];omega)) fun W4 a3=>?_
  have hB:=bln (bln (bln (bln n1.below (Za W1)) a2) n3.below) a3
  exact xe (.r [11] 3) (.string ⟨(Bg n d).toArray⟩) ⟨rfl,hB⟩
 refine xbs 0 4 [V0 n,V0 d.1.2.1,V0 d.1.2.2.1,V0 d.1.2.2.2] 3 fun b5 W5 n5=>?_
 refine yc (.o [] 0) (args:=#[]) .z (Mo _) ?_
 rintro _ W6 ⟨_,rfl,a0,gl,rfl,gg,kl⟩
 refine⟨a0,?_⟩
 have k5:=n5.blk.below a0
 refine xr (.o [] 10) (args:=#[.slice (S1 gl) 4 4,.slice (S1 b5) 4 4]) (Eg detP [n,d.1.2.1,d.1.2.2.1,d.1.2.2.2] (S1 gl) (S1 b5) 4 4 4 _ detP_ok rfl rfl (kl.sl 4 4 (by decide) (by decide)) (k5.sl 4 4 (by decide) (by decide)) (by have a:=h.tx;have b:=h.made;have c:=h.snap;unfold Pg;rw[show List.range 4=[0,1,2,3] from rfl];simp[inP,detP,List.getD];omega)) fun W7 a4=>?_
 have hB:=bln (bln (bln (bln n1.below (Za W1)) n5.below) a0) a4
 exact xe (.r [11] 3) (.string ⟨(Bg n d).toArray⟩) ⟨rfl,hB⟩
theorem F2_len(L:List Dv):Xw (F2 L)=Dl L+Xy 1 L.length+Xy 3 L.length:=by
 have e1:Xw (F1 L)=Xw (Lw L)+Xy 1 (Dr L (Zc2 L)).length:=Jk _ _
 have e2:Xw (F2 L)=Xw (F1 L)+Xy 3 (El L (Bk L)).length:=Jk _ _
 rw[Jr] at e1
 rw[Jn] at e2
 rw[devsN_forN] at e1
 omega
theorem base_split(x:Nat)(L:List Dv):Cy x L=1+Xw (F2 L)+Pr (Ys x L):=by
 have h:=F2_len L
 have h2:=Cm x L
 unfold Cy Pr
 rw[h2,Qf]
 omega
theorem Zbu{x:Nat}{L:List Dv}{k:Nat}(h:Mk x L≤k):1+Xw (F2 L)+Pr (Ys x L)+2+bmN k≤k:=by
 have a:=need_room (m:=Cy x L+2) h
 have b:=base_split x L
 omega
theorem Zc3{L:List Dv}(i:Nat):Xw (Lw (L.take i))≤Xw (Lw L):=by
 have e:Lw L=Lw (L.take i)++Lw (L.drop i):=by rw[←Ab,List.take_append_drop]
 rw[e,Rv];omega
theorem size_FitsY(p:O0)(c n x k:Nat)(t u v:Int)(Z:List Zv)(w:World)(hZ:Z.length=n)(hP:DevsR w p c Z)(hk:PoolOk t u v (x:Int) (Z.map Prod.fst))(h1:Mk x (Z.map Prod.fst)≤k)(h2:k≤14400) :
 C0 52 #[.agg #[V0 t,V0 u,V0 v,V0 (x:Int),.slice p n c],V0 (k:Int)] w (Ret (.bool true) w):=by
 have a2:1≤Mk x (Z.map Prod.fst):=by unfold Mk Zfr;omega
 obtain⟨m,hm⟩:∃ y,Mk x (Z.map Prod.fst)=y:=⟨_,rfl⟩
 rw[hm] at h1 a2
 refine zin 19 Tryz.func52 ?_
 refine xa 2 [V0 t,V0 u,V0 v,V0 (x:Int),.slice p n c] 48 fun b1 W1 n1=>?_
 refine xlv 5 n1.blk.rp ?_
 refine xr 0 (args:=#[.agg #[V0 t,V0 u,V0 v,V0 (x:Int),.slice p n c]]) (by have q:=size_Need p c n x t u v Z _ hZ (hP.below n1.below) hk;rw[hm] at q;exact q) fun W2 a1=>?_
 refine xgk 8 [9,10] (show(decide ((m:Int)>(0:Int)):Bool)=true from decide_eq_true (by omega)) ?_
 refine xgk 5 [13,14,15] (show(decide ((k:Int)≥(m:Int)):Bool)=true from decide_eq_true (by omega)) ?_
 have a0:=bln n1.below a1
 exact xe 7 (.bool (decide ((k:Int)≤(14400:Int)))) ⟨by rw[decide_eq_true (by omega)],a0⟩
theorem Ke(w:World) :
 C0 54 #[.nilIface] w (Ret (.tuple #[]) w):=by
 refine zin 7 Tryz.func54 ?_
 exact xe 8 (.tuple #[]) ⟨rfl,(B4 w)⟩
theorem Zaw(B ba b g nn cc:Nat)(pa:O0)(ca N:Nat)(bs:Bl)(F:List Gv)(t:Int)(a:O0)(c n:Nat)(l:List Ent)(w:World)(hl:l.length=n)(hC:AlC B ba nn cc ca 1 N)(hA:AlF B ba b g nn cc pa ca N bs F w)(hok:Bn (t,l))(hr:Xw (F++[(t,l)])≤N)(hin:∀ W,Below B w W→Zf [200,5,28] w W→Sl W (.slice a n c) n (l.flatMap Jv))(hBw:B≤w.heap.size) :
 C0 152 #[.agg #[P0 ba],V0 t,.slice a n c] w ((fun e w'=>e=.returned (V0 (↑(Xw (F++[(t,l)])):Int))∧Below B w w'∧Zf [200,5,28] w w'∧AlF B ba b g nn cc pa ca N bs (F++[(t,l)]) w')):=by
 refine zin 20 Tryz.func152 ?_
 refine xa 2 [P0 ba] 115 fun b1 W1 n1=>?_
 refine xb 6 0 n1.blk ?_
 have hB:=blB (Below.refl B w) hBw n1.below
 have hO:=(show Zf [200,5,28] w _ from(Zf.of_below n1.below))
 have a1:=hA.below n1.below
 refine xc 2 (args:=#[P0 ba,V0 t,.slice a n c]) (build_F B ba b g nn cc pa ca N bs F t a c n l _ hl hC a1 hok hr (fun W h1 h2=>hin W (hB.trans h1) (hO.trans h2)) (Nat.le_trans hBw hB.size)) ?_
 rintro _ W2 ⟨rfl,a5,a6,a7,hA⟩
 refine xr 10 (args:=#[.nilIface]) (Ke _) fun W3 a4=>?_
 have a2:=blB (hB.trans a5) hBw a4
 have a0:=(hO.trans a6).trans (Zf.of_below a4)
 have a3:=hA.below a4
 exact xe 9 (V0 (↑(Xw (F++[(t,l)])):Int)) ⟨rfl,a2,a0,a3⟩
theorem lay_maps(p:O0)(c:Nat)(data:Int)(m:List Mp)(w:World)(h:Sts mapC w (.slice p m.length c) m)(hok:MapsOk data m)(hd:data≤65536)(hf:m.length≤16384) :
 C0 153 #[.slice p m.length c] w (Qe (fun w' r=>∃ q d,r=.slice q m.length d∧w'.ownsRow w.heap.size 132 3 (.slice q m.length d) m.length ((La m).flatMap Jv)) w):=by
 have b7:=Sl.len h
 refine zin 25 Tryz.func153 ?_
 have hB:=Below.refl w.heap.size w
 refine zl 19 25 (fun zm b0 V=>∃ (k:Nat) (p1:O0) (c1:Nat),b0=[(2,S0),(3,.slice p1 k c1),(6,.slice p m.length c),(7,V0 (m.length:Int)),(8,V0 (k:Int))]∧zm=m.length-((k:Int)).toNat∧B3 w V∧V.ownsRow w.heap.size 132 3 (.slice p1 k c1) k (((La m).take k).flatMap Jv)∧k≤m.length) ⟨0,none,0,rfl,rfl,hB,World.ownsRow_nil _ _ _ _,Nat.zero_le _⟩ ?_
 rintro _ _ W1 ⟨k,p1,c1,rfl,rfl,a0,hl,hk⟩ J1 b1 r1
 refine xid 6 ((k:Int)<(m.length:Int)) (fun b4=>?_) (fun b4=>?_)
 ·have b5:=hok.each (m.getD k mpD) (gd_mem _ (by omega))
  refine xx 6 _ m.length k 3 (Sts.cell h By mpD (k:=k) (i:=0) (by omega) rfl).1 ?_
  refine xlv 0 (Sts.rp (k:=k) (h.below a0) By mpD (by omega) (by decide)) ?_
  refine xa 0 [V0 0,V0 0,V0 0] 159 fun b3 W3 n3=>?_
  have g3:=n3.ge a0
  refine xsv 0 n3.blk [V0 ((m.getD k mpD).1),V0 ((m.getD k mpD).2.1),V0 ((m.getD k mpD).2.2)] fun W4 u4 k4=>?_
  refine xd 2 (.t w.heap.size [132]) ?_
  have a1:=k4.below (Za W4)
  refine xbt (.e [0,1] 2) 0 w.heap.size [132] a1 ?_
  refine xbt (.e [3] 4) 1 w.heap.size [132] a1 ?_
  refine xbt (.e [5] 6) 2 w.heap.size [132] a1 ?_
  refine xr (.o [] 7) (args:=#[V0 ((m.getD k mpD).2.1),V0 ((m.getD k mpD).2.2)]) (value_MapP (m.getD k mpD) _ ⟨by omega,by omega⟩ ⟨by omega,by omega⟩) fun W5 a7=>?_
  refine xbs (.o [8] 9) 1 [V0 ((m.getD k mpD).1),.string ⟨(mapV (m.getD k mpD)).toArray⟩,V0 0] 132 fun b6 W6 n6=>?_
  have a3:=bln (bln (u4.below (bln a0 n3.below) g3) (Za W4)) a7
  have g6:=n6.ge a3
  have a4:=Zb (Zb (u4.own2 (Zb hl n3.below) n3.blk (by decide)) (Za W4)) a7
  have a8:=Zn a4 n6
  have a5:=Zb a4 n6.below
  have a2:=bln a3 n6.below
  refine ybi (.o [] 10) (.t w.heap.size [132]) fun _ _ _ _ zJ zQ zo zx zy zK=>Zr (m:=1) (news:=[V0 ((m.getD k mpD).1),.string ⟨(mapV (m.getD k mpD)).toArray⟩,V0 0]) (.agg #[V0 0,.string ⟨#[]⟩,V0 0]) 3 32 (k+1) ((((La m).take (k+1)).flatMap Jv)) zo Tryz.underlying123 (by kernel_rfl) rfl (by decide) zx a5 zy (n6.blk.sl 1 1 (by decide) (by decide)) rfl (by simp[Value.oneCell']) (by unfold maxLen;omega) (by omega) a2.size (by rfl) (by exact Zfy (by rw[Jt];omega) (Nb (by omega))) fun b9 b8 W7 o7 b2 a9=>?_
  refine zK _ _ (Zx a9 b2 a5 (by decide)) ?_
  refine xwm (.r [11] 4) ((k:Int)+1) (↑(k+1):Int) ?_
  have a6:=a2.trans a9
  exact ze 2 (b1 _ _ _ ⟨k+1,_,_,rfl,rfl,a6,o7,by omega⟩ (by omega))
 exact xe 12 (.slice p1 k c1) (by obtain rfl:k=m.length:=(by omega);have q:=hl;rw[List.take_of_length_le (by rw[Jt];omega)] at q;exact⟨_,rfl,a0,_,_,rfl,q⟩)
theorem Eb(B ba b g cc:Nat)(pa:O0)(ca f N k n:Nat)(bs:Bl)(w:World)(hA:Al B ba b g (n*256) cc pa ca f N k bs w)(hk:k+1≤n)(hn:n≤14400) :
 C0 99 #[.agg #[P0 ba]] w (Qe (fun w' r=>∃ q d,r=.slice (some q) n d∧w'.ownsRow w.heap.size 3 1 (.slice (some q) n d) n ((Qh (k+1) n).map V0)) w):=by
 refine zin 22 Tryz.func99 ?_
 refine xa 2 [P0 ba] 115 fun b1 W1 n1=>?_
 refine xb 6 0 n1.blk ?_
 refine xr 0 (args:=#[P0 ba]) (Qr ba b _ _ _ (hA.blkA.below n1.below)) fun W2 b2=>?_
 have a5:=bln n1.below b2
 refine xr 0 (args:=#[P0 b]) (by have q:=Yz b _ (n*256) _ _ (hA.blkI.below a5) (by omega);rw[show n*256/256=n by omega] at q;exact q) fun W3 b3=>?_
 refine xmk 0 fun _ _ _ _ zJ zQ zo zx zy zK=>Kh n (V0 0) 1 8 ((Qh 0 n).map V0) zo zx zy Tryz.underlying34 (by kernel_rfl) rfl (by omega) (by omega) ((self_make n)) fun b4 W4 n4=>?_
 have a2:=bln a5 b3
 have g4:=n4.ge a2
 refine zK _ _ ?_
 have a4:=((n1.blk.below b2).below b3).below n4.below
 refine xb 7 0 a4 ?_
 have a3:=bln a2 n4.below
 refine xr 0 (args:=#[P0 ba]) (alloc_Used ba b _ k _ (hA.blkA.below a3)) fun W5 b0=>?_
 refine xwm 0 ((k:Int)+1) (↑(k+1):Int) ?_
 have o4:=Zb (Xb (size:=1) (n:=n) n4.blk g4 (by rw[List.length_map,Xt,Nat.mul_one]) (by unfold maxLen;omega)) b0
 have a8:=bln a3 b0
 have a9:=a4.below b0
 refine zl 4 22 (fun zm b5 V=>∃ (i:Nat),b5=[(2,S0),(3,.slice (S1 b4) n n),(13,V0 (↑(k+1):Int)),(14,V0 (i:Int))]∧zm=(k+1)-((i:Int)).toNat∧B3 w V∧Blk V b1 ([P0 ba]) 115∧V.ownsRow w.heap.size 3 1 (.slice (S1 b4) n n) n ((Qh i n).map V0)∧i≤k+1) ⟨0,rfl,rfl,a8,a9,o4,Nat.zero_le _⟩ ?_
 rintro _ _ W6 ⟨i,rfl,rfl,a6,a1,ho,hi⟩ J6 b6 r6
 refine xid 6 ((i:Int)<(↑(k+1):Int)) (fun b7=>?_) (fun b7=>?_)
 ·refine xx 13 _ n i 1 (show(some (⟨b4,0,none⟩:Addr)).isSome=true from rfl) ?_
  refine xst 0 fun _ _ _ _ zJ zQ zo zx zy zK=>Ga (t:=3) (k:=i) (v:=V0 1) zo zx zy (by kernel_rfl) rfl ho (by omega) fun W8 u8 o8=>?_
  rw[self_set (i:=i) (n:=n) (by omega)] at o8
  refine zK _ _ ?_
  refine xwm 4 ((i:Int)+1) (↑(i+1):Int) ?_
  have a7:=u8.below a6 (Bw ho)
  have a0:=u8.blk a1 (Dn a1 ho (by decide))
  exact ze 2 (b6 _ _ _ ⟨i+1,rfl,rfl,a7,a0,o8,by omega⟩ (by omega))
 exact xe 12 (.slice (S1 b4) n n) (by obtain rfl:i=k+1:=(by omega);exact⟨_,rfl,a6,_,_,rfl,ho⟩)
theorem plot_layMN(B ba b g nn cc:Nat)(pa:O0)(ca f N k0:Nat)(bs:Bl)(bl B2:Nat)(pl:O0)(cl:Nat)(gs:List (Nat×Nat))(L:List (List Int))(n:Nat)(hn:L.length=n)(w:World)(hC:AlC B ba nn cc ca f N)(hA:Al B ba b g nn cc pa ca f N k0 bs w)(hL:Lists w B2 (.slice pl n cl) gs L)(hS:∀ i,i<L.length→Jz (L.getD i [])∧(L.getD i []).length≤960)(hf1:1≤f)(hk:k0+n≤N)(kl:Blk w bl [S0] 140)(hBl:B≤bl)(hBw:B≤w.heap.size) :
 C0 158 #[P0 ba,.slice pl n cl,.func (.func 163) #[] #[P0 bl]] w (fun e w'=>∃ p c,e=.returned .nilIface∧Below B w w'∧Zf [200,5,140,134] w w'∧Fr ([ba,g]++[bl]) w w'∧Al B ba b g nn cc pa ca f N (k0+n) (Kr L (f+k0) bs n) w'∧Blk w' bl [.slice p n c] 140∧w'.ownsRow w.heap.size 134 3 (.slice p n c) n (rsL L (f+k0) n)):=by
 subst hn;exact plot_layM B ba b g nn cc pa ca f N k0 bs bl B2 pl cl gs L w hC hA hL hS hf1 hk kl hBl hBw
def MetaP(B ba b g nn cc:Nat)(pa:O0)(ca f N k0:Nat)(bs:Bl)(l:List Int)(w:World)(e:Ending)(w':World):Prop :=
 e=.returned (.tuple #[V0 (Cw l f k0 bs).1,V0 (Cw l f k0 bs).2.1,.nilIface])∧Below B w w'∧Zf [200,5,140,134,28] w w'∧Fr [ba,g] w w'∧Al B ba b g nn cc pa ca f N (k0+Qa l) (Cw l f k0 bs).2.2 w'
theorem Dg(B ba b g nn cc:Nat)(pa:O0)(ca f N k0:Nat)(bs:Bl)(a:Addr)(c:Nat)(l:List Int)(w:World)(hC:AlC B ba nn cc ca f N)(hA:Al B ba b g nn cc pa ca f N k0 bs w)(h:Sl w (.slice (some a) l.length c) l.length (l.map V0))(hl:l.length≤3000)(hlen:l.length=nn/256)(hs:Ji l=0)(hkN:k0≤N)(hk:k0+Qa l≤N)(hf1:1≤f)(hfree2:FreeOk l ((f+k0:Nat):Int))(hBw:B≤w.heap.size) :
 C0 98 #[P0 ba,.slice (some a) l.length c] w (MetaP B ba b g nn cc pa ca f N k0 bs l w):=by
 have hW:Sin w w:=⟨Below.refl _ _⟩
 have j0:=hC.hf
 have j7:=hC.hn
 have g7:=So hs
 have i9:=Cg l l.length
 have i4:Qa l=(Xy 5 (Zy l l.length).length)+(bmN l.length)+1:=rfl
 have k4:=Hn 5 (Zy l l.length).length
 have i6:bmN l.length≤4:=by unfold bmN;omega
 have h5:Ji (Va l (f+k0) (Qa l))=0:=by unfold Ji;rw[if_neg (by rw[Vd];omega),if_pos (bumpL_ok hfree2 g7.2)]
 have h1:=Fi (bumpL_ok (n:=Qa l) hfree2 g7.2) (bmN l.length)
 refine zin 120 Tryz.func98 ?_
 refine xr 10 (args:=#[P0 ba]) (Qr ba b _ _ _ (hA.below hW.b).blkA) fun W1 b3=>?_
 have d2:=hW.below b3
 refine xr 19 (args:=#[P0 b]) (Yz b _ nn cc _ (hA.below d2.b).blkI (by omega)) fun W2 b6=>?_
 refine xk 3 (show(((l.length:Int) != (↑(nn/256):Int)):Bool)=false from by rw[hlen];simp) ?_
 have d4:=d2.below b6
 refine xc 5 (args:=#[.slice (some a) l.length c]) (Fc l.length (some a) c l _ rfl (Sl.below h d4.b) (by omega) hs) ?_
 rintro _ W3 ⟨j3,j8,k6,po,co,rfl,b7,k7,e0⟩
 have h3:=(blB (blB (Below.refl B w) hBw b3) hBw b6).size
 refine xr 23 (args:=#[V0 5,V0 (↑((Zy l l.length).length):Int)]) (Qw 5 (Zy l l.length).length _ (by decide) (by decide) (by omega)) fun W4 a7=>?_
 refine xr 2 (args:=#[V0 (l.length:Int)]) (Fp l.length _ (by omega)) fun W5 a6=>?_
 refine xwm 0 ((↑(Xy 5 (Zy l l.length).length):Int)+(↑(bmN l.length):Int)) (↑((Xy 5 (Zy l l.length).length)+(bmN l.length)):Int) ?_
 refine xwm 0 ((↑((Xy 5 (Zy l l.length).length)+(bmN l.length)):Int)+1) (↑(((Xy 5 (Zy l l.length).length)+(bmN l.length))+1):Int) ?_
 have c9:=((d4.below b7).below a7).below a6
 refine xr 7 (args:=#[P0 ba]) (Ds ba b pa N ca k0 _ (hA.below c9.b).blkA hkN) fun W6 b2=>?_
 refine xk 4 (show(decide ((↑(N-k0):Int)<(↑(((Xy 5 (Zy l l.length).length)+(bmN l.length))+1):Int)):Bool)=false from decide_eq_false (by omega)) ?_
 have a8:=c9.below b2
 have h8:=a8.b.size
 refine xc 5 (args:=#[.slice (some a) l.length c]) (Bo a l.length c (l.map V0) _ (Sl.below h a8.b) (by simp) (Zhb _) (by omega)) ?_
 rintro _ W7 ⟨_,rfl,c0,qb,cq,rfl,f8⟩
 have j6:=(blB (blB (blB (blB (blB (blB (Below.refl B w) hBw b3) hBw b6) hBw b7) hBw a7) hBw a6) hBw b2).size
 have a0:=Zd f8 h8
 have b0:=a8.below c0
 have i3:=b0.b.size
 have f7:=a0
 refine xc 8 (args:=#[P0 ba,V0 (↑(((Xy 5 (Zy l l.length).length)+(bmN l.length))+1):Int)]) (Zdm (Qa l) B ba b g nn cc pa ca f N k0 bs _ hC (hA.below b0.b) hkN (by omega) (by omega) (by omega)) ?_
 rintro _ W8 ⟨_,rfl,b9,qa,g9,rfl,c3⟩
 have j1:=(blB (blB (blB (blB (blB (blB (blB (Below.refl B w) hBw b3) hBw b6) hBw b7) hBw a7) hBw a6) hBw b2) hBw c0).size
 have i2:=Gz.of_lt f7 c3 (Nat.le_refl _)
 have d9:=Zd c3 i3
 have a3:=Zb a0 b9
 obtain⟨gb,rfl,j2⟩:=Bj a3 (by omega)
 have c5:=Zb (Zb (Zb (Zb (Zb (Zd e0 h3) a7) a6) b2) c0) b9
 have g1:=b0.below b9
 have hB:=blB (blB (blB (blB (blB (blB (blB (blB (Below.refl B w) hBw b3) hBw b6) hBw b7) hBw a7) hBw a6) hBw b2) hBw c0) hBw b9
 have hX:=(((((((show Fr [ba,g] w _ from(Fr.of_below b3)).trans (Fr.of_below b6)).trans (Fr.of_below b7)).trans (Fr.of_below a7)).trans (Fr.of_below a6)).trans (Fr.of_below b2)).trans (Fr.of_below c0)).trans (Fr.of_below b9)
 have hO:=(((((((show Zf [200,5,140,134,28] w _ from(Zf.of_below b3)).trans (Zf.of_below b6)).trans (Zf.of_below b7)).trans (Zf.of_below a7)).trans (Zf.of_below a6)).trans (Zf.of_below b2)).trans (Zf.of_below c0)).trans (Zf.of_below b9)
 refine zl 5 120 (fun zm h4 V=>∃ (i:Nat),h4=[(0,P0 ba),(4,V0 0),(5,V0 0),(6,.nilIface),(9,.slice po ((Zy l l.length).length) co),(10,V0 0),(12,.slice (S1 gb) l.length cq),(61,.slice qa (Qa l) g9),(62,V0 (↑(Qa l):Int)),(63,V0 (i:Int))]∧zm=Qa l-((i:Int)).toNat∧Below B w V∧Fr [ba,g] w V∧Zf [200,5,140,134,28] w V∧V.ownsRow w.heap.size 3 1 (.slice (S1 gb) l.length cq) l.length ((Va l (f+k0) i).map V0)∧V.ownsRow w.heap.size 3 1 (.slice qa (Qa l) g9) (Qa l) ((((Iu f N).drop k0).take (Qa l)).map V0)∧V.ownsRow w.heap.size 132 3 (.slice po ((Zy l l.length).length) co) ((Zy l l.length).length) ((Zy l l.length).flatMap Jv)∧Sin w V∧i≤Qa l) ⟨0,rfl,rfl,hB,hX,hO,(by rw[bumpL_zero];exact a3),d9,c5,g1,Nat.zero_le _⟩ ?_
 rintro _ _ W9 ⟨i,rfl,rfl,b4,d3,c1,a0,d9,e0,hW,hi⟩ J9 i1 r9
 have k2:i<Qa l→l.getD (f+k0+i) 0=0:=fun q=>(hfree2 (f+k0+i) (by omega)).1 (by omega)
 refine xid 6 ((i:Int)<(↑(Qa l):Int)) (fun g2=>?_) (fun g2=>?_)
 ·refine xx 6 _ (Qa l) i 1 (Ol (Ze d9) (by omega) (i:=i) (by omega)).1 ?_
  refine xl 0 ((Ol (Ze d9) (by omega) (i:=i) (by omega)).2) ?_
  refine xx 6 _ l.length (f+k0+i) 1 (Ry (Ze a0) rfl (q:=f+k0) (i:=i) (by omega)).1 ?_
  refine xl 0 ((Ry (Ze a0) rfl (q:=f+k0) (i:=i) (by omega)).2) ?_
  refine xw 0 ((l.getD (f+k0+i) 0)+1) ?_
  refine xx 0 _ l.length (f+k0+i) 1 (Ry (Ze a0) rfl (q:=f+k0) (i:=i) (by omega)).1 ?_
  refine xst 0 fun _ _ _ _ zJ zQ zo zx zy zK=>Ga (t:=3) (k:=(f+k0+i)) (v:=V0 ((l.getD (f+k0+i) 0)+1)) zo zx zy (by kernel_rfl) rfl a0 (by omega) fun j4 b8 h0=>?_
  rw[bumpL_set (l:=l) (f:=f+k0) (j:=i) (by omega)] at h0
  refine zK _ _ ?_
  refine xwm 4 ((i:Int)+1) (↑(i+1):Int) ?_
  have e5:=b8.below b4 (Nat.le_trans hBw (Bw a0))
  have e4:=(Fr.upd_new d3 b8 (Bw a0))
  have e6:=(Zf.upd_new c1 b8 (Bw a0))
  have c7:=b8.own3 d9 (fun j hj e=>i2 _ rfl (e▸hj))
  have d7:=b8.ownRow e0 a0 (by decide)
  have e7:=hW.upd b8 (Bw a0)
  exact ze 2 (i1 _ _ _ ⟨i+1,rfl,rfl,e5,e4,e6,h0,c7,d7,e7,by omega⟩ (by omega))
 refine xc 9 (args:=#[P0 ba,V0 5,.slice po ((Zy l l.length).length) co]) (Wq B ba b g nn cc pa ca f N k0 bs 5 po co (Zy l l.length) (Zy l l.length).length _ rfl hC (hA.below hW.b) (by decide) (by decide) (Ch _ _ (by omega)) (by omega) hf1 (by omega) (by omega) (fun W _ h2=>Ze (Zj e0 h2 (by decide))) (Nat.le_trans hBw b4.size)) ?_
 rintro _ i8 ⟨rfl,f5,c4,f6,a9⟩
 have d1:=Zj a0 c4 (by decide)
 refine xc 20 (args:=#[.slice (S1 gb) l.length cq]) (Fc l.length (S1 gb) cq (Va l (f+k0) (Qa l)) _ (Vd _ _ _) (by have hh:=Ze d1;rw[show i=Qa l by omega] at hh;exact hh) (by omega) h5) ?_
 rintro _ k1 ⟨pb,cb,gs,j5,k5,rfl,a2,hL,h7⟩
 refine xa 21 [S0] 140 fun g6 j9 a4=>?_
 have b5:=blB (b4.trans f5) hBw a2
 have g8:=a4.ge0 b5
 have d6:=(a9.below a2).below a4.below
 have g5:=hL.below a4.below
 have a5:=blB b5 hBw a4.below
 refine xc 8 (args:=#[P0 ba,.slice pb (bmN l.length) cb,.func (.func 163) #[] #[P0 g6]]) (plot_layMN B ba b g nn cc pa ca f N (k0+(Xy 5 (Zy l l.length).length)) (Ym 5 (Zy l l.length) (f+k0) bs).2 g6 _ pb cb gs (Xp (Zu (Va l (f+k0) (Qa l))) (bmN l.length)) (bmN l.length) (Hw _ _) _ hC d6 g5 h1 hf1 (by omega) a4.blk (Nat.le_trans hBw g8) (Nat.le_trans hBw a5.size)) ?_
 rintro _ i5 ⟨p8,c8,rfl,d0,f2,e9,a9,i0,h6⟩
 have f4:=(blB b5 hBw a4.below).size
 refine xb 14 0 i0 ?_
 have d5:=Zd h6 f4
 refine xc 0 (args:=#[.slice p8 (bmN l.length) c8]) (slots_PutN (bmN l.length) p8 c8 (Rs (Xp (Zu (Va l (f+k0) (Qa l))) (bmN l.length)) (f+(k0+(Xy 5 (Zy l l.length).length))) (bmN l.length)) _ (Ts _ _ _) (rs_ok h1 (Hw _ _) (by omega) (by omega) (by omega)) (Rs_sts (Ze d5))) ?_
 rintro _ k3 ⟨_,rfl,a1,pz,cz,rfl,h9⟩
 have f0:=(a5.trans d0).size
 have d8:=a9.below a1
 have b1:=((((c1.trans (c4.wide)).trans (Zf.of_below a2)).trans (Zf.of_below a4.below)).trans (f2.wide)).trans (Zf.of_below a1)
 have c6:=Zd h9 f0
 have c2:=blB (a5.trans d0) hBw a1
 refine xc 21 (args:=#[P0 ba,V0 4,.slice pz 244 cz]) (Nt B ba b g nn cc pa ca f N (k0+(Xy 5 (Zy l l.length).length)+(bmN l.length)) (Kr (Xp (Zu (Va l (f+k0) (Qa l))) (bmN l.length)) (f+(k0+(Xy 5 (Zy l l.length).length))) (Ym 5 (Zy l l.length) (f+k0) bs).2 (bmN l.length)) 4 pz cz (Ei (Rs (Xp (Zu (Va l (f+k0) (Qa l))) (bmN l.length)) (f+(k0+(Xy 5 (Zy l l.length).length))) (bmN l.length))) (f+(k0+(Xy 5 (Zy l l.length).length)+(bmN l.length))) 244 _ rfl (Cq (by rw[Ts];omega)) hC d8 (by omega) (by decide) (by decide) (fun W _ b1=>Yk (Ze (Zj c6 b1 (by decide))) (Cq (by rw[Ts];omega))) (by decide) (Nat.le_trans hBw c2.size)) ?_
 rintro _ i7 ⟨rfl,f9,f1,e8,a9⟩
 have g3:=c2.trans f9
 have f3:=b1.trans (f1.wide)
 have g0:=((Fr.trans_new (((d3.trans (f6.mono (by simp))).trans (Fr.of_below a2)).trans (Fr.of_below a4.below)) e9 g8).trans (Fr.of_below a1)).trans (e8.mono (by simp))
 refine xe 27 (.tuple #[V0 (↑(f+(k0+(Xy 5 (Zy l l.length).length)+(bmN l.length))):Int),V0 ((Ym 5 (Zy l l.length) (f+k0) bs).1),.nilIface]) ?_
 have e1:f+(k0+(Xy 5 (Zy l l.length).length)+(bmN l.length))=f+k0+(Xy 5 (Zy l l.length).length)+(bmN l.length):=by omega
 have e2:f+(k0+(Xy 5 (Zy l l.length).length))=f+k0+(Xy 5 (Zy l l.length).length):=by omega
 rw[e1,e2] at a9
 rw[e1]
 have e3:k0+(Xy 5 (Zy l l.length).length)+(bmN l.length)+1=k0+Qa l:=by omega
 rw[e3] at a9
 refine⟨?_,g3,f3,g0,?_⟩
 ·unfold Cw;rw[needM_nb]
 ·unfold Cw;rw[needM_nb];exact a9
theorem dvs_getZ{Z:List Zv}{L:List Dv}(hL:Z.map Prod.fst=L){i:Nat}(h:i<Z.length):L.getD i dvD=(Z.getD i zvD).1:=by rw[←hL];exact zfst h _
theorem F1_le(L:List Dv):Xw (Lw L)+1≤Xw (F1 L)∧Xw (F1 L)+1≤Xw (F2 L):=by
 have e1:Xw (F1 L)=Xw (Lw L)+Lb (1,Dr L (Zc2 L)):=Jk _ _
 have e2:Xw (F2 L)=Xw (F1 L)+Lb (3,El L (Bk L)):=Jk _ _
 have:=Bq (1,Dr L (Zc2 L))
 have:=Bq (3,El L (Bk L))
 omega
theorem Mz(B ba b g nn cc:Nat)(pa:O0)(ca N:Nat)(bs:Bl)(p:O0)(c n:Nat)(data:Int)(Z:List Zv)(L:List Dv)(w:World)(hZ:Z.length=n)(hL:Z.map Prod.fst=L)(hD:DevsOk data L)(hd:data≤65536)(hP:∀ W,Below B w W→DevsR W p c Z)(hC:AlC B ba nn cc ca 1 N)(hA:AlF B ba b g nn cc pa ca N bs [] w)(hr:Xw (F2 L)≤N)(hBw:B≤w.heap.size) :
 C0 96 #[.agg #[P0 ba],.slice p n c] w ((fun e w'=>e=.returned (.tuple #[V0 (↑(Xw (F1 L)):Int),V0 (↑(Xw (F2 L)):Int)])∧Below B w w'∧Zf [200,5,28,132] w w'∧AlF B ba b g nn cc pa ca N bs (F2 L) w')):=by
 have i1:∀ W,Below B w W→Zf [200,5,28,132] w W→DevsR W p c Z:=fun W h _=>hP W h
 have k8:L.length=n:=by rw[←hL,List.length_map];exact hZ
 have l1:=F1_le L
 have j8:=hD.few
 have k2:N≤14400:=by have a:=hC.hf;have b:=hC.hn;omega
 have k6:=Sl.len ((hP w (Below.refl _ _)).rowN hZ)
 refine zin 58 Tryz.func96 ?_
 refine xa 2 [P0 ba] 115 fun b1 W1 n1=>?_
 have h0:=hA.below n1.below
 have hB:=blB (Below.refl B w) hBw n1.below
 have hO:=(show Zf [200,5,28,132] w _ from(Zf.of_below n1.below))
 refine zl 19 58 (fun zm i8 V=>∃ (i:Nat) (p7:O0) (c7:Nat) (p8:O0) (c8:Nat),i8=[(2,P0 b1),(4,V0 0),(5,V0 0),(6,.slice p7 i c7),(7,.slice p8 i c8),(13,.slice p n c),(14,V0 (n:Int)),(15,V0 (i:Int))]∧zm=n-((i:Int)).toNat∧Below B w V∧Zf [200,5,28,132] w V∧Blk V b1 ([P0 ba]) 115∧V.ownsRow w.heap.size 132 3 (.slice p7 i c7) i (((Dr L (Zc2 L)).take i).flatMap Jv)∧V.ownsRow w.heap.size 132 3 (.slice p8 i c8) i (((El L (Bk L)).take i).flatMap Jv)∧AlF B ba b g nn cc pa ca N bs (Lw (L.take i)) V∧i≤n∧Gz (.slice p7 i c7) (.slice p8 i c8)) ⟨0,none,0,none,0,rfl,rfl,hB,hO,n1.blk,World.ownsRow_nil _ _ _ _,World.ownsRow_nil _ _ _ _,h0,Nat.zero_le _,Gz.nil _⟩ ?_
 rintro _ _ W2 ⟨i,p7,c7,p8,c8,rfl,rfl,a6,d9,a9,d3,d4,hA,hi,d8⟩ J2 j3 r2
 refine xid 6 ((i:Int)<(n:Int)) (fun i9=>?_) (fun i9=>?_)
 ·have e0:=dvs_getZ hL (i:=i) (by omega)
  have j0:=maps_sum (L:=L) (i:=i) (by omega)
  rw[e0] at j0
  have j9:=hD.sum
  have f8:=(hD.each (L.getD i dvD) (gd_mem _ (by omega))).maps
  have e9:=hD.each (L.getD i dvD) (gd_mem _ (by omega))
  rw[e0] at f8 e9
  have h9:Lw (L.take i)++[(2,La (Z.getD i zvD).1.2)]=Lw (L.take (i+1)):=by rw[Zeh (by omega),e0]
  have i5:Bn (2,La (Z.getD i zvD).1.2):=by rw[←e0];exact dev_treeOk hD (by omega)
  have l2:=rootR_pos (L:=L) (i:=i) (by omega)
  have l6:=Zc3 (L:=L) (i+1)
  refine xx 6 _ n i 5 ((hP _ (Below.refl _ _)).someN hZ (i:=i) (by omega)) ?_
  refine xlv 0 (Sts.rp (k:=i) (i1 _ a6 d9).row Mf zvD (by omega) (by decide)) ?_
  refine xa 0 [V0 0,V0 0,V0 0,V0 0,S0] 95 fun b4 W4 n4=>?_
  have g4:=n4.ge0 a6
  refine xsv 0 n4.blk [V0 ((Z.getD i zvD).1.1.1),V0 ((Z.getD i zvD).1.1.2.1),V0 ((Z.getD i zvD).1.1.2.2.1),V0 ((Z.getD i zvD).1.1.2.2.2),.slice ((Z.getD i zvD).2.1) ((Z.getD i zvD).1.2.length) ((Z.getD i zvD).2.2)] fun W5 u5 k5=>?_
  refine xd 3 (.t B [200,5,28,132]) ?_
  have a2:=(u5.blkT (a9.below n4.below) n4.blk (by decide)).below (Za W5)
  refine xlvt (.e [] 0) (.t B [200,5,28,132]) (fun V hV=>(a2.only hV.2 (by decide)).rp) ?_
  have e1:=k5.below (Za W5)
  refine xbt (.e [1] 2) 4 B [200,5,28,132] e1 ?_
  have e4:=(Zf.upd_new (d9.trans (Zf.of_below n4.below)) u5 g4).trans (Zf.of_below (Za W5))
  have e3:=blB (u5.below (blB a6 hBw n4.below) (Nat.le_trans hBw g4)) hBw (Za W5)
  refine yc (.o [] 3) (args:=#[.slice ((Z.getD i zvD).2.1) ((Z.getD i zvD).1.2.length) ((Z.getD i zvD).2.2)]) (.t B [200,5,28,132]) (lay_maps (Z.getD i zvD).2.1 (Z.getD i zvD).2.2 data (Z.getD i zvD).1.2 _ ((i1 _ e3 e4).each i (by omega)) f8 hd (by omega)) ?_
  rintro _ W6 ⟨_,rfl,c6,ql,dl,rfl,i3⟩
  have i7:=(blB (u5.below (blB a6 hBw n4.below) (Nat.le_trans hBw g4)) hBw (Za W5)).size
  refine⟨(SF.of_below _ c6),?_⟩
  have c9:=Zd i3 i7
  have h8:=(((hA.below n4.below).only (Zf.of_upd (T:=[95]) u5 n4.blk (by decide)) (by decide)).below (Za W5)).below c6
  have f7:=blB e3 hBw c6
  refine yc (.o [] 4) (args:=#[.agg #[P0 ba],V0 2,.slice ql ((Z.getD i zvD).1.2.length) dl]) (.t B [200,5,28,132]) (by have q:=Zaw B ba b g nn cc pa ca N bs (Lw (L.take i)) 2 ql dl (Z.getD i zvD).1.2.length (La (Z.getD i zvD).1.2) _ (by rw[Jt]) hC h8 (i5) (by rw[h9];have:=Zc3 (L:=L) (i+1);omega) (fun W _ h2=>Ze (Zj c9 h2 (by decide))) (Nat.le_trans hBw f7.size);rw[h9] at q;exact q) ?_
  rintro _ W7 ⟨rfl,i0,d6,hA⟩
  refine⟨(Gi i0 d6),?_⟩
  refine xd (.r [5] 3) (.t B [132]) ?_
  have f0:=((e1.below c6).only d6 (by decide)).below (Za W7)
  refine xbt (.e [0,1] 2) 0 B [132] f0 ?_
  refine xr (.o [3] 4) (args:=#[V0 (↑(Xw (Lw (L.take (i+1)))):Int)]) (Iq (↑(Xw (Lw (L.take (i+1)))):Int) (by omega) (by omega) _) fun W8 c5=>?_
  refine xbs (.o [5] 6) 1 [V0 ((Z.getD i zvD).1.1.1),.string ⟨(leB (↑(Xw (Lw (L.take (i+1)))):Int) 4).toArray⟩,V0 0] 132 fun b9 W9 n9=>?_
  have e6:=blB (blB (f7.trans i0) hBw (Za W7)) hBw c5
  have g9:=n9.ge0 e6
  have a7:=Zb (Zb (Zj (Zb (Zb (u5.own2 (Zb d3 n4.below) n4.blk (by decide)) (Za W5)) c6) d6 (by decide)) (Za W7)) c5
  have g1:=Zn a7 n9
  have b5:=Zb (Zb (Zj (Zb (Zb (u5.own2 (Zb d4 n4.below) n4.blk (by decide)) (Za W5)) c6) d6 (by decide)) (Za W7)) c5
  have g0:=Zn b5 n9
  have f3:=Zb (Zb (Zj c9 d6 (by decide)) (Za W7)) c5
  have g7:=Zn f3 n9
  have a0:=Zb a7 n9.below
  have e2:=blB e6 hBw n9.below
  refine ybi (.o [] 7) (.t B [132]) fun _ _ _ _ zJ zQ zo zx zy zK=>Kj (b:=b9) (c:=1) (m:=1) (news:=[V0 ((Z.getD i zvD).1.1.1),.string ⟨(leB (↑(Xw (Lw (L.take (i+1)))):Int) 4).toArray⟩,V0 0]) (.agg #[V0 0,.string ⟨#[]⟩,V0 0]) 3 32 (i+1) ((((Dr L (Zc2 L)).take (i+1)).flatMap Jv)) zo Tryz.underlying123 (by kernel_rfl) rfl (by decide) zx a0 zy n9.blk rfl (by simp[Value.oneCell']) (by unfold maxLen;omega) (by omega) e2.size (by rfl) (by have e:=Pt (L:=L) (R:=Zc2 L) (i:=i) (by omega);rw[e0] at e;exact Zfy (by rw[Jr];omega) e) fun j4 j5 k9 j1 a5 f1 g8=>?_
  have b3:=Zb b5 n9.below
  have b6:=d8.row b3 a5
  replace d8:=(d8.grow b3 g8)
  have c2:=b6
  refine zK _ _ (Zx (f1.mono hBw) a5 a0 (by decide)) ?_
  have b0:=((f0.below c5).below n9.below).grown a5 a0 (by decide)
  refine xb (.r [8] 5) 4 b0 ?_
  refine xb 2 1 b0 ?_
  refine xb 1 2 b0 ?_
  refine xb 1 3 b0 ?_
  refine xa 1 [V0 0,V0 0,V0 0,V0 0] 280 fun k0 l0 a3=>?_
  have f5:=e2.trans (f1.mono hBw)
  have i2:=a3.ge0 f5
  refine xsv 0 a3.blk [V0 (↑((Z.getD i zvD).1.2.length):Int),V0 ((Z.getD i zvD).1.1.2.1),V0 ((Z.getD i zvD).1.1.2.2.1),V0 ((Z.getD i zvD).1.1.2.2.2)] fun c3 d1 j2=>?_
  refine xd 2 (.t B [132]) ?_
  have g5:=(d1.blkT (b0.below a3.below) a3.blk (by decide)).below (Za c3)
  refine xbt (.e [0,1] 2) 0 B [132] g5 ?_
  have f6:=j2.below (Za c3)
  refine xlvt (.e [] 3) (.t B [132]) (fun V hV=>(f6.only hV.2 (by decide)).rp) ?_
  refine xr (.o [] 4) (args:=#[.agg #[V0 (↑((Z.getD i zvD).1.2.length):Int),V0 ((Z.getD i zvD).1.1.2.1),V0 ((Z.getD i zvD).1.1.2.2.1),V0 ((Z.getD i zvD).1.1.2.2.2)]]) (Zap data (↑(Z.getD i zvD).1.2.length:Int) (Z.getD i zvD).1 _ e9 ⟨by omega,by omega⟩) fun l4 a4=>?_
  refine xbs (.o [5] 6) 1 [V0 ((Z.getD i zvD).1.1.1),.string ⟨(Bg (↑(Z.getD i zvD).1.2.length:Int) (Z.getD i zvD).1).toArray⟩,V0 0] 132 fun i4 l3 b7=>?_
  have f9:=blB (blB (d1.below (blB f5 hBw a3.below) (Nat.le_trans hBw i2)) hBw (Za c3)) hBw a4
  have k7:=b7.ge0 f9
  have a8:=Zb (Zb (d1.own2 (Zb c2 a3.below) a3.blk (by decide)) (Za c3)) a4
  have e7:=Zn a8 b7
  have c4:=Zb (Zb (d1.own2 (Zb j1 a3.below) a3.blk (by decide)) (Za c3)) a4
  have g2:=Zn c4 b7
  have a1:=Zb a8 b7.below
  have f2:=blB f9 hBw b7.below
  refine ybi (.o [] 7) (.t B [132]) fun _ _ _ _ zJ zQ zo zx zy zK=>Kj (b:=i4) (c:=1) (m:=1) (news:=[V0 ((Z.getD i zvD).1.1.1),.string ⟨(Bg (↑(Z.getD i zvD).1.2.length:Int) (Z.getD i zvD).1).toArray⟩,V0 0]) (.agg #[V0 0,.string ⟨#[]⟩,V0 0]) 3 32 (i+1) ((((El L (Bk L)).take (i+1)).flatMap Jv)) zo Tryz.underlying123 (by kernel_rfl) rfl (by decide) zx a1 zy b7.blk rfl (by simp[Value.oneCell']) (by unfold maxLen;omega) (by omega) f2.size (by rfl) (by have e:=Nj (L:=L) (C:=Bk L) (i:=i) (by omega);unfold Bk at e;rw[e0] at e;exact Zfy (by rw[Jn];omega) e) fun j7 i6 k3 j6 b2 e5 g3=>?_
  have d0:=Zb c4 b7.below
  have c0:=d8.symm.row d0 b2
  replace d8:=(d8.symm.grow d0 g3).symm
  have d2:=c0
  refine zK _ _ (Zx (e5.mono hBw) b2 a1 (by decide)) ?_
  refine xwm (.r [8] 4) ((i:Int)+1) (↑(i+1):Int) ?_
  have h6:=f2.trans (e5.mono hBw)
  have h4:=(Zf.grown_new ((((Zf.upd_new ((Zf.grown_new (((((e4.trans (Zf.of_below c6)).trans (d6.wide (by decide))).trans (Zf.of_below (Za W7))).trans (Zf.of_below c5)).trans (Zf.of_below n9.below)) a5 a0).trans (Zf.of_below a3.below)) d1 i2).trans (Zf.of_below (Za c3))).trans (Zf.of_below a4)).trans (Zf.of_below b7.below)) b2 a1)
  have c1:=((((d1.blkT (((((((a2.below c6).only d6 (by decide)).below (Za W7)).below c5).below n9.below).grown a5 a0 (by decide)).below a3.below) a3.blk (by decide)).below (Za c3)).below a4).below b7.below).grown b2 a1 (by decide)
  have h7:=(((((((((hA.below (Za W7)).below c5).below n9.below).only (Zf.of_grown (T:=[132]) a5 a0 (by decide)) (by decide)).below a3.below).only (Zf.of_upd (T:=[280]) d1 a3.blk (by decide)) (by decide)).below (Za c3)).below a4).below b7.below).only (Zf.of_grown (T:=[132]) b2 a1 (by decide)) (by decide)
  exact ze 2 (j3 _ _ _ ⟨i+1,_,_,_,_,rfl,rfl,h6,h4,c1,d2,j6,h7,by omega,d8⟩ (by omega))
 have k1:i=n:=by omega
 rw[List.take_of_length_le (by rw[Jr];omega)] at d3
 rw[List.take_of_length_le (by rw[Jn];omega)] at d4
 rw[show L.take i=L from List.take_of_length_le (by omega)] at hA
 refine xlv 7 a9.rp ?_
 refine xc 1 (args:=#[.agg #[P0 ba],V0 1,.slice p7 i c7]) (by have q:=Zaw B ba b g nn cc pa ca N bs (Lw L) 1 p7 c7 i ((Dr L (Zc2 L))) _ (by rw[Jr];omega) hC hA (top_ok hD) (by show Xw (F1 L)≤N;omega) (fun W _ h2=>Ze (Zj d3 h2 (by decide))) (Nat.le_trans hBw a6.size);exact q) ?_
 rintro _ l5 ⟨rfl,g6,d5,hA⟩
 have b8:=a9.only d5 (by decide)
 refine xlv 6 b8.rp ?_
 have d7:=Zj d4 d5 (by decide)
 have f4:=a6.trans g6
 refine xc 1 (args:=#[.agg #[P0 ba],V0 3,.slice p8 i c8]) (by have q:=Zaw B ba b g nn cc pa ca N bs (F1 L) 3 p8 c8 i ((El L (Bk L))) _ (by rw[Jn];omega) hC hA (det_ok hD) (by show Xw (F2 L)≤N;omega) (fun W _ h2=>Ze (Zj d7 h2 (by decide))) (Nat.le_trans hBw f4.size);exact q) ?_
 rintro _ k4 ⟨rfl,h5,h1,hA⟩
 have e8:=f4.trans h5
 have h3:=(d9.trans (d5.wide (by decide))).trans (h1.wide (by decide))
 exact xe 5 (.tuple #[V0 (↑(Xw (F1 L)):Int),V0 (↑(Xw (F2 L)):Int)]) ⟨rfl,e8,h3,hA⟩
def Mi(L:List Dv)(k:Nat):Bl:=Zbf (F2 L) 1 (List.replicate (k*256) (0:UInt8))
def Nc(x:Nat)(L:List Dv):Nat:=Xw (F2 L)+Pr (Ys x L)
def Jb(x:Nat)(L:List Dv)(k:Nat):Int×Int×Bl:=Za2 (Ys x L) (1+Xw (F2 L)) (Mi L k)
def Po(x:Nat)(L:List Dv)(k:Nat):Int×Int×Bl:=Cw (Qh (Nc x L+1) k) 1 (Nc x L) (Jb x L k).2.2
def Zb6(t u v:Int)(x:Nat)(L:List Dv)(k:Nat):Sup:=⟨t,u,v,(x:Int),(k:Int),(Xw (F1 L):Int),(Xw (F2 L):Int),(Jb x L k).1,(Jb x L k).2.1,(Po x L k).1,(Po x L k).2.1⟩
def Df(t u v:Int)(x:Nat)(L:List Dv)(k:Nat):Bl:=Vq (Po x L k).2.2 (0*256) (Xs 1 (0:Nat) (Ww (Zb6 t u v x L k)))
theorem Zga(L:List (List Int))(f:Nat):∀ n,(Yj L f n).length=n:=fun n=>Hl L f n
theorem layD_in(x:Nat)(L:List Dv)(k:Nat):1≤(Jb x L k).1∧(Jb x L k).1≤(Nc x L:Int)∧1≤(Jb x L k).2.1∧(Jb x L k).2.1≤(Nc x L:Int):=by
 have a:=Nx (t:=4) (l:=Yj (Xp (Zu (Ys x L)) (bmN (Ys x L).length)) (1+Xw (F2 L)) (bmN (Ys x L).length)) (q:=1+Xw (F2 L)+bmN (Ys x L).length) (bs:=Kr (Xp (Zu (Ys x L)) (bmN (Ys x L).length)) (1+Xw (F2 L)) (Mi L k) (bmN (Ys x L).length)) (by omega)
 have b:=Nx (t:=5) (l:=Zy (Ys x L) (Ys x L).length) (q:=1+Xw (F2 L)+bmN (Ys x L).length+Xy 4 (bmN (Ys x L).length)) (bs:=(Ym 4 (Yj (Xp (Zu (Ys x L)) (bmN (Ys x L).length)) (1+Xw (F2 L)) (bmN (Ys x L).length)) (1+Xw (F2 L)+bmN (Ys x L).length) (Kr (Xp (Zu (Ys x L)) (bmN (Ys x L).length)) (1+Xw (F2 L)) (Mi L k) (bmN (Ys x L).length))).2) (by omega)
 rw[Zga] at a
 have e1:(Jb x L k).1=_:=a
 have e2:(Jb x L k).2.1=_:=b
 have h4:=Wr 4 (bmN (Ys x L).length)
 have h5:=Wr 5 (Zy (Ys x L) (Ys x L).length).length
 have e3:Nc x L=Xw (F2 L)+(bmN (Ys x L).length+Xy 4 (bmN (Ys x L).length)+Xy 5 (Zy (Ys x L) (Ys x L).length).length):=rfl
 rw[e1,e2,e3]
 omega
theorem layM_in(x:Nat)(L:List Dv)(k:Nat):1≤(Po x L k).1∧(Po x L k).1≤(Nc x L+2+bmN k:Nat)∧1≤(Po x L k).2.1∧(Po x L k).2.1≤(Nc x L+2+bmN k:Nat):=by
 have a:=Nx (t:=5) (l:=Zy (Qh (Nc x L+1) k) (Qh (Nc x L+1) k).length) (q:=1+Nc x L) (bs:=(Jb x L k).2.2) (by omega)
 have e2:(Po x L k).2.1=_:=a
 have e1:(Po x L k).1=((1+Nc x L+Xy 5 (Zy (Qh (Nc x L+1) k) (Qh (Nc x L+1) k).length).length+bmN (Va (Qh (Nc x L+1) k) (1+Nc x L) (Qa (Qh (Nc x L+1) k))).length:Nat):Int):=rfl
 rw[Vd,Xt] at e1
 rw[Uo,List.length_nil,Zak] at e1 e2
 rw[e1,e2]
 omega
theorem Ag{t u v:Int}{x k:Nat}{L:List Dv}(hk:PoolOk t u v (x:Int) L)(hr:Mk x L≤k)(hk2:k≤14400):Zp (Zb6 t u v x L k)=true:=by
 have a:=layD_in x L k
 have b:=layM_in x L k
 have c:=Zbu hr
 have d:=F1_le L
 have e:Nc x L=Xw (F2 L)+Pr (Ys x L):=rfl
 have h1:=hk.htx
 have h2:=hk.htime
 have h3:=hk.hunit
 have h4:=hk.hdata
 unfold Zp Zb6
 simp only[Bool.and_eq_true,decide_eq_true_eq,true_and]
 refine⟨⟨⟨⟨⟨⟨⟨⟨⟨⟨?_,?_⟩,?_⟩,?_⟩,?_⟩,?_⟩,?_⟩,?_⟩,?_⟩,?_⟩,?_⟩<;>omega
theorem Zai(t u v:Int)(x k:Nat)(L:List Dv)(w:World)(hr:Zp (Zb6 t u v x L k)=true):C0 100 #[.agg #[V0 t,V0 u,V0 v,V0 (x:Int),V0 (k:Int),V0 (↑(Xw (F1 L)):Int),V0 (↑(Xw (F2 L)):Int),V0 (Jb x L k).1,V0 (Jb x L k).2.1,V0 (Po x L k).1,V0 (Po x L k).2.1]] w (Qe (fun w' r=>∃ p c,r=.tuple #[.slice p 244 c,V0 0]∧w'.ownsRow w.heap.size 5 1 (.slice p 244 c) 244 ((Ww (Zb6 t u v x L k)).map bv)) w):=by
 refine(sup_PutP (Zb6 t u v x L k) w ⟨by show(0:Int)≤(k:Int);omega,?_⟩).mono ?_
 ·unfold Zp Zb6 at hr
  simp only[Bool.and_eq_true,decide_eq_true_eq,true_and] at hr
  show(k:Int)<_
  omega
 ·rintro e W q
  rcases q with ⟨h,_⟩|⟨_,p,c,rfl,hb,ho⟩
  ·rw[hr] at h;cases h
  ·exact⟨_,rfl,hb,p,c,rfl,ho⟩
theorem lay_all(B ba b g cc:Nat)(pa:O0)(ca N k:Nat)(p:O0)(c n x:Nat)(t u v:Int)(Z:List Zv)(L:List Dv)(w:World)(hZ:Z.length=n)(hL:Z.map Prod.fst=L)(hk:PoolOk t u v (x:Int) L)(hP:∀ W,Below B w W→DevsR W p c Z)(hN:N=k-1)(hC:AlC B ba (k*256) cc ca 1 N)(hA:AlF B ba b g (k*256) cc pa ca N (List.replicate (k*256) (0:UInt8)) [] w)(hr:Mk x L≤k)(hk3:k≤3000)(hBw:B≤w.heap.size) :
 C0 55 #[.agg #[P0 ba],.agg #[V0 t,V0 u,V0 v,V0 (x:Int),.slice p n c]] w ((fun e w'=>e=.returned (.tuple #[])∧Below B w w'∧ImgR B b (S1 g) (k*256) cc (Df t u v x L k) w')):=by
 have hx:x≤65536:=by have:=hk.hdata;omega
 have t7:=Zbu hr
 have w8:Nc x L=Xw (F2 L)+Pr (Ys x L):=rfl
 have t2:=Ag hk hr (by omega)
 refine zin 72 Tryz.func55 ?_
 refine xa 2 [P0 ba] 115 fun b1 W1 n1=>?_
 refine xa 0 [V0 t,V0 u,V0 v,V0 (x:Int),.slice p n c] 48 fun b2 W2 n2=>?_
 refine xd 3 (.t B [200,5,28,123,132,140,134,24]) ?_
 have k2:=n2.blk.below (Za W2)
 refine xbt (.e [0] 1) 0 B [200,5,28,123,132,140,134,24] k2 ?_
 refine xbt (.e [2] 3) 1 B [200,5,28,123,132,140,134,24] k2 ?_
 refine xbt (.e [4] 5) 2 B [200,5,28,123,132,140,134,24] k2 ?_
 refine xbt (.e [6] 7) 3 B [200,5,28,123,132,140,134,24] k2 ?_
 have k1:=(n1.blk.below n2.below).below (Za W2)
 refine xbt (.e [8] 9) 0 B [200,5,28,123,132,140,134,24] k1 ?_
 refine xm2 0 10 13 ?_ ?_
 ·have f9:=((hA.below n1.below).below n2.below).below (Za W2)
  refine xr 0 (args:=#[P0 ba]) (Qr ba b _ _ _ f9.blkA) fun W3 d2=>?_
  refine xm2 0 11 13 ?_ ?_
  ·have o6:=f9.below d2
   refine xr 0 (args:=#[P0 b]) (by have q:=Yz b _ (k*256) _ _ o6.blkI (by omega);rw[show k*256/256=k by omega] at q;exact q) fun W4 p9=>?_
   refine xa (.o [12] 13) [V0 0,V0 0,V0 0,V0 0,V0 0,V0 0,V0 0,V0 0,V0 0,V0 0,V0 0] 24 fun b5 W5 n5=>?_
   have hB:=blB (blB (blB (blB (blB (Below.refl B w) hBw n1.below) hBw n2.below) hBw (Za W2)) hBw d2) hBw p9
   have g5:=n5.ge0 hB
   refine ysv (.o [] 14) n5.blk [V0 t,V0 u,V0 v,V0 (x:Int),V0 (k:Int),V0 0,V0 0,V0 0,V0 0,V0 0,V0 0] (.t B [200,5,28,123,132,140,134,24]) fun W6 u6 k6=>⟨(Zl u6 n5.blk (Nat.le_trans hBw g5) (by decide)),?_⟩
   have p2:=u6.blkT (((k1.below d2).below p9).below n5.below) n5.blk (by decide)
   refine xlv 9 p2.rp ?_
   have l2:=u6.blkT (((k2.below d2).below p9).below n5.below) n5.blk (by decide)
   refine xb 1 4 l2 ?_
   have s9:=((o6.below p9).below n5.below).only (Zf.of_upd (T:=[24]) u6 n5.blk (by decide)) (by decide)
   have d0:=u6.below (blB hB hBw n5.below) (Nat.le_trans hBw g5)
   refine xc 0 (args:=#[.agg #[P0 ba],.slice p n c]) (Mz B ba b g (k*256) cc pa ca N (List.replicate (k*256) (0:UInt8)) p c n (x:Int) Z L _ hZ hL hk.devs (by omega) (fun W h=>hP W (d0.trans h)) hC s9 (by omega) (Nat.le_trans hBw d0.size)) ?_
   rintro _ W7 ⟨rfl,t6,s6,hA⟩
   have d3:=k6.only s6 (by decide)
   refine xs 4 d3 [V0 t,V0 u,V0 v,V0 (x:Int),V0 (k:Int),V0 (↑(Xw (F1 L)):Int),V0 0,V0 0,V0 0,V0 0,V0 0] fun W8 u8 k8=>?_
   refine xs 1 k8 [V0 t,V0 u,V0 v,V0 (x:Int),V0 (k:Int),V0 (↑(Xw (F1 L)):Int),V0 (↑(Xw (F2 L)):Int),V0 0,V0 0,V0 0,V0 0] fun W9 u9 k9=>?_
   refine xd 3 (.t B [200,5,28,123,132,140,134,24]) ?_
   have l3:=(u9.blkT (u8.blkT (p2.only s6 (by decide)) d3 (by decide)) k8 (by decide)).below (Za W9)
   refine xbt (.e [0] 1) 0 B [200,5,28,123,132,140,134,24] l3 ?_
   have t0:=(u9.blkT (u8.blkT (l2.only s6 (by decide)) d3 (by decide)) k8 (by decide)).below (Za W9)
   refine xlvt (.e [] 2) (.t B [200,5,28,123,132,140,134,24]) (fun V hV=>(t0.only hV.2 (by decide)).rp) ?_
   have p1:=blB (u9.below (u8.below (d0.trans t6) (Nat.le_trans hBw g5)) (Nat.le_trans hBw g5)) hBw (Za W9)
   refine yc (.o [] 3) (args:=#[.agg #[V0 t,V0 u,V0 v,V0 (x:Int),.slice p n c]]) (.t B [200,5,28,123,132,140,134,24]) (by have q:=Cb p c n x t u v Z _ hZ (hP _ p1) (by rw[hL];exact hk);rw[hL] at q;exact q) ?_
   rintro _ y9 ⟨_,rfl,c2,q9,d9,rfl,j5⟩
   have s4:=(blB (u9.below (u8.below (d0.trans t6) (Nat.le_trans hBw g5)) (Nat.le_trans hBw g5)) hBw (Za W9)).size
   refine⟨(SF.of_below _ c2),?_⟩
   have o7:=Zd j5 s4
   have r4:=(((hA.only (Zf.of_upd (T:=[24]) u8 d3 (by decide)) (by decide)).only (Zf.of_upd (T:=[24]) u9 k8 (by decide)) (by decide)).below (Za W9)).below c2
   have f7:=blB p1 hBw c2
   refine yc (.o [] 4) (args:=#[P0 ba,.slice q9 x d9]) (.t B [200,5,28,123,132,140,134,24]) (by have q:=Di B ba b g (k*256) cc pa ca 1 N (Xw (F2 L)) (Mi L k) q9 d9 (Ys x L) _ hC r4 (by rw[Qf];have q:=Ze o7;rw[←Zf8] at q;exact q) (by rw[Qf];omega) (by rw[Cm];have:=Ck hk.devs;omega) (Lg (by omega) hk.devs) (by decide) (by omega) (by omega) (Nat.le_trans hBw f7.size);rw[Qf] at q;exact q) ?_
   rintro _ z2 ⟨rfl,h6,f8,u1,hA⟩
   refine⟨(Gi h6 f8),?_⟩
   have d1:=((k9.below (Za W9)).below c2).only f8 (by decide)
   refine ys (.o [5,6,7,8,9] 10) d1 [V0 t,V0 u,V0 v,V0 (x:Int),V0 (k:Int),V0 (↑(Xw (F1 L)):Int),V0 (↑(Xw (F2 L)):Int),V0 ((Jb x L k).1),V0 0,V0 0,V0 0] (.t B [200,5,28,123,132,140,134,24]) fun x5 i8 q0=>⟨(Zl i8 d1 (Nat.le_trans hBw g5) (by decide)),?_⟩
   refine ys (.o [11] 12) q0 [V0 t,V0 u,V0 v,V0 (x:Int),V0 (k:Int),V0 (↑(Xw (F1 L)):Int),V0 (↑(Xw (F2 L)):Int),V0 ((Jb x L k).1),V0 ((Jb x L k).2.1),V0 0,V0 0] (.t B [200,5,28,123,132,140,134,24]) fun ad j3 v8=>⟨(Zl j3 q0 (Nat.le_trans hBw g5) (by decide)),?_⟩
   refine xr (.r [13] 5) (args:=#[.nilIface]) (Ke _) fun n9 c6=>?_
   refine xd 3 (.t B [200,5,28,123,132,140,134,24]) ?_
   have g1:=((j3.blkT (i8.blkT ((l3.below c2).only f8 (by decide)) d1 (by decide)) q0 (by decide)).below c6).below (Za n9)
   refine xbt (.e [0] 1) 0 B [200,5,28,123,132,140,134,24] g1 ?_
   refine xlvt (.e [] 2) (.t B [200,5,28,123,132,140,134,24]) (fun V hV=>(g1.only hV.2 (by decide)).rp) ?_
   have m8:=(((hA.only (Zf.of_upd (T:=[24]) i8 d1 (by decide)) (by decide)).only (Zf.of_upd (T:=[24]) j3 q0 (by decide)) (by decide)).below c6).below (Za n9)
   refine yc (.o [] 3) (args:=#[.agg #[P0 ba]]) (.t B [200,5,28,123,132,140,134,24]) (Eb B ba b g cc pa ca 1 N (Nc x L) k _ _ m8 (by omega) (by omega)) ?_
   rintro _ x0 ⟨_,rfl,b4,q8,d8,rfl,n3⟩
   have s2:=(blB (blB (j3.below (i8.below (f7.trans h6) (Nat.le_trans hBw g5)) (Nat.le_trans hBw g5)) hBw c6) hBw (Za n9)).size
   refine⟨(SF.of_below _ b4),?_⟩
   have r1:=m8.below b4
   have k5:=Zd n3 s2
   have f0:=blB (blB (blB (j3.below (i8.below (f7.trans h6) (Nat.le_trans hBw g5)) (Nat.le_trans hBw g5)) hBw c6) hBw (Za n9)) hBw b4
   refine yc (.o [] 4) (args:=#[P0 ba,.slice (some q8) k d8]) (.t B [200,5,28,123,132,140,134,24]) (by have q:=Dg B ba b g (k*256) cc pa ca 1 N (Nc x L) (Jb x L k).2.2 q8 d8 (Qh (Nc x L+1) k) _ hC r1 (by rw[Xt];exact Ze k5) (by rw[Xt];omega) (by rw[Xt];omega) (Ls (by omega)) (by omega) (by rw[Eh];omega) (by decide) (by rw[Nat.add_comm 1];exact Dx) (Nat.le_trans hBw f0.size);rw[Xt] at q;exact q) ?_
   rintro _ af ⟨rfl,f1,g6,v4,hA⟩
   refine⟨(Gi f1 g6),?_⟩
   have a3:=(((v8.below c6).below (Za n9)).below b4).only g6 (by decide)
   refine ys (.o [5,6,7,8,9] 10) a3 [V0 t,V0 u,V0 v,V0 (x:Int),V0 (k:Int),V0 (↑(Xw (F1 L)):Int),V0 (↑(Xw (F2 L)):Int),V0 ((Jb x L k).1),V0 ((Jb x L k).2.1),V0 ((Po x L k).1),V0 0] (.t B [200,5,28,123,132,140,134,24]) fun x1 i6 q4=>⟨(Zl i6 a3 (Nat.le_trans hBw g5) (by decide)),?_⟩
   refine ys (.o [11] 12) q4 [V0 t,V0 u,V0 v,V0 (x:Int),V0 (k:Int),V0 (↑(Xw (F1 L)):Int),V0 (↑(Xw (F2 L)):Int),V0 ((Jb x L k).1),V0 ((Jb x L k).2.1),V0 ((Po x L k).1),V0 ((Po x L k).2.1)] (.t B [200,5,28,123,132,140,134,24]) fun w6 l1 u5=>⟨(Zl l1 q4 (Nat.le_trans hBw g5) (by decide)),?_⟩
   refine xr (.r [13] 5) (args:=#[.nilIface]) (Ke _) fun w9 b0=>?_
   have l7:=u5.below b0
   refine xlv 4 l7.rp ?_
   refine xc 0 (args:=#[.agg #[V0 t,V0 u,V0 v,V0 (x:Int),V0 (k:Int),V0 (↑(Xw (F1 L)):Int),V0 (↑(Xw (F2 L)):Int),V0 ((Jb x L k).1),V0 ((Jb x L k).2.1),V0 ((Po x L k).1),V0 ((Po x L k).2.1)]]) (Zai t u v x k L _ t2) ?_
   rintro _ z3 ⟨_,rfl,h4,q7,d7,rfl,k7⟩
   have r8:=(blB (l1.below (i6.below (f0.trans f1) (Nat.le_trans hBw g5)) (Nat.le_trans hBw g5)) hBw b0).size
   have r5:=((l1.blkT (i6.blkT ((g1.below b4).only g6 (by decide)) a3 (by decide)) q4 (by decide)).below b0).below h4
   refine xb 19 0 r5 ?_
   have i4:=(((hA.only (Zf.of_upd (T:=[24]) i6 a3 (by decide)) (by decide)).only (Zf.of_upd (T:=[24]) l1 q4 (by decide)) (by decide)).below b0).below h4
   refine xr 0 (args:=#[P0 ba]) (Qr ba b _ _ _ i4.blkA) fun ao f3=>?_
   have k3:=Zb (Zd k7 r8) f3
   have j6:=i4.below f3
   have p0:=blB (blB (blB (l1.below (i6.below (f0.trans f1) (Nat.le_trans hBw g5)) (Nat.le_trans hBw g5)) hBw b0) hBw h4) hBw f3
   refine xc 1 (args:=#[P0 b,V0 0,V0 1,.slice q7 244 d7]) (Nh B b (S1 g) (k*256) cc 0 (0:Int) (Po x L k).2.2 1 q7 d7 244 (Ww (Zb6 t u v x L k)) _ rfl (Ja _) ⟨j6.blkI,j6.data,hC.hn⟩ (by omega) (by decide) (by decide) (Yk (Ze k3) (Ja _)) (by decide) (Nat.le_trans hBw p0.size)) ?_
   rintro _ ak ⟨rfl,r9,t8,hI⟩
   refine xr 0 (args:=#[.nilIface]) (Ke _) fun y6 j2=>?_
   have s3:=hI.below j2
   have t4:=blB (p0.trans r9) hBw j2
   exact xe 1 (.tuple #[]) ⟨rfl,t4,s3⟩
  refine xa 0 [V0 0,V0 0,V0 0,V0 0,V0 0,V0 0,V0 0,V0 0,V0 0,V0 0,V0 0] 24 fun aj x2 h9=>?_
  have i7:=(f9.below d2).below h9.below
  refine xr (.o [] 11) (args:=#[P0 b]) (by have q:=Yz b _ (k*256) _ _ i7.blkI (by omega);rw[show k*256/256=k by omega] at q;exact q) fun z9 c4=>?_
  have p6:=h9.blk.below c4
  have a1:=h9.ge0 (blB (blB (blB (blB (Below.refl B w) hBw n1.below) hBw n2.below) hBw (Za W2)) hBw d2)
  refine ysv (.o [12] 14) p6 [V0 t,V0 u,V0 v,V0 (x:Int),V0 (k:Int),V0 0,V0 0,V0 0,V0 0,V0 0,V0 0] (.t B [200,5,28,123,132,140,134,24]) fun z8 p3 u0=>⟨(Zl p3 p6 (Nat.le_trans hBw a1) (by decide)),?_⟩
  have m6:=p3.blkT (((k1.below d2).below h9.below).below c4) p6 (by decide)
  refine xlv 9 m6.rp ?_
  have m3:=p3.blkT (((k2.below d2).below h9.below).below c4) p6 (by decide)
  refine xb 1 4 m3 ?_
  have m1:=(i7.below c4).only (Zf.of_upd (T:=[24]) p3 p6 (by decide)) (by decide)
  have hB:=p3.below (blB (blB (blB (blB (blB (blB (Below.refl B w) hBw n1.below) hBw n2.below) hBw (Za W2)) hBw d2) hBw h9.below) hBw c4) (Nat.le_trans hBw a1)
  refine xc 0 (args:=#[.agg #[P0 ba],.slice p n c]) (Mz B ba b g (k*256) cc pa ca N (List.replicate (k*256) (0:UInt8)) p c n (x:Int) Z L _ hZ hL hk.devs (by omega) (fun W h=>hP W (hB.trans h)) hC m1 (by omega) (Nat.le_trans hBw hB.size)) ?_
  rintro _ aa ⟨rfl,j1,g0,hA⟩
  have a5:=u0.only g0 (by decide)
  refine xs 4 a5 [V0 t,V0 u,V0 v,V0 (x:Int),V0 (k:Int),V0 (↑(Xw (F1 L)):Int),V0 0,V0 0,V0 0,V0 0,V0 0] fun z5 o9 q1=>?_
  refine xs 1 q1 [V0 t,V0 u,V0 v,V0 (x:Int),V0 (k:Int),V0 (↑(Xw (F1 L)):Int),V0 (↑(Xw (F2 L)):Int),V0 0,V0 0,V0 0,V0 0] fun i0 o3 u7=>?_
  refine xd 3 (.t B [200,5,28,123,132,140,134,24]) ?_
  have p7:=(o3.blkT (o9.blkT (m6.only g0 (by decide)) a5 (by decide)) q1 (by decide)).below (Za i0)
  refine xbt (.e [0] 1) 0 B [200,5,28,123,132,140,134,24] p7 ?_
  have s7:=(o3.blkT (o9.blkT (m3.only g0 (by decide)) a5 (by decide)) q1 (by decide)).below (Za i0)
  refine xlvt (.e [] 2) (.t B [200,5,28,123,132,140,134,24]) (fun V hV=>(s7.only hV.2 (by decide)).rp) ?_
  have o1:=blB (o3.below (o9.below (hB.trans j1) (Nat.le_trans hBw a1)) (Nat.le_trans hBw a1)) hBw (Za i0)
  refine yc (.o [] 3) (args:=#[.agg #[V0 t,V0 u,V0 v,V0 (x:Int),.slice p n c]]) (.t B [200,5,28,123,132,140,134,24]) (by have q:=Cb p c n x t u v Z _ hZ (hP _ o1) (by rw[hL];exact hk);rw[hL] at q;exact q) ?_
  rintro _ y0 ⟨_,rfl,c3,q9,d9,rfl,j5⟩
  have s5:=(blB (o3.below (o9.below (hB.trans j1) (Nat.le_trans hBw a1)) (Nat.le_trans hBw a1)) hBw (Za i0)).size
  refine⟨(SF.of_below _ c3),?_⟩
  have o8:=Zd j5 s5
  have n0:=(((hA.only (Zf.of_upd (T:=[24]) o9 a5 (by decide)) (by decide)).only (Zf.of_upd (T:=[24]) o3 q1 (by decide)) (by decide)).below (Za i0)).below c3
  have h0:=blB o1 hBw c3
  refine yc (.o [] 4) (args:=#[P0 ba,.slice q9 x d9]) (.t B [200,5,28,123,132,140,134,24]) (by have q:=Di B ba b g (k*256) cc pa ca 1 N (Xw (F2 L)) (Mi L k) q9 d9 (Ys x L) _ hC n0 (by rw[Qf];have q:=Ze o8;rw[←Zf8] at q;exact q) (by rw[Qf];omega) (by rw[Cm];have:=Ck hk.devs;omega) (Lg (by omega) hk.devs) (by decide) (by omega) (by omega) (Nat.le_trans hBw h0.size);rw[Qf] at q;exact q) ?_
  rintro _ al ⟨rfl,f4,e9,v7,hA⟩
  refine⟨(Gi f4 e9),?_⟩
  have a7:=((u7.below (Za i0)).below c3).only e9 (by decide)
  refine ys (.o [5,6,7,8,9] 10) a7 [V0 t,V0 u,V0 v,V0 (x:Int),V0 (k:Int),V0 (↑(Xw (F1 L)):Int),V0 (↑(Xw (F2 L)):Int),V0 ((Jb x L k).1),V0 0,V0 0,V0 0] (.t B [200,5,28,123,132,140,134,24]) fun w1 m0 q3=>⟨(Zl m0 a7 (Nat.le_trans hBw a1) (by decide)),?_⟩
  refine ys (.o [11] 12) q3 [V0 t,V0 u,V0 v,V0 (x:Int),V0 (k:Int),V0 (↑(Xw (F1 L)):Int),V0 (↑(Xw (F2 L)):Int),V0 ((Jb x L k).1),V0 ((Jb x L k).2.1),V0 0,V0 0] (.t B [200,5,28,123,132,140,134,24]) fun w5 j4 v9=>⟨(Zl j4 q3 (Nat.le_trans hBw a1) (by decide)),?_⟩
  refine xr (.r [13] 5) (args:=#[.nilIface]) (Ke _) fun i5 b9=>?_
  refine xd 3 (.t B [200,5,28,123,132,140,134,24]) ?_
  have h2:=((j4.blkT (m0.blkT ((p7.below c3).only e9 (by decide)) a7 (by decide)) q3 (by decide)).below b9).below (Za i5)
  refine xbt (.e [0] 1) 0 B [200,5,28,123,132,140,134,24] h2 ?_
  refine xlvt (.e [] 2) (.t B [200,5,28,123,132,140,134,24]) (fun V hV=>(h2.only hV.2 (by decide)).rp) ?_
  have e8:=(((hA.only (Zf.of_upd (T:=[24]) m0 a7 (by decide)) (by decide)).only (Zf.of_upd (T:=[24]) j4 q3 (by decide)) (by decide)).below b9).below (Za i5)
  refine yc (.o [] 3) (args:=#[.agg #[P0 ba]]) (.t B [200,5,28,123,132,140,134,24]) (Eb B ba b g cc pa ca 1 N (Nc x L) k _ _ e8 (by omega) (by omega)) ?_
  rintro _ ai ⟨_,rfl,a9,q8,d8,rfl,n3⟩
  have t5:=(blB (blB (j4.below (m0.below (h0.trans f4) (Nat.le_trans hBw a1)) (Nat.le_trans hBw a1)) hBw b9) hBw (Za i5)).size
  refine⟨(SF.of_below _ a9),?_⟩
  have k0:=e8.below a9
  have o4:=Zd n3 t5
  have h5:=blB (blB (blB (j4.below (m0.below (h0.trans f4) (Nat.le_trans hBw a1)) (Nat.le_trans hBw a1)) hBw b9) hBw (Za i5)) hBw a9
  refine yc (.o [] 4) (args:=#[P0 ba,.slice (some q8) k d8]) (.t B [200,5,28,123,132,140,134,24]) (by have q:=Dg B ba b g (k*256) cc pa ca 1 N (Nc x L) (Jb x L k).2.2 q8 d8 (Qh (Nc x L+1) k) _ hC k0 (by rw[Xt];exact Ze o4) (by rw[Xt];omega) (by rw[Xt];omega) (Ls (by omega)) (by omega) (by rw[Eh];omega) (by decide) (by rw[Nat.add_comm 1];exact Dx) (Nat.le_trans hBw h5.size);rw[Xt] at q;exact q) ?_
  rintro _ ab ⟨rfl,h3,h1,v2,hA⟩
  refine⟨(Gi h3 h1),?_⟩
  have a6:=(((v9.below b9).below (Za i5)).below a9).only h1 (by decide)
  refine ys (.o [5,6,7,8,9] 10) a6 [V0 t,V0 u,V0 v,V0 (x:Int),V0 (k:Int),V0 (↑(Xw (F1 L)):Int),V0 (↑(Xw (F2 L)):Int),V0 ((Jb x L k).1),V0 ((Jb x L k).2.1),V0 ((Po x L k).1),V0 0] (.t B [200,5,28,123,132,140,134,24]) fun z6 k4 q6=>⟨(Zl k4 a6 (Nat.le_trans hBw a1) (by decide)),?_⟩
  refine ys (.o [11] 12) q6 [V0 t,V0 u,V0 v,V0 (x:Int),V0 (k:Int),V0 (↑(Xw (F1 L)):Int),V0 (↑(Xw (F2 L)):Int),V0 ((Jb x L k).1),V0 ((Jb x L k).2.1),V0 ((Po x L k).1),V0 ((Po x L k).2.1)] (.t B [200,5,28,123,132,140,134,24]) fun x6 p5 v0=>⟨(Zl p5 q6 (Nat.le_trans hBw a1) (by decide)),?_⟩
  refine xr (.r [13] 5) (args:=#[.nilIface]) (Ke _) fun w0 c7=>?_
  have l4:=v0.below c7
  refine xlv 4 l4.rp ?_
  refine xc 0 (args:=#[.agg #[V0 t,V0 u,V0 v,V0 (x:Int),V0 (k:Int),V0 (↑(Xw (F1 L)):Int),V0 (↑(Xw (F2 L)):Int),V0 ((Jb x L k).1),V0 ((Jb x L k).2.1),V0 ((Po x L k).1),V0 ((Po x L k).2.1)]]) (Zai t u v x k L _ t2) ?_
  rintro _ z0 ⟨_,rfl,f5,q7,d7,rfl,k7⟩
  have r3:=(blB (p5.below (k4.below (h5.trans h3) (Nat.le_trans hBw a1)) (Nat.le_trans hBw a1)) hBw c7).size
  have r0:=((p5.blkT (k4.blkT ((h2.below a9).only h1 (by decide)) a6 (by decide)) q6 (by decide)).below c7).below f5
  refine xb 19 0 r0 ?_
  have e3:=(((hA.only (Zf.of_upd (T:=[24]) k4 a6 (by decide)) (by decide)).only (Zf.of_upd (T:=[24]) p5 q6 (by decide)) (by decide)).below c7).below f5
  refine xr 0 (args:=#[P0 ba]) (Qr ba b _ _ _ e3.blkA) fun w7 g8=>?_
  have i2:=Zb (Zd k7 r3) g8
  have e7:=e3.below g8
  have e0:=blB (blB (blB (p5.below (k4.below (h5.trans h3) (Nat.le_trans hBw a1)) (Nat.le_trans hBw a1)) hBw c7) hBw f5) hBw g8
  refine xc 1 (args:=#[P0 b,V0 0,V0 1,.slice q7 244 d7]) (Nh B b (S1 g) (k*256) cc 0 (0:Int) (Po x L k).2.2 1 q7 d7 244 (Ww (Zb6 t u v x L k)) _ rfl (Ja _) ⟨e7.blkI,e7.data,hC.hn⟩ (by omega) (by decide) (by decide) (Yk (Ze i2) (Ja _)) (by decide) (Nat.le_trans hBw e0.size)) ?_
  rintro _ ah ⟨rfl,r2,v5,hI⟩
  refine xr 0 (args:=#[.nilIface]) (Ke _) fun w3 o0=>?_
  have s8:=hI.below o0
  have n4:=blB (e0.trans r2) hBw o0
  exact xe 1 (.tuple #[]) ⟨rfl,n4,s8⟩
 refine xa 0 [V0 0,V0 0,V0 0,V0 0,V0 0,V0 0,V0 0,V0 0,V0 0,V0 0,V0 0] 24 fun y1 ae h8=>?_
 have d4:=(((hA.below n1.below).below n2.below).below (Za W2)).below h8.below
 refine xr (.o [] 10) (args:=#[P0 ba]) (Qr ba b _ _ _ d4.blkA) fun x7 c8=>?_
 have d6:=d4.below c8
 refine xr (.o [] 11) (args:=#[P0 b]) (by have q:=Yz b _ (k*256) _ _ d6.blkI (by omega);rw[show k*256/256=k by omega] at q;exact q) fun y8 b6=>?_
 have j9:=(h8.blk.below c8).below b6
 have a0:=h8.ge0 (blB (blB (blB (Below.refl B w) hBw n1.below) hBw n2.below) hBw (Za W2))
 refine ysv (.o [12] 14) j9 [V0 t,V0 u,V0 v,V0 (x:Int),V0 (k:Int),V0 0,V0 0,V0 0,V0 0,V0 0,V0 0] (.t B [200,5,28,123,132,140,134,24]) fun w4 m5 u2=>⟨(Zl m5 j9 (Nat.le_trans hBw a0) (by decide)),?_⟩
 have n7:=m5.blkT (((k1.below h8.below).below c8).below b6) j9 (by decide)
 refine xlv 9 n7.rp ?_
 have n6:=m5.blkT (((k2.below h8.below).below c8).below b6) j9 (by decide)
 refine xb 1 4 n6 ?_
 have m7:=(d6.below b6).only (Zf.of_upd (T:=[24]) m5 j9 (by decide)) (by decide)
 have hB:=m5.below (blB (blB (blB (blB (blB (blB (Below.refl B w) hBw n1.below) hBw n2.below) hBw (Za W2)) hBw h8.below) hBw c8) hBw b6) (Nat.le_trans hBw a0)
 refine xc 0 (args:=#[.agg #[P0 ba],.slice p n c]) (Mz B ba b g (k*256) cc pa ca N (List.replicate (k*256) (0:UInt8)) p c n (x:Int) Z L _ hZ hL hk.devs (by omega) (fun W h=>hP W (hB.trans h)) hC m7 (by omega) (Nat.le_trans hBw hB.size)) ?_
 rintro _ z1 ⟨rfl,j7,g3,hA⟩
 have a4:=u2.only g3 (by decide)
 refine xs 4 a4 [V0 t,V0 u,V0 v,V0 (x:Int),V0 (k:Int),V0 (↑(Xw (F1 L)):Int),V0 0,V0 0,V0 0,V0 0,V0 0] fun y7 n8 q2=>?_
 refine xs 1 q2 [V0 t,V0 u,V0 v,V0 (x:Int),V0 (k:Int),V0 (↑(Xw (F1 L)):Int),V0 (↑(Xw (F2 L)):Int),V0 0,V0 0,V0 0,V0 0] fun i1 p4 t9=>?_
 refine xd 3 (.t B [200,5,28,123,132,140,134,24]) ?_
 have e2:=(p4.blkT (n8.blkT (n7.only g3 (by decide)) a4 (by decide)) q2 (by decide)).below (Za i1)
 refine xbt (.e [0] 1) 0 B [200,5,28,123,132,140,134,24] e2 ?_
 have t3:=(p4.blkT (n8.blkT (n6.only g3 (by decide)) a4 (by decide)) q2 (by decide)).below (Za i1)
 refine xlvt (.e [] 2) (.t B [200,5,28,123,132,140,134,24]) (fun V hV=>(t3.only hV.2 (by decide)).rp) ?_
 have e4:=blB (p4.below (n8.below (hB.trans j7) (Nat.le_trans hBw a0)) (Nat.le_trans hBw a0)) hBw (Za i1)
 refine yc (.o [] 3) (args:=#[.agg #[V0 t,V0 u,V0 v,V0 (x:Int),.slice p n c]]) (.t B [200,5,28,123,132,140,134,24]) (by have q:=Cb p c n x t u v Z _ hZ (hP _ e4) (by rw[hL];exact hk);rw[hL] at q;exact q) ?_
 rintro _ y2 ⟨_,rfl,c5,q9,d9,rfl,j5⟩
 have t1:=(blB (p4.below (n8.below (hB.trans j7) (Nat.le_trans hBw a0)) (Nat.le_trans hBw a0)) hBw (Za i1)).size
 refine⟨(SF.of_below _ c5),?_⟩
 have i9:=Zd j5 t1
 have j0:=(((hA.only (Zf.of_upd (T:=[24]) n8 a4 (by decide)) (by decide)).only (Zf.of_upd (T:=[24]) p4 q2 (by decide)) (by decide)).below (Za i1)).below c5
 have b3:=blB e4 hBw c5
 refine yc (.o [] 4) (args:=#[P0 ba,.slice q9 x d9]) (.t B [200,5,28,123,132,140,134,24]) (by have q:=Di B ba b g (k*256) cc pa ca 1 N (Xw (F2 L)) (Mi L k) q9 d9 (Ys x L) _ hC j0 (by rw[Qf];have q:=Ze i9;rw[←Zf8] at q;exact q) (by rw[Qf];omega) (by rw[Cm];have:=Ck hk.devs;omega) (Lg (by omega) hk.devs) (by decide) (by omega) (by omega) (Nat.le_trans hBw b3.size);rw[Qf] at q;exact q) ?_
 rintro _ x4 ⟨rfl,g7,g9,v1,hA⟩
 refine⟨(Gi g7 g9),?_⟩
 have a8:=((t9.below (Za i1)).below c5).only g9 (by decide)
 refine ys (.o [5,6,7,8,9] 10) a8 [V0 t,V0 u,V0 v,V0 (x:Int),V0 (k:Int),V0 (↑(Xw (F1 L)):Int),V0 (↑(Xw (F2 L)):Int),V0 ((Jb x L k).1),V0 0,V0 0,V0 0] (.t B [200,5,28,123,132,140,134,24]) fun ag l9 p8=>⟨(Zl l9 a8 (Nat.le_trans hBw a0) (by decide)),?_⟩
 refine ys (.o [11] 12) p8 [V0 t,V0 u,V0 v,V0 (x:Int),V0 (k:Int),V0 (↑(Xw (F1 L)):Int),V0 (↑(Xw (F2 L)):Int),V0 ((Jb x L k).1),V0 ((Jb x L k).2.1),V0 0,V0 0] (.t B [200,5,28,123,132,140,134,24]) fun x3 l6 v6=>⟨(Zl l6 p8 (Nat.le_trans hBw a0) (by decide)),?_⟩
 refine xr (.r [13] 5) (args:=#[.nilIface]) (Ke _) fun l0 b7=>?_
 refine xd 3 (.t B [200,5,28,123,132,140,134,24]) ?_
 have c9:=((l6.blkT (l9.blkT ((e2.below c5).only g9 (by decide)) a8 (by decide)) p8 (by decide)).below b7).below (Za l0)
 refine xbt (.e [0] 1) 0 B [200,5,28,123,132,140,134,24] c9 ?_
 refine xlvt (.e [] 2) (.t B [200,5,28,123,132,140,134,24]) (fun V hV=>(c9.only hV.2 (by decide)).rp) ?_
 have e5:=(((hA.only (Zf.of_upd (T:=[24]) l9 a8 (by decide)) (by decide)).only (Zf.of_upd (T:=[24]) l6 p8 (by decide)) (by decide)).below b7).below (Za l0)
 refine yc (.o [] 3) (args:=#[.agg #[P0 ba]]) (.t B [200,5,28,123,132,140,134,24]) (Eb B ba b g cc pa ca 1 N (Nc x L) k _ _ e5 (by omega) (by omega)) ?_
 rintro _ y3 ⟨_,rfl,b8,q8,d8,rfl,n3⟩
 have r7:=(blB (blB (l6.below (l9.below (b3.trans g7) (Nat.le_trans hBw a0)) (Nat.le_trans hBw a0)) hBw b7) hBw (Za l0)).size
 refine⟨(SF.of_below _ b8),?_⟩
 have l8:=e5.below b8
 have j8:=Zd n3 r7
 have c0:=blB (blB (blB (l6.below (l9.below (b3.trans g7) (Nat.le_trans hBw a0)) (Nat.le_trans hBw a0)) hBw b7) hBw (Za l0)) hBw b8
 refine yc (.o [] 4) (args:=#[P0 ba,.slice (some q8) k d8]) (.t B [200,5,28,123,132,140,134,24]) (by have q:=Dg B ba b g (k*256) cc pa ca 1 N (Nc x L) (Jb x L k).2.2 q8 d8 (Qh (Nc x L+1) k) _ hC l8 (by rw[Xt];exact Ze j8) (by rw[Xt];omega) (by rw[Xt];omega) (Ls (by omega)) (by omega) (by rw[Eh];omega) (by decide) (by rw[Nat.add_comm 1];exact Dx) (Nat.le_trans hBw c0.size);rw[Xt] at q;exact q) ?_
 rintro _ x8 ⟨rfl,h7,f6,u3,hA⟩
 refine⟨(Gi h7 f6),?_⟩
 have a2:=(((v6.below b7).below (Za l0)).below b8).only f6 (by decide)
 refine ys (.o [5,6,7,8,9] 10) a2 [V0 t,V0 u,V0 v,V0 (x:Int),V0 (k:Int),V0 (↑(Xw (F1 L)):Int),V0 (↑(Xw (F2 L)):Int),V0 ((Jb x L k).1),V0 ((Jb x L k).2.1),V0 ((Po x L k).1),V0 0] (.t B [200,5,28,123,132,140,134,24]) fun y4 m9 q5=>⟨(Zl m9 a2 (Nat.le_trans hBw a0) (by decide)),?_⟩
 refine ys (.o [11] 12) q5 [V0 t,V0 u,V0 v,V0 (x:Int),V0 (k:Int),V0 (↑(Xw (F1 L)):Int),V0 (↑(Xw (F2 L)):Int),V0 ((Jb x L k).1),V0 ((Jb x L k).2.1),V0 ((Po x L k).1),V0 ((Po x L k).2.1)] (.t B [200,5,28,123,132,140,134,24]) fun x9 o2 u4=>⟨(Zl o2 q5 (Nat.le_trans hBw a0) (by decide)),?_⟩
 refine xr (.r [13] 5) (args:=#[.nilIface]) (Ke _) fun y5 c1=>?_
 have m2:=u4.below c1
 refine xlv 4 m2.rp ?_
 refine xc 0 (args:=#[.agg #[V0 t,V0 u,V0 v,V0 (x:Int),V0 (k:Int),V0 (↑(Xw (F1 L)):Int),V0 (↑(Xw (F2 L)):Int),V0 ((Jb x L k).1),V0 ((Jb x L k).2.1),V0 ((Po x L k).1),V0 ((Po x L k).2.1)]]) (Zai t u v x k L _ t2) ?_
 rintro _ z4 ⟨_,rfl,f2,q7,d7,rfl,k7⟩
 have s0:=(blB (o2.below (m9.below (c0.trans h7) (Nat.le_trans hBw a0)) (Nat.le_trans hBw a0)) hBw c1).size
 have l5:=((o2.blkT (m9.blkT ((c9.below b8).only f6 (by decide)) a2 (by decide)) q5 (by decide)).below c1).below f2
 refine xb 19 0 l5 ?_
 have d5:=(((hA.only (Zf.of_upd (T:=[24]) m9 a2 (by decide)) (by decide)).only (Zf.of_upd (T:=[24]) o2 q5 (by decide)) (by decide)).below c1).below f2
 refine xr 0 (args:=#[P0 ba]) (Qr ba b _ _ _ d5.blkA) fun w2 g2=>?_
 have o5:=Zb (Zd k7 s0) g2
 have e6:=d5.below g2
 have e1:=blB (blB (blB (o2.below (m9.below (c0.trans h7) (Nat.le_trans hBw a0)) (Nat.le_trans hBw a0)) hBw c1) hBw f2) hBw g2
 refine xc 1 (args:=#[P0 b,V0 0,V0 1,.slice q7 244 d7]) (Nh B b (S1 g) (k*256) cc 0 (0:Int) (Po x L k).2.2 1 q7 d7 244 (Ww (Zb6 t u v x L k)) _ rfl (Ja _) ⟨e6.blkI,e6.data,hC.hn⟩ (by omega) (by decide) (by decide) (Yk (Ze o5) (Ja _)) (by decide) (Nat.le_trans hBw e1.size)) ?_
 rintro _ ac ⟨rfl,s1,v3,hI⟩
 refine xr 0 (args:=#[.nilIface]) (Ke _) fun z7 i3=>?_
 have r6:=hI.below i3
 have m4:=blB (e1.trans s1) hBw i3
 exact xe 1 (.tuple #[]) ⟨rfl,m4,r6⟩
theorem levB_succ{t:Int}{leaf:Bool}{m v:Nat}{l:List Ent}{q:Nat}{bs:Bl}(j:Nat):Zda t leaf m v l q bs (j+1)=Vq (Zda t leaf m v l q bs j) ((q+j)*256) (Xs 2 ((q+j:Nat):Int) (nodB t leaf m v (Xo l m j))):=rfl
theorem Zde{t:Int}{leaf:Bool}{m v:Nat}{l:List Ent}{q:Nat}{bs:Bl}(E:EntsOk v l)(h1:1≤t)(h2:t≤5)(hm:Qt t leaf=m)(hv:Pe t leaf=v)(hl:leaf=false→1≤l.length)(j:Nat) :
 j≤ovN l.length m→(q+j)*256≤bs.length→(Zda t leaf m v l q bs j).length=bs.length∧(∀ i,i<j→Yu (Zda t leaf m v l q bs j) (q+i)=Xs 2 ((q+i:Nat):Int) (nodB t leaf m v (Xo l m i)))∧(∀ x,x<q→Yu (Zda t leaf m v l q bs j) x=Yu bs x):=by
 induction j with
 | zero=>exact fun _ _=>⟨rfl,fun i hi=>absurd hi (Nat.not_lt_zero i),fun x _=>rfl⟩
 | succ j ih =>
  intro hj hq
  obtain⟨a1,a2,a3⟩:=ih (by omega) (by omega)
  have a4:=Zb0 (Rm E h1 h2 hm hv hl (show j<ovN l.length m by omega))
  have a0:(Xs 2 ((q+j:Nat):Int) (nodB t leaf m v (Xo l m j))).length=256:=Vt (by rw[a4];decide)
  rw[levB_succ]
  generalize Zda t leaf m v l q bs j=y at a1 a2 a3 ⊢
  generalize hx:Xs 2 ((q+j:Nat):Int) (nodB t leaf m v (Xo l m j))=x at a0 ⊢
  have hk:q+j<y.length/256:=by rw[a1];omega
  refine⟨?_,fun i hi=>?_,fun z hz=>?_⟩
  ·rw[Qp (by rw[a0,a1];omega),a1]
  ·by_cases e:i=j
   ·subst e;rw[hx];exact Zav a0 hk
   ·rw[Qx a0 hk (by omega) (by omega)];exact a2 i (by omega)
  ·rw[Qx a0 hk (by omega) (by omega)];exact a3 z hz
theorem Zgm{t:Int}(h1:1≤t)(h2:t≤5)(n:Nat):∀ (u:List Ent) (q:Nat) (bs:Bl),u.length=n→1≤n→EntsOk 4 u→(q+((Za5 n).sum-n))*256≤bs.length→(Pi t u q bs).2.length=bs.length∧∀ x,x<q→Yu (Pi t u q bs).2 x=Yu bs x:=by
 induction n using Nat.strongRecOn with
 | _ n ih =>
  intro u q bs hn a5 E hq
  subst hn
  by_cases h:u.length≤1
  ·rw[Nl h];exact⟨rfl,fun _ _=>rfl⟩
  ·have a0:=ov18 (x:=u.length) (by omega)
   have hp:=Vw u.length 18
   have a4:(Za5 u.length).sum=u.length+(Za5 (ovN u.length 18)).sum:=by rw[Hp h];rfl
   have hg:=Lq (ovN u.length 18)
   rw[Ll h]
   obtain⟨a1,a2,a3⟩:=Zde (t:=t) (leaf:=false) (m:=18) (v:=4) (l:=u) (q:=q) (bs:=bs) E h1 h2 rfl rfl (fun _=>by omega) (ovN u.length 18) (Nat.le_refl _) (by omega)
   obtain⟨b1,b2⟩:=ih (ovN u.length 18) (by omega) (upE u 18 q (ovN u.length 18)) (q+ovN u.length 18) (Zda t false 18 4 u q bs (ovN u.length 18)) (Ye _ _ _ _) hp (up_ok E (by decide)) (by rw[a1];omega)
   exact⟨by rw[b1,a1],fun x hx=>by rw[b2 x (by omega),a3 x hx]⟩
theorem Mb{t:Int}{l:List Ent}{q:Nat}{bs:Bl}(h1:1≤t)(h2:t≤5)(E:EntsOk (Pe t true) l)(hq:(q+Xy t l.length)*256≤bs.length):(Ym t l q bs).2.length=bs.length∧∀ x,x<q→Yu (Ym t l q bs).2 x=Yu bs x:=by
 obtain⟨m,hm⟩:∃ m,Qt t true=m:=⟨_,rfl⟩
 have a0:=Qs t true
 have a4:=Vw l.length m
 have hg:=Lq (ovN l.length m)
 have hN:Xy t l.length=(Za5 (ovN l.length m)).sum:=by unfold Xy Ut;rw[hm]
 rw[hm] at a0
 rw[hN] at hq
 unfold Ym
 rw[hm]
 obtain⟨a1,a2,a3⟩:=Zde (t:=t) (leaf:=true) (m:=m) (v:=Pe t true) (l:=l) (q:=q) (bs:=bs) E h1 h2 hm rfl (fun h=>by cases h) (ovN l.length m) (Nat.le_refl _) (by omega)
 obtain⟨b1,b2⟩:=Zgm (t:=t) h1 h2 (ovN l.length m) (upE l m q (ovN l.length m)) (q+ovN l.length m) (Zda t true m (Pe t true) l q bs (ovN l.length m)) (Ye _ _ _ _) a4 (up_ok E a0.1) (by rw[a1];omega)
 exact⟨by rw[b1,a1],fun x hx=>by rw[b2 x (by omega),a3 x hx]⟩
theorem Nz{L:List (List Int)}{q:Nat}{bs:Bl}:∀ n,(q+n)*256≤bs.length→(Kr L q bs n).length=bs.length
 | 0,_=>rfl
 | n+1,h=>by
  have ih:=Nz (L:=L) (q:=q) (bs:=bs) n (by omega)
  have hx:(Xs 3 ((q+n:Nat):Int) (Vv (L.getD n []))).length=256:=Vt (by unfold Vv;rw[Qi];decide)
  show(Vq (Kr L q bs n) ((q+n)*256) (Xs 3 ((q+n:Nat):Int) (Vv (L.getD n [])))).length=_
  rw[Qp (by rw[hx,ih];omega),ih]
theorem bitsB_I{l:List Int}(h:Jz l)(hl:l.length≤960):Ny (Vv l) l.length=l:=by
 apply List.ext_getElem (by rw[Ri])
 intro i h1 h2
 have e:=Zhn h (i:=i) (by omega)
 rw[show l.getD i 0=l[i] from by simp[List.getD,h2]] at e
 simp[Ny,Fs,e]
theorem data_bits{F:Bl}{k:Nat}{c:List Int}(hk:k<F.length/256)(h4:k<14400)(hb:Yu F k=Xs 3 (k:Int) (Vv c))(hs:Jz c)(hl:c.length≤960):Xn F (k:Int)=0∧Zb4 F (k:Int)=c:=by
 have h:=Zgr (kind:=3) (by decide) (by decide) hk h4 (by unfold Vv;rw[Qi]) hb
 have he:Xn F (k:Int)=0:=by unfold Xn;rw[if_pos h.1,h.2,if_pos (bitsB_ok hs hl)]
 refine⟨he,?_⟩
 unfold Zb4
 rw[if_pos he,h.2,Sa hl,bitsB_I hs hl]
theorem forB_len(r:List Gv):∀ (q:Nat) (bs:Bl),(∀ x∈r,Bn x)→(q+Xw r)*256≤bs.length→(Zbf r q bs).length=bs.length:=by
 induction r with
 | nil=>intro q bs _ _;rfl
 | cons x r ih =>
  intro q bs h hb
  have hx:=h x (by simp)
  rw[show Xw (x::r)=Lb x+Xw r from rfl] at hb
  have hk:=Mb (q:=q) (bs:=bs) hx.1 hx.2.1 hx.2.2.1 (by change (q+Lb x)*256≤_;omega)
  rw[show Zbf (x::r) q bs=Zbf r (q+Lb x) (Ym x.1 x.2 q bs).2 from rfl,ih _ _ (fun y hy=>h y (by simp[hy])) (by rw[hk.1];omega),hk.1]
theorem supN_bdL{s:Sup}(h:Zp s=true):s.blocks≤14400∧∀ x∈Zag s,0≤x∧x.toNat<256 ^ 4:=by
 unfold Zp at h
 simp only[Bool.and_eq_true,decide_eq_true_eq,true_and] at h
 refine⟨by omega,fun x hx=>?_⟩
 simp only[Zag,List.mem_cons,List.not_mem_nil,or_false] at hx
 rcases hx with rfl|rfl|rfl|rfl|rfl|rfl|rfl|rfl|rfl|rfl|rfl<;>omega
theorem nums_read(N:List Int)(Q:Bl)(h:∀ x∈N,0≤x∧x.toNat<256 ^ 4)(P:Bl)(i:Nat)(hi:i<N.length):(Zg (P++(Hv N++Q)) (P.length+i*4) 4:Int)=N.getD i 0:=by
 induction N generalizing P i with
 | nil=>simp at hi
 | cons n N ih =>
  have e:Hv (n::N)=leB n 4++Hv N:=rfl
  cases i with
  | zero =>
   have:=h n (by simp)
   rw[e,List.append_assoc]
   simpa using Gf (P:=P) (Q:=Hv N++Q) (k:=P.length) (w:=4) (x:=n) rfl this.1 this.2
  | succ i =>
   have a0:i<N.length:=by simpa using hi
   have:=ih (fun x hx=>h x (by simp[hx])) (P++leB n 4) i a0
   rw[e,List.append_assoc,←List.append_assoc P]
   rw[List.length_append,Zi] at this
   rw[show P.length+(i+1)*4=P.length+4+i*4 by omega,this]
   simp[List.getD]
theorem Dy{s:Sup}(h:Zp s=true):Xe (Ww s)=s∧Zg (Ww s) 8 4=1:=by
 have hb:=(supN_bdL h).2
 have g:=nums_read (1::Zag s) (List.replicate 188 0) (fun x hx=>by
  rcases List.mem_cons.1 hx with rfl|q
  ·decide
  ·exact hb x q) Gh
 have g:∀ i,i<12→(Zg (Ww s) (8+i*4) 4:Int)=(1::Zag s).getD i 0:=fun i hi=>by
  have:=g i (by show i<12;exact hi)
  rw[show Gh.length=8 from rfl] at this
  unfold Ww
  rw[List.append_assoc]
  exact this
 constructor
 ·unfold Xe
  rw[show(Zg (Ww s) 12 4:Int)=s.tx from g 1 (by decide),show(Zg (Ww s) 16 4:Int)=s.time from g 2 (by decide),show(Zg (Ww s) 20 4:Int)=s.unit from g 3 (by decide),show(Zg (Ww s) 24 4:Int)=s.data from g 4 (by decide),show(Zg (Ww s) 28 4:Int)=s.blocks from g 5 (by decide),show(Zg (Ww s) 32 4:Int)=s.top from g 6 (by decide),show(Zg (Ww s) 36 4:Int)=s.details from g 7 (by decide),show(Zg (Ww s) 40 4:Int)=s.dslots from g 8 (by decide),show(Zg (Ww s) 44 4:Int)=s.dover from g 9 (by decide),show(Zg (Ww s) 48 4:Int)=s.mindex from g 10 (by decide),show(Zg (Ww s) 52 4:Int)=s.mover from g 11 (by decide)]
 ·have:(Zg (Ww s) 8 4:Int)=1:=g 0 (by decide)
  omega
theorem supOk_supB{s:Sup}(h:Zp s=true):Au (Ww s)=true:=by
 rw[supOk_eq (Ja s),(Dy h).1,h];simp
theorem sup_back{F:Bl}{s:Sup}{k:Nat}(hl:F.length=k*256)(hk:1≤k)(hb:Yu F 0=Xs 1 ((0:Nat):Int) (Ww s))(hr:Zp s=true)(hs:s.blocks≤(k:Int)):Vi F=0∧Xe (inB F 0)=s:=by
 obtain⟨h1,h2⟩:=Zgr (l:=F) (kind:=1) (k:=0) (li:=Ww s) (by decide) (by decide) (by omega) (by decide) (Ja s) hb
 have h1:inE F 1 0=0:=h1
 have h2:inB F 0=Ww s:=h2
 refine⟨?_,by rw[h2];exact(Dy hr).1⟩
 unfold Vi
 rw[if_pos h1,h2]
 unfold supTE
 rw[if_pos (supOk_supB hr),(Dy hr).1,if_neg (by rw[hl];omega)]
theorem Sm{L:List (List Int)}{q:Nat}{bs:Bl}:∀ n,(q+n)*256≤bs.length→∀ x,x<q→Yu (Kr L q bs n) x=Yu bs x
 | 0,_,_,_=>rfl
 | n+1,h,x,hx=>by
  have ih:=Sm (L:=L) (q:=q) (bs:=bs) n (by omega) x hx
  have hl:=Nz (L:=L) (q:=q) (bs:=bs) n (by omega)
  have a0:(Xs 3 ((q+n:Nat):Int) (Vv (L.getD n []))).length=256:=Vt (by unfold Vv;rw[Qi];decide)
  show Yu (Vq (Kr L q bs n) ((q+n)*256) (Xs 3 ((q+n:Nat):Int) (Vv (L.getD n [])))) x=_
  rw[Qx a0 (by rw[hl];omega) (by omega) (by rw[hl];omega),ih]
theorem plot_keep{l:List Int}{q:Nat}{bs:Bl}(hl:l.length≤65536)(hb:(q+Pr l)*256≤bs.length):(Za2 l q bs).2.2.length=bs.length∧∀ x,x<q→Yu (Za2 l q bs).2.2 x=Yu bs x:=by
 obtain⟨N,hN⟩:∃ N,bmN l.length=N:=⟨_,rfl⟩
 obtain⟨L,hL⟩:∃ L,Xp (Zu l) N=L:=⟨_,rfl⟩
 obtain⟨O,hO⟩:∃ O,Zy l l.length=O:=⟨_,rfl⟩
 have a2:Pr l=N+Xy 4 N+Xy 5 O.length:=by unfold Pr;rw[hN,hO]
 have a3:N≤69:=by unfold bmN at hN;omega
 have ES:EntsOk (Pe 4 true) (Yj L q N):=Oc _ _ _ (by omega)
 have EO:EntsOk (Pe 5 true) O:=hO▸Ch _ _ (by omega)
 have a0:=Nz (L:=L) (q:=q) (bs:=bs) N (by omega)
 have a1:=Sm (L:=L) (q:=q) (bs:=bs) N (by omega)
 have k4:=Mb (t:=4) (l:=Yj L q N) (q:=q+N) (bs:=Kr L q bs N) (by decide) (by decide) ES (by rw[a0,Hl];omega)
 have k5:=Mb (t:=5) (l:=O) (q:=q+N+Xy 4 N) (bs:=(Ym 4 (Yj L q N) (q+N) (Kr L q bs N)).2) (by decide) (by decide) EO (by rw[k4.1,a0];omega)
 have hP:(Za2 l q bs).2.2=(Ym 5 O (q+N+Xy 4 N) (Ym 4 (Yj L q N) (q+N) (Kr L q bs N)).2).2:=by
  unfold Za2;simp only[hN,hL,hO]
 rw[hP]
 exact⟨by rw[k5.1,k4.1,a0],fun x hx=>by rw[k5.2 x (by omega),k4.2 x (by omega),a1 x hx]⟩
theorem meta_keep{l:List Int}{u:Nat}{bs:Bl}(hl:l.length≤3000)(hb:(u+Qa l)*256≤bs.length):(Cw l u 0 bs).2.2.length=bs.length∧∀ x,x<u→Yu (Cw l u 0 bs).2.2 x=Yu bs x:=by
 obtain⟨N,hN⟩:∃ N,bmN l.length=N:=⟨_,rfl⟩
 obtain⟨O,hO⟩:∃ O,Zy l l.length=O:=⟨_,rfl⟩
 obtain⟨T,hT⟩:∃ T,Xy 5 O.length=T:=⟨_,rfl⟩
 have hm:Qa l=T+N+1:=by unfold Qa;rw[hN,hO,hT]
 obtain⟨B,hB⟩:∃ B,Va l u (Qa l)=B:=⟨_,rfl⟩
 have a4:B.length=l.length:=by rw[←hB,Vd]
 obtain⟨C,hC⟩:∃ C,Xp (Zu B) N=C:=⟨_,rfl⟩
 obtain⟨R,hR⟩:∃ R,Rs C (u+T) N=R:=⟨_,rfl⟩
 obtain⟨X,hX⟩:∃ X,Xs 4 ((u+T+N:Nat):Int) (Ei R)=X:=⟨_,rfl⟩
 have a7:N≤4:=by unfold bmN at hN;omega
 have hP:(Cw l u 0 bs).2.2=Vq (Kr C (u+T) (Ym 5 O u bs).2 N) ((u+T+N)*256) X:=by
  unfold Cw
  simp only[Nat.add_zero,hB,a4,hN,hO,hT,hC,hR,hX]
 have EO:EntsOk (Pe 5 true) O:=hO▸Ch _ _ (by omega)
 have a6:R.length=N:=by rw[←hR,Ts]
 have a0:=Mb (t:=5) (l:=O) (q:=u) (bs:=bs) (by decide) (by decide) EO (by rw[hT];omega)
 have a1:=Nz (L:=C) (q:=u+T) (bs:=(Ym 5 O u bs).2) N (by rw[a0.1];omega)
 have a3:=Sm (L:=C) (q:=u+T) (bs:=(Ym 5 O u bs).2) N (by rw[a0.1];omega)
 rw[hP]
 by_cases hN15:N≤15
 ·have a5:(Ei R).length=244:=Cq (by omega)
  have a2:X.length=256:=by rw[←hX];exact Vt (by omega)
  exact⟨by rw[Qp (by rw[a2,a1,a0.1];omega),a1,a0.1],fun x hx=>by rw[Qx a2 (by rw[a1,a0.1];omega) (by omega) (by rw[a1,a0.1];omega),a3 x (by omega),a0.2 x hx]⟩
 ·exact absurd hN15 (by omega)
theorem lay_parts{t u v:Int}{x k:Nat}{L:List Dv}(hk:PoolOk t u v (x:Int) L)(hr:Mk x L≤k)(hk3:k≤3000) :
 (Df t u v x L k).length=k*256∧Vi (Df t u v x L k)=0∧Xe (inB (Df t u v x L k) 0)=Zb6 t u v x L k∧∀ j,1≤j→j<1+Xw (F2 L)→Yu (Df t u v x L k) j=Yu (Mi L k) j:=by
 have a1:=Zbu hr
 have hx:x≤65536:=by have:=hk.hdata;omega
 have a3:=Ag hk hr (by omega)
 have a4:∀ y∈F2 L,Bn y:=fun y hy=>by
  unfold F2 F1 at hy
  rcases List.mem_append.1 hy with q|q
  ·rcases List.mem_append.1 q with q|q
   ·exact devT_ok hk.devs y q
   ·rw[List.mem_singleton.1 q];exact top_ok hk.devs
  ·rw[List.mem_singleton.1 q];exact det_ok hk.devs
 have l1:(Mi L k).length=k*256:=by
  unfold Mi
  rw[forB_len _ _ _ a4 (by rw[List.length_replicate];omega),List.length_replicate]
 have a6:Nc x L=Xw (F2 L)+Pr (Ys x L):=rfl
 have p2:=plot_keep (l:=Ys x L) (q:=1+Xw (F2 L)) (bs:=Mi L k) (by rw[Qf];exact hx) (by rw[l1];omega)
 have e2:(Jb x L k)=Za2 (Ys x L) (1+Xw (F2 L)) (Mi L k):=rfl
 rw[←e2] at p2
 have hn:Qa (Qh (Nc x L+1) k)=2+bmN k:=by
  unfold Qa
  rw[Uo,Xt,List.length_nil,Zak];omega
 have p3:=meta_keep (l:=Qh (Nc x L+1) k) (u:=1+Nc x L) (bs:=(Jb x L k).2.2) (by rw[Xt];exact hk3) (by rw[hn,p2.1,l1];omega)
 have e3:(Po x L k).2.2=(Cw (Qh (Nc x L+1) k) (1+Nc x L) 0 (Jb x L k).2.2).2.2:=by
  unfold Po Cw
  simp only[Nat.add_zero]
 rw[←e3] at p3
 have l3:(Po x L k).2.2.length=k*256:=by rw[p3.1,p2.1,l1]
 have a0:(Xs 1 (0:Nat) (Ww (Zb6 t u v x L k))).length=256:=Vt (by rw[Ja];decide)
 have lB:(Df t u v x L k).length=k*256:=by
  unfold Df
  rw[Qp (by rw[a0,l3];omega),l3]
 have a5:Yu (Df t u v x L k) 0=Xs 1 ((0:Nat):Int) (Ww (Zb6 t u v x L k)):=by
  unfold Df
  exact Zav a0 (by rw[l3];omega)
 obtain⟨s1,s2⟩:=sup_back lB (by omega) a5 a3 (Int.le_refl _)
 refine⟨lB,s1,s2,fun j a7 a2=>?_⟩
 unfold Df
 rw[Qx a0 (by rw[l3];omega) (by omega) (by rw[l3];omega),p3.2 j (by omega),p2.2 j a2]
theorem ov_one{t:Int}{n:Nat}(h:n≤Qt t true):ovN n (Qt t true)=1:=by
 have hm:=(Qs t true).1
 have hp:=Vw n (Qt t true)
 have:(n+Qt t true-1)/Qt t true≤1:=by
  have:=Nat.div_lt_of_lt_mul (m:=n+Qt t true-1) (n:=Qt t true) (k:=2) (by omega)
  omega
 unfold ovN
 omega
theorem Rj{t:Int}{l:List Ent}{q:Nat}{bs:Bl}(h:l.length≤Qt t true):Ym t l q bs=((q:Int),Vq bs (q*256) (Xs 2 ((q:Nat):Int) (nodB t true (Qt t true) (Pe t true) l))):=by
 unfold Ym
 rw[ov_one h,Nl (by rw[Ye];exact Nat.le_refl _)]
 have e:Xo l (Qt t true) 0=l:=by unfold Xo;rw[Nat.zero_mul,List.drop_zero,List.take_of_length_le h]
 show(((q+0:Nat):Int),Vq bs ((q+0)*256) (Xs 2 ((q+0:Nat):Int) (nodB t true (Qt t true) (Pe t true) (Xo l (Qt t true) 0))))=_
 rw[e,Nat.add_zero]
theorem one_ok{t:Int}{l:List Ent}(E:EntsOk (Pe t true) l)(h1:1≤t)(h2:t≤5)(h:l.length≤Qt t true):NodeOk t true l.length (Qt t true) (Pe t true) (Kl l) (Hz l):=by
 have e:Xo l (Qt t true) 0=l:=by unfold Xo;rw[Nat.zero_mul,List.drop_zero,List.take_of_length_le h]
 have:=Rm (l:=l) E h1 h2 rfl rfl (fun h=>by cases h) (i:=0) (by rw[ov_one h];decide)
 rw[e] at this
 exact this
theorem one_read{F:Bl}{t:Int}{l:List Ent}{q:Nat}(E:EntsOk (Pe t true) l)(h1:1≤t)(h2:t≤5)(h:l.length≤Qt t true)(hq:q<F.length/256)(h4:q<14400)(hb:Yu F q=Xs 2 ((q:Nat):Int) (nodB t true (Qt t true) (Pe t true) l)) :
 Xl F (q:Int) t=0∧Yi (inB F (q:Int))=true∧Xi (inB F (q:Int))=l.length∧nodK F (q:Int)=Kl l∧Vy F (q:Int)=Hz l:=by
 have N:=one_ok E h1 h2 h
 obtain⟨he,a0⟩:=blk_back N rfl hq h4 hb t (.inr rfl)
 have B:=nod_back N
 refine⟨he,by rw[a0];exact B.l,by rw[a0];exact B.c,?_,?_⟩
 ·unfold nodK;rw[a0,B.c];exact B.k
 ·unfold Vy;rw[a0,B.c];exact B.v
theorem entsNil(w:Nat):EntsOk w []:=⟨fun i hi=>absurd hi (by simp),fun j hj=>absurd hj (by simp),fun i hi=>absurd hi (by simp)⟩
theorem ov0(t:Int):ovN 0 (Qt t true)=1:=by
 have hp:=Vw 0 (Qt t true)
 have hm:=(Qs t true).1
 have h1:ovN 0 (Qt t true)≤1:=by
  unfold ovN
  have:(0+Qt t true-1)/Qt t true=0:=Nat.div_eq_of_lt (by omega)
  omega
 omega
theorem Zdl(t:Int):Xy t 0=1:=by
 unfold Xy Ut
 rw[ov0,Gg (by decide)];rfl
theorem nod0_ok{t:Int}(h1:1≤t)(h2:t≤5):NodeOk t true (Xo [] (Qt t true) 0).length (Qt t true) (Pe t true) (Kl (Xo [] (Qt t true) 0)) (Hz (Xo [] (Qt t true) 0)) :=
 Rm (l:=[]) (entsNil _) h1 h2 rfl rfl (fun h=>by cases h) (i:=0) (by rw[show([]:List Ent).length=0 from rfl,ov0];decide)
abbrev Z26:Bl:=List.replicate (8*256) 0
theorem lay26_1:Mi [] 8=(Ym 3 [] 2 (Ym 1 [] 1 Z26).2).2:=by
 show Zbf [(1,[]),(3,[])] 1 Z26=_
 have e:Lb ((1:Int),([]:List Ent))=1:=Zdl 1
 rw[Zbf,Zbf,Zbf,e]
theorem Zal:Xw (F2 [])=2:=by
 show Xy 1 0+(Xy 3 0+0)=2
 rw[Zdl,Zdl]
theorem lay26_D:(Jb 0 [] 8).2.2=(Ym 5 [] 4 (Ym 4 [] 3 (Mi [] 8)).2).2:=by
 unfold Jb
 rw[Zal]
 show(Ym 5 [] (1+2+0+Xy 4 0) (Ym 4 [] (1+2+0) (Mi [] 8)).2).2=_
 rw[Zdl]
theorem lay26_K:Nc 0 []=4:=by
 unfold Nc
 rw[Zal]
 show 2+(0+Xy 4 0+Xy 5 0)=4
 rw[Zdl,Zdl]
theorem put_at{l:Bl}{k:Nat}{kind:Int}{li:Bl}{n:Nat}(hl:l.length=n*256)(hk:k<n)(h3:li.length≤244) :
 (Vq l (k*256) (Xs kind (k:Int) li)).length=n*256∧Yu (Vq l (k*256) (Xs kind (k:Int) li)) k=Xs kind (k:Int) li∧∀ j,j<n→j≠k→Yu (Vq l (k*256) (Xs kind (k:Int) li)) j=Yu l j:=by
 have hs:(Xs kind (k:Int) li).length=256:=Vt h3
 exact⟨by rw[Qp (by rw[hs,hl];omega),hl],Zav hs (by omega),fun j hj e=>Qx hs (by omega) e (by omega)⟩
def Ze1(t:Int):Bl:=nodB t true (Qt t true) (Pe t true) []
theorem Cd{l:Bl}{k:Nat}{t:Int}{n:Nat}(hl:l.length=n*256)(hk:k<n)(h1:1≤t)(h2:t≤5) :
 (Ym t [] k l).1=(k:Int)∧(Ym t [] k l).2.length=n*256∧Yu (Ym t [] k l).2 k=Xs 2 (k:Int) (Ze1 t)∧∀ j,j<n→j≠k→Yu (Ym t [] k l).2 j=Yu l j:=by
 rw[Rj (Nat.zero_le _)]
 have e:Xo [] (Qt t true) 0=([]:List Ent):=by simp[Xo]
 have hn:=Zb0 (nod0_ok h1 h2)
 rw[e] at hn
 exact⟨rfl,put_at hl hk (by rw[hn];decide)⟩
abbrev B47:Bl:=Df 0 0 1 0 [] 8
theorem need47:Qa (Qh 5 8)=3:=by
 unfold Qa
 rw[Uo,Xt,List.length_nil,Zak];rfl
theorem bump47:Va (Qh 5 8) 5 3=[1,1,1,1,1,1,1,1]:=by decide
theorem chunk47:Xp (Zu [1,1,1,1,1,1,1,1]) 1=[[1,1,1,1,1,1,1,1]]:=by decide
theorem rs47:Rs [[1,1,1,1,1,1,1,1]] 6 1=[(6,0,8)]:=by decide
theorem meta47:Po 0 [] 8=(7,5,Vq (Vq (Ym 5 [] 5 (Jb 0 [] 8).2.2).2 (6*256) (Xs 3 ((6:Nat):Int) (Vv [1,1,1,1,1,1,1,1]))) (7*256) (Xs 4 ((7:Nat):Int) (Ei [(6,0,8)]))):=by
 have hb:bmN (Va (Qh 5 8) 5 3).length=1:=by rw[Vd,Xt];rfl
 unfold Po
 rw[lay26_K]
 unfold Cw
 rw[need47,bump47,Uo,List.length_nil,Zdl]
 show(((5+1+1:Nat):Int),(Ym 5 [] 5 (Jb 0 [] 8).2.2).1,Vq (Kr (Xp (Zu [1,1,1,1,1,1,1,1]) 1) 6 (Ym 5 [] 5 (Jb 0 [] 8).2.2).2 1) (7*256) (Xs 4 ((7:Nat):Int) (Ei (Rs (Xp (Zu [1,1,1,1,1,1,1,1]) 1) 6 1))))=_
 rw[chunk47,rs47,Rj (Nat.zero_le _)]
 rfl
theorem Za8:B47.length=8*256∧Yu B47 1=Xs 2 ((1:Nat):Int) (Ze1 1)∧Yu B47 2=Xs 2 ((2:Nat):Int) (Ze1 3)∧Yu B47 3=Xs 2 ((3:Nat):Int) (Ze1 4)∧Yu B47 4=Xs 2 ((4:Nat):Int) (Ze1 5)∧Yu B47 5=Xs 2 ((5:Nat):Int) (Ze1 5)∧Yu B47 6=Xs 3 ((6:Nat):Int) (Vv [1,1,1,1,1,1,1,1])∧Yu B47 7=Xs 4 ((7:Nat):Int) (Ei [(6,0,8)]):=by
 obtain⟨-,a1,b1,c1⟩:=Cd (l:=Z26) (k:=1) (n:=8) (t:=1) List.length_replicate (by decide) (by decide) (by decide)
 obtain⟨-,a2,b2,c2⟩:=Cd (k:=2) (n:=8) (t:=3) a1 (by decide) (by decide) (by decide)
 rw[←lay26_1] at a2 b2 c2
 obtain⟨-,a3,b3,c3⟩:=Cd (k:=3) (n:=8) (t:=4) a2 (by decide) (by decide) (by decide)
 obtain⟨-,a4,b4,c4⟩:=Cd (k:=4) (n:=8) (t:=5) a3 (by decide) (by decide) (by decide)
 rw[←lay26_D] at a4 b4 c4
 obtain⟨-,a5,b5,c5⟩:=Cd (k:=5) (n:=8) (t:=5) a4 (by decide) (by decide) (by decide)
 obtain⟨a6,b6,c6⟩:=put_at (k:=6) (n:=8) (kind:=3) (li:=Vv [1,1,1,1,1,1,1,1]) a5 (by decide) (by unfold Vv;rw[Qi];decide)
 obtain⟨a7,b7,c7⟩:=put_at (k:=7) (n:=8) (kind:=4) (li:=Ei [(6,0,8)]) a6 (by decide) (by rw[Cq (by decide)];decide)
 have e7:(Po 0 [] 8).2.2=Vq (Vq (Ym 5 [] 5 (Jb 0 [] 8).2.2).2 (6*256) (Xs 3 ((6:Nat):Int) (Vv [1,1,1,1,1,1,1,1]))) (7*256) (Xs 4 ((7:Nat):Int) (Ei [(6,0,8)])):=by rw[meta47]
 rw[←e7] at a7 b7 c7
 obtain⟨a0,b0,c0⟩:=put_at (k:=0) (n:=8) (kind:=1) (li:=Ww (Zb6 0 0 1 0 [] 8)) a7 (by decide) (by rw[Ja];decide)
 refine⟨a0,?_,?_,?_,?_,?_,?_,?_⟩
 ·exact(c0 1 (by decide) (by decide)).trans ((c7 1 (by decide) (by decide)).trans ((c6 1 (by decide) (by decide)).trans ((c5 1 (by decide) (by decide)).trans ((c4 1 (by decide) (by decide)).trans ((c3 1 (by decide) (by decide)).trans ((c2 1 (by decide) (by decide)).trans b1))))))
 ·exact(c0 2 (by decide) (by decide)).trans ((c7 2 (by decide) (by decide)).trans ((c6 2 (by decide) (by decide)).trans ((c5 2 (by decide) (by decide)).trans ((c4 2 (by decide) (by decide)).trans ((c3 2 (by decide) (by decide)).trans b2)))))
 ·exact(c0 3 (by decide) (by decide)).trans ((c7 3 (by decide) (by decide)).trans ((c6 3 (by decide) (by decide)).trans ((c5 3 (by decide) (by decide)).trans ((c4 3 (by decide) (by decide)).trans b3))))
 ·exact(c0 4 (by decide) (by decide)).trans ((c7 4 (by decide) (by decide)).trans ((c6 4 (by decide) (by decide)).trans ((c5 4 (by decide) (by decide)).trans b4)))
 ·exact(c0 5 (by decide) (by decide)).trans ((c7 5 (by decide) (by decide)).trans ((c6 5 (by decide) (by decide)).trans b5))
 ·exact(c0 6 (by decide) (by decide)).trans ((c7 6 (by decide) (by decide)).trans b6)
 ·exact(c0 7 (by decide) (by decide)).trans b7
theorem Zd2{q:Nat}{t:Int}(h1:1≤t)(h2:t≤5)(hq:q<8)(hb:Yu B47 q=Xs 2 ((q:Nat):Int) (Ze1 t)):Pb B47 (q:Int) t=0∧Nw B47 (q:Int) t=[]:=by
 obtain⟨e,_,_,_,hv⟩:=one_read (l:=[]) (entsNil _) h1 h2 (Nat.zero_le _) (by rw[Za8.1];omega) (by omega) hb
 constructor
 ·unfold Pb;rw[if_neg (by omega),if_neg (by omega)];exact e
 ·unfold Nw;rw[if_neg (by omega),if_neg (by omega)]
  unfold Zd6
  rw[hv]
  split<;>rfl
theorem idx47:Pb B47 7 6=0∧Nw B47 7 6=[(7,6,7,0)]:=by
 obtain⟨h1,h2⟩:=Zgr (l:=B47) (kind:=4) (k:=7) (li:=Ei [(6,0,8)]) (by decide) (by decide) (by rw[Za8.1];decide) (by decide) (Cq (by decide)) Za8.2.2.2.2.2.2.2
 have hS:Rq [(6,0,8)]:=⟨by decide,fun i hi=>by
  obtain rfl:i=0:=by simpa using hi
  exact⟨by decide,by decide,by decide,by decide⟩⟩
 have a0:Xx B47 ((7:Nat):Int)=0:=by unfold Xx;rw[if_pos h1,h2];exact(Zcm hS).1
 have a1:Vz B47 ((7:Nat):Int)=[(6,0,8)]:=by rw[(Cx a0).1,h2,idxB_cnt (by decide)];exact(Zcm hS).2
 exact⟨a0,by show(Vz B47 7).map (Fh 7)=_;rw[show Vz B47 7=_ from a1];rfl⟩
theorem bit47:Pb B47 6 7=0∧Nw B47 6 7=[]:=by
 obtain⟨h1,_⟩:=data_bits (F:=B47) (k:=6) (c:=[1,1,1,1,1,1,1,1]) (by rw[Za8.1];decide) (by decide) Za8.2.2.2.2.2.2.1 (fun x hx=>by revert x hx;decide) (by decide)
 exact⟨h1,rfl⟩
theorem s47r:Zp (Zb6 0 0 1 0 [] 8)=true:=by
 refine Ag (t:=0) (u:=0) (v:=1) (x:=0) (L:=[]) (k:=8) ⟨by decide,by decide,by decide,by decide,DevsOk.nil _⟩ ?_ (by decide)
 have e:Cy 0 []=1+Xy 3 0+Xy 1 0+0+0+Xy 4 0+Xy 5 0:=rfl
 unfold Mk
 rw[e,Zdl,Zdl,Zdl,Zdl]
 decide
theorem lay47_F1:Xw (F1 [])=1:=by
 show Xy 1 0+0=1
 rw[Zdl]
theorem s47_is:Zb6 0 0 1 0 [] 8=⟨0,0,1,0,8,1,2,3,4,7,5⟩:=by
 have hD:(Jb 0 [] 8).1=3∧(Jb 0 [] 8).2.1=4:=by
  unfold Jb
  rw[Zal]
  show(Ym 4 [] (1+2+0) (Mi [] 8)).1=3∧(Ym 5 [] (1+2+0+Xy 4 0) (Ym 4 [] (1+2+0) (Mi [] 8)).2).1=4
  rw[Zdl,Rj (Nat.zero_le _),Rj (Nat.zero_le _)]
  exact⟨rfl,rfl⟩
 unfold Zb6
 rw[lay47_F1,Zal,hD.1,hD.2,meta47]
 rfl
theorem Sr{out r J:List Lk}{x:Lk}(h:x.2.2.2=0)(h2:0≤x.2.1∧x.2.1<((8:Nat):Int))(h3:Vg out x.2.1=false)(h4:Pb B47 x.2.1 x.2.2.1=0)(h5:Nw B47 x.2.1 x.2.2.1=J):Wf B47 8 out (x::r)=Wf B47 8 (out++[x]) (J++r):=by
 rw[Sj h h2 h3 h4,h5]
def lk47:List Lk:=[(0,1,1,0),(0,2,3,0),(0,3,4,0),(0,4,5,0),(0,7,6,0),(7,6,7,0),(0,5,5,0)]
theorem links47:Xr B47 (Zb6 0 0 1 0 [] 8)=(lk47,[],0):=by
 obtain⟨_,b1,b2,b3,b4,b5,b6,b7⟩:=Za8
 have e1:=Zd2 (q:=1) (t:=1) (by decide) (by decide) (by decide) b1
 have e2:=Zd2 (q:=2) (t:=3) (by decide) (by decide) (by decide) b2
 have e3:=Zd2 (q:=3) (t:=4) (by decide) (by decide) (by decide) b3
 have e4:=Zd2 (q:=4) (t:=5) (by decide) (by decide) (by decide) b4
 have e5:=Zd2 (q:=5) (t:=5) (by decide) (by decide) (by decide) b5
 unfold Xr
 rw[if_neg (by rw[s47r];decide),s47_is]
 show Wf B47 8 [] [(0,1,1,0),(0,2,3,0),(0,3,4,0),(0,4,5,0),(0,7,6,0),(0,5,5,0)]=_
 rw[Sr (x:=(0,1,1,0)) rfl (by decide) (by decide) e1.1 e1.2]
 simp only[List.nil_append]
 rw[Sr (x:=(0,2,3,0)) rfl (by decide) (by decide) e2.1 e2.2]
 simp only[List.nil_append,List.cons_append]
 rw[Sr (x:=(0,3,4,0)) rfl (by decide) (by decide) e3.1 e3.2]
 simp only[List.nil_append,List.cons_append]
 rw[Sr (x:=(0,4,5,0)) rfl (by decide) (by decide) e4.1 e4.2]
 simp only[List.nil_append,List.cons_append]
 rw[Sr (x:=(0,7,6,0)) rfl (by decide) (by decide) idx47.1 idx47.2]
 simp only[List.nil_append,List.cons_append]
 rw[Sr (x:=(7,6,7,0)) rfl (by decide) (by decide) bit47.1 bit47.2]
 simp only[List.nil_append,List.cons_append]
 rw[Sr (x:=(0,5,5,0)) rfl (by decide) (by decide) e5.1 e5.2]
 simp only[List.nil_append,List.cons_append]
 rfl
end Go.Proofs.YtceeiinepijokaaGreatDoor
namespace Go.Proofs.YtceeiinepijokaaGreatDoor
set_option maxHeartbeats 8000000
set_option maxRecDepth 100000
open Go.RowKit Go.Extern.Stop Go.Stop Go.Extern
set_option linter.unusedVariables false
attribute [local irreducible] wpList wpAnyH Code.wp Oper.wp Go
section
attribute [local semireducible] Oper.wp
theorem op_deferV{P:Program}{Q:Exit→Act→World→Prop}{a:Act}{w:World}{K:Act→World→Prop}{o:Oper}{c:Operand}{f:FuncId}{cap:Array Value}(ho:o.op=.defer { callee:=.value c,args:=#[],argTypes:=#[] })(hc:a.eval c=.func (.func f) #[] cap)
 (k:K ({ a with defers:={ target:=.fn (.func f) cap,args:=#[] }::a.defers }.put o.dst undef) w):o.wp P a w K Q:=by
 have h2:(execOp a.eval o).run P w=.ok (.defer { target:=.fn (.func f) cap,args:=#[] }) w:=by
  simp[execOp,ho,resolve,hc,Deferred.ofValue]
 simp only[Oper.wp,h2,Oper.upon]
 exact k
end
theorem g_retD{P:Program}{fn:Func}{R:Ending→World→Prop}{a:Act}{w:World}(f:FuncId)(cap:Array Value)(v:Value)(hd:a.defers=[{ target:=.fn (.func f) cap,args:=#[] }])(hi:∀ w,(invoke (.fn (.func f) cap) #[]).run P w=.ok (.enter f cap) w)
 (hc:CallsD P f cap .returning w fun e u w'=>e=.returned (.tuple #[])∧u=.returning∧B3 w w') (h:∀ W,B3 w W→(results fn a.tmps).run P W=.ok v W∧R (.returned v) W):bodyPostD P fn R .ret a w:=by
 show Leaves P fn a.tmps R a.defers .returning w
 rw[hd]
 refine leaves_cons (by simp) (hi w) (hc.mono ?_)
 rintro e u w' ⟨rfl,rfl,hb⟩
 obtain⟨h1,h2⟩:=h w' hb
 exact⟨v,h1,h2⟩
theorem Fa{P:Program}{w:World}{b:Nat}{t:TypeId}{x:Value}(k:Blk w b [x] t)(hu:aggB P t=some false):(loadVar t ⟨b,0,none⟩).run P w=.ok x w:=by
 have hc:w.cell? ⟨b,0,none⟩=some x:=k.cell (i:=0) rfl
 simp[loadVar,Sem.run_bind,Zc5 hu,load,Sem.run,hc]
theorem res_kk{P:Program}{fn:Func}{tmps:Array Value}{w:World}{k j:Nat}{t s:TypeId}{b c:Nat}{x y:Value}(hfn:fn.results=#[.cell k t,.cell j s])(e:tmps.getD k undef=P0 b)(e2:tmps.getD j undef=P0 c)
 (hx:Blk w b [x] t) (hy:Blk w c [y] s) (hu:aggB P t=some false) (hu2:aggB P s=some false):(results fn tmps).run P w=.ok (.tuple #[x,y]) w:=by
 have h:=Fa hx hu
 have h2:=Fa hy hu2
 have e':tmps[k]?.getD undef=P0 b:=by simpa using e
 have a0:tmps[j]?.getD undef=P0 c:=by simpa using e2
 simp[results,hfn,e',a0,asAddr,h,h2]
theorem lay_idle(b c:Nat)(w:World):CallsD Tryz.prog 50 #[P0 b,P0 c] .returning w fun e u w'=>e=.returned (.tuple #[])∧u=.returning∧B3 w w':=by
 refine callsD_of_wpS Tryz.func50 rfl fun c₀ cs hu=>?_
 have a0:∀ w,(Instr.typeAssert .nilIface 20 106 true).run Tryz.prog w=.ok (.tuple #[.agg #[.nilIface],.bool false]) w:=fun w=>by kernel_rfl
 apply wpS_seq
 apply wpS_region
 simp[wpOpsS,go_sem,recoverD,hu,Tryz.ntmps50,Exit.thenS,a0]
 apply wpS_seq
 apply wpS_region
 simp[wpOpsS,go_sem,Exit.thenS]
 refine wpS_cond (t:=false) (by simp[Act.eval,Array.replicate]) ?_
 simp only[Bool.false_eq_true,if_false]
 refine wpS_of_wp (wp_skip ?_)
 cases c₀
 have hb:=blx w (Obj.cells #[Value.nilIface] 106)
 simp_all [bodyPostS,results,Tryz.results50]
end Go.Proofs.YtceeiinepijokaaGreatDoor
namespace Go.Proofs.YtceeiinepijokaaGreatDoor
set_option maxHeartbeats 8000000
set_option maxRecDepth 100000
open Go.RowKit Go.Extern.Stop Go.Stop Go.Extern
set_option linter.unusedVariables false
attribute [local irreducible] wpList wpAnyH Code.wp Oper.wp Go
theorem image_NewR(k:Nat)(w:World)(hk:k≤14400) :
 C0 51 #[V0 (k:Int)] w (Qe (fun w' r=>∃ b p c,r=.tuple #[P0 b,V0 0]∧w.heap.size≤b∧ImgR w.heap.size b p (k*256) c (List.replicate (k*256) (0:UInt8)) w') w):=by
 refine zin 15 Tryz.func51 ?_
 refine xgk 12 [5,6] (show(decide ((k:Int)<(0:Int)):Bool)=false from decide_eq_false (by omega)) ?_
 refine xk 5 (show(decide ((k:Int)>(14400:Int)):Bool)=false from decide_eq_false (by omega)) ?_
 refine xwm 5 ((k:Int)*256) (↑(k*256):Int) ?_
 refine xmk 0 fun _ _ _ _ zJ zQ zo zx zy zK=>Kh (k*256) (.int .u8 0) 1 1 ((List.replicate (k*256) (0:UInt8)).map bv) zo zx zy Tryz.underlying22 (by kernel_rfl) rfl (by omega) (by omega) (Zek (k*256)) fun b2 W2 n2=>?_
 refine zK _ _ ?_
 refine xa 1 [.slice (S1 b2) (k*256) (k*256)] 80 fun b3 W3 n3=>?_
 have hB:=bln n2.below n3.below
 have g3:=n3.ge n2.below
 have o2:=Zb (Xb (size:=1) (n:=(k*256)) n2.blk (n2.ge (B4 w)) (by rw[List.length_map,List.length_replicate,Nat.mul_one]) (by unfold maxLen;omega)) n3.below
 exact xe 5 (.tuple #[P0 b3,V0 0]) ⟨_,rfl,hB,_,_,_,rfl,g3,⟨n3.blk,o2,by omega⟩⟩
def LayO(l:Bl)(k:Nat)(w:World)(e:Ending)(w':World):Prop:=∃ bi g ci,e=.returned (.tuple #[P0 bi,.nilIface])∧B3 w w'∧ImgR w.heap.size bi (S1 g) (k*256) ci l w'
theorem lay_LayY(p:O0)(c n x k:Nat)(t u v:Int)(Z:List Zv)(w:World)(hZ:Z.length=n)(hP:DevsR w p c Z)(hk:PoolOk t u v (x:Int) (Z.map Prod.fst))(hk3:k≤3000)(hr:Mk x (Z.map Prod.fst)≤k) :
 C0 18 #[.agg #[V0 t,V0 u,V0 v,V0 (x:Int),.slice p n c],V0 (k:Int)] w (LayO (Df t u v x (Z.map Prod.fst) k) k w):=by
 have c3:k≤14400:=by omega
 refine calls_of_wp_defers Tryz.func18 rfl ?_
 refine g_fr ⟨#[.agg #[V0 t,V0 u,V0 v,V0 (x:Int),.slice p n c],V0 (k:Int),undef,undef,undef,undef,undef,undef,undef,undef,undef,undef,undef,undef,undef,undef,undef,undef,undef,undef,undef,undef,undef,undef,undef,undef,undef,undef,undef,undef,undef,undef,undef,undef,undef,undef,undef,undef,undef,undef,undef,undef],[]⟩ (by kernel_rfl) ?_
 refine wp_seq ?_
 refine wp_region_lit ?_
 refine Hg (by kernel_rfl) (op_box [V0 t,V0 u,V0 v,V0 (x:Int),.slice p n c] rfl (by kernel_rfl) ?_)
 intro b1 W1 n1
 have g1:=n1.ge (B4 w)
 have hB:=n1.below
 have k1:=n1.blk
 refine Hg (by kernel_rfl) (Nq [.pointer none] rfl (by kernel_rfl) ?_)
 intro b2 W2 n2
 have a6:=n2.ne k1
 have g2:=n2.ge hB
 replace hB:=bln hB n2.below
 replace k1:=k1.below n2.below
 have k2:=n2.blk
 refine Hg (by kernel_rfl) (Nq [.nilIface] rfl (by kernel_rfl) ?_)
 intro b3 W3 n3
 have a9:=n3.ne k1
 have a0:=n3.ne k2
 have g3:=n3.ge hB
 replace hB:=bln hB n3.below
 replace k1:=k1.below n3.below
 replace k2:=k2.below n3.below
 have k3:=n3.blk
 refine wpList_nil ?_
 refine wp_seq ?_
 refine wp_region_lit ?_
 refine Ur 1 [(9,.func (.func 50) #[] #[P0 b2,P0 b3])] (by kernel_rfl) ?_
 refine Hg (by kernel_rfl) (op_deferV (f:=50) (cap:=#[P0 b2,P0 b3]) rfl (by kernel_rfl) ?_)
 refine wpList_nil ?_
 refine wp_seq ?_
 refine wp_seq ?_
 refine wp_region_lit ?_
 refine Hg (by kernel_rfl) (Co (b:=b1) (off:=0) [V0 t,V0 u,V0 v,V0 (x:Int),.slice p n c] _ rfl (by kernel_rfl) Tryz.underlying48 rfl (by kernel_rfl) k1.whole ?_)
 refine Hg (by kernel_rfl) (Vo (lb:=#[]) 17 #[.agg #[V0 t,V0 u,V0 v,V0 (x:Int),.slice p n c]] rfl (by kernel_rfl) (fun _ _=>by kernel_rfl) (by kernel_rfl) ((Ec p c n t u v (x:Int) Z _ hZ (hP.below hB)).mono ?_))
 rintro e W4 ⟨rfl,b5⟩
 refine⟨_,rfl,?_⟩
 replace hB:=bln hB b5
 replace k1:=k1.below b5
 replace k2:=k2.below b5
 replace k3:=k3.below b5
 refine Ur 1 [(6,V0 (Gs t u v (x:Int) (Z.map Prod.fst)))] (by kernel_rfl) ?_
 refine wpList_nil ?_
 refine wp_seq ?_
 refine wp_region_lit ?_
 refine Ur 2 [(12,V0 (Gs t u v (x:Int) (Z.map Prod.fst))),(13,.bool ((Gs t u v (x:Int) (Z.map Prod.fst)) != (0:Int)))] (by kernel_rfl) ?_
 refine wpList_nil ?_
 refine wp_cond_split (t:=((Gs t u v (x:Int) (Z.map Prod.fst)) != (0:Int))) (by kernel_rfl) (fun hh=>absurd (hh.symm.trans (show(((Gs t u v (x:Int) (Z.map Prod.fst)) != (0:Int)):Bool)=false from(by rw[Zbj.2 hk];rfl))) (by decide)) (fun _=>?_)
 refine wp_skip ?_
 refine wp_seq ?_
 refine wp_region_lit ?_
 refine Ur 1 [(17,V0 (k:Int))] (by kernel_rfl) ?_
 have b9:w.heap.size≤W4.heap.size:=hB.size
 have c4:=k2.lt
 have c2:=k3.lt
 refine Hg (by kernel_rfl) (Vo (lb:=#[]) 51 #[V0 (k:Int)] rfl (by kernel_rfl) (fun _ _=>by kernel_rfl) (by kernel_rfl) ((image_NewR k _ (by omega)).mono ?_))
 rintro e W6 ⟨_,rfl,b6,bi,pi,ci,rfl,gi,hI⟩
 refine⟨_,rfl,?_⟩
 replace hB:=bln hB b6
 replace k1:=k1.below b6
 replace k2:=k2.below b6
 replace k3:=k3.below b6
 refine Ur 3 [(16,.tuple #[P0 bi,V0 0]),(19,P0 bi),(20,V0 0)] (by kernel_rfl) ?_
 refine Hg (by kernel_rfl) (Jc (v:=P0 bi) (b:=b2) (off:=0) rfl (by kernel_rfl) (by kernel_rfl) (by kernel_rfl) rfl k2 (by first|decide|simp) ?_)
 intro W7 u7 k7
 change Blk _ _ [P0 bi] _ at k7
 replace hB:=u7.below hB g2
 replace k1:=u7.blk k1 (Ne.symm (Ne.symm a6))
 replace k3:=u7.blk k3 (Ne.symm a0)
 replace hI:=hI.only (Zf.of_upd (T:=[31]) u7 k2 (by decide)) (by decide)
 refine Ur 1 [(7,V0 0)] (by kernel_rfl) ?_
 refine wpList_nil ?_
 refine wp_seq ?_
 refine wp_seq ?_
 refine wp_region_lit ?_
 refine Ur 2 [(21,V0 0),(22,.bool false)] (by kernel_rfl) ?_
 refine wpList_nil ?_
 refine wp_cond_false (by kernel_rfl) ?_
 refine wp_skip ?_
 refine wp_seq ?_
 refine wp_seq ?_
 refine wp_region_lit ?_
 refine Hg (by kernel_rfl) (Co (b:=b1) (off:=0) [V0 t,V0 u,V0 v,V0 (x:Int),.slice p n c] _ rfl (by kernel_rfl) Tryz.underlying48 rfl (by kernel_rfl) k1.whole ?_)
 refine Ur 1 [(26,V0 (k:Int))] (by kernel_rfl) ?_
 refine Hg (by kernel_rfl) (Vo (lb:=#[]) 52 #[.agg #[V0 t,V0 u,V0 v,V0 (x:Int),.slice p n c],V0 (k:Int)] rfl (by kernel_rfl) (fun _ _=>by kernel_rfl) (by kernel_rfl) ((size_FitsY p c n x k t u v Z _ hZ (hP.below hB) hk hr c3).mono ?_))
 rintro e W8 ⟨rfl,a7⟩
 refine⟨_,rfl,?_⟩
 replace hB:=bln hB a7
 replace k1:=k1.below a7
 replace k7:=k7.below a7
 replace k3:=k3.below a7
 replace hI:=hI.below a7
 refine Ur 1 [(28,.bool false)] (by kernel_rfl) ?_
 refine wpList_nil ?_
 refine wp_cond_false (by kernel_rfl) ?_
 refine wp_skip ?_
 refine wp_seq ?_
 refine wp_region_lit ?_
 refine Hg (by kernel_rfl) (Ha ⟨b2,0,none⟩ (P0 bi) rfl (by kernel_rfl) (by kernel_rfl) (k7.cell (i:=0) rfl) ?_)
 have d1:Mk x (Z.map Prod.fst)≥3:=by unfold Mk Zfr;omega
 have c0:W4.heap.size≤(W8).heap.size:=Nat.le_trans gi (Nat.le_of_lt hI.blk.lt)
 obtain⟨g,rfl,c5⟩:=hI.base (by omega)
 refine Hg (by kernel_rfl) (Vo (lb:=#[]) 53 #[P0 bi,V0 1] rfl (by kernel_rfl) (fun _ _=>by kernel_rfl) (by kernel_rfl) ((alloc_NewN bi (S1 g) (k*256) ci 1 (k-1) (1:Int) rfl (by omega) _ hI.blk (by omega) (by decide) (by omega)).mono ?_))
 rintro e W9 ⟨_,rfl,a4,ba,pa,ca,rfl,ga,ka,ho⟩
 refine⟨_,rfl,?_⟩
 replace hB:=bln hB a4
 replace k1:=k1.below a4
 replace k7:=k7.below a4
 replace k3:=k3.below a4
 replace hI:=hI.below a4
 have hA:AlF (W4.heap.size) ba bi g (k*256) ci pa ca (k-1) (List.replicate (k*256) (0:UInt8)) [] _:=⟨ka,hI.blk,hI.row,Zd ho c0⟩
 have hC:AlC (W4.heap.size) ba (k*256) ci ca 1 (k-1):=⟨by omega,c5,Zfd ho (by omega),by omega,Nat.le_trans c0 ga⟩
 refine Ur 4 [(30,.tuple #[P0 ba,.nilIface]),(33,P0 ba),(34,.nilIface),(8,P0 ba)] (by kernel_rfl) ?_
 refine Hg (by kernel_rfl) (Jc (v:=.nilIface) (b:=b3) (off:=0) rfl (by kernel_rfl) (by kernel_rfl) (by kernel_rfl) rfl k3 (by first|decide|simp) ?_)
 intro c7 b0 a8
 change Blk _ _ [.nilIface] _ at a8
 replace hB:=b0.below hB g3
 replace k1:=b0.blk k1 (Ne.symm (Ne.symm a9))
 replace k7:=b0.blk k7 (Ne.symm (Ne.symm a0))
 replace hA:=hA.only (Zf.of_upd (T:=[28]) b0 k3 (by decide)) (by decide)
 refine wpList_nil ?_
 refine wp_seq ?_
 refine wp_region_lit ?_
 refine Hg (by kernel_rfl) (Ha ⟨b3,0,none⟩ .nilIface rfl (by kernel_rfl) (by kernel_rfl) (a8.cell (i:=0) rfl) ?_)
 refine Hg (by kernel_rfl) (Vo (lb:=#[]) 54 #[.nilIface] rfl (by kernel_rfl) (fun _ _=>by kernel_rfl) (by kernel_rfl) ((Ke _).mono ?_))
 rintro e c9 ⟨rfl,a3⟩
 refine⟨_,rfl,?_⟩
 replace hB:=bln hB a3
 replace k1:=k1.below a3
 replace k7:=k7.below a3
 replace a8:=a8.below a3
 replace hA:=hA.below a3
 refine wpList_nil ?_
 refine wp_seq ?_
 refine wp_region_lit ?_
 refine Ur 2 [(37,P0 ba),(38,.agg #[P0 ba])] (by kernel_rfl) ?_
 refine Hg (by kernel_rfl) (Co (b:=b1) (off:=0) [V0 t,V0 u,V0 v,V0 (x:Int),.slice p n c] _ rfl (by kernel_rfl) Tryz.underlying48 rfl (by kernel_rfl) k1.whole ?_)
 refine Hg (by kernel_rfl) (Vo (lb:=#[]) 55 #[.agg #[P0 ba],.agg #[V0 t,V0 u,V0 v,V0 (x:Int),.slice p n c]] rfl (by kernel_rfl) (fun _ _=>by kernel_rfl) (by kernel_rfl) ((lay_all (W4.heap.size) ba bi g ci pa ca (k-1) k p c n x t u v Z (Z.map Prod.fst) _ hZ rfl hk (fun W h=>hP.below (hB.trans (h.mono b9))) rfl hC hA hr hk3 (Nat.le_trans gi (Nat.le_of_lt hA.blkI.lt))).mono ?_))
 rintro e c8 ⟨rfl,a5,hI⟩
 refine⟨_,rfl,?_⟩
 have a2:=k7.below' a5 c4
 have a1:=a8.below' a5 c2
 replace hB:=hB.trans (a5.mono b9)
 refine wpList_nil ?_
 refine wp_seq ?_
 refine wp_region_lit ?_
 refine Hg (by kernel_rfl) (Ha ⟨b2,0,none⟩ (P0 bi) rfl (by kernel_rfl) (by kernel_rfl) (a2.cell (i:=0) rfl) ?_)
 refine Hg (by kernel_rfl) (Jc (v:=P0 bi) (b:=b2) (off:=0) rfl (by kernel_rfl) (by kernel_rfl) (by kernel_rfl) rfl a2 (by first|decide|simp) ?_)
 intro d0 b8 b4
 change Blk _ _ [P0 bi] _ at b4
 replace hB:=b8.below hB g2
 replace a1:=b8.blk a1 (Ne.symm a0)
 replace hI:=hI.only (Zf.of_upd (T:=[31]) b8 a2 (by decide)) (by decide)
 refine Hg (by kernel_rfl) (Jc (v:=.nilIface) (b:=b3) (off:=0) rfl (by kernel_rfl) (by kernel_rfl) (by kernel_rfl) rfl a1 (by first|decide|simp) ?_)
 intro c6 b7 c1
 change Blk _ _ [.nilIface] _ at c1
 replace hB:=b7.below hB g3
 replace b4:=b7.blk b4 (Ne.symm (Ne.symm a0))
 replace hI:=hI.only (Zf.of_upd (T:=[28]) b7 a1 (by decide)) (by decide)
 refine wpList_nil ?_
 refine wp_ret ?_
 refine g_retD 50 #[P0 b2,P0 b3] (.tuple #[P0 bi,.nilIface]) rfl (fun _=>by kernel_rfl) (lay_idle b2 b3 _) fun W9 a4=>⟨res_kk rfl (by kernel_rfl) (by kernel_rfl) (b4.below a4) (c1.below a4) (by kernel_rfl) (by kernel_rfl),?_⟩
 exact⟨_,_,_,rfl,hB.trans (a4.mono hB.size),⟨hI.blk.below a4,Zd (Zb hI.row a4) b9,hI.hn⟩⟩
theorem Od:Mk 0 []=8:=by
 unfold Mk Zfr Cy Dl
 rw[show([]:List Dv).length=0 from rfl,Zdl,Zdl,show bmN 0=0 from rfl,Zdl,show oftL 0 []=0 from rfl,Zdl]
 rfl
theorem lay26_Lay(w:World):C0 18 #[.agg #[V0 0,V0 0,V0 1,V0 0,S0],V0 8] w (LayO (Df 0 0 1 0 [] 8) 8 w) :=
 lay_LayY none 0 0 0 8 0 0 1 [] w rfl ⟨.inl ⟨none,0,rfl,rfl,rfl⟩,fun i hi=>absurd hi (Nat.not_lt_zero _)⟩ ⟨by decide,by decide,by decide,by decide,DevsOk.nil _⟩ (by decide) (by rw[show([]:List Zv).map Prod.fst=[] from rfl,Od];exact Nat.le_refl _)
def mapX(x:Ent):Mp:=(x.1,(mapB x.2.1:Int),(mapT x.2.1:Int))
end Go.Proofs.YtceeiinepijokaaGreatDoor
namespace Go.Proofs.YtceeiinepijokaaGreatDoor
set_option maxHeartbeats 8000000
set_option maxRecDepth 100000
open Go.RowKit Go.Extern.Stop Go.Stop Go.Extern
set_option linter.unusedVariables false
attribute [local irreducible] wpList wpAnyH Code.wp Oper.wp
def dl (kind:Int)(l:List Int):List (Int×Int×Int):=l.map fun i=>(kind,i,13)
end Go.Proofs.YtceeiinepijokaaGreatDoor
namespace Go.Proofs.YtceeiinepijokaaGreatDoor
set_option maxHeartbeats 8000000
set_option maxRecDepth 100000
open Go.RowKit Go.Extern.Stop Go.Stop Go.Extern
set_option linter.unusedVariables false
attribute [local irreducible] wpList wpAnyH Code.wp Oper.wp Go
def mapM1(data:Int)(x:Ent):List Mp:=if mapE data x.2.1=0 then [mapX x] else []
def mapM(data:Int)(es:List Ent):List Mp:=es.flatMap (mapM1 data)
theorem Zcu:∀ {P Q:List Int},P.Pairwise (·<·)→Q.Pairwise (·<·)→(∀ z,z∈P↔z∈Q)→P=Q
  | [],[],_,_,_=>rfl
  | [],b::Q,_,_,h=>absurd ((h b).2 List.mem_cons_self) (by simp)
  | a::P,[],_,_,h=>absurd ((h a).1 List.mem_cons_self) (by simp)
  | a::P,b::Q,hp,hq,h=>by
    rw[List.pairwise_cons] at hp hq
    have e:a=b:=by
      rcases List.mem_cons.1 ((h a).1 List.mem_cons_self) with e|m
      · exact e
      · rcases List.mem_cons.1 ((h b).2 List.mem_cons_self) with e|m2
        · exact e.symm
        · have:=hq.1 a m;have:=hp.1 b m2;omega
    subst e
    congr 1
    refine Zcu hp.2 hq.2 fun z=>?_
    constructor
    · intro m
      have:=hp.1 z m
      rcases List.mem_cons.1 ((h z).1 (List.mem_cons_of_mem _ m)) with e|m2
      · omega
      · exact m2
    · intro m
      have:=hq.1 z m
      rcases List.mem_cons.1 ((h z).2 (List.mem_cons_of_mem _ m)) with e|m2
      · omega
      · exact m2
end Go.Proofs.YtceeiinepijokaaGreatDoor
namespace Go.Proofs.YtceeiinepijokaaGreatDoor
set_option maxHeartbeats 8000000
set_option maxRecDepth 100000
set_option linter.unusedVariables false
abbrev Lj:=Int×Int×Int
inductive Lead (l:List Lj) (fr:Int):Int→Prop
 | one (x:Lj) (h:x∈l) (hf:x.1=fr):Lead l fr x.2.1
 | more (a:Int) (ha:Lead l fr a) (x:Lj) (h:x∈l) (hf:x.1=a):Lead l fr x.2.1
def Lf(P:Int→Prop)(R:List Int):Prop:=R.Pairwise (·<·)∧∀ z,z∈R↔P z
theorem Lf.eq{P:Int→Prop}{R S:List Int}(h:Lf P R)(k:Lf P S):R=S:=Zcu h.1 k.1 fun z=>(h.2 z).trans (k.2 z).symm
def unB (l:List Lj)(out:List Int):Nat:=(l.filter fun x=>decide (x.2.1∉out)).length
theorem unB_le(l:List Lj)(out:List Int):unB l out≤l.length:=List.length_filter_le _ _
theorem unB_le2(l:List Lj){A B:List Int}(h:∀ z∈A,z∈B):unB l B≤unB l A:=by
 unfold unB
 induction l with
 | nil=>exact Nat.le_refl _
 | cons x l ih =>
  by_cases h1:x.2.1∈B
  ·rw[List.filter_cons_of_neg (by simpa using h1)]
   by_cases h2:x.2.1∈A
   ·rw[List.filter_cons_of_neg (by simpa using h2)];exact ih
   ·rw[List.filter_cons_of_pos (by simpa using h2),List.length_cons];omega
  ·rw[List.filter_cons_of_pos (by simpa using h1),List.filter_cons_of_pos (by simpa using fun q=>h1 (h _ q)),List.length_cons,List.length_cons];omega
theorem unB_lt{l:List Lj}{A B:List Int}{x:Lj}(hx:x∈l)(h:∀ z∈A,z∈B)(h1:x.2.1∉A)(h2:x.2.1∈B):unB l B+1≤unB l A:=by
 obtain⟨s,t,rfl⟩:=List.append_of_mem hx
 have a:=unB_le2 s h
 have b:=unB_le2 t h
 unfold unB at a b ⊢
 rw[List.filter_append,List.filter_append,List.length_append,List.length_append,List.filter_cons_of_neg (by simpa using h2),List.filter_cons_of_pos (by simpa using h1),List.length_cons]
 omega
structure BelI(l:List Lj)(fr:Int)(out ts:List Int):Prop where
 leads:∀ k∈out,Lead l fr k
 waits:∀ k∈ts,k=fr∨k∈out
 closed:∀ x∈l,x.1=fr∨x.1∈out→x.1∉ts→x.2.1∈out
 few:out.length+unB l out≤l.length
 wt:ts.length≤1+out.length
theorem BelI.start(l:List Lj)(fr:Int):BelI l fr [] [fr]:=by
 refine⟨fun _ h=>(by cases h),fun k h=>.inl (by simpa using h),fun x _ h hn=>?_,by have:=unB_le l [];simpa using this,by simp⟩
 rcases h with h|h
 ·exact absurd (by rw[h];simp) hn
 ·cases h
theorem BelI.done{l:List Lj}{fr:Int}{out:List Int}(h:BelI l fr out []):∀ k,k∈out↔Lead l fr k:=fun k=>⟨h.leads k,fun q=>by
 induction q with
 | one x hx hf=>exact h.closed x hx (.inl hf) (by simp)
 | more a ha x hx hf ih=>exact h.closed x hx (.inr (hf▸ih)) (by simp)⟩
structure BelJ(l:List Lj)(fr no:Int)(i:Nat)(out ts:List Int):Prop where
 leads:∀ k∈out,Lead l fr k
 waits:∀ k∈ts,k=fr∨k∈out
 no_:no=fr∨no∈out
 closed:∀ x∈l,x.1=fr∨x.1∈out→x.1∉ts→x.1≠no→x.2.1∈out
 here:∀ x∈l.take i,x.1=no→x.2.1∈out
 few:out.length+unB l out≤l.length
theorem BelI.go{l:List Lj}{fr no:Int}{out ts:List Int}(h:BelI l fr out (no::ts)):BelJ l fr no 0 out ts:=by
 refine⟨h.leads,fun k hk=>h.waits k (List.mem_cons_of_mem _ hk),h.waits no List.mem_cons_self,fun x hx h1 h2 h3=>h.closed x hx h1 (fun q=>?_),fun x hx=>by simp at hx,h.few⟩
 rcases List.mem_cons.1 q with q|q
 ·exact h3 q
 ·exact h2 q
def ljD:Lj:=(0,0,0)
theorem Af{l:List Lj}{i:Nat}(hi:i<l.length):l.getD i ljD=l[i]:=by simp[List.getD,hi]
theorem ljD_mem{l:List Lj}{i:Nat}(hi:i<l.length):l.getD i ljD∈l:=by rw[Af hi];exact List.getElem_mem hi
theorem BelJ.skip{l:List Lj}{fr no:Int}{i:Nat}{out ts:List Int}(h:BelJ l fr no i out ts)(hi:i<l.length)(hs:(l.getD i ljD).1≠no∨(l.getD i ljD).2.1∈out):BelJ l fr no (i+1) out ts:=by
 refine⟨h.leads,h.waits,h.no_,h.closed,fun x hx hn=>?_,h.few⟩
 rw[List.take_succ_eq_append_getElem hi,List.mem_append,List.mem_singleton] at hx
 rcases hx with hx|rfl
 ·exact h.here x hx hn
 ·rw[Af hi] at hs
  rcases hs with hs|hs
  ·exact absurd hn hs
  ·exact hs
theorem BelJ.add{l:List Lj}{fr no:Int}{i:Nat}{out ts:List Int}(h:BelJ l fr no i out ts)(hi:i<l.length)(hn:(l.getD i ljD).1=no)(ht:(l.getD i ljD).2.1∉out):BelJ l fr no (i+1) (out++[(l.getD i ljD).2.1]) (ts++[(l.getD i ljD).2.1]):=by
 have hm:=ljD_mem hi
 have hl:Lead l fr (l.getD i ljD).2.1:=by
  rcases h.no_ with q|q
  ·exact .one _ hm (hn.trans q)
  ·exact .more no (h.leads no q) _ hm hn
 refine⟨fun k hk=>?_,fun k hk=>?_,?_,fun x hx h1 h2 h3=>?_,fun x hx a2=>?_,?_⟩
 ·rcases List.mem_append.1 hk with q|q
  ·exact h.leads k q
  ·obtain rfl:=List.mem_singleton.1 q;exact hl
 ·rcases List.mem_append.1 hk with q|q
  ·exact(h.waits k q).imp id (fun r=>List.mem_append_left _ r)
  ·exact .inr (List.mem_append_right _ q)
 ·exact h.no_.imp id (fun r=>List.mem_append_left _ r)
 ·have a0:x.1∉ts:=fun q=>h2 (List.mem_append_left _ q)
  have a1:x.1≠(l.getD i ljD).2.1:=fun q=>h2 (List.mem_append_right _ (by rw[q];simp))
  refine List.mem_append_left _ (h.closed x hx ?_ a0 h3)
  rcases h1 with q|q
  ·exact .inl q
  ·rcases List.mem_append.1 q with q|q
   ·exact .inr q
   ·exact absurd (List.mem_singleton.1 q) a1
 ·rw[List.take_succ_eq_append_getElem hi,List.mem_append,List.mem_singleton] at hx
  rcases hx with hx|rfl
  ·exact List.mem_append_left _ (h.here x hx a2)
  ·exact List.mem_append_right _ (by rw[Af hi];simp)
 ·have:=unB_lt (A:=out) (B:=out++[(l.getD i ljD).2.1]) hm (fun z hz=>List.mem_append_left _ hz) ht (List.mem_append_right _ (by simp))
  have:=h.few
  rw[List.length_append,List.length_singleton];omega
theorem BelJ.end_{l:List Lj}{fr no:Int}{out ts:List Int}(h:BelJ l fr no l.length out ts)(hw:ts.length≤1+out.length):BelI l fr out ts:=by
 refine⟨h.leads,h.waits,fun x hx h1 h2=>?_,h.few,hw⟩
 by_cases h3:x.1=no
 ·exact h.here x (by rw[List.take_length];exact hx) h3
 ·exact h.closed x hx h1 h2 h3
def Aj(l:List Lj)(to:Int)(z:Int):Prop:=∃ x∈l,x.2.1=to∧x.1=z
theorem intoP_zero(l:List Lj)(to z:Int):¬ Aj (l.take 0) to z:=fun⟨x,hx,_⟩=>by simp at hx
theorem intoP_yes{l:List Lj}{to:Int}{i:Nat}(hi:i<l.length)(h:(l.getD i ljD).2.1=to)(z:Int):Aj (l.take (i+1)) to z↔Aj (l.take i) to z∨z=(l.getD i ljD).1:=by
 unfold Aj
 rw[List.take_succ_eq_append_getElem hi,←Af hi]
 constructor
 ·rintro⟨x,hx,h1,h2⟩
  rcases List.mem_append.1 hx with q|q
  ·exact .inl ⟨x,q,h1,h2⟩
  ·obtain rfl:=List.mem_singleton.1 q;exact .inr h2.symm
 ·rintro(⟨x,hx,h1,h2⟩|q)
  ·exact⟨x,List.mem_append_left _ hx,h1,h2⟩
  ·exact⟨_,List.mem_append_right _ (by simp),h,q.symm⟩
theorem intoP_no{l:List Lj}{to:Int}{i:Nat}(hi:i<l.length)(h:(l.getD i ljD).2.1≠to)(z:Int):Aj (l.take (i+1)) to z↔Aj (l.take i) to z:=by
 unfold Aj
 rw[List.take_succ_eq_append_getElem hi,←Af hi]
 constructor
 ·rintro⟨x,hx,h1,h2⟩
  rcases List.mem_append.1 hx with q|q
  ·exact⟨x,q,h1,h2⟩
  ·obtain rfl:=List.mem_singleton.1 q;exact absurd h1 h
 ·rintro⟨x,hx,h1,h2⟩
  exact⟨x,List.mem_append_left _ hx,h1,h2⟩
end Go.Proofs.YtceeiinepijokaaGreatDoor
namespace Go.Proofs.YtceeiinepijokaaGreatDoor
set_option maxHeartbeats 8000000
set_option maxRecDepth 100000
open Go.Shelf
set_option linter.unusedVariables false
def Ai:Go.Shelf.Ren:=⟨fun|189=>130|125=>200|257=>199|128=>251|129=>252|294=>242|295=>243|296=>244|297=>245|298=>246|299=>247|216=>248|300=>249|301=>250|328=>271|329=>272|330=>273|331=>274|332=>275|215=>276|343=>285|n=>n,fun|28=>34|3=>3|46=>339|0=>0|51=>381|53=>346|4=>4|183=>374|182=>373|131=>378|5=>5|9=>9|218=>405|222=>171|228=>421|229=>186|n=>n,fun|n=>n⟩
theorem Og:Go.Proofs.Lays.n189 Tryz.prog Ai:={
 mixed:=by kernel_rfl
 f125:=Tryz.func200.trans (congrArg some (by kernel_rfl))
 f128:=Tryz.func251.trans (congrArg some (by kernel_rfl))
 f129:=Tryz.func252.trans (congrArg some (by kernel_rfl))
 f189:=Tryz.func130.trans (congrArg some (by kernel_rfl))
 f215:=Tryz.func276.trans (congrArg some (by kernel_rfl))
 f216:=Tryz.func248.trans (congrArg some (by kernel_rfl))
 f257:=Tryz.func199.trans (congrArg some (by kernel_rfl))
 f294:=Tryz.func242.trans (congrArg some (by kernel_rfl))
 f295:=Tryz.func243.trans (congrArg some (by kernel_rfl))
 f296:=Tryz.func244.trans (congrArg some (by kernel_rfl))
 f297:=Tryz.func245.trans (congrArg some (by kernel_rfl))
 f298:=Tryz.func246.trans (congrArg some (by kernel_rfl))
 f299:=Tryz.func247.trans (congrArg some (by kernel_rfl))
 f300:=Tryz.func249.trans (congrArg some (by kernel_rfl))
 f301:=Tryz.func250.trans (congrArg some (by kernel_rfl))
 f328:=Tryz.func271.trans (congrArg some (by kernel_rfl))
 f329:=Tryz.func272.trans (congrArg some (by kernel_rfl))
 f330:=Tryz.func273.trans (congrArg some (by kernel_rfl))
 f331:=Tryz.func274.trans (congrArg some (by kernel_rfl))
 f332:=Tryz.func275.trans (congrArg some (by kernel_rfl))
 f343:=Tryz.func285.trans (congrArg some (by kernel_rfl))
 t0:=Tryz.underlying0
 a0:=Tryz.isAgg0
 z0:=Tryz.sizeOf0
 v0:=Tryz.zeroValue0
 t3:=Tryz.underlying3
 a3:=Tryz.isAgg3
 z3:=Tryz.sizeOf3
 v3:=Tryz.zeroValue3
 t4:=Tryz.underlying4
 a4:=Tryz.isAgg4
 z4:=Tryz.sizeOf4
 v4:=Tryz.zeroValue4
 t5:=Tryz.underlying5
 a5:=Tryz.isAgg5
 z5:=Tryz.sizeOf5
 v5:=Tryz.zeroValue5
 t9:=Tryz.underlying9
 a9:=Tryz.isAgg9
 z9:=Tryz.sizeOf9
 v9:=Tryz.zeroValue9
 t28:=Tryz.underlying34
 a28:=Tryz.isAgg34
 z28:=Tryz.sizeOf34
 v28:=Tryz.zeroValue34
 t46:=Tryz.underlying339
 a46:=Tryz.isAgg339
 z46:=Tryz.sizeOf339
 v46:=Tryz.zeroValue339
 t51:=Tryz.underlying381
 a51:=Tryz.isAgg381
 z51:=Tryz.sizeOf381
 v51:=Tryz.zeroValue381
 t53:=Tryz.underlying346
 a53:=Tryz.isAgg346
 z53:=Tryz.sizeOf346
 v53:=Tryz.zeroValue346
 t131:=Tryz.underlying378
 a131:=Tryz.isAgg378
 z131:=Tryz.sizeOf378
 v131:=Tryz.zeroValue378
 t182:=Tryz.underlying373
 a182:=Tryz.isAgg373
 z182:=Tryz.sizeOf373
 v182:=Tryz.zeroValue373
 t183:=Tryz.underlying374
 a183:=Tryz.isAgg374
 z183:=Tryz.sizeOf374
 v183:=Tryz.zeroValue374
 t218:=Tryz.underlying405
 a218:=Tryz.isAgg405
 z218:=Tryz.sizeOf405
 v218:=Tryz.zeroValue405
 t222:=Tryz.underlying171
 a222:=Tryz.isAgg171
 z222:=Tryz.sizeOf171
 v222:=Tryz.zeroValue171
 t228:=Tryz.underlying421
 a228:=Tryz.isAgg421
 z228:=Tryz.sizeOf421
 v228:=Tryz.zeroValue421
 t229:=Tryz.underlying186
 a229:=Tryz.isAgg186
 z229:=Tryz.sizeOf186
 v229:=Tryz.zeroValue186 }
open Go.Sort Go.RowKit in
theorem Bf(blk off cap:Nat)(zs:List Int)(w:World)(hH:Holds V0 w blk off zs.toArray)(hblk:blk<w.heap.size)(hsz:zs.length<4611686018427387904) :
 C0 130 #[.slice (some ⟨blk,off,none⟩) zs.length cap] w fun e w' =>
  e=.returned (.tuple #[])∧∃ n os,w'=grow (putRow V0 (Sort.ahead w n) blk off (zs.mergeSort fun x y=>decide (x≤y)).toArray) os:=Any.slices_Sort_int Og blk off cap zs w hH hblk hsz
open Go.RowKit Go.Sort in
theorem Wm(p:O0)(cap:Nat)(w:World) :
 C0 130 #[.slice p 0 cap] w fun e w'=>e=.returned (.tuple #[])∧w'=w:=Any.slices_Sort_int_none Og p cap w
def Na:Go.Shelf.Ren:=⟨fun|43=>131|n=>n,fun|22=>34|23=>3|3=>3|4=>4|0=>0|n=>n,fun|n=>n⟩
theorem Uf:Go.Proofs.SlLaysN.n43 Tryz.prog Na:={
 mixed:=by kernel_rfl
 f43:=⟨Tryz.f131.name,by decide,Tryz.func131.trans (congrArg some (by kernel_rfl))⟩
 t0:=Tryz.underlying0
 a0:=Tryz.isAgg0
 z0:=Tryz.sizeOf0
 v0:=Tryz.zeroValue0
 t3:=Tryz.underlying3
 a3:=Tryz.isAgg3
 z3:=Tryz.sizeOf3
 v3:=Tryz.zeroValue3
 t4:=Tryz.underlying4
 a4:=Tryz.isAgg4
 z4:=Tryz.sizeOf4
 v4:=Tryz.zeroValue4
 t22:=Tryz.underlying34
 a22:=Tryz.isAgg34
 z22:=Tryz.sizeOf34
 v22:=Tryz.zeroValue34
 t23:=Tryz.underlying3
 a23:=Tryz.isAgg3
 z23:=Tryz.sizeOf3
 v23:=Tryz.zeroValue3
 i23:=by kernel_rfl }
open Go.RowKit Go.Lib Go.Sort in
theorem Ps(blk off cap:Nat)(zs:List Int)(w:World)(hH:Holds V0 w blk off zs.toArray)(hsz:zs.length≤9223372036854775807)(hcap:zs.length≤cap) :
 C0 131 #[.slice (some ⟨blk,off,none⟩) zs.length cap] w fun e w'=>e=.returned (.slice (some ⟨blk,off,none⟩) (Lib.compact zs).length cap)∧∃ q,w'=putRow V0 (Sort.ahead w q) blk off (Lib.compact zs++List.replicate (zs.length-(Lib.compact zs).length) 0).toArray:=AnyG.slices_Compact_int Uf blk off cap zs w hH hsz hcap
open Go.RowKit Go.Lib Go.Sort in
theorem Hy(a:O0)(cap:Nat)(w:World) :
 C0 131 #[.slice a 0 cap] w fun e w'=>e=.returned (.slice a 0 cap)∧w'=w:=AnyG.slices_Compact_int_empty Uf a cap w
end Go.Proofs.YtceeiinepijokaaGreatDoor
namespace Go.Proofs.YtceeiinepijokaaGreatDoor
set_option maxHeartbeats 8000000
set_option maxRecDepth 100000
open Go.RowKit Go.Extern.Stop Go.Stop Go.Extern
set_option linter.unusedVariables false
attribute [local irreducible] wpList wpAnyH Code.wp Oper.wp Go
open Go.Sort in
theorem sort_row{base:Nat}{p:O0}{c:Nat}{L:List Int}(w:World)(hB:base≤w.heap.size)(hl:L.length≤1000000)(ho:w.ownsRow base 3 1 (.slice p L.length c) L.length (L.map V0)):C0 130 #[.slice p L.length c] w (fun e w'=>∃ (u:Value) (L2:List Int),e=.returned u∧L2.length=L.length∧L2.Perm L∧L2.Pairwise (·≤·)∧Below base w w'∧w.grownBy w' (Value.slice p L.length c).ownBlock∧w'.ownsRow base 3 1 (.slice p L.length c) L.length (L2.map V0)):=by
  rcases ho.2 with ⟨h1,h2⟩|⟨g,a6,a7,hv,hb,hh,a1,a4,a3,a5⟩
  · have hL:L=[]:=List.eq_nil_of_length_eq_zero h2
    subst hL
    refine(Wm p c w).mono ?_
    rintro e W ⟨rfl,rfl⟩
    exact⟨_,[],rfl,rfl,List.Perm.refl _,.nil,Below.refl _ _,⟨rfl,rfl,rfl,Nat.le_refl _,fun _ _ _=>rfl⟩,ho⟩
  · simp only[Value.slice.injEq] at hv
    obtain⟨rfl,_,rfl⟩:=hv
    have hH:=holds_of_blockI hh (by simpa using a5)
    have a2:=(Array.getElem?_eq_some_iff.1 hh).1
    refine(Bf g 0 _ L w hH a2 (by omega)).mono ?_
    rintro e W ⟨rfl,n,os,rfl⟩
    have a0:(L.mergeSort fun x y=>decide (x≤y)).length=L.length:=List.length_mergeSort _
    have hg:=grownBy_sortedI (w:=w) (g:=g) (n:=n) (os:=os) (L.mergeSort fun x y=>decide (x≤y)).toArray
    refine⟨_,L.mergeSort fun x y=>decide (x≤y),rfl,a0,List.mergeSort_perm _ _,?_,(Below.refl base w).grown hg hB (fun k e=>by cases e;exact hb),hg,ownsRow_sortedI a0 hb hh a1 a4 a3⟩
    have:=List.pairwise_mergeSort (le:=fun x y:Int=>decide (x≤y)) (fun a b c h1 h2=>by simp at h1 h2 ⊢;omega) (fun a b=>by simp;omega) L
    exact this.imp fun h=>of_decide_eq_true h
theorem Mv(zs:List Int)(hs:zs.Pairwise (·≤·)):∀ m,m≤zs.length→(Lib.compactUpTo zs.toArray m).Pairwise (·<·)∧(∀ z,z∈Lib.compactUpTo zs.toArray m↔z∈zs.take m)
  | 0,_=>⟨by simp[Lib.compactUpTo],fun z=>by simp[Lib.compactUpTo]⟩
  | m+1,h=>by
    obtain⟨h1,h2⟩:=Mv zs hs m (by omega)
    have hm:zs.toArray[m]! = zs[m]'(by omega):=by simp[show m<zs.length by omega]
    rw[Lib.compactUpTo_succ,List.take_succ_eq_append_getElem (show m<zs.length by omega),hm]
    have a2:zs.toArray[m-1]! = zs[m-1]'(by omega):=by simp[show m-1<zs.length by omega]
    have a5:∀ z∈zs.take m,z≤zs[m]'(by omega):=fun z hz=>by
      obtain⟨j,hj,rfl⟩:=List.mem_take_iff_getElem.1 hz
      exact List.pairwise_iff_getElem.1 hs j m (by omega) (by omega) (by omega)
    by_cases hk:Lib.keeps zs.toArray m=true
    · rw[if_pos hk]
      refine⟨List.pairwise_append.2 ⟨h1,by simp,fun a ha b hb=>?_⟩,fun z=>by rw[List.mem_append,List.mem_append,h2]⟩
      obtain rfl:=List.mem_singleton.1 hb
      have a4:=(h2 a).1 ha
      obtain⟨j,hj,rfl⟩:=List.mem_take_iff_getElem.1 a4
      have a3:0<m:=by omega
      have a0:zs[m-1]'(by omega)≠zs[m]'(by omega):=by
        have a1:=(of_decide_eq_true hk).resolve_left (by omega)
        rw[hm,a2] at a1
        exact fun e=>a1 e.symm
      have a6:zs[j]'(by omega)≤zs[m-1]'(by omega):=by
        by_cases e:j=m-1
        · subst e;exact Int.le_refl _
        · exact List.pairwise_iff_getElem.1 hs j (m-1) (by omega) (by omega) (by omega)
      have:=List.pairwise_iff_getElem.1 hs (m-1) m (by omega) (by omega) (by omega)
      omega
    · rw[if_neg hk,List.append_nil]
      refine⟨h1,fun z=>?_⟩
      rw[h2,List.mem_append,List.mem_singleton]
      constructor
      · exact .inl
      · rintro(h|rfl)
        · exact h
        · have a1:=fun q=>hk (decide_eq_true q)
          have a3:m≠0:=fun e=>a1 (.inl e)
          have a0:zs[m-1]'(by omega)=zs[m]'(by omega):=by
            by_cases e:zs[m-1]'(by omega)=zs[m]'(by omega)
            · exact e
            · exact absurd (.inr (by rw[hm,a2];exact fun q=>e q.symm)) a1
          rw[←a0]
          exact List.mem_take_iff_getElem.2 ⟨m-1,by omega,rfl⟩
open Go.Sort in
theorem Zfi{base:Nat}{p:O0}{c:Nat}{L:List Int}(w:World)(hB:base≤w.heap.size)(hl:L.length≤1000000)(hs:L.Pairwise (·≤·))(ho:w.ownsRow base 3 1 (.slice p L.length c) L.length (L.map V0)):C0 131 #[.slice p L.length c] w (fun e w'=>∃ (q:O0) (d:Nat) (L2:List Int),e=.returned (.slice q L2.length d)∧L2.Pairwise (·<·)∧(∀ z,z∈L2↔z∈L)∧Below base w w'∧w.grownBy w' (Value.slice p L.length c).ownBlock∧w'.ownsRow base 3 1 (.slice q L2.length d) L2.length (L2.map V0)):=by
  rcases ho.2 with ⟨h1,h2⟩|⟨g,a7,a9,hv,hb,hh,a1,a5,a4,a6⟩
  · have hL:L=[]:=List.eq_nil_of_length_eq_zero h2
    subst hL
    refine(Hy p c w).mono ?_
    rintro e W ⟨rfl,rfl⟩
    exact⟨p,c,[],rfl,.nil,fun _=>Iff.rfl,Below.refl _ _,⟨rfl,rfl,rfl,Nat.le_refl _,fun _ _ _=>rfl⟩,ho⟩
  · simp only[Value.slice.injEq] at hv
    obtain⟨rfl,_,rfl⟩:=hv
    have hH:=holds_of_blockI hh (by simpa using a6)
    have a8:=(Array.getElem?_eq_some_iff.1 hh).1
    refine(Ps g 0 _ L w hH (by omega) a1).mono ?_
    rintro e W ⟨rfl,n,rfl⟩
    have a2:=Mv L hs L.length (Nat.le_refl _)
    have a3:(Lib.compact L).length≤L.length:=by unfold Lib.compact Lib.compactUpTo;rw[List.length_map];exact Nat.le_trans (List.length_filter_le _ _) (by simp)
    have a0:(Lib.compact L++List.replicate (L.length-(Lib.compact L).length) 0).length=L.length:=by rw[List.length_append,List.length_replicate];omega
    have hg:=grownBy_sortedI (w:=w) (g:=g) (n:=n) (os:=#[]) (Lib.compact L++List.replicate (L.length-(Lib.compact L).length) 0).toArray
    have hw:=ownsRow_sortedI (os:=#[]) (n:=n) a0 hb hh a1 a5 a4
    rw[grow_empty] at hg hw
    refine⟨_,_,Lib.compact L,rfl,a2.1,fun z=>(a2.2 z).trans (by rw[List.take_length]),(Below.refl base w).grown hg hB (fun k e=>by cases e;exact hb),hg,?_⟩
    have:=own_cut hw a3 rfl
    rw[List.map_append,List.take_append_of_le_length (by simp),List.take_of_length_le (by simp)] at this
    exact this
end Go.Proofs.YtceeiinepijokaaGreatDoor
namespace Go.Proofs.YtceeiinepijokaaGreatDoor
set_option maxHeartbeats 8000000
set_option maxRecDepth 100000
open Go.RowKit Go.Extern.Stop Go.Stop Go.Extern
set_option linter.unusedVariables false
attribute [local irreducible] wpList wpAnyH Code.wp Oper.wp
def Aw(base:Nat)(w:World)(v:Value)(ts:List Int):Prop :=
 (v=S0∧ts=[])∨∃ g off cap cur,v=.slice (some ⟨g,off,none⟩) ts.length cap∧base≤g∧w.heap[g]? = some (.cells cur 3 (0,0))∧ts.length≤cap∧cur.size≤maxLen∧off+cap≤cur.size∧(cur.toList.drop off).take ts.length=ts.map V0
variable {base N:Nat} {w W:World} {v vo:Value} {ts:List Int}
theorem Aw.of_own{p:O0}{n c:Nat}(h:w.ownsRow base 3 1 (.slice p n c) n (ts.map V0)):Aw base w (.slice p n c) ts:=by
 obtain⟨h1,h2⟩:=h
 have hn:ts.length=n:=by simpa using h1
 subst hn
 rcases h2 with ⟨h2,h3⟩|⟨g,a1,a0,hv,hb,hh,hc,hm,hs,ht⟩
 ·exact .inl ⟨h2,List.eq_nil_of_length_eq_zero h3⟩
 ·simp only[Value.slice.injEq] at hv
  obtain⟨rfl,_,rfl⟩:=hv
  exact .inr ⟨g,0,c,a0,rfl,hb,hh,hc,by omega,by omega,by simpa using ht⟩
theorem Aw.lt(h:Aw base w v ts):∀ j,v.ownBlock=some j→j<w.heap.size:=fun j hj=>by
 rcases h with ⟨rfl,_⟩|⟨g,a1,a2,a0,rfl,_,hh,_⟩
 ·cases hj
 ·simp only[Value.ownBlock,Option.some.injEq] at hj
  subst hj
  exact(Array.getElem?_eq_some_iff.1 hh).1
theorem Aw.kept(h:Aw base w v ts)(hk:∀ j,v.ownBlock=some j→W.heap[j]? = w.heap[j]?):Aw base W v ts:=by
 rcases h with h|⟨g,a1,a2,a0,rfl,hb,hh,r⟩
 ·exact .inl h
 ·exact .inr ⟨g,a1,a2,a0,rfl,hb,(hk g rfl).trans hh,r⟩
theorem Aw.whole(h:Aw base w v ts):∃ v0 n0 xs0,w.ownsRow base 3 1 v0 n0 xs0∧v0.ownBlock=v.ownBlock:=by
 rcases h with ⟨rfl,_⟩|⟨g,a1,a2,a0,rfl,hb,hh,hc,hm,hs,ht⟩
 ·exact⟨_,_,_,World.ownsRow_nil w base _ _,rfl⟩
 ·exact⟨.slice (S1 g) a0.size a0.size,a0.size,a0.toList.take (a0.size*1),⟨by rw[List.length_take,Array.length_toList];omega,.inr ⟨g,a0.size,a0,rfl,hb,hh,Nat.le_refl _,hm,by omega,rfl⟩⟩,rfl⟩
theorem Aw.ints(h:Aw base w v ts):Ints w v ts:=by
 rcases h with ⟨rfl,rfl⟩|⟨g,a0,a2,a1,rfl,hb,hh,hc,hm,hs,ht⟩
 ·exact .inl ⟨_,_,rfl,rfl,rfl⟩
 ·refine .inr ⟨g,a0,a2,rfl,hc,by omega,fun j x hj=>?_⟩
  rw[←ht,List.getElem?_take] at hj
  split at hj
  ·rw[List.getElem?_drop] at hj
   rw[cell_of_row w g (a0+j) a1 3 (0,0) hh]
   simpa using hj
  ·cases hj
theorem Aw.tail{p:O0}{n c:Nat}{t:Int}(h:Aw base w (.slice p n c) (t::ts)):Aw base w (.slice (Qu p 1 c 1) (n-1) (c-1)) ts:=by
 rcases h with ⟨_,h⟩|⟨g,a1,a3,a0,hv,hb,hh,hc,hm,hs,ht⟩
 ·cases h
 ·simp only[Value.slice.injEq] at hv
  obtain⟨rfl,rfl,rfl⟩:=hv
  have a2:(a0.toList.drop (a1+1)).take ts.length=ts.map V0:=by
   have:=congrArg (List.drop 1) ht
   rw[List.drop_take,List.drop_drop] at this
   simpa using this
  by_cases h1:c=1
  ·subst h1
   have h0:ts=[]:=List.eq_nil_of_length_eq_zero (by rw[List.length_cons] at hc;omega)
   subst h0
   exact .inr ⟨g,a1,0,a0,by simp[Qu],hb,hh,Nat.le_refl _,hm,by omega,by simp⟩
  ·refine .inr ⟨g,a1+1,c-1,a0,?_,hb,hh,by rw[List.length_cons] at hc;omega,by omega,by rw[List.length_cons] at hc;omega,a2⟩
   unfold Qu
   rw[if_neg h1]
   simp[Addr.add]
def Jw(base N:Nat)(w:World)(vo v:Value)(ts:List Int):Prop:=Aw base w v ts∧(∀ j,v.ownBlock=some j→j<N)∧∀ j,v.ownBlock=some j→vo.ownBlock≠some j
theorem Jw.ints(h:Jw base N w vo v ts):Ints w v ts:=h.1.ints
theorem Jw.below(h:Jw base N w vo v ts)(hb:B3 w W):Jw base N W vo v ts:=⟨h.1.kept fun j hj=>hb.block j (h.1.lt j hj),h.2⟩
theorem Jw.at_(h:Jw base N w vo v ts):Jw base w.heap.size w vo v ts:=⟨h.1,h.1.lt,h.2.2⟩
theorem Jw.updN{w0 W2:World}{b:Nat}{cs:List Value}{e:TypeId}(h:Jw base N w vo v ts)(u:Upd w b W)(n:New w0 b cs e W2)(hN:N≤w0.heap.size):Jw base N W vo v ts:=⟨h.1.kept fun j hj=>u.block j (by have:=h.2.1 j hj;have:=n.at_;omega),h.2⟩
theorem Jw.updB{b:Nat}{cs:List Value}{e:TypeId}(h:Jw base N w vo v ts)(u:Upd w b W)(k:Blk w b cs e)(he:(e==3)=false):Jw base N W vo v ts:=⟨h.1.kept fun j hj=>u.block j (fun q=>by
 subst q
 rcases h.1 with ⟨rfl,_⟩|⟨g,a1,a2,a0,rfl,_,hh,_⟩
 ·cases hj
 ·simp only[Value.ownBlock,Option.some.injEq] at hj
  subst hj
  have k:w.heap[g]? = some (.cells cs.toArray e (0,0)):=k
  rw[hh] at k
  cases k
  simp at he),h.2⟩
theorem Jw.grow{n:Nat}{xs:List Value}{v':Value}(h:Jw base N w vo v ts)(k:w.ownsRow base 3 1 vo n xs)(hg:w.grownBy W vo.ownBlock)(ha:v'.ownBlock=vo.ownBlock∨v'.ownBlock=some w.heap.size):Jw base W.heap.size W v' v ts :=
 have hk:Aw base W v ts:=h.1.kept fun j hj=>hg.block j (h.1.lt j hj) (fun q=>h.2.2 j hj q.symm)
 ⟨hk,hk.lt,fun j hj q=>by
  rcases ha with ha|ha
  ·exact h.2.2 j hj (ha.symm.trans q)
  ·have:=h.1.lt j hj
   rw[ha,Option.some.injEq] at q
   omega⟩
theorem Jw.tail{p:O0}{n c:Nat}{t:Int}(h:Jw base N w vo (.slice p n c) (t::ts)):Jw base N w vo (.slice (Qu p 1 c 1) (n-1) (c-1)) ts:=by
 have e:∀ j,(Value.slice (Qu p 1 c 1) (n-1) (c-1)).ownBlock=some j→(Value.slice p n c).ownBlock=some j:=fun j hj=>by
  cases p with
  | none=>unfold Qu at hj;split at hj<;>cases hj
  | some a =>
   unfold Qu at hj
   split at hj
   ·exact hj
   ·simp only[Option.map_some,Value.ownBlock,Option.some.injEq] at hj ⊢
    rw[←hj];unfold Addr.add;split<;>rfl
 exact⟨h.1.tail,fun j hj=>h.2.1 j (e j hj),fun j hj=>h.2.2 j (e j hj)⟩
theorem cutA_start{p:O0}{n c:Nat}(h:w.ownsRow base 3 1 (.slice p n c) n (ts.map V0)):Jw base w.heap.size w (S0) (.slice p n c) ts:=⟨Aw.of_own h,(Aw.of_own h).lt,fun j _ q=>by cases q⟩
theorem Jw.elem0{p:O0}{n c:Nat}{t:Int}{r:List Int}(h:Jw base N w vo (.slice p n c) ts)(e:ts=t::r):p.isSome=true∧w.cell? (Xd p (0*1))=some (V0 t):=by
 subst e
 have q:=h.ints
 have hn:n=(t::r).length:=by
  rcases h.1 with ⟨_,h0⟩|⟨g,a1,a2,a0,hv,_⟩
  ·cases h0
  ·simp only[Value.slice.injEq] at hv;exact hv.2.1
 subst hn
 exact Ints.elem q (k:=0) (by simp)
theorem Jw.tailE{p:O0}{n c:Nat}{t:Int}{r:List Int}(h:Jw base N w vo (.slice p n c) ts)(e:ts=t::r):Jw base w.heap.size w vo (.slice (Qu p 1 c 1) r.length (c-1)) r:=by
 subst e
 have hn:n=(t::r).length:=by
  rcases h.1 with ⟨_,h0⟩|⟨g,a1,a2,a0,hv,_⟩
  ·cases h0
  ·simp only[Value.slice.injEq] at hv;exact hv.2.1
 subst hn
 exact h.tail.at_
theorem Ao{P:Program}(w:World)(t ty e:TypeId)(i:TypeInfo)(ht:P.underlying t=some (.slice e))(hi:P.info? e=some i)(g off n cap:Nat)(cur:Array Value)(hg:w.heap[g]? = some (.cells cur e (0,0)))
 (a:Addr) (m c:Nat) (news:List Value) (hl:news.length=m*i.size) (hnews:∀ j u,news[j]? = some u→w.cell? (a.add j)=some u) (h1:∀ u∈news,u.oneCell'=true) (hroom:n+m≤cap) (hfit:off+n*i.size+news.length≤cur.size) :
 (Builtin.append_ #[t,t] ty #[.slice (some ⟨g,off,none⟩) n cap,.slice (some a) m c]).run P w=.ok (.slice (some ⟨g,off,none⟩) (n+m) cap) (w.setRow g (cur.toList.take (off+n*i.size)++news++cur.toList.drop (off+n*i.size+news.length)).toArray):=by
 have hf:=run_firstCells_some (P:=P) w i.size m a m c news hl hnews
 have a0:=run_storeCells_at P g (off+n*i.size) e news 0 cur w hg (by simpa using hfit) h1
 simp only[Nat.add_zero] at a0
 simp[Builtin.append_,run_underlying ht,sizeOf,typeInfo,hi,Builtin.lenOf,hroom,hf,Addr.add_lit,a0]
theorem op_app_cut{P:Program}{a:Act}{w:World}{K:Act→World→Prop}{Q:Exit→Act→World→Prop}{o:Oper}{s x:Operand}{t te:TypeId}{vo:Value}{no:Nat}{xo:List Value}{b c:Nat}{k:Int}{p:O0}{n cp:Nat}(z:Value)(n':Nat)
 (ho:o.op=.call { callee:=.builtin .append,args:=#[s,x],argTypes:=#[t,t] }) (ht:P.underlying t=some (.slice 3)) (hi:(P.info? 3).map (fun i=>(i.zero,i.size,i.bytes))=some (some z,1,8)) (hzs:z.cells.size=1) (hs:a.eval s=.slice p n cp)
 (hown:Jw base N w vo (.slice p n cp) ts) (hvo:w.ownsRow base 3 1 vo no xo) (hx:a.eval x=.slice (S1 b) 1 c) (hnew:Blk w b [V0 k] te) (hlen:ts.length≤1000000) (hbase:base≤w.heap.size) (hn:n+1=n')
 (h:∀ p2 c2 W v0 n0 xs0,w.ownsRow base 3 1 v0 n0 xs0→w.grownBy W v0.ownBlock→Below base w W→W.ownsRow base 3 1 vo no xo→Jw base W.heap.size W vo (.slice p2 n' c2) (ts++[k])→K (a.put o.dst (.slice p2 n' c2)) W):o.wp P a w K Q:=by
 subst hn
 cases hq:P.info? 3 with
 | none=>simp[hq] at hi
 | some i =>
  simp only[hq,Option.map_some,Option.some.injEq,Prod.mk.injEq] at hi
  obtain⟨hz,a1,b1⟩:=hi
  have hc:∀ j u,[Value.int .i64 k][j]? = some u→w.cell? ((⟨b,0,none⟩:Addr).add j)=some u:=fun j u hj=>by
   have hc:=hnew.cell hj
   by_cases h0:j=0
   ·subst h0;simpa [Addr.add] using hc
   ·simpa [Addr.add,h0] using hc
  have a6:∀ p2 c2 W,(Builtin.append_ #[t,t] o.type #[.slice p n cp,.slice (S1 b) 1 c]).run P w=.ok (.slice p2 (n+1) c2) W→Aw base W (.slice p2 (n+1) c2) (ts++[k])→w.grownBy W (Value.slice p n cp).ownBlock →
    (∀ j,(Value.slice p2 (n+1) c2).ownBlock=some j→(Value.slice p n cp).ownBlock=some j∨w.heap.size≤j)→o.wp P a w K Q:=fun p2 c2 W hr hW hg ha=>by
   obtain⟨v0,n0,xs0,b0,a9⟩:=hown.1.whole
   rw[←a9] at hg
   have b2:W.ownsRow base 3 1 vo no xo:=by
    obtain⟨k1,k2⟩:=hvo
    refine⟨k1,?_⟩
    rcases k2 with k2|⟨g,a7,a2,rfl,hb,hh,r⟩
    ·exact Or.inl k2
    ·exact Or.inr ⟨g,a7,a2,rfl,hb,(hg.block g (Array.getElem?_eq_some_iff.1 hh).1 (fun q=>hown.2.2 g (a9▸q.symm) rfl)).trans hh,r⟩
   have hA:Jw base W.heap.size W vo (.slice p2 (n+1) c2) (ts++[k]):=⟨hW,hW.lt,fun j hj q=>by
    rcases ha j hj with ha|ha
    ·exact hown.2.2 j ha q
    ·have:=(hvo.lt j q).2
     omega⟩
   unfold Oper.wp execOp
   simp only[ho,resolve,invoke,builtin,Sem.run_bind,Sem.run_pure,Result.andThen_ok,List.map_toArray,List.map_cons,List.map_nil,hs,hx,hr]
   exact h p2 c2 W v0 n0 xs0 b0 hg (Ve hg b0 (Nat.le_refl _) hbase) b2 hA
  rcases hown.1 with ⟨hv,h0⟩|⟨g,a0,a7,a2,hv,hb,hh,b4,hm,b3,a8⟩
  ·simp only[Value.slice.injEq] at hv
   obtain⟨rfl,rfl,rfl⟩:=hv
   subst h0
   obtain⟨v',W,hr,h2,h3,_⟩:=run_append_own (P:=P) w w.heap.size t o.type 3 i z 1 8 ht hq hz a1 b1 hzs (by decide) (S0) 0 [] (World.ownsRow_nil w _ _ _) ⟨b,0,none⟩ 1 c [V0 k] rfl hc (by simp[Value.oneCell']) (by unfold maxLen;omega) (by omega) (Nat.le_refl _)
   obtain⟨p2,c2,rfl⟩:=(Ze h2).slice
   exact a6 p2 c2 W hr (Aw.of_own (Zd h2 hbase)) h3 fun j hj=>.inr (h2.lt j hj).1
  ·simp only[Value.slice.injEq] at hv
   obtain⟨rfl,rfl,rfl⟩:=hv
   by_cases hr:ts.length+1≤cp
   ·have a5:=Ao (P:=P) w t o.type 3 i ht hq g a0 ts.length cp a2 hh ⟨b,0,none⟩ 1 c [V0 k] (by rw[a1];rfl) hc (by simp[Value.oneCell']) hr (by rw[a1,List.length_singleton];omega)
    refine a6 _ _ _ a5 (.inr ⟨g,a0,cp,_,by rw[List.length_append,List.length_singleton],hb,setRow_heap w g a2 _ 3 _ hh,by rw[List.length_append,List.length_singleton];exact hr,?_,?_,?_⟩) ⟨rfl,rfl,rfl,by simp,fun k _ hk=>setRow_other w g k _ (fun e=>hk (by simp[Value.ownBlock,e]))⟩ fun j hj=>.inl hj
    ·simp only[List.size_toArray,List.length_append,List.length_take,List.length_drop,Array.length_toList,List.length_singleton,a1];omega
    ·simp only[List.size_toArray,List.length_append,List.length_take,List.length_drop,Array.length_toList,List.length_singleton,a1];omega
    ·have e1:(a2.toList.take (a0+ts.length*i.size)).drop a0=ts.map V0:=by
      rw[List.drop_take,show a0+ts.length*i.size-a0=ts.length by rw[a1];omega];exact a8
     have e2:a0≤(a2.toList.take (a0+ts.length*i.size)).length:=by simp only[List.length_take,Array.length_toList,a1];omega
     rw[List.toList_toArray,List.append_assoc,List.drop_append_of_le_length e2,e1,List.length_append,List.length_singleton,List.map_append,List.map_singleton,←List.append_assoc]
     exact List.take_left' (by simp)
   ·have a3:∀ j u,(ts.map V0)[j]? = some u→w.cell? ((⟨g,a0,none⟩:Addr).add j)=some u:=fun j u hj=>by
     rw[←a8,List.getElem?_take] at hj
     split at hj
     ·rw[List.getElem?_drop] at hj
      have a4:(⟨g,a0,none⟩:Addr).add j=⟨g,a0+j,none⟩:=by unfold Addr.add;split<;>simp_all
      rw[a4,cell_of_row w g (a0+j) a2 3 (0,0) hh]
      simpa using hj
     ·cases hj
    obtain⟨v',W,a5,h2,h3⟩:=run_append_arg_grows (P:=P) w t o.type 3 i z 1 8 ht hq hz a1 b1 hzs (by decide) ⟨g,a0,none⟩ ts.length cp (ts.map V0) (by simp) a3 ⟨b,0,none⟩ 1 c [V0 k] rfl hc (by omega) (by unfold maxLen;omega) (by omega)
    obtain⟨p2,c2,rfl⟩:=(Ze h2).slice
    exact a6 p2 c2 W a5 (Aw.of_own (Zd (by rw[List.map_append];exact h2) hbase)) ⟨h3.os,h3.tape,h3.output,h3.size,fun k hk _=>h3.block k hk (by simp)⟩ fun j hj=>.inr (h2.lt j hj).1
end Go.Proofs.YtceeiinepijokaaGreatDoor
namespace Go.Proofs.YtceeiinepijokaaGreatDoor
set_option maxHeartbeats 8000000
set_option maxRecDepth 100000
open Go.RowKit Go.Extern.Stop Go.Stop Go.Extern
set_option linter.unusedVariables false
attribute [local irreducible] wpList wpAnyH Code.wp Oper.wp Go
theorem ljE_D:ljE=ljD:=rfl
def OnceP(base:Nat)(L:List Int)(w:World)(e:Ending)(w':World):Prop:=∃ (q:O0) (d:Nat) (L2:List Int),e=.returned (.slice q L2.length d)∧L2.Pairwise (·<·)∧(∀ z,z∈L2↔z∈L)∧Below base w w'∧w'.ownsRow base 3 1 (.slice q L2.length d) L2.length (L2.map V0)
theorem sort_rowN{base n:Nat}{p:O0}{c:Nat}{L:List Int}(w:World)(hn:L.length=n)(hB:base≤w.heap.size)(hl:L.length≤1000000)(ho:w.ownsRow base 3 1 (.slice p n c) n (L.map V0)):C0 130 #[.slice p n c] w (fun e w'=>∃ (u:Value) (L2:List Int),e=.returned u∧L2.length=n∧L2.Perm L∧L2.Pairwise (·≤·)∧Below base w w'∧w'.ownsRow base 3 1 (.slice p n c) n (L2.map V0)):=by
  subst hn
  refine(sort_row w hB hl ho).mono ?_
  rintro e W ⟨u,L2,h1,h2,h3,h4,h5,_,h6⟩
  exact⟨u,L2,h1,h2,h3,h4,h5,h6⟩
theorem Zc0{base n:Nat}{p:O0}{c:Nat}{L:List Int}(w:World)(hn:L.length=n)(hB:base≤w.heap.size)(hl:L.length≤1000000)(hs:L.Pairwise (·≤·))(ho:w.ownsRow base 3 1 (.slice p n c) n (L.map V0)):C0 131 #[.slice p n c] w (fun e w'=>∃ (q:O0) (d:Nat) (L2:List Int),e=.returned (.slice q L2.length d)∧L2.Pairwise (·<·)∧(∀ z,z∈L2↔z∈L)∧Below base w w'∧w'.ownsRow base 3 1 (.slice q L2.length d) L2.length (L2.map V0)):=by
  subst hn
  refine(Zfi w hB hl hs ho).mono ?_
  rintro e W ⟨q,d,L2,h1,h2,h3,h4,_,h6⟩
  exact⟨q,d,L2,h1,h2,h3,h4,h6⟩
theorem Zd3(B:Nat)(p:O0)(c n:Nat)(L:List Int)(w:World)(hBw:B≤w.heap.size)(hn:L.length=n)(hl:L.length≤1000000)(ho:w.ownsRow B 3 1 (.slice p n c) n (L.map V0)) :
 C0 76 #[.slice p n c] w (OnceP B L w):=by
 refine zin 7 Tryz.func76 ?_
 refine xc 8 (args:=#[.slice p n c]) (sort_rowN (base:=B) _ hn (Nat.le_trans hBw (Below.refl B _).size) hl ho) ?_
 rintro _ W1 ⟨u,L1,rfl,a7,a2,a4,a1,a9⟩
 refine xc 5 (args:=#[.slice p n c]) (Zc0 (base:=B) _ a7 (Nat.le_trans hBw a1.size) (by omega) a4 a9) ?_
 rintro _ W2 ⟨q2,d2,L2,rfl,a3,a8,a5,a6⟩
 have a0:=a1.trans a5
 exact xe 4 (.slice q2 L2.length d2) ⟨_,_,_,rfl,a3,fun z=>(a8 z).trans a2.mem_iff,a0,a6⟩
theorem link_Into(pl:O0)(cl:Nat)(L:List Lj)(to:Int)(w:World)(hL:Sts ljC w (.slice pl L.length cl) L)(hll:L.length≤100000) :
 C0 32 #[.slice pl L.length cl,V0 to] w ((fun e w'=>∃ (q:O0) (d:Nat) (L2:List Int),e=.returned (.slice q L2.length d)∧Lf (Aj L to) L2∧B3 w w'∧w'.ownsRow w.heap.size 3 1 (.slice q L2.length d) L2.length (L2.map V0))):=by
 have c5:=Sl.len hL
 refine zin 26 Tryz.func32 ?_
 have hB:=Below.refl w.heap.size w
 refine zl 19 26 (fun zm b2 V=>∃ (i:Nat) (a0:List Int) (po:O0) (co:Nat),b2=[(1,V0 to),(4,S0),(5,.slice po a0.length co),(8,.slice pl L.length cl),(9,V0 (L.length:Int)),(10,V0 (i:Int))]∧zm=L.length-((i:Int)).toNat∧B3 w V∧V.ownsRow w.heap.size 3 1 (.slice po a0.length co) a0.length (a0.map V0)∧i≤L.length∧((∀ z,z∈a0↔Aj (L.take i) to z))∧a0.length≤i) ⟨0,[],none,0,rfl,rfl,hB,World.ownsRow_nil _ _ _ _,Nat.zero_le _,?_,Nat.le_refl _⟩ ?_
 ·exact fun z=>⟨fun q=>(by cases q),fun q=>absurd q (intoP_zero L to z)⟩
 rintro _ _ W1 ⟨i,a0,po,co,rfl,rfl,a1,ho,hi,hm,c2⟩ J1 b1 r1
 refine xid 6 ((i:Int)<(L.length:Int)) (fun b7=>?_) (fun b7=>?_)
 ·refine xx 6 _ L.length i 3 (Sts.cell (f:=ljC) hL Gr ljE (k:=i) (i:=0) (by omega) rfl).1 ?_
  refine xlv 0 (Sts.rp (k:=i) (hL.below a1) Gr ljE (by omega) (by decide)) ?_
  refine xa 0 [V0 0,V0 0,V0 0] 76 fun b3 W3 n3=>?_
  have g3:=n3.ge a1
  refine xsv 0 n3.blk [V0 ((L.getD i ljE).1),V0 ((L.getD i ljE).2.1),V0 ((L.getD i ljE).2.2)] fun W4 u4 k4=>?_
  refine xb 5 1 k4 ?_
  refine xie 4 ((L.getD i ljE).2.1) to (fun b9=>?_) (fun b9=>?_)
  ·refine xb 3 0 k4 ?_
   refine xbs 0 1 [V0 ((L.getD i ljE).1)] 3 fun b6 W6 n6=>?_
   have a4:=u4.below (bln a1 n3.below) g3
   have g6:=n6.ge a4
   have a2:=u4.own2 (Zb ho n3.below) n3.blk (by decide)
   have b0:=Zn a2 n6
   have a9:=Zb a2 n6.below
   have a3:=bln a4 n6.below
   refine xbi 0 fun _ _ _ _ zJ zQ zo zx zy zK=>Zr (m:=1) (news:=[V0 ((L.getD i ljE).1)]) (V0 0) 1 8 ((a0++[(L.getD i ljE).1]).length) (((a0++[(L.getD i ljE).1]).map V0)) zo Tryz.underlying34 (by kernel_rfl) rfl (by decide) zx a9 zy (n6.blk.sl 1 1 (by decide) (by decide)) rfl (by simp[Value.oneCell']) (by unfold maxLen;omega) (by omega) a3.size (by simp) (by simp) fun c3 c6 W7 o7 c4 c1=>?_
   refine zK _ _ ?_
   refine xwm 5 ((i:Int)+1) (↑(i+1):Int) ?_
   have a5:=a3.trans c1
   exact ze 2 (b1 _ _ _ ⟨i+1,(a0++[(L.getD i ljE).1]),_,_,rfl,rfl,a5,o7,by omega,(fun z=>by rw[intoP_yes (i:=i) (by omega) (by assumption),List.mem_append,List.mem_singleton,hm];rfl),by rw[List.length_append,List.length_singleton];omega⟩ (by omega))
  refine xwm 4 ((i:Int)+1) (↑(i+1):Int) ?_
  have a6:=u4.below (bln a1 n3.below) g3
  have a7:=u4.own2 (Zb ho n3.below) n3.blk (by decide)
  exact ze 2 (b1 _ _ _ ⟨i+1,a0,po,co,rfl,rfl,a6,a7,by omega,(fun z=>by rw[intoP_no (i:=i) (by omega) (by assumption)];exact hm z),by omega⟩ (by omega))
 refine xc 8 (args:=#[.slice po a0.length co]) (Zd3 w.heap.size _ _ _ a0 _ a1.size rfl (by omega) ho) ?_
 rintro _ W8 ⟨q2,d2,L2,rfl,b4,b5,b8,c0⟩
 have a8:=a1.trans b8
 refine xe 4 (.slice q2 L2.length d2) ?_
 obtain rfl:i=L.length:=by omega
 rw[List.take_length] at hm
 exact⟨_,_,_,rfl,⟨b4,fun z=>(b5 z).trans (hm z)⟩,a8,c0⟩
theorem mem_getD{out:List Int}{k:Nat}{x:Int}(hk:k<out.length)(h:out.getD k 0=x):x∈out:=by
 subst h;simp[List.getD,hk]
theorem link_Below(pl:O0)(cl:Nat)(L:List Lj)(fr:Int)(w:World)(hL:Sts ljC w (.slice pl L.length cl) L)(hll:L.length≤100000) :
 C0 33 #[.slice pl L.length cl,V0 fr] w ((fun e w'=>∃ (q:O0) (d:Nat) (L2:List Int),e=.returned (.slice q L2.length d)∧Lf (Lead L fr) L2∧B3 w w'∧w'.ownsRow w.heap.size 3 1 (.slice q L2.length d) L2.length (L2.map V0))):=by
 have k1:=Sl.len hL
 refine zin 56 Tryz.func33 ?_
 refine xbs 13 1 [V0 fr] 3 fun b1 W1 n1=>?_
 have g1:=n1.ge (B4 w)
 refine zl 5 56 (fun zm c2 V=>∃ (a0:List Int) (po:O0) (co:Nat) (ts:List Int) (pw:O0) (cw:Nat),c2=[(0,.slice pl L.length cl),(4,S0),(5,.slice po a0.length co),(6,.slice pw ts.length cw)]∧zm=2*unB L a0+ts.length∧B3 w V∧V.ownsRow w.heap.size 3 1 (.slice po a0.length co) a0.length (a0.map V0)∧Jw w.heap.size V.heap.size V (.slice po a0.length co) (.slice pw ts.length cw) ts∧BelI L fr a0 ts) ⟨[],none,0,[fr],(S1 b1),1,rfl,rfl,n1.below,World.ownsRow_nil _ _ _ _,(cutA_start (ts:=[fr]) (Xb (size:=1) (n:=1) n1.blk g1 rfl (by decide))),BelI.start L fr⟩ ?_
 rintro _ _ W2 ⟨a0,po,co,ts,pw,cw,rfl,rfl,b6,ho,hW,hi⟩ J2 i6 r2
 have i3:=hi.few
 have k7:=hi.wt
 have b9:=Jw.at_ hW
 refine xid 8 ((ts.length:Int)>(0:Int)) (fun e8=>?_) (fun e8=>?_)
 ·obtain⟨no,r,b0⟩:∃ x r,ts=x::r:=List.exists_cons_of_ne_nil (fun q=>by rw[q] at e8;simp at e8)
  have b5:=Jw.at_ b9
  refine xx 7 _ ts.length 0 1 (Jw.elem0 b5 b0).1 ?_
  refine xl 0 ((Jw.elem0 b5 b0).2) ?_
  have g7:=Jw.at_ b5
  refine xsL 6 (fun _ _ _ _ zo zx zy V=>Xu (k:=1) (b:=pw) (n:=ts.length) (c:=cw) (i:=1) (ki:=.i64) 1 zo zx zy rfl (by omega) Tryz.underlying34 (by kernel_rfl) V) ?_
  have f9:=Jw.at_ g7
  obtain⟨f6,d6⟩:∃ m,m=2*unB L a0+ts.length:=⟨_,rfl⟩
  have f3:=d6
  rw[b0,List.length_cons] at d6
  have j5:=BelI.go (b0▸hi)
  refine xv1 14 6 (show(.slice (Qu pw 1 cw 1) (ts.length-1) (cw-1):Value)=.slice (Qu pw 1 cw 1) r.length (cw-1) from by rw[b0];rfl) ?_
  refine zl 0 56 (fun zm c2 V=>∃ (i:Nat) (a0:List Int) (po:O0) (co:Nat) (ts:List Int) (pw:O0) (cw:Nat),c2=[(0,.slice pl L.length cl),(4,S0),(5,.slice po a0.length co),(6,.slice pw ts.length cw),(7,V0 no),(22,.slice pl L.length cl),(23,V0 (L.length:Int)),(24,V0 (i:Int))]∧zm=L.length-((i:Int)).toNat∧B3 w V∧V.ownsRow w.heap.size 3 1 (.slice po a0.length co) a0.length (a0.map V0)∧Jw w.heap.size V.heap.size V (.slice po a0.length co) (.slice pw ts.length cw) ts∧i≤L.length∧BelJ L fr no i a0 ts∧2*unB L a0+ts.length<f6∧ts.length≤1+a0.length) ⟨0,_,_,_,r,_,_,rfl,rfl,b6,ho,(Jw.tailE f9 b0),Nat.zero_le _,j5,(by omega),(by have:=hi.wt;rw[b0,List.length_cons] at this;omega)⟩ ?_
  rintro _ _ W8 ⟨i,a0,po,co,ts,pw,cw,rfl,rfl,a3,a5,hW,k2,hj,h5,h3⟩ J8 e3 r8
  have i3:=hj.few
  have e0:=Jw.at_ hW
  refine xid 6 ((i:Int)<(L.length:Int)) (fun g3=>?_) (fun g3=>?_)
  ·have d8:=Jw.at_ e0
   refine xx 6 _ L.length i 3 (Sts.cell (f:=ljC) hL Gr ljE (k:=i) (i:=0) (by omega) rfl).1 ?_
   refine xlv 0 (Sts.rp (k:=i) (hL.below a3) Gr ljE (by omega) (by decide)) ?_
   refine xa 0 [V0 0,V0 0,V0 0] 76 fun g9 j9 a2=>?_
   have g2:=a2.ge a3
   refine xsv 0 a2.blk [V0 ((L.getD i ljE).1),V0 ((L.getD i ljE).2.1),V0 ((L.getD i ljE).2.2)] fun j4 b2 h7=>?_
   have f0:=(d8.below a2.below).updB b2 a2.blk (by decide)
   have a8:=Jw.at_ f0
   refine xb 6 0 h7 ?_
   refine xin 4 ((L.getD i ljE).1) no (fun f5=>?_) (fun f5=>?_)
   ·have c4:=Jw.at_ a8
    refine xwm 5 ((i:Int)+1) (↑(i+1):Int) ?_
    have e4:=b2.below (bln a3 a2.below) g2
    have f4:=b2.own2 (Zb a5 a2.below) a2.blk (by decide)
    exact ze 2 (e3 _ _ _ ⟨i+1,a0,po,co,ts,pw,cw,rfl,rfl,e4,f4,c4,by omega,(hj.skip (by omega) (.inl (by assumption))),h5,h3⟩ (by omega))
   have d7:=Jw.at_ a8
   refine zl 11 56 (fun zm c2 V=>∃ (k:Nat),c2=[(0,.slice pl L.length cl),(4,S0),(5,.slice po a0.length co),(6,.slice pw ts.length cw),(7,V0 no),(9,P0 g9),(22,.slice pl L.length cl),(23,V0 (L.length:Int)),(24,V0 (i:Int)),(32,.slice po a0.length co),(33,V0 (a0.length:Int)),(34,V0 (k:Int))]∧zm=a0.length-((k:Int)).toNat∧V=j4∧Blk V g9 ([V0 ((L.getD i ljE).1),V0 ((L.getD i ljE).2.1),V0 ((L.getD i ljE).2.2)]) 76∧k≤a0.length∧(∀ j,j<k→a0.getD j 0≠(L.getD i ljE).2.1)) ⟨0,rfl,rfl,rfl,h7,Nat.zero_le _,?_⟩ ?_
   ·exact fun j hj=>absurd hj (by omega)
   rintro _ _ _ ⟨k,rfl,rfl,rfl,a1,hk,h0⟩ j7 e9 k8
   have a6:=Jw.at_ d7
   refine xid 6 ((k:Int)<(a0.length:Int)) (fun e2=>?_) (fun e2=>?_)
   ·have c1:=Jw.at_ a6
    have b3:=b2.own2 (Zb a5 a2.below) a2.blk (by decide)
    refine xx 6 _ a0.length k 1 (Ints.elem (l:=a0) (Ze b3) (k:=k) (by omega)).1 ?_
    refine xl 0 ((Ints.elem (l:=a0) (Ze b3) (k:=k) (by omega)).2) ?_
    have a7:=Jw.at_ c1
    refine xb 7 1 a1 ?_
    refine xie 3 (a0.getD k 0) ((L.getD i ljE).2.1) (fun g0=>?_) (fun g0=>?_)
    ·have d3:=Jw.at_ a7
     refine xwm 9 ((i:Int)+1) (↑(i+1):Int) ?_
     have g6:=b2.below (bln a3 a2.below) g2
     exact ze 2 (e3 _ _ _ ⟨i+1,a0,po,co,ts,pw,cw,rfl,rfl,g6,b3,d3,by omega,(hj.skip (by omega) (.inr (mem_getD (k:=k) (x:=(L.getD i ljE).2.1) (by omega) (by assumption)))),h5,h3⟩ (by omega))
    have h1:=Jw.at_ a7
    refine xwm 4 ((k:Int)+1) (↑(k+1):Int) ?_
    exact ze 2 (e9 _ _ _ ⟨k+1,rfl,rfl,rfl,a1,by omega,(fun j hj=>by rcases Nat.lt_succ_iff_lt_or_eq.1 hj with q|q;exact h0 j q;subst q;assumption)⟩ (by omega))
   have c8:(L.getD i ljE).2.1∉a0:=fun q=>by
    obtain⟨j,hj,he⟩:=List.mem_iff_getElem.1 q
    exact h0 j (by omega) (by rw[←he];simp[List.getD,hj])
   have i0:=unB_lt (A:=a0) (B:=a0++[(L.getD i ljE).2.1]) (ljD_mem (l:=L) (i:=i) (by omega)) (fun z hz=>List.mem_append_left _ hz) c8 (List.mem_append_right _ (by simp[ljE_D]))
   have c6:=Jw.at_ a6
   refine xb 9 1 a1 ?_
   refine xbs 0 1 [V0 ((L.getD i ljE).2.1)] 3 fun j6 k6 a9=>?_
   have c3:=b2.below (bln a3 a2.below) g2
   have k3:=a9.ge c3
   have c9:=b2.own2 (Zb a5 a2.below) a2.blk (by decide)
   have e6:=Zn c9 a9
   have b4:=Zb c9 a9.below
   have b8:=bln c3 a9.below
   refine xbi 0 fun _ _ _ _ zJ zQ zo zx zy zK=>Kj (b:=j6) (c:=1) (m:=1) (news:=[V0 ((L.getD i ljE).2.1)]) (V0 0) 1 8 ((a0++[(L.getD i ljE).2.1]).length) (((a0++[(L.getD i ljE).2.1]).map V0)) zo Tryz.underlying34 (by kernel_rfl) rfl (by decide) zx b4 zy a9.blk rfl (by simp[Value.oneCell']) (by unfold maxLen;omega) (by omega) b8.size (by simp) (by simp) fun i7 j2 k5 h4 d0 g5 g8=>?_
   refine zK _ _ ?_
   have f1:=(c6.below a9.below).grow b4 d0 g8
   have c0:=Jw.at_ f1
   have a4:=(a1.below a9.below).grown d0 b4 (by decide)
   refine xb 6 1 a4 ?_
   refine xbs 0 1 [V0 ((L.getD i ljE).2.1)] 3 fun j0 k0 b7=>?_
   have d4:=b8.trans g5
   have k4:=b7.ge d4
   have e1:=Zn h4 b7
   have e7:=c0.below b7.below
   have c7:=Zb h4 b7.below
   have d5:=bln d4 b7.below
   refine xbi 0 fun _ _ _ _ zJ zQ zo zx zy zK=>op_app_cut (b:=j0) (c:=1) (k:=((L.getD i ljE).2.1)) (V0 0) (ts++[(L.getD i ljE).2.1]).length zo Tryz.underlying34 (by kernel_rfl) (by kernel_rfl) zx e7 c7 zy b7.blk (by omega) d5.size (by rw[List.length_append];rfl) fun i9 h9 k9 i8 i5 h6 i1 i2 e5 d9 d1=>?_
   refine zK _ _ ?_
   have c5:=Jw.at_ d1
   refine xwm 5 ((i:Int)+1) (↑(i+1):Int) ?_
   have f8:=d5.trans e5
   exact ze 2 (e3 _ _ _ ⟨i+1,(a0++[(L.getD i ljE).2.1]),_,_,(ts++[(L.getD i ljE).2.1]),_,_,rfl,rfl,f8,d9,c5,by omega,(hj.add (by omega) (by assumption) c8),(by rw[List.length_append,List.length_singleton];omega),(by simp only[List.length_append,List.length_singleton];omega)⟩ (by omega))
  refine ze 6 (i6 _ _ _ ⟨_,_,_,_,_,_,rfl,rfl,a3,a5,e0,(BelJ.end_ (by rw[←show i=L.length from by omega];exact hj) (by omega))⟩ ?_)
  refine Nat.lt_of_lt_of_eq (m:=f6) ?_ f3
  show 2*unB L a0+ts.length<f6
  omega
 have i4:ts=[]:=List.eq_nil_of_length_eq_zero (by omega)
 have h2:=Jw.at_ b9
 refine xc 8 (args:=#[.slice po a0.length co]) (Zd3 w.heap.size _ _ _ a0 _ b6.size rfl (by omega) ho) ?_
 rintro _ j8 ⟨q2,d2,L2,rfl,j3,h8,f2,j1⟩
 have f7:=b6.trans f2
 refine xe 4 (.slice q2 L2.length d2) ?_
 rw[i4] at hi
 exact⟨_,_,_,rfl,⟨j3,fun z=>(h8 z).trans (hi.done z)⟩,f7,j1⟩
def S47:Sup:=⟨0,0,1,0,8,1,2,3,4,7,5⟩
def j47:List Lj:=[(0,1,1),(0,2,3),(0,3,4),(0,4,5),(0,7,6),(7,6,7),(0,5,5)]
theorem into47:Lf (Aj j47 6) [7]:=by
 refine⟨by decide,fun z=>⟨fun h=>?_,fun⟨x,hx,h1,h2⟩=>?_⟩⟩
 ·obtain rfl:=List.mem_singleton.1 h
  exact⟨(7,6,7),by decide,rfl,rfl⟩
 ·subst h2
  have a0:∀ x∈j47,x.2.1=6→x.1∈([7]:List Int):=by decide
  exact a0 x hx h1
theorem below47:Lf (Lead j47 0) [1,2,3,4,5,6,7]:=by
 have a0:∀ x∈j47,x.2.1∈([1,2,3,4,5,6,7]:List Int):=by decide
 have h7:Lead j47 0 7:=.one (0,7,6) (by decide) rfl
 refine⟨by decide,fun z=>⟨fun h=>?_,fun h=>?_⟩⟩
 ·simp only[List.mem_cons,List.not_mem_nil,or_false] at h
  rcases h with rfl|rfl|rfl|rfl|rfl|rfl|rfl
  ·exact .one (0,1,1) (by decide) rfl
  ·exact .one (0,2,3) (by decide) rfl
  ·exact .one (0,3,4) (by decide) rfl
  ·exact .one (0,4,5) (by decide) rfl
  ·exact .one (0,5,5) (by decide) rfl
  ·exact .more 7 h7 (7,6,7) (by decide) rfl
  ·exact h7
 ·cases h with
  | one x hx _=>exact a0 x hx
  | more a ha x hx _=>exact a0 x hx
theorem sup47(Bi bm:Nat)(p:O0)(n c:Nat)(w:World)(hI:RefI Bi bm p n c B47 w):C0 29 #[P0 bm] w (Ret (.tuple #[.agg #[V0 0,V0 0,V0 1,V0 0,V0 8,V0 1,V0 2,V0 3,V0 4,V0 7,V0 5],.agg #[S0,V0 0]]) w):=by
 have hk:PoolOk 0 0 1 ((0:Nat):Int) []:=⟨by decide,by decide,by decide,by decide,DevsOk.nil _⟩
 obtain⟨_,h1,h2,_⟩:=lay_parts (k:=8) hk (by rw[Od];exact Nat.le_refl _) (by decide)
 have h2:Xe (inB B47 0)=S47:=h2.trans s47_is
 refine(Ze7 Bi bm p n c B47 w hI).mono ?_
 rintro e W q
 rcases q with ⟨q,_⟩|⟨_,rfl,hb⟩
 ·exact absurd h1 q
 ·rw[h2];exact⟨rfl,hb⟩
theorem links47W(Bi b:Nat)(pi:O0)(ni ci:Nat)(w:World)(hI:ImgR Bi b pi ni ci B47 w):C0 6 #[P0 b,.agg #[V0 0,V0 0,V0 1,V0 0,V0 8,V0 1,V0 2,V0 3,V0 4,V0 7,V0 5]] w (Qe (fun w' r=>∃ p c,r=.tuple #[.slice p 7 c,.nilIface]∧w'.ownsRow w.heap.size 76 3 (.slice p 7 c) 7 (j47.flatMap ljC)) w):=by
 have h:=links47
 rw[s47_is] at h
 refine(Of Bi b pi ni ci B47 S47 w hI).mono ?_
 rintro e W q
 rw[show Xr B47 S47=(lk47,[],0) from h] at q
 rcases q with ⟨q,_⟩|⟨_,p,c,rfl,hb,ho⟩
 ·exact absurd rfl q
 ·exact⟨_,rfl,hb,p,c,rfl,ho⟩
theorem into47W(p:O0)(c:Nat)(w:World)(h:Sl w (.slice p 7 c) 7 (j47.flatMap ljC)):C0 32 #[.slice p 7 c,V0 6] w (Qe (fun w' r=>∃ q d,r=.slice q 1 d∧w'.ownsRow w.heap.size 3 1 (.slice q 1 d) 1 (([7]:List Int).map V0)) w):=by
 refine(link_Into p c j47 6 w h (by decide)).mono ?_
 rintro e W ⟨q,d,L2,rfl,hR,hb,ho⟩
 rw[hR.eq into47] at ho ⊢
 exact⟨_,rfl,hb,q,d,rfl,ho⟩
theorem below47W(p:O0)(c:Nat)(w:World)(h:Sl w (.slice p 7 c) 7 (j47.flatMap ljC)):C0 33 #[.slice p 7 c,V0 0] w (Qe (fun w' r=>∃ q d,r=.slice q 7 d) w):=by
 refine(link_Below p c j47 0 w h (by decide)).mono ?_
 rintro e W ⟨q,d,L2,rfl,hR,hb,ho⟩
 rw[hR.eq below47]
 exact⟨_,rfl,hb,q,d,rfl⟩
theorem ref_Of47(a:O0)(c:Nat)(w:World)(h:Bys w (.slice a (8*256) c) B47):C0 9 #[.slice a (8*256) c] w (Qe (fun w' r=>∃ bj p d,r=P0 bj∧∃ B,RefI B bj p 8 d B47 w') w):=by
 refine(Zgo a c (8*256) 8 B47 w Za8.1 (by decide) h (by decide)).mono ?_
 rintro e W ⟨r,rfl,hb,bj,p,d,rfl,_,hJ⟩
 rw[List.take_of_length_le (by rw[Za8.1];decide)] at hJ
 exact⟨_,rfl,hb,bj,p,d,rfl,_,hJ⟩
theorem Zbb(w:World) :
 C0 5 #[] w (Ret (.bool true) w):=by
 refine zin 51 Tryz.func5 ?_
 refine xc 8 (args:=#[.agg #[V0 0,V0 0,V0 1,V0 0,S0],V0 8]) (lay26_Lay _) ?_
 rintro _ W1 ⟨bi,g,ci,rfl,a1,hI⟩
 refine xc 20 (args:=#[P0 bi]) (Ze8 bi _ (8*256) ci B47 _ hI.blk (Yk (Ze hI.row) hI.len) hI.len (by decide)) ?_
 rintro _ W2 ⟨_,rfl,a4,c5⟩
 have a0:=Zd c5 a1.size
 have a6:=hI.below a4
 unfold Np at a0
 rw[a6.len] at a0
 obtain⟨q1,d1,rfl⟩:=(Ze a0).slice
 refine xc 0 (args:=#[.slice q1 (8*256) d1]) (ref_Of47 q1 d1 _ (Yk (Ze a0) Za8.1)) ?_
 rintro _ W3 ⟨_,rfl,a5,bj,pj,dj,rfl,_,hJ⟩
 refine xr 0 (args:=#[P0 bj]) (sup47 _ bj _ _ _ _ hJ) fun W4 a3=>?_
 refine xa 3 [V0 0,V0 0,V0 0,V0 0,V0 0,V0 0,V0 0,V0 0,V0 0,V0 0,V0 0] 24 fun b5 W5 n5=>?_
 refine xa 0 [S0,V0 0] 36 fun b6 W6 n6=>?_
 have k5:=n5.blk.below n6.below
 refine xsv 0 k5 [V0 0,V0 0,V0 1,V0 0,V0 8,V0 1,V0 2,V0 3,V0 4,V0 7,V0 5] fun W7 u7 k7=>?_
 have g5:=n5.ge (bln (bln (bln a1 a4) a5) a3)
 have k6:=u7.blkT n6.blk k5 (by decide)
 refine xsv 0 k6 [S0,V0 0] fun W8 u8 k8=>?_
 have g6:=n6.ge (bln (bln (bln (bln a1 a4) a5) a3) n5.below)
 have c1:=u8.blkT k7 k6 (by decide)
 refine xlv 5 c1.rp ?_
 have c0:=(((((a6.below a5).below a3).below n5.below).below n6.below).only (Zf.of_upd (T:=[24]) u7 k5 (by decide)) (by decide)).only (Zf.of_upd (T:=[36]) u8 k6 (by decide)) (by decide)
 refine xc 0 (args:=#[P0 bi,.agg #[V0 0,V0 0,V0 1,V0 0,V0 8,V0 1,V0 2,V0 3,V0 4,V0 7,V0 5]]) (links47W _ bi _ _ ci _ c0) ?_
 rintro _ W9 ⟨_,rfl,b7,pl,cl,rfl,hl⟩
 have c4:=(u8.below (u7.below (bln (bln (bln (bln (bln a1 a4) a5) a3) n5.below) n6.below) g5) g6).size
 have c2:=k8.below b7
 refine xb 10 1 c2 ?_
 have b0:=Zd hl c4
 refine xc 12 (args:=#[.slice pl 7 cl,V0 6]) (into47W pl cl _ (Ze b0)) ?_
 rintro _ c6 ⟨_,rfl,a9,q2,d2,rfl,h2⟩
 have b3:=(bln (u8.below (u7.below (bln (bln (bln (bln (bln a1 a4) a5) a3) n5.below) n6.below) g5) g6) b7).size
 refine xbs 0 1 [V0 7] 3 fun c3 c8 a2=>?_
 have hB:=bln (bln (u8.below (u7.below (bln (bln (bln (bln (bln a1 a4) a5) a3) n5.below) n6.below) g5) g6) b7) a9
 have d0:=a2.ge hB
 have a7:=Zd h2 b3
 have b2:=Zn a7 a2
 have b1:=Zb a7 a2.below
 refine xr 0 (args:=#[.slice q2 1 d2,.slice (S1 c3) 1 1]) (ref01_Same q2 (S1 c3) d2 1 [7] _ (Ze b1) (a2.blk.sl 1 1 (by decide) (by decide))) fun c7 a8=>?_
 have b9:=Zb (Zb (Zb b0 a9) a2.below) a8
 refine xc 3 (args:=#[.slice pl 7 cl,V0 0]) (below47W pl cl _ (Ze b9)) ?_
 rintro _ c9 ⟨_,rfl,b4,q3,d3,rfl⟩
 have b8:=bln (bln (bln hB a2.below) a8) b4
 exact xe 7 (.bool true) ⟨rfl,b8⟩
def triK(x:Lk):Int×Int×Int:=(x.1,x.2.1,x.2.2.1)
theorem tri_lk(L:List Lk):L.flatMap lkC=(L.map triK).flatMap ljC:=by rw[List.flatMap_map];rfl
theorem tri_lr(L:List Lk):L.flatMap lrC=(L.map triK).flatMap ljC:=by rw[List.flatMap_map];rfl
def Ki(O:Kx):List (Int×Int×Int):=if O.2.2=0 then O.1.map triK else []
structure KxOk(O:Kx):Prop where
 ok:O.2.2=0→O.2.1=[]
 len:O.2.1.length≤1
 few:O.1.length≤20000000
theorem Zdq(l:Bl)(n:Nat):∀ (d:Nat) (out:List Lk) (x:Lk),(Xv l n d out x).2.1.length≤1
 | 0,_,_=>Nat.zero_le _
 | d+1,out,x=>by
  have a0:∀ (L:List Lk) (o:List Lk),(Qq (Xv l n d) o L).2.1.length≤1:=by
   intro L
   induction L with
   | nil=>intro o;exact Nat.zero_le _
   | cons y L ih =>
    intro o
    rw[Yd]
    split
    ·exact Zdq l n d o y
    ·exact ih _
  unfold Xv
  split
  ·exact Nat.le_refl _
  split
  ·exact Nat.le_refl _
  split
  ·exact Nat.zero_le _
  split
  ·exact Nat.le_refl _
  ·exact a0 _ _
theorem Zd9(l:Bl)(n d:Nat):∀ (L:List Lk) (o:List Lk),(Qq (Xv l n d) o L).2.1.length≤1
 | [],_=>Nat.zero_le _
 | y::L,o=>by
  rw[Yd]
  split
  ·exact Zdq l n d o y
  ·exact Zd9 l n d L _
theorem Zfm(l:Bl)(s:Sup):KxOk (Xr l s):=by
 cases h:Zp s with
 | false=>rw[Im h];exact⟨fun q=>(by cases q),Nat.zero_le _,Nat.zero_le _⟩
 | true =>
  rw[Jl h]
  refine⟨fun q=>Ub q,Zd9 _ _ _ _ _,?_⟩
  have hw:=(Nk (Ug l s.blocks.toNat (s.blocks.toNat+1)) (Ia s) []).phi
  have hb:=Tb h
  have hu:=Zee [] s.blocks.toNat
  unfold Qn at hw
  simp only[List.length_nil,Ia,List.length_cons] at hw
  simp only[Ia]
  omega
def LinksU(O:Kx)(w:World)(e:Ending)(w':World):Prop :=
 ∃ p c v,e=.returned (.tuple #[.slice p (Ki O).length c,v])∧B3 w w'∧w'.ownsRow w.heap.size 76 3 (.slice p (Ki O).length c) (Ki O).length ((Ki O).flatMap ljC)∧Jy w' (O.2.1.map some) (erT O.2.2) v
theorem Zdv.u{O:Kx}{w:World}{e:Ending}{w':World}(hO:KxOk O)(h:Zdv O w e w'):LinksU O w e w':=by
 rcases h with ⟨hc,ty,x,rfl,hb,hv⟩|⟨hc,p,c,rfl,hb,ho⟩
 ·have e1:Ki O=[]:=if_neg hc
  refine⟨none,0,.iface ty x,by rw[e1];rfl,hb,?_,?_⟩
  ·rw[e1];exact World.ownsRow_nil _ _ _ _
  ·unfold erT;rw[if_neg hc];exact hv
 ·have e1:Ki O=O.1.map triK:=if_pos hc
  refine⟨p,c,.nilIface,by rw[e1,List.length_map],hb,?_,?_⟩
  ·rw[e1,List.length_map,←tri_lk];exact ho
  ·rw[hO.ok hc,hc];rfl
def RLinkU(O:Kx)(w:World)(e:Ending)(w':World):Prop :=
 ∃ p c a d,e=.returned (.tuple #[.slice p (Ki O).length c,.agg #[.slice a O.2.1.length d,V0 O.2.2]])∧B3 w w'∧w'.ownsRow w.heap.size 81 3 (.slice p (Ki O).length c) (Ki O).length ((Ki O).flatMap ljC)∧w'.ownsRow w.heap.size 3 1 (.slice a O.2.1.length d) O.2.1.length (O.2.1.map V0)
theorem Zdt.u{O:Kx}{w:World}{e:Ending}{w':World}(hO:KxOk O)(h:Zdt O w e w'):RLinkU O w e w':=by
 rcases h with ⟨hc,a,m,d,rfl,rfl,hb,ho⟩|⟨hc,p,c,rfl,hb,ho⟩
 ·have e1:Ki O=[]:=if_neg hc
  refine⟨none,0,a,d,by rw[e1];rfl,hb,?_,ho⟩
  rw[e1];exact World.ownsRow_nil _ _ _ _
 ·have e1:Ki O=O.1.map triK:=if_pos hc
  refine⟨p,c,none,0,by rw[e1,List.length_map,hO.ok hc,hc];rfl,hb,?_,?_⟩
  ·rw[e1,List.length_map,←tri_lr];exact ho
  ·rw[hO.ok hc];exact World.ownsRow_nil _ _ _ _
theorem told_K{O:Kx}(hO:KxOk O)(v:Value)(w:World)(hg:ErrT w)(hv:Jy w (O.2.1.map some) (erT O.2.2) v):C0 13 #[v] w (Qe (fun w' r=>FltV w' r O.2.1 O.2.2) w):=by
 have hl:=hO.len
 by_cases hc:O.2.2=0
 ·have:=Oj none [] v w (by decide) hg (by rw[hO.ok hc,hc] at hv;exact hv)
  rw[hO.ok hc,hc];exact this
 ·have:=Oj (some O.2.2) (O.2.1.map some) v w (by rw[List.length_map];omega) hg (by unfold erT at hv;rw[if_neg hc] at hv;exact hv)
  rwa [Zfc,Zba] at this
theorem toldL_few{O:Kx}(h:KxOk O):(Ki O).length≤20000000:=by
 unfold Ki
 split
 ·rw[List.length_map];exact h.few
 ·exact Nat.zero_le _
theorem Zbl(a:O0)(c:Nat)(l:Bl)(s:Sup)(w:World)(h:Bys w (.slice a l.length c) l)(hg:ErrT w) :
 C0 3 #[.slice a l.length c,.agg #[V0 s.tx,V0 s.time,V0 s.unit,V0 s.data,V0 s.blocks,V0 s.top,V0 s.details,V0 s.dslots,V0 s.dover,V0 s.mindex,V0 s.mover]] w (Ret (.bool true) w):=by
 have h6:=h.cap rfl
 have b4:=Zfm (l.take ((l.length/256)*256)) s
 have j0:=toldL_few b4
 refine zin 40 Tryz.func3 ?_
 refine xa 2 [V0 s.tx,V0 s.time,V0 s.unit,V0 s.data,V0 s.blocks,V0 s.top,V0 s.details,V0 s.dslots,V0 s.dover,V0 s.mindex,V0 s.mover] 24 fun b1 W1 n1=>?_
 refine xid 11 ((l.length:Int)>(12000:Int)) (fun i9=>?_) (fun i9=>?_)
 ·refine xr 2 (args:=#[]) (Zbb _) fun W3 i6=>?_
  have hB:=bln n1.below i6
  exact xe 5 (.bool true) ⟨rfl,hB⟩
 refine xd 3 .z ?_
 have k1:=n1.blk.below (Za W1)
 refine xlv (.e [0] 2) k1.rp ?_
 have hB:=bln n1.below (Za W1)
 refine yc (.o [] 1) (args:=#[.slice a l.length c]) .z (image_OfR a c l.length ((l.length/256)*256) l _ rfl (by omega) (h.below hB) (by omega) h6) ?_
 rintro _ W4 ⟨_,rfl,e2,bi,pi,ci,rfl,_,hI⟩
 refine⟨e2,?_⟩
 refine yc (.o [] 3) (args:=#[P0 bi,.agg #[V0 s.tx,V0 s.time,V0 s.unit,V0 s.data,V0 s.blocks,V0 s.top,V0 s.details,V0 s.dslots,V0 s.dover,V0 s.mindex,V0 s.mover]]) .z ((Of _ bi pi _ ci (l.take ((l.length/256)*256)) s _ hI).mono (fun _ _ q=>q.u b4)) ?_
 rintro _ W5 ⟨p1,c1,v1,rfl,g1,g9,h5⟩
 have h3:=(bln hB e2).size
 refine⟨g1,?_⟩
 refine xd (.r [4,5,6,7,8] 3) (.t w.heap.size [36]) ?_
 have i4:=((k1.below e2).below g1).below (Za W5)
 refine xlvt (.e [0] 2) (.t w.heap.size [36]) (fun V hV=>(i4.only hV.2 (by decide)).rp) ?_
 refine xm2 0 1 7 ?_ ?_
 ·have a8:=bln (bln (bln hB e2) g1) (Za W5)
  refine yc 0 (args:=#[.slice a l.length c]) (.t w.heap.size [36]) (Zgo a c l.length (l.length/256) l _ rfl (by omega) (h.below a8) (by omega)) ?_
  rintro _ W6 ⟨_,rfl,b7,bj,pj,cj,rfl,_,hJ⟩
  refine⟨(SF.of_below _ b7),?_⟩
  refine xm2 0 3 7 ?_ ?_
  ·refine yc 0 (args:=#[P0 bj,.agg #[V0 s.tx,V0 s.time,V0 s.unit,V0 s.data,V0 s.blocks,V0 s.top,V0 s.details,V0 s.dslots,V0 s.dover,V0 s.mindex,V0 s.mover]]) (.t w.heap.size [36]) ((Lm _ bj pj _ cj (l.take ((l.length/256)*256)) s _ hJ).mono (fun _ _ q=>q.u b4)) ?_
   rintro _ W7 ⟨p2,c2,a2,d2,rfl,g2,e5,e3⟩
   have i5:=(bln a8 b7).size
   refine⟨(SF.of_below _ g2),?_⟩
   refine xa (.o [4,5,6] 7) [S0,V0 0] 36 fun b8 W8 n8=>?_
   have c8:=bln (bln a8 b7) g2
   have g8:=n8.ge c8
   refine ysv (.o [8] 9) n8.blk [.slice a2 ((Xr (l.take ((l.length/256)*256)) s).2.1.length) d2,V0 ((Xr (l.take ((l.length/256)*256)) s).2.2)] (.t w.heap.size [36]) fun W9 u9 k9=>⟨(Zl u9 n8.blk g8 (by decide)),?_⟩
   refine xd 3 .z ?_
   have f5:=Zb (u9.own2 (Zb (Zb (Zb (Zb (Zd g9 h3) (Za W5)) b7) g2) n8.below) n8.blk (by decide)) (Za W9)
   refine yc (.o [0,2] 1) (args:=#[.slice p1 ((Ki (Xr (l.take ((l.length/256)*256)) s)).length) c1]) .z (Ty p1 c1 (Ki (Xr (l.take ((l.length/256)*256)) s)) _ (Ze f5) (by omega)) ?_
   rintro _ j9 ⟨_,rfl,a5,p3,c3,rfl,e6⟩
   have h8:=(bln (u9.below (bln c8 n8.below) g8) (Za W9)).size
   refine⟨a5,?_⟩
   have f4:=Zd e6 h8
   have d9:=Zb (Zb (u9.own2 (Zb (Zd e5 i5) n8.below) n8.blk (by decide)) (Za W9)) a5
   refine xr (.o [] 3) (args:=#[.slice p3 ((Ki (Xr (l.take ((l.length/256)*256)) s)).length) c3,.slice p2 ((Ki (Xr (l.take ((l.length/256)*256)) s)).length) c2]) (Dk p3 p2 c3 c2 (Ki (Xr (l.take ((l.length/256)*256)) s)) _ (Ze f4) (Ze d9)) fun k0 b3=>?_
   have h0:=((k9.below (Za W9)).below a5).below b3
   refine xlv (.e [4,5] 7) h0.rp ?_
   have g0:=(((((((h5.below (Za W5)).below b7).below g2).below n8.below).only (Zf.of_upd (T:=[36]) u9 n8.blk (by decide)) (by decide)).below (Za W9)).below a5).below b3
   have d6:=bln (bln (bln (u9.below (bln c8 n8.below) g8) (Za W9)) a5) b3
   refine yc (.o [] 6) (args:=#[v1]) .z (told_K (O:=(Xr (l.take ((l.length/256)*256)) s)) b4 v1 _ (hg.below d6) g0) ?_
   rintro _ j5 ⟨vt,rfl,c5,hq⟩
   refine⟨c5,?_⟩
   have d8:=Zb (Zb (Zb (Zb (u9.own2 (Zb (Zd e3 i5) n8.below) n8.blk (by decide)) (Za W9)) a5) b3) c5
   refine xr (.o [] 8) (args:=#[vt,.agg #[.slice a2 ((Xr (l.take ((l.length/256)*256)) s).2.1.length) d2,V0 ((Xr (l.take ((l.length/256)*256)) s).2.2)]]) (Dj (Xr (l.take ((l.length/256)*256)) s).2.1 (Xr (l.take ((l.length/256)*256)) s).2.2 vt _ _ hq ⟨_,rfl,Ze d8⟩) fun k7 h1=>?_
   refine xr (.o [9,10] 11) (args:=#[]) (Zbb _) fun k6 i2=>?_
   have g3:=bln (bln (bln d6 c5) h1) i2
   exact xe (.r [12,13] 3) (.bool true) ⟨rfl,g3⟩
  refine xa 0 [S0,V0 0] 36 fun l2 j3 b5=>?_
  have b2:=bln a8 b7
  have i1:=b5.ge b2
  have h7:=hJ.below b5.below
  refine yc (.o [] 3) (args:=#[P0 bj,.agg #[V0 s.tx,V0 s.time,V0 s.unit,V0 s.data,V0 s.blocks,V0 s.top,V0 s.details,V0 s.dslots,V0 s.dover,V0 s.mindex,V0 s.mover]]) (.t w.heap.size [36]) ((Lm _ bj pj _ cj (l.take ((l.length/256)*256)) s _ h7).mono (fun _ _ q=>q.u b4)) ?_
  rintro _ k8 ⟨p2,c2,a2,d2,rfl,a3,e5,e3⟩
  have e1:=(bln b2 b5.below).size
  refine⟨(SF.of_below _ a3),?_⟩
  have d1:=b5.blk.below a3
  refine ysv (.o [4,5,6,8] 9) d1 [.slice a2 ((Xr (l.take ((l.length/256)*256)) s).2.1.length) d2,V0 ((Xr (l.take ((l.length/256)*256)) s).2.2)] (.t w.heap.size [36]) fun c0 b9 i8=>⟨(Zl b9 d1 i1 (by decide)),?_⟩
  refine xd 3 .z ?_
  have f6:=Zb (b9.own2 (Zb (Zb (Zb (Zb (Zd g9 h3) (Za W5)) b7) b5.below) a3) d1 (by decide)) (Za c0)
  refine yc (.o [0,2] 1) (args:=#[.slice p1 ((Ki (Xr (l.take ((l.length/256)*256)) s)).length) c1]) .z (Ty p1 c1 (Ki (Xr (l.take ((l.length/256)*256)) s)) _ (Ze f6) (by omega)) ?_
  rintro _ j1 ⟨_,rfl,a4,p3,c3,rfl,e6⟩
  have h9:=(bln (b9.below (bln (bln b2 b5.below) a3) i1) (Za c0)).size
  refine⟨a4,?_⟩
  have d4:=Zd e6 h9
  have d3:=Zb (Zb (b9.own2 (Zd e5 e1) d1 (by decide)) (Za c0)) a4
  refine xr (.o [] 3) (args:=#[.slice p3 ((Ki (Xr (l.take ((l.length/256)*256)) s)).length) c3,.slice p2 ((Ki (Xr (l.take ((l.length/256)*256)) s)).length) c2]) (Dk p3 p2 c3 c2 (Ki (Xr (l.take ((l.length/256)*256)) s)) _ (Ze d4) (Ze d3)) fun j2 a7=>?_
  have f9:=((i8.below (Za c0)).below a4).below a7
  refine xlv (.e [4,5] 7) f9.rp ?_
  have e4:=(((((((h5.below (Za W5)).below b7).below b5.below).below a3).only (Zf.of_upd (T:=[36]) b9 d1 (by decide)) (by decide)).below (Za c0)).below a4).below a7
  have f7:=bln (bln (bln (b9.below (bln (bln b2 b5.below) a3) i1) (Za c0)) a4) a7
  refine yc (.o [] 6) (args:=#[v1]) .z (told_K (O:=(Xr (l.take ((l.length/256)*256)) s)) b4 v1 _ (hg.below f7) e4) ?_
  rintro _ k2 ⟨vt,rfl,c7,hq⟩
  refine⟨c7,?_⟩
  have d5:=Zb (Zb (Zb (Zb (b9.own2 (Zd e3 e1) d1 (by decide)) (Za c0)) a4) a7) c7
  refine xr (.o [] 8) (args:=#[vt,.agg #[.slice a2 ((Xr (l.take ((l.length/256)*256)) s).2.1.length) d2,V0 ((Xr (l.take ((l.length/256)*256)) s).2.2)]]) (Dj (Xr (l.take ((l.length/256)*256)) s).2.1 (Xr (l.take ((l.length/256)*256)) s).2.2 vt _ _ hq ⟨_,rfl,Ze d5⟩) fun l4 g5=>?_
  refine xr (.o [9,10] 11) (args:=#[]) (Zbb _) fun l1 h4=>?_
  have i3:=bln (bln (bln f7 c7) g5) h4
  exact xe (.r [12,13] 3) (.bool true) ⟨rfl,i3⟩
 refine xa 0 [S0,V0 0] 36 fun l0 j8 f8=>?_
 have f3:=bln (bln (bln hB e2) g1) (Za W5)
 have h2:=f8.ge f3
 have a9:=bln f3 f8.below
 refine yc (.o [] 1) (args:=#[.slice a l.length c]) (.t w.heap.size [36]) (Zgo a c l.length (l.length/256) l _ rfl (by omega) (h.below a9) (by omega)) ?_
 rintro _ j4 ⟨_,rfl,a0,bj,pj,cj,rfl,_,hJ⟩
 refine⟨(SF.of_below _ a0),?_⟩
 refine yc (.o [] 3) (args:=#[P0 bj,.agg #[V0 s.tx,V0 s.time,V0 s.unit,V0 s.data,V0 s.blocks,V0 s.top,V0 s.details,V0 s.dslots,V0 s.dover,V0 s.mindex,V0 s.mover]]) (.t w.heap.size [36]) ((Lm _ bj pj _ cj (l.take ((l.length/256)*256)) s _ hJ).mono (fun _ _ q=>q.u b4)) ?_
 rintro _ k4 ⟨p2,c2,a2,d2,rfl,a6,e5,e3⟩
 have f2:=(bln a9 a0).size
 refine⟨(SF.of_below _ a6),?_⟩
 have d0:=(f8.blk.below a0).below a6
 refine ysv (.o [4,5,6,8] 9) d0 [.slice a2 ((Xr (l.take ((l.length/256)*256)) s).2.1.length) d2,V0 ((Xr (l.take ((l.length/256)*256)) s).2.2)] (.t w.heap.size [36]) fun c6 c9 i7=>⟨(Zl c9 d0 h2 (by decide)),?_⟩
 refine xd 3 .z ?_
 have f1:=Zb (c9.own2 (Zb (Zb (Zb (Zb (Zd g9 h3) (Za W5)) f8.below) a0) a6) d0 (by decide)) (Za c6)
 refine yc (.o [0,2] 1) (args:=#[.slice p1 ((Ki (Xr (l.take ((l.length/256)*256)) s)).length) c1]) .z (Ty p1 c1 (Ki (Xr (l.take ((l.length/256)*256)) s)) _ (Ze f1) (by omega)) ?_
 rintro _ k5 ⟨_,rfl,a1,p3,c3,rfl,e6⟩
 have g6:=(bln (c9.below (bln (bln a9 a0) a6) h2) (Za c6)).size
 refine⟨a1,?_⟩
 have e7:=Zd e6 g6
 have d7:=Zb (Zb (c9.own2 (Zd e5 f2) d0 (by decide)) (Za c6)) a1
 refine xr (.o [] 3) (args:=#[.slice p3 ((Ki (Xr (l.take ((l.length/256)*256)) s)).length) c3,.slice p2 ((Ki (Xr (l.take ((l.length/256)*256)) s)).length) c2]) (Dk p3 p2 c3 c2 (Ki (Xr (l.take ((l.length/256)*256)) s)) _ (Ze e7) (Ze d7)) fun k3 b0=>?_
 have f0:=((i7.below (Za c6)).below a1).below b0
 refine xlv (.e [4,5] 7) f0.rp ?_
 have e8:=(((((((h5.below (Za W5)).below f8.below).below a0).below a6).only (Zf.of_upd (T:=[36]) c9 d0 (by decide)) (by decide)).below (Za c6)).below a1).below b0
 have b6:=bln (bln (bln (c9.below (bln (bln a9 a0) a6) h2) (Za c6)) a1) b0
 refine yc (.o [] 6) (args:=#[v1]) .z (told_K (O:=(Xr (l.take ((l.length/256)*256)) s)) b4 v1 _ (hg.below b6) e8) ?_
 rintro _ j7 ⟨vt,rfl,c4,hq⟩
 refine⟨c4,?_⟩
 have e0:=Zb (Zb (Zb (Zb (c9.own2 (Zd e3 f2) d0 (by decide)) (Za c6)) a1) b0) c4
 refine xr (.o [] 8) (args:=#[vt,.agg #[.slice a2 ((Xr (l.take ((l.length/256)*256)) s).2.1.length) d2,V0 ((Xr (l.take ((l.length/256)*256)) s).2.2)]]) (Dj (Xr (l.take ((l.length/256)*256)) s).2.1 (Xr (l.take ((l.length/256)*256)) s).2.2 vt _ _ hq ⟨_,rfl,Ze e0⟩) fun j6 i0=>?_
 refine xr (.o [9,10] 11) (args:=#[]) (Zbb _) fun l3 g7=>?_
 have e9:=bln (bln (bln b6 c4) i0) g7
 exact xe (.r [12,13] 3) (.bool true) ⟨rfl,e9⟩
end Go.Proofs.YtceeiinepijokaaGreatDoor
namespace Go.Proofs.YtceeiinepijokaaGreatDoor
set_option maxHeartbeats 8000000
set_option maxRecDepth 100000
open Go.ChangeShapes Go.WideShapes Go.ChangeAt Go.RowKit Go.Joins
set_option linter.unusedVariables false
theorem bytes_open{H:Type}{enc:TypeId×Value→H}{P:Program}{W:World}{r:Reach}{b0:Nat}{t e:TypeId}{v:Value}{d:DataW H}{p:List MemPlace}(ht:P.underlying t=some (.slice e))(he:P.underlying e=some (.int .u8))(hC:P.cellsOf e=1)
 (hv:Value.okWide P W r b0 t v) (h:DataW.Trod enc P W 0 (fun _=>true) true t v d p):∃ l,Bys W v l:=by
 obtain⟨a,a1,a7,rfl⟩:=okWide_slice ht hv
 obtain⟨a8,hf⟩:=h
 rcases open_ints ht he hC hf with ⟨a2,_⟩|⟨x,l,c,zs,a2,_,hl,hm,hz,_,a0,b1⟩
 ·simp[Value.cells] at a2
  obtain⟨rfl,rfl,rfl⟩:=a2
  exact⟨[],.inl ⟨_,_,rfl,rfl,rfl⟩⟩
 ·simp[Value.cells] at a2
  obtain⟨rfl,rfl,rfl⟩:=a2
  have b3:zs.length=a7:=by simpa using hz
  by_cases h0:a1=0
  ·subst h0
   exact⟨[],.inl ⟨_,_,rfl,rfl,rfl⟩⟩
  ·obtain⟨b,a9,a6⟩:=x
   have hc:=a0 0 (by omega)
   have a3:a6=none:=by simpa [Addr.add] using World.cell?_spot hc
   subst a3
   have a5:((zs.take a1).map fun n=>UInt8.ofNat n.toNat).length=a1:=by simp;omega
   refine⟨(zs.take a1).map fun n=>UInt8.ofNat n.toNat,.inr ⟨b,a9,a7,by rw[a5],by omega,hm,fun j x hj=>?_⟩⟩
   have b2:j<a1:=by have:=(List.getElem?_eq_some_iff.1 hj).1;simp at this;omega
   have e1:zs[j]? = some zs[j]:=List.getElem?_eq_getElem (by omega)
   have hw:=b1 zs[j] (List.getElem_mem _)
   have a4:=a0 j (by omega)
   have e2:zs.getD j 0=zs[j]:=by simp[List.getD,e1]
   rw[e2] at a4
   have hx:x=.int .u8 zs[j]:=by
    rw[List.getElem?_map,List.getElem?_map,List.getElem?_take_of_lt b2,e1] at hj
    simp only[Option.map_some,Option.some.injEq] at hj
    rw[←hj]
    have hb:0≤zs[j]∧zs[j]≤255:=by simpa [Lit.wf,IntKind.min,IntKind.max,IntKind.signed,IntKind.bits] using hw
    have h3:(zs[j].toNat%256:Nat)=zs[j].toNat:=Nat.mod_eq_of_lt (by omega)
    simp only[bv,UInt8.toNat_ofNat']
    rw[show(2 ^ 8:Nat)=256 from rfl,h3,Int.toNat_of_nonneg hb.1]
   subst hx
   by_cases hj0:j=0
   ·subst hj0;simpa [Addr.add] using a4
   ·simpa [Addr.add,hj0] using a4
end Go.Proofs.YtceeiinepijokaaGreatDoor
namespace Go.Proofs.YtceeiinepijokaaGreatDoor
set_option maxHeartbeats 8000000
set_option maxRecDepth 100000
open Go.ChangeShapes Go.WideShapes Go.ChangeAt Go.RowKit Go.Joins Go.Deep
set_option linter.unusedVariables false
def intOfS:Value→Int
 | .int _ z=>z
 | _=>0
theorem Zfe{H:Type}{enc:TypeId×Value→H}{P:Program}{W:World}{r:Reach}{b0:Nat}{t ti:TypeId}{fs:Array Field}{v:Value}{d:DataW H}{p:List MemPlace}(hs:P.underlying t=some (.struct fs))(hone:oneCellFields P fs=true)(hC:P.cellsOf t=fs.size)
 (hf:fs.toList.all (fun f=>f.type==ti)=true) (hti:P.underlying ti=some (.int .i64)) (hv:Value.okWide P W r b0 t v) (h:DataW.Trod enc P W 0 (fun _=>true) true t v d p) :
 ∃ N:List Int,N.length=fs.size∧v=.agg (N.map V0).toArray:=by
 obtain⟨cs,rfl,a8⟩:=okWide_struct hs hv
 obtain⟨a5,hx⟩:=h
 obtain⟨xs,n,_,_,hl,a6,a4⟩:=DataW.trod_struct hs hx
 have a7:∀ i,i<fs.size→∃ z:Int,cs[i]? = some (V0 z):=by
  intro i hi
  have a3:fs[i]? = some fs[i]:=by simp[hi]
  obtain⟨o0,k0⟩:=hone_of hone i fs[i] a3
  have a0:fs[i].type=ti:=by
   have:=List.all_eq_true.1 hf fs[i] (by simp)
   simpa using this
  have hq:=a4 i fs[i] a3
  have a2:i<cs.size:=by omega
  have e:((Value.agg cs).cells.toList.drop fs[i].offset).take (P.cellsOf fs[i].type)=[cs[i]]:=by
   rw[o0,k0]
   simp[Value.cells,List.drop_eq_getElem_cons,a2]
  rw[e,a0,List.getElem?_eq_getElem (show i<xs.length by omega)] at hq
  obtain⟨z,hz,_⟩:=DataW.trod_int hti hq
  simp only[List.cons.injEq,and_true] at hz
  exact⟨z,by simp[a2,hz]⟩
 refine⟨cs.toList.map intOfS,by simp;omega,?_⟩
 congr 1
 apply Array.ext'
 rw[List.toList_toArray]
 apply List.ext_getElem?
 intro i
 by_cases hi:i<fs.size
 ·obtain⟨z,hz⟩:=a7 i hi
  have a1:cs.toList[i]? = some (V0 z):=by simpa using hz
  rw[a1,List.getElem?_map,List.getElem?_map,a1];rfl
 ·rw[List.getElem?_eq_none (by simp;omega),List.getElem?_eq_none (by simp;omega)]
theorem sup_open{H:Type}{enc:TypeId×Value→H}{P:Program}{W:World}{r:Reach}{b0:Nat}{t ti:TypeId}{fs:Array Field}{v:Value}{d:DataW H}{p:List MemPlace}(hs:P.underlying t=some (.struct fs))(hone:oneCellFields P fs=true)(hC:P.cellsOf t=fs.size)(h11:fs.size=11)
 (hf:fs.toList.all (fun f=>f.type==ti)=true) (hti:P.underlying ti=some (.int .i64)) (hv:Value.okWide P W r b0 t v) (h:DataW.Trod enc P W 0 (fun _=>true) true t v d p) :
 ∃ s:Sup,v=.agg (supC s).toArray:=by
 obtain⟨N,hN,rfl⟩:=Zfe hs hone hC hf hti hv h
 rw[h11] at hN
 match N,hN with
 | [a,b,c,d,e,f,g,h,i,j,k],_=>exact⟨⟨a,b,c,d,e,f,g,h,i,j,k⟩,rfl⟩
end Go.Proofs.YtceeiinepijokaaGreatDoor
