/- build.level at entries that are right, in an allocator with room. -/
import Derived.Laws.StructEq
import Derived.Test.YtlmaglneeaecdaaGreatDoorMg6
namespace Go.Proofs.YtlmaglneeaecdaaGreatDoor
set_option maxHeartbeats 8000000
set_option maxRecDepth 100000
open Go.RowKit Go.Extern.Stop Go.Stop Go.Extern
set_option linter.unusedVariables false
attribute [local irreducible] wpList wpAnyH Code.wp Oper.wp Go
def LevelPost(B ba b g nn cc:Nat)(pa:Option Addr)(ca f N k0:Nat)(bs:List UInt8)(t:Int)(leaf:Bool)(m v:Nat)(l:List Ent)(w:World)(e:Ending)(w':World):Prop :=
 ∃ p c,e=.returned (.tuple #[.slice p (ovN l.length m) c,.nilIface])∧Below B w w'∧Ze [153,5] w w'∧Fr [ba,g] w w'∧Al B ba b g nn cc pa ca f N (k0+ovN l.length m) (Wz t leaf m v l (f+k0) bs (ovN l.length m)) w'∧w'.ownsRow w.heap.size 74 3 (.slice p (ovN l.length m) c) (ovN l.length m) ((upE l m (f+k0) (ovN l.length m)).flatMap Ky)
theorem Zb6(B ba b g nn cc:Nat)(pa:Option Addr)(ca f N k0:Nat)(bs:List UInt8)(t:Int)(leaf:Bool)(m v:Nat)(a:Option Addr)(c:Nat)(l:List Ent)(w:World)(hC:AlC B ba nn cc ca f N)(hA:Al B ba b g nn cc pa ca f N k0 bs w)(ht1:1≤t)(ht2:t≤5)(hm:Vy t leaf=m)(hv:Gv t leaf=v)(E:EntsOk v l)(hl:leaf=false→1≤l.length)(hn:l.length≤32768)(hf1:1≤f)(hk:k0+ovN l.length m≤N)(hin:∀ W,Below B w W→Ze [153,5] w W→Sts Ky W (.slice a l.length c) l)(hBw:B≤w.heap.size) :
 Calls Tryz.prog 62 #[.pointer (some ⟨ba,0,none⟩),.int .i64 t,.bool leaf,.slice a l.length c] w (LevelPost B ba b g nn cc pa ca f N k0 bs t leaf m v l w):=by
 have hmb:=Yv t leaf
 rw[hm] at hmb
 have hcf:=hC.hf
 have hcn:=hC.hn
 refine zin 96 Tryz.func62 ?_
 refine xr 18 (args:=#[.int .i64 t,.bool leaf]) (Du t leaf m hm ht1 ht2 _) fun W1 hb1=>?_
 refine xc 0 (args:=#[.int .i64 (↑l.length:Int),.int .i64 (↑m:Int)]) (Ze5 l.length m _ hn (by omega) (by omega)) ?_
 rintro _ W2 ⟨_,rfl,hb2,ps,cs,rfl,hsz⟩
 have hs2:=(blB (Below.refl B w) hBw hb1).size
 have hsz'1:=Zf hsz hs2
 have hA'1:=(hA.below hb1).below hb2
 have hB:=blB (blB (Below.refl B w) hBw hb1) hBw hb2
 have hX:=(show Fr [ba,g] w _ from(Fr.of_below hb1)).trans (Fr.of_below hb2)
 have hO:=(show Ze [153,5] w _ from(Ze.of_below hb1)).trans (Ze.of_below hb2)
 refine zl 5 96 (fun zm zkv V=>∃ (i:Nat) (a2:Option Addr) (c2:Nat) (l2:List Ent) (p4:Option Addr) (c4:Nat),zkv=[(0,.pointer (some ⟨ba,0,none⟩)),(1,.int .i64 t),(2,.bool leaf),(3,.slice a2 l2.length c2),(10,.slice p4 i c4),(26,.slice ps (ovN l.length m) cs),(27,.int .i64 (↑(ovN l.length m):Int)),(28,.int .i64 (↑i:Int))]∧zm=ovN l.length m-((↑i:Int)).toNat∧Below B w V∧Fr [ba,g] w V∧Ze [153,5] w V∧V.ownsRow w.heap.size 3 1 (.slice ps (ovN l.length m) cs) (ovN l.length m) ((sizL l.length m).map nv)∧V.ownsRow w.heap.size 74 3 (.slice p4 i c4) i ((upE l m (f+k0) i).flatMap Ky)∧Al B ba b g nn cc pa ca f N (k0+i) (Wz t leaf m v l (f+k0) bs i) V∧(∀ W,Below B w W→Ze [153,5] w W→Sts Ky W (.slice a2 l2.length c2) l2)∧i≤ovN l.length m∧l2=l.drop (i*m)) ⟨0,a,c,l,none,0,rfl,rfl,hB,hX,hO,hsz'1,World.ownsRow_nil _ _ _ _,hA'1,?_,Nat.zero_le _,by simp⟩ ?_
 ·exact hin
 rintro _ _ W3 ⟨i,a2,c2,l2,p4,c4,rfl,rfl,hB_3,hX_3,hO_3,hsz,hup,hA,hen,hi,hl2⟩ J3 hJ3 r3
 have hcap:=Sl.cap (hen _ hB_3 hO_3)
 have hsl:i<ovN l.length m→i*m≤l.length:=Ii (by omega)
 have hl2n:l2.length=l.length-i*m:=by rw[hl2];simp
 have hszn:Yx l.length m i≤l2.length:=by rw[hl2n];unfold Yx;omega
 refine xid 6 ((↑i:Int)<(↑(ovN l.length m):Int)) (fun hc4=>?_) (fun hc4=>?_)
 ·refine xx 6 _ (ovN l.length m) i 1 (Zc8 (Zg hsz) (k:=i) (by omega)).1 ?_
  refine xl 0 ((Zc8 (Zg hsz) (k:=i) (by omega)).2) ?_
  have hF5:=hB_3
  have hOhF5:=hO_3
  have hXhF5:=hX_3
  refine xa 8 [.int .i64 0,.bool false,.slice none 0 0,.slice none 0 0] 220 fun b6 W6 n6=>?_
  refine xsv 0 n6.blk [.int .i64 t,.bool leaf,.slice none 0 0,.slice none 0 0] fun W7 u7 k7=>?_
  have g6:=n6.ge (Below.refl W3.heap.size _)
  refine xsH 7 (fun _ _ _ _ zo zx zy V=>Yt (k:=(Yx l.length m i)) (b:=a2) (n:=l2.length) (c:=c2) (i:=(↑(Yx l.length m i):Int)) (ki:=.i64) zo zx zy rfl (by omega) Tryz.underlying75 (by kernel_rfl) V) ?_
  have hB:=u7.below n6.below g6
  refine zl 5 96 (fun zm zkv V=>∃ (j:Nat) (kp:Option Addr) (kc:Nat) (vp:Option Addr) (vc:Nat),zkv=[(0,.pointer (some ⟨ba,0,none⟩)),(1,.int .i64 t),(2,.bool leaf),(3,.slice a2 l2.length c2),(10,.slice p4 i c4),(12,.int .i64 (↑(Yx l.length m i):Int)),(13,.pointer (some ⟨b6,0,none⟩)),(26,.slice ps (ovN l.length m) cs),(27,.int .i64 (↑(ovN l.length m):Int)),(28,.int .i64 (↑i:Int)),(37,.slice a2 (Yx l.length m i) c2),(38,.int .i64 (↑(Yx l.length m i):Int)),(39,.int .i64 (↑j:Int))]∧zm=Yx l.length m i-((↑j:Int)).toNat∧Below W3.heap.size W3 V∧Blk V b6 ([.int .i64 t,.bool leaf,.slice kp j kc,.slice vp j vc]) 220∧V.ownsRow W3.heap.size 3 1 (.slice kp j kc) j (((Qu l2).take j).map (Value.int .i64))∧V.ownsRow W3.heap.size 9 1 (.slice vp j vc) j (((Kw l2).take j).map sv)∧j≤Yx l.length m i) ⟨0,none,0,none,0,rfl,rfl,hB,k7,World.ownsRow_nil _ _ _ _,World.ownsRow_nil _ _ _ _,Nat.zero_le _⟩ ?_
  rintro _ _ W8 ⟨j,kp,kc,vp,vc,rfl,rfl,hB_8,k8_b6,hK,hV,hj⟩ J8 hJ8 r8
  refine xid 6 ((↑j:Int)<(↑(Yx l.length m i):Int)) (fun hc9=>?_) (fun hc9=>?_)
  ·have hen_hF5:=hen _ hF5 hOhF5
   refine xx 6 _ (Yx l.length m i) j 3 (Sts.cell hen_hF5 Xm Zi (k:=j) (i:=0) (by omega) rfl).1 ?_
   refine xlv 0 (Sts.rp (k:=j) (hen_hF5.below hB_8) Xm Zi (by omega) (by decide)) ?_
   refine xa 0 [.int .i64 0,.string ⟨#[]⟩,.int .i64 0] 74 fun b10 W10 n10=>?_
   have g10:=n10.ge hB_8
   refine xsv 0 n10.blk [.int .i64 ((l2.getD j Zi).1),.string ⟨((l2.getD j Zi).2.1).toArray⟩,.int .i64 ((l2.getD j Zi).2.2)] fun W11 u11 k11=>?_
   have k8_b6'1:=u11.blkT (k8_b6.below n10.below) n10.blk (by decide)
   refine xb 5 2 k8_b6'1 ?_
   refine xb 1 0 k11 ?_
   refine xbs 0 1 [.int .i64 ((l2.getD j Zi).1)] 3 fun b12 W12 n12=>?_
   have hB'1:=u11.below (bln hB_8 n10.below) g10
   have g12:=n12.ge hB'1
   have hK'1:=u11.own2 (Za hK n10.below) n10.blk (by decide)
   have r12_hK:=Zp hK'1 n12
   have hK'2:=Za hK'1 n12.below
   have hB'2:=bln hB'1 n12.below
   refine xbi 0 fun _ _ _ _ zJ zQ zo zx zy zK=>Zt (m:=1) (news:=[.int .i64 ((l2.getD j Zi).1)]) (.int .i64 0) 1 8 (j+1) (((Qu l2).take (j+1)).map (Value.int .i64)) zo Tryz.underlying31 (by kernel_rfl) rfl (by decide) zx hK'2 zy (n12.blk.sl 1 1 (by decide) (by decide)) rfl (by simp[Value.oneCell']) (by unfold maxLen;omega) (by omega) hB'2.size (by rfl) ((Zgt (by omega)).symm) fun px13 cx13 W13 o13 hg13 hb13=>?_
   refine zK _ _ ?_
   have k8_b6'2:=(k8_b6'1.below n12.below).grown hg13 hK'2 (by decide)
   refine xs 1 k8_b6'2 [.int .i64 t,.bool leaf,.slice px13 (j+1) cx13,.slice vp j vc] fun W14 u14 k14=>?_
   refine xb 4 3 k14 ?_
   have k11'1:=u14.blkT ((k11.below n12.below).grown hg13 hK'2 (by decide)) k8_b6'2 (by decide)
   refine xb 1 1 k11'1 ?_
   refine xbs 0 1 [.string ⟨((l2.getD j Zi).2.1).toArray⟩] 9 fun b15 W15 n15=>?_
   have hB'3:=u14.below (hB'2.trans hb13) g6
   have g15:=n15.ge hB'3
   have hV'1:=u14.own2 (Zh (Za (u11.own2 (Za hV n10.below) n10.blk (by decide)) n12.below) hg13 hK'2 (by decide)) k8_b6'2 (by decide)
   have r15_hV:=Zp hV'1 n15
   have hV'2:=Za hV'1 n15.below
   have hB'4:=bln hB'3 n15.below
   refine xbi 0 fun _ _ _ _ zJ zQ zo zx zy zK=>Zt (m:=1) (news:=[.string ⟨((l2.getD j Zi).2.1).toArray⟩]) (.string ⟨#[]⟩) 1 16 (j+1) (((Kw l2).take (j+1)).map sv) zo Tryz.underlying119 (by kernel_rfl) rfl (by decide) zx hV'2 zy (n15.blk.sl 1 1 (by decide) (by decide)) rfl (by simp[Value.oneCell']) (by unfold maxLen;omega) (by omega) hB'4.size (by rfl) ((vals_take (by omega)).symm) fun px16 cx16 W16 o16 hg16 hb16=>?_
   refine zK _ _ ?_
   have k14'1:=(k14.below n15.below).grown hg16 hV'2 (by decide)
   refine xs 1 k14'1 [.int .i64 t,.bool leaf,.slice px13 (j+1) cx13,.slice px16 (j+1) cx16] fun W17 u17 k17=>?_
   refine xwm 4 ((↑j:Int)+1) (↑(j+1):Int) ?_
   have hB'5:=u17.below (hB'4.trans hb16) g6
   have o13'1:=u17.own2 (Zh (Za (u14.own2 o13 k8_b6'2 (by decide)) n15.below) hg16 hV'2 (by decide)) k14'1 (by decide)
   have o16'1:=u17.own2 o16 k14'1 (by decide)
   exact ze 2 (hJ8 _ _ _ ⟨j+1,_,_,_,_,rfl,rfl,hB'5,k17,o13'1,o16'1,by omega⟩ (by omega))
  refine xsL 9 (fun _ _ _ _ zo zx zy V=>Qs (k:=(Yx l.length m i)) (b:=a2) (n:=l2.length) (c:=c2) (i:=(↑(Yx l.length m i):Int)) (ki:=.i64) 3 zo zx zy rfl (by omega) Tryz.underlying75 (by kernel_rfl) V) ?_
  refine xlv 5 k8_b6.rp ?_
  have hT18:Below W3.heap.size W3 W8:=hB_8
  have hs18:w.heap.size≤W3.heap.size:=hF5.size
  have hjs:Yx l.length m i=j:=by omega
  have hck:(Qu l2).take j=Qu (Xd l m i):=by rw[hl2];exact Zdz hjs
  have hcv:(Kw l2).take j=Kw (Xd l m i):=by rw[hl2];exact Zex hjs
  have hcl:(Xd l m i).length=j:=by rw[Jk,hjs]
  have hK'3:=Zf hK hs18
  rw[hck] at hK'3
  have hV'3:=Zf hV hs18
  rw[hcv] at hV'3
  have hN:=Wm E ht1 ht2 hm hv hl (show i<ovN l.length m by omega)
  have hlen:=Ck hN
  rw[hcl] at hN
  have hnd:Hv m v (Kx t leaf j m v) (Qu (Xd l m i)) (Kw (Xd l m i)) j=nodB t leaf m v (Xd l m i):=by rw[←hcl];rfl
  refine xc 0 (args:=#[.agg #[.int .i64 t,.bool leaf,.slice kp j kc,.slice vp j vc]]) (node_Put t leaf j m v (Qu (Xd l m i)) (Kw (Xd l m i)) kp vp kc vc _ hN (Zg hK'3) (Zg hV'3)) ?_
  rintro _ W19 ⟨_,rfl,hb19,p6,c6,rfl,h6⟩
  have hs19:=(blB hF5 hBw hT18).size
  have h6'1:=Zf h6 hs19
  rw[hnd] at h6'1
  have hA'2:=(hA.below hT18).below hb19
  have hO:=(hOhF5.trans (Ze.of_below hT18)).trans (Ze.of_below hb19)
  have hB:=blB (blB hF5 hBw hT18) hBw hb19
  refine xc 21 (args:=#[.pointer (some ⟨ba,0,none⟩),.int .i64 2,.slice p6 244 c6]) (Zf1 B ba b g nn cc pa ca f N (k0+i) (Wz t leaf m v l (f+k0) bs i) 2 p6 c6 (nodB t leaf m v (Xd l m i)) (f+k0+i) 244 _ (Nat.add_assoc _ _ _).symm hlen hC hA'2 (by omega) (by decide) (by decide) (fun W _ hO=>Jv (Zg (Zl h6'1 hO (by decide))) hlen) (by decide) (Nat.le_trans hBw hB.size)) ?_
  rintro _ W20 ⟨rfl,hb20,hO20,hX20,hA⟩
  refine xr 20 (args:=#[.int .i64 (↑(f+k0+i):Int)]) (Rx ((f+k0+i:Nat):Int) (by omega) (by omega) _) fun W21 hb21=>?_
  refine xa 2 [.int .i64 0,.string ⟨#[]⟩,.int .i64 0] 74 fun b22 W22 n22=>?_
  have hB'6:=blB (hB.trans hb20) hBw hb21
  have g22:=n22.ge0 hB'6
  have hup'1:=Za (Zl (Za (Za hup hT18) hb19) hO20 (by decide)) hb21
  have r22_hup:=Zp hup'1 n22
  refine xsv 0 n22.blk [.int .i64 0,.string ⟨(leB (↑(f+k0+i):Int) 4).toArray⟩,.int .i64 (↑(f+k0+i):Int)] fun W23 u23 k23=>?_
  refine xid 9 ((↑(Yx l.length m i):Int)>(0:Int)) (fun hc24=>?_) (fun hc24=>?_)
  ·have hkey:((Qu (Xd l m i))).getD 0 0=((Xd l m i).getD 0 Zi).1:=chunk_key hjs (by omega)
   have k8_b6'3:=u23.blkT ((((k8_b6.below hb19).only hO20 (by decide)).below hb21).below n22.below) n22.blk (by decide)
   refine xb 2 2 k8_b6'3 ?_
   have hK'4:=u23.own2 (Za (Za (Zl (Za hK'3 hb19) hO20 (by decide)) hb21) n22.below) n22.blk (by decide)
   refine xx 0 _ j 0 1 (IntsN.elem (Zg hK'4) (by rw[Wi,hcl]) (k:=0) (by omega)).1 ?_
   refine xl 0 ((IntsN.elem (Zg hK'4) (by rw[Wi,hcl]) (k:=0) (by omega)).2) ?_
   refine xs 1 k23 [.int .i64 ((Qu (Xd l m i)).getD 0 0),.string ⟨(leB (↑(f+k0+i):Int) 4).toArray⟩,.int .i64 (↑(f+k0+i):Int)] fun W25 u25 k25=>?_
   refine xlv 4 k25.rp ?_
   refine xbs 0 1 [.int .i64 ((Qu (Xd l m i)).getD 0 0),.string ⟨(leB (↑(f+k0+i):Int) 4).toArray⟩,.int .i64 (↑(f+k0+i):Int)] 74 fun b26 W26 n26=>?_
   have d26_b22:=n26.ne k25
   have hB'7:=u25.below (u23.below (blB hB'6 hBw n22.below) (Nat.le_trans hBw g22)) (Nat.le_trans hBw g22)
   have g26:=n26.ge0 hB'7
   have hup'2:=u25.own3 (u23.own3 (Za hup'1 n22.below) r22_hup) r22_hup
   have r26_hup:=Zp hup'2 n26
   have hup'3:=Za hup'2 n26.below
   have hB'8:=blB hB'7 hBw n26.below
   refine xbi 0 fun _ _ _ _ zJ zQ zo zx zy zK=>Zt (m:=1) (news:=[.int .i64 ((Qu (Xd l m i)).getD 0 0),.string ⟨(leB (↑(f+k0+i):Int) 4).toArray⟩,.int .i64 (↑(f+k0+i):Int)]) (.agg #[.int .i64 0,.string ⟨#[]⟩,.int .i64 0]) 3 32 (i+1) ((upE l m (f+k0) (i+1)).flatMap Ky) zo Tryz.underlying75 (by kernel_rfl) rfl (by decide) zx hup'3 zy (n26.blk.sl 1 1 (by decide) (by decide)) rfl (by simp[Value.oneCell']) (by unfold maxLen;omega) (by omega) hB'8.size (by rfl) (up_row (by first|exact hkey|exact hkey0)) fun px27 cx27 W27 o27 hg27 hb27=>?_
   refine zK _ _ ?_
   refine xwm 5 ((↑i:Int)+1) (↑(i+1):Int) ?_
   refine xv1 2 3 (show(.slice (Vd a2 (Yx l.length m i) c2 3) (l2.length-(Yx l.length m i)) (c2-(Yx l.length m i)):Value)=.slice (Vd a2 (Yx l.length m i) c2 3) ((l2.drop (Yx l.length m i)).length) (c2-Yx l.length m i) from by rw[List.length_drop]) ?_
   have hA'3:=(((((hA.below hb21).below n22.below).only (Ze.of_upd (T:=[74]) u23 n22.blk (by decide)) (by decide)).only (Ze.of_upd (T:=[74]) u25 k23 (by decide)) (by decide)).below n26.below).only (Ze.of_grown (T:=[74]) hg27 hup'3 (by decide)) (by decide)
   have hl2s:l2.drop (Yx l.length m i)=l.drop ((i+1)*m):=by
    rw[hl2,List.drop_drop,Nat.add_mul,Nat.one_mul]
    unfold Yx
    rcases Nat.le_total m (l.length-i*m) with q|q
    ·rw[Nat.min_eq_left q]
    ·rw[Nat.min_eq_right q,List.drop_eq_nil_of_le (by omega),List.drop_eq_nil_of_le (by omega)]
   have hB'9:=hB'8.trans (hb27.mono hBw)
   have hX:=(Fr.grown_new ((Fr.upd_new (Fr.upd_new (((((hXhF5.trans (Fr.of_below hT18)).trans (Fr.of_below hb19)).trans (hX20.mono (by simp))).trans (Fr.of_below hb21)).trans (Fr.of_below n22.below)) u23 g22) u25 g22).trans (Fr.of_below n26.below)) hg27 hup'3)
   have hO'1:=(Ze.grown_new ((Ze.upd_new (Ze.upd_new (((hO.trans hO20).trans (Ze.of_below hb21)).trans (Ze.of_below n22.below)) u23 g22) u25 g22).trans (Ze.of_below n26.below)) hg27 hup'3)
   have hsz'2:=Zh (Za (u25.own2 (u23.own2 (Za (Za (Zl (Za (Za hsz hT18) hb19) hO20 (by decide)) hb21) n22.below) n22.blk (by decide)) k23 (by decide)) n26.below) hg27 hup'3 (by decide)
   exact ze 0 (hJ3 _ _ _ ⟨i+1,_,_,(l2.drop (Yx l.length m i)),_,_,rfl,rfl,hB'9,hX,hO'1,hsz'2,o27,hA'3,fun W h1 h2=>Sts.cut Xm (hen W h1 h2) _ hszn,by omega,hl2s⟩ (by omega))
  have hkey0:(0:Int)=((Xd l m i).getD 0 Zi).1:=Zat hjs (by omega)
  refine xlv 4 k23.rp ?_
  refine xbs 0 1 [.int .i64 0,.string ⟨(leB (↑(f+k0+i):Int) 4).toArray⟩,.int .i64 (↑(f+k0+i):Int)] 74 fun b28 W28 n28=>?_
  have d28_b22:=n28.ne k23
  have hB'10:=u23.below (blB hB'6 hBw n22.below) (Nat.le_trans hBw g22)
  have g28:=n28.ge0 hB'10
  have hup'4:=u23.own3 (Za hup'1 n22.below) r22_hup
  have r28_hup:=Zp hup'4 n28
  have hup'5:=Za hup'4 n28.below
  have hB'11:=blB hB'10 hBw n28.below
  refine xbi 0 fun _ _ _ _ zJ zQ zo zx zy zK=>Zt (m:=1) (news:=[.int .i64 0,.string ⟨(leB (↑(f+k0+i):Int) 4).toArray⟩,.int .i64 (↑(f+k0+i):Int)]) (.agg #[.int .i64 0,.string ⟨#[]⟩,.int .i64 0]) 3 32 (i+1) ((upE l m (f+k0) (i+1)).flatMap Ky) zo Tryz.underlying75 (by kernel_rfl) rfl (by decide) zx hup'5 zy (n28.blk.sl 1 1 (by decide) (by decide)) rfl (by simp[Value.oneCell']) (by unfold maxLen;omega) (by omega) hB'11.size (by rfl) (up_row (by first|exact hkey|exact hkey0)) fun px29 cx29 W29 o29 hg29 hb29=>?_
  refine zK _ _ ?_
  refine xwm 5 ((↑i:Int)+1) (↑(i+1):Int) ?_
  refine xv1 2 3 (show(.slice (Vd a2 (Yx l.length m i) c2 3) (l2.length-(Yx l.length m i)) (c2-(Yx l.length m i)):Value)=.slice (Vd a2 (Yx l.length m i) c2 3) ((l2.drop (Yx l.length m i)).length) (c2-Yx l.length m i) from by rw[List.length_drop]) ?_
  have hA'4:=((((hA.below hb21).below n22.below).only (Ze.of_upd (T:=[74]) u23 n22.blk (by decide)) (by decide)).below n28.below).only (Ze.of_grown (T:=[74]) hg29 hup'5 (by decide)) (by decide)
  have hl2s:l2.drop (Yx l.length m i)=l.drop ((i+1)*m):=by
   rw[hl2,List.drop_drop,Nat.add_mul,Nat.one_mul]
   unfold Yx
   rcases Nat.le_total m (l.length-i*m) with q|q
   ·rw[Nat.min_eq_left q]
   ·rw[Nat.min_eq_right q,List.drop_eq_nil_of_le (by omega),List.drop_eq_nil_of_le (by omega)]
  have hB'12:=hB'11.trans (hb29.mono hBw)
  have hX:=(Fr.grown_new ((Fr.upd_new (((((hXhF5.trans (Fr.of_below hT18)).trans (Fr.of_below hb19)).trans (hX20.mono (by simp))).trans (Fr.of_below hb21)).trans (Fr.of_below n22.below)) u23 g22).trans (Fr.of_below n28.below)) hg29 hup'5)
  have hO'2:=(Ze.grown_new ((Ze.upd_new (((hO.trans hO20).trans (Ze.of_below hb21)).trans (Ze.of_below n22.below)) u23 g22).trans (Ze.of_below n28.below)) hg29 hup'5)
  have hsz'3:=Zh (Za (u23.own2 (Za (Za (Zl (Za (Za hsz hT18) hb19) hO20 (by decide)) hb21) n22.below) n22.blk (by decide)) n28.below) hg29 hup'5 (by decide)
  exact ze 0 (hJ3 _ _ _ ⟨i+1,_,_,(l2.drop (Yx l.length m i)),_,_,rfl,rfl,hB'12,hX,hO'2,hsz'3,o29,hA'4,fun W h1 h2=>Sts.cut Xm (hen W h1 h2) _ hszn,by omega,hl2s⟩ (by omega))
 refine xe 13 (.tuple #[.slice p4 i c4,.nilIface]) ?_
 obtain rfl:i=ovN l.length m:=by omega
 exact⟨_,_,rfl,hB_3,hO_3,hX_3,hA,hup⟩
theorem only_a3{w w':World}(h:Ze [153,5] w w'):Ze [153,5,26] w w':=h.mono fun t ht=>by simp at ht ⊢;exact⟨ht.1,ht.2.1⟩
def Zhk(B ba b g nn cc:Nat)(pa:Option Addr)(ca f N k0:Nat)(bs:List UInt8)(t:Int)(leaf:Bool)(m v:Nat)(l:List Ent)(b8:Nat)(w:World)(e:Ending)(w':World):Prop :=
 ∃ p c,e=.returned (.slice p (ovN l.length m) c)∧Below B w w'∧Ze [153,5,26] w w'∧Fr [ba,g,b8] w w'∧Blk w' b8 [.nilIface] 26∧Al B ba b g nn cc pa ca f N (k0+ovN l.length m) (Wz t leaf m v l (f+k0) bs (ovN l.length m)) w'∧w'.ownsRow w.heap.size 74 3 (.slice p (ovN l.length m) c) (ovN l.length m) ((upE l m (f+k0) (ovN l.length m)).flatMap Ky)
theorem Da(B ba b g nn cc:Nat)(pa:Option Addr)(ca f N k0:Nat)(bs:List UInt8)(t:Int)(leaf:Bool)(m v:Nat)(a:Option Addr)(c:Nat)(l:List Ent)(b3 b4 b8:Nat)(w:World)(k3:Blk w b3 [.pointer (some ⟨ba,0,none⟩)] 66)(k4:Blk w b4 [.int .i64 t] 3)(k8:Blk w b8 [.nilIface] 26)(h38:b3≠b8)(h48:b4≠b8)(hB8:B≤b8)(hC:AlC B ba nn cc ca f N)(hA:Al B ba b g nn cc pa ca f N k0 bs w)(ht1:1≤t)(ht2:t≤5)(hm:Vy t leaf=m)(hv:Gv t leaf=v)(E:EntsOk v l)(hl:leaf=false→1≤l.length)(hn:l.length≤32768)(hf1:1≤f)(hk:k0+ovN l.length m≤N)(hin:∀ W,Below B w W→Ze [153,5,26] w W→Sts Ky W (.slice a l.length c) l)(hBw:B≤w.heap.size) :
 Calls Tryz.prog 61 #[.bool leaf,.slice a l.length c,.pointer (some ⟨b3,0,none⟩),.pointer (some ⟨b4,0,none⟩),.pointer (some ⟨b8,0,none⟩)] w (Zhk B ba b g nn cc pa ca f N k0 bs t leaf m v l b8 w):=by
 refine zin 20 Tryz.func61 ?_
 refine xb 7 0 k3 ?_
 refine xb 0 0 k4 ?_
 refine xc 2 (args:=#[.pointer (some ⟨ba,0,none⟩),.int .i64 t,.bool leaf,.slice a l.length c]) (Zb6 B ba b g nn cc pa ca f N k0 bs t leaf m v a c l _ hC hA ht1 ht2 hm hv E hl hn hf1 hk (fun W h1 h2=>hin W ((Below.refl B _).trans h1) ((Ze.refl _ _).trans (only_a3 h2))) (Nat.le_trans hBw (Below.refl B _).size)) ?_
 rintro _ W1 ⟨p4,c4,rfl,hb1,hO1,hX1,hA,hup⟩
 have hs1:=Nat.le_refl w.heap.size
 have k8'1:=k8.only hO1 (by decide)
 refine xs 10 k8'1 [.nilIface] fun W2 u2 k2=>?_
 have hB:=u2.below hb1 hB8
 have hO:=(show Ze [153,5,26] w _ from(only_a3 hO1)).trans (Ze.of_upd u2 k8'1 (by decide))
 have hX:=(show Fr [ba,g,b8] w _ from(hX1.mono (by simp))).trans (Fr.of_upd u2 (by simp))
 have hA'1:=hA.only (Ze.of_upd (T:=[26]) u2 k8'1 (by decide)) (by decide)
 have hup'1:=u2.own2 (Zf hup hs1) k8'1 (by decide)
 exact xe 9 (.slice p4 (ovN l.length m) c4) ⟨_,_,rfl,hB,hO,hX,k2,hA'1,hup'1⟩
def Zc7(B ba b g nn cc:Nat)(pa:Option Addr)(ca f N k0:Nat)(bs:List UInt8)(t:Int)(l:List Ent)(w:World)(e:Ending)(w':World):Prop :=
 e=.returned (.tuple #[.int .i64 (Yp t l (f+k0) bs).1,.nilIface])∧Below B w w'∧Ze [153,5,26] w w'∧Fr [ba,g] w w'∧Al B ba b g nn cc pa ca f N (k0+Hx t l.length) (Yp t l (f+k0) bs).2 w'
theorem Ze0(B ba b g nn cc:Nat)(pa:Option Addr)(ca f N k0:Nat)(bs:List UInt8)(t:Int)(a:Option Addr)(c:Nat)(l:List Ent)(w:World)(hC:AlC B ba nn cc ca f N)(hA:Al B ba b g nn cc pa ca f N k0 bs w)(ht1:1≤t)(ht2:t≤5)(E:EntsOk (Gv t true) l)(hn:l.length≤32768)(hf1:1≤f)(hkN:k0≤N)(hk:k0+Hx t l.length≤N)(hin:∀ W,Below B w W→Ze [153,5,26] w W→Sts Ky W (.slice a l.length c) l)(hBw:B≤w.heap.size) :
 Calls Tryz.prog 25 #[.pointer (some ⟨ba,0,none⟩),.int .i64 t,.slice a l.length c] w (Zc7 B ba b g nn cc pa ca f N k0 bs t l w):=by
 have hnp:=Zcy t l.length
 have hog:(ovN l.length (Vy t true))≤Hx t l.length:=Je _
 have hov:=Ow l.length (Vy t true) (Yv t true).1
 have hop:=Qd l.length (Vy t true)
 have hcf:=hC.hf
 have hcn:=hC.hn
 refine zin 52 Tryz.func25 ?_
 refine xa 2 [.pointer (some ⟨ba,0,none⟩)] 66 fun b1 W1 n1=>?_
 refine xa 0 [.int .i64 t] 3 fun b2 W2 n2=>?_
 have k1:=n1.blk.below n2.below
 refine xb 8 0 k1 ?_
 have hA'1:=(hA.below n1.below).below n2.below
 refine xr 0 (args:=#[.pointer (some ⟨ba,0,none⟩)]) (Pv ba b _ _ _ hA'1.blkA) fun W3 hb3=>?_
 have k2:=n2.blk.below hb3
 refine xb 7 0 k2 ?_
 have hB:=blB (blB (blB (Below.refl B w) hBw n1.below) hBw n2.below) hBw hb3
 have hO:=((show Ze [153,5,26] w _ from(Ze.of_below n1.below)).trans (Ze.of_below n2.below)).trans (Ze.of_below hb3)
 refine xr 1 (args:=#[.int .i64 t,.slice a l.length c]) (Zb5 t (Gv t true) a c l _ ht1 ht2 rfl E (hin _ hB hO) hn) fun W4 hb4=>?_
 refine xd 6 .z ?_
 have k1'1:=((k1.below hb3).below hb4).below (Zb W4)
 refine xb (.e [] 0) 0 k1'1 ?_
 have k2'1:=(k2.below hb4).below (Zb W4)
 refine xb (.e [] 2) 0 k2'1 ?_
 have hA'2:=((hA'1.below hb3).below hb4).below (Zb W4)
 refine xr (.o [3,4] 1) (args:=#[.pointer (some ⟨ba,0,none⟩)]) (Zeh ba b pa N ca k0 _ hA'2.blkA hkN) fun W5 hb5=>?_
 refine xr (.o [] 5) (args:=#[.int .i64 t,.int .i64 (↑l.length:Int)]) (Sm t l.length _ ht1 ht2 hn) fun W6 hb6=>?_
 refine xk (.r [6,7] 2) (show(decide ((↑(N-k0):Int)<(↑(Hx t l.length):Int)):Bool)=false from decide_eq_false (by omega)) ?_
 refine xa 5 [.nilIface] 26 fun b7 W7 n7=>?_
 have hB'1:=blB (blB (blB (blB hB hBw hb4) hBw (Zb W4)) hBw hb5) hBw hb6
 have g7:=n7.ge0 hB'1
 have k1'2:=((k1'1.below hb5).below hb6).below n7.below
 have k2'2:=((k2'1.below hb5).below hb6).below n7.below
 have hA'3:=((hA'2.below hb5).below hb6).below n7.below
 have hB'2:=blB hB'1 hBw n7.below
 have hO'1:=((((hO.trans (Ze.of_below hb4)).trans (Ze.of_below (Zb W4))).trans (Ze.of_below hb5)).trans (Ze.of_below hb6)).trans (Ze.of_below n7.below)
 refine xc 12 (args:=#[.bool true,.slice a l.length c,.pointer (some ⟨b1,0,none⟩),.pointer (some ⟨b2,0,none⟩),.pointer (some ⟨b7,0,none⟩)]) (Da B ba b g nn cc pa ca f N k0 bs t true (Vy t true) (Gv t true) a c l b1 b2 b7 _ k1'2 k2'2 n7.blk (Blk.tne k1'2 n7.blk (by decide)) (Blk.tne k2'2 n7.blk (by decide)) (Nat.le_trans hBw g7) hC hA'3 ht1 ht2 rfl rfl E (by simp) hn hf1 (by omega) (fun W h1 h2=>hin W (hB'2.trans h1) (hO'1.trans h2)) (Nat.le_trans hBw hB'2.size)) ?_
 rintro _ W8 ⟨p41,c41,rfl,hb8,hO8,hX8,k8n,hA,hup⟩
 have hs8:=(blB hB'1 hBw n7.below).size
 refine xv1 5 10 (show(.slice p41 (ovN l.length (Vy t true)) c41:Value)=.slice p41 ((upE l (Vy t true) (f+k0) (ovN l.length (Vy t true))).length) c41 from by rw[Xr]) ?_
 have hup'1:=Zf hup hs8
 have hB'3:=hB'2.trans hb8
 have hX:=(Fr.trans_new ((((((((show Fr [ba,g] w _ from(Fr.of_below n1.below)).trans (Fr.of_below n2.below)).trans (Fr.of_below hb3)).trans (Fr.of_below hb4)).trans (Fr.of_below (Zb W4))).trans (Fr.of_below hb5)).trans (Fr.of_below hb6)).trans (Fr.of_below n7.below)) hX8 g7)
 have hO'2:=hO'1.trans hO8
 have k1'3:=k1'2.only hO8 (by decide)
 have k2'3:=k2'2.only hO8 (by decide)
 refine zl 0 52 (fun zm zkv V=>∃ (u:List Ent) (K:Nat) (bs2:List UInt8) (p:Option Addr) (c2:Nat),zkv=[(6,.int .i64 0),(7,.nilIface),(8,.pointer (some ⟨b7,0,none⟩)),(9,.func (.func 61) #[] #[.pointer (some ⟨b1,0,none⟩),.pointer (some ⟨b2,0,none⟩),.pointer (some ⟨b7,0,none⟩)]),(10,.slice p u.length c2)]∧zm=u.length∧Below B w V∧Fr [ba,g] w V∧Ze [153,5,26] w V∧Blk V b1 ([.pointer (some ⟨ba,0,none⟩)]) 66∧Blk V b2 ([.int .i64 t]) 3∧Blk V b7 ([.nilIface]) 26∧V.ownsRow w.heap.size 74 3 (.slice p u.length c2) u.length (u.flatMap Ky)∧Al B ba b g nn cc pa ca f N K bs2 V∧K+(Hu u.length).sum=k0+Hx t l.length+u.length∧1≤u.length∧u.length≤32768∧EntsOk 4 u∧Va t u (f+K) bs2=Yp t l (f+k0) bs) ⟨(upE l (Vy t true) (f+k0) (ovN l.length (Vy t true))),(k0+(ovN l.length (Vy t true))),(Wz t true (Vy t true) (Gv t true) l (f+k0) bs (ovN l.length (Vy t true))),p41,c41,rfl,rfl,hB'3,hX,hO'2,k1'3,k2'3,k8n,(by rw[Xr];exact hup'1),hA,(by rw[Xr];unfold Hx Hl;omega),(by rw[Xr];exact hop),(by rw[Xr];omega),Cd E (Yv t true).1,(by rw[←Nat.add_assoc];rfl)⟩ ?_
 rintro _ _ W9 ⟨u,K,bs2,p,c2,rfl,rfl,hB_9,hX_9,hO_9,k9_b1,k9_b2,k9_b7,hup,hA,hK,hu1,hun,hE,htr⟩ J9 hJ9 r9
 have hlm:¬ u.length≤1→(Hu u.length).sum=u.length+(Hu (ovN u.length 18)).sum:=fun h=>by rw[Vg h];rfl
 have hlg:=Je (ovN u.length 18)
 have h18:2≤u.length→ovN u.length 18≤u.length/2:=ov18
 have h18p:=Qd u.length 18
 refine xb 3 0 k9_b7 ?_
 refine xid 8 ((↑u.length:Int)>(1:Int)) (fun hc10=>?_) (fun hc10=>?_)
 ·refine xc 6 (args:=#[.bool false,.slice p u.length c2,.pointer (some ⟨b1,0,none⟩),.pointer (some ⟨b2,0,none⟩),.pointer (some ⟨b7,0,none⟩)]) (Da B ba b g nn cc pa ca f N K bs2 t false 18 4 p c2 u b1 b2 b7 _ k9_b1 k9_b2 k9_b7 (Blk.tne k9_b1 k9_b7 (by decide)) (Blk.tne k9_b2 k9_b7 (by decide)) (Nat.le_trans hBw g7) hC hA ht1 ht2 rfl rfl hE (fun _=>hu1) (by omega) hf1 (by omega) (fun W _ h2=>Zg (Zl hup h2 (by decide))) (Nat.le_trans hBw hB_9.size)) ?_
  rintro _ W11 ⟨p42,c42,rfl,hb11,hO11,hX11,k8n,hA,hup⟩
  refine xv1 3 10 (show(.slice p42 (ovN u.length 18) c42:Value)=.slice p42 ((upE u 18 (f+K) (ovN u.length 18)).length) c42 from by rw[Xr]) ?_
  have hup'2:=Zf hup hB_9.size
  have hB'4:=hB_9.trans hb11
  have hX'1:=(Fr.trans_new hX_9 hX11 g7)
  have hO'3:=hO_9.trans hO11
  have k9_b1'1:=k9_b1.only hO11 (by decide)
  have k9_b2'1:=k9_b2.only hO11 (by decide)
  refine ze 0 (hJ9 _ _ _ ⟨(upE u 18 (f+K) (ovN u.length 18)),(K+ovN u.length 18),_,_,_,rfl,rfl,hB'4,hX'1,hO'3,k9_b1'1,k9_b2'1,k8n,(by rw[Xr];exact hup'2),hA,(by rw[Xr];omega),(by rw[Xr];exact h18p),(by rw[Xr];omega),Cd hE (by decide),(by rw[←htr,←Nat.add_assoc];exact(Qr (by omega)).symm)⟩ ?_)
  show((upE u 18 (f+K) (ovN u.length 18)).length)<u.length
  rw[Xr];omega
 refine xb 8 0 k9_b7 ?_
 refine xx 9 _ u.length 0 3 (Sts.cell (Zg hup) Xm Zi (k:=0) (i:=0) (by omega) rfl).1 ?_
 refine xl 1 ((Sts.cell (Zg hup) Xm Zi (k:=0) (i:=2) (by omega) rfl).2) ?_
 refine xe 5 (.tuple #[.int .i64 ((u.getD 0 Zi).2.2),.nilIface]) ?_
 have h1:u.length≤1:=by omega
 rw[Kg h1] at htr
 rw[Jg h1] at hK
 simp only[List.sum_cons,List.sum_nil] at hK
 obtain rfl:K=k0+Hx t l.length:=by omega
 refine⟨by rw[←htr],hB_9,hO_9,hX_9,by rw[←htr];exact hA⟩
theorem Al.mono{B B' ba b g n c:Nat}{pa:Option Addr}{ca f N k:Nat}{l:List UInt8}{w:World}(h:Al B' ba b g n c pa ca f N k l w)(hB:B≤B'):Al B ba b g n c pa ca f N k l w:=⟨h.blkA,h.blkI,Zf h.data hB,Zf h.nums hB⟩
theorem AlC.mono{B B' ba n c ca f N:Nat}(h:AlC B' ba n c ca f N)(hB:B≤B'):AlC B ba n c ca f N:=⟨h.hn,h.hc,h.hca,h.hf,Nat.le_trans hB h.hB⟩
theorem row_at{w:World}{base g n c size:Nat}{e:TypeId}{xs:List Value}(h:w.ownsRow base e size (.slice (some ⟨g,0,none⟩) n c) n xs):∃ cur,w.heap[g]? = some (.cells cur e (0,0)):=by
 rcases h.2 with ⟨hv,_⟩|⟨g2,cap,cur,hv,_,hh,_⟩
 ·cases hv
 ·simp only[Value.slice.injEq,Option.some.injEq,Addr.mk.injEq] at hv
  obtain⟨⟨rfl,_,_⟩,_⟩:=hv
  exact⟨cur,hh⟩
theorem Al.ne{B ba b g n c:Nat}{pa:Option Addr}{ca f N k:Nat}{l:List UInt8}{B2 ba2 b2 g2 n2 c2:Nat}{pa2:Option Addr}{ca2 f2 N2 k2:Nat}{l2:List UInt8}{w:World}(h:Al B ba b g n c pa ca f N k l w)(h2:Al B2 ba2 b2 g2 n2 c2 pa2 ca2 f2 N2 k2 l2 w):b2≠ba∧b2≠g:=by
 constructor
 ·rintro rfl
  exact absurd (h.blkA.ty h2.blkI) (by decide)
 ·rintro rfl
  obtain⟨cur,hh⟩:=row_at h.data
  have h3:w.heap[b2]? = some (.cells [.slice (some ⟨g2,0,none⟩) n2 c2].toArray 103 (0,0)):=h2.blkI
  rw[hh] at h3
  simp only[Option.some.injEq,Obj.cells.injEq] at h3
  exact absurd h3.2.1 (by decide)
theorem Al.apart{B2 ba2 b2 g2 n2 c2:Nat}{pa2:Option Addr}{ca2 f2 N2 k2:Nat}{l2:List UInt8}{w W:World}{ba g:Nat}(h:Al B2 ba2 b2 g2 n2 c2 pa2 ca2 f2 N2 k2 l2 w)(hC:AlC B2 ba2 n2 c2 ca2 f2 N2)(h1:ba<B2)(h2:g<B2)(hne:b2≠ba∧b2≠g)(hX:Fr [ba,g] w W):Al B2 ba2 b2 g2 n2 c2 pa2 ca2 f2 N2 k2 l2 W:=by
 have hB:=hC.hB
 refine⟨h.blkA.fr hX (by simp;omega),h.blkI.fr hX (by simp;exact hne),Rq h.data hX fun k hk=>?_,Rq h.nums hX fun k hk=>?_⟩
 ·have:=(h.data.lt k hk).1;simp;omega
 ·have:=(h.nums.lt k hk).1;simp;omega
theorem Zay(B ba b g nn cc:Nat)(pa:Option Addr)(ca f N k0:Nat)(bs:List UInt8)(t:Int)(a:Option Addr)(c:Nat)(l:List Ent)(n:Nat)(w:World)(hl:l.length=n)(hC:AlC B ba nn cc ca f N)(hA:Al B ba b g nn cc pa ca f N k0 bs w)(ht1:1≤t)(ht2:t≤5)(E:EntsOk (Gv t true) l)(hn:n≤32768)(hf1:1≤f)(hkN:k0≤N)(hk:k0+Hx t n≤N)(hin:∀ W,Below B w W→Ze [153,5,26] w W→Sts Ky W (.slice a l.length c) l)(hBw:B≤w.heap.size) :
 Calls Tryz.prog 25 #[.pointer (some ⟨ba,0,none⟩),.int .i64 t,.slice a n c] w (Zc7 B ba b g nn cc pa ca f N k0 bs t l w):=by
 subst hl;exact Ze0 B ba b g nn cc pa ca f N k0 bs t a c l w hC hA ht1 ht2 E hn hf1 hkN hk hin hBw
theorem Rl{t:Int}{l:List Ent}{q:Nat}{bs:List UInt8}(hq:1≤q):(Yp t l q bs).1=((q+Hx t l.length-1:Nat):Int):=by
 have hp:=Qd l.length (Vy t true)
 have hg:=Je (ovN l.length (Vy t true))
 unfold Yp
 rw[Zb0 (by rw[Xr];exact hp) (by rw[Xr,Js (by omega)];simp only[upX];congr 1;omega) (by omega),Xr]
 unfold Hx Hl
 congr 1;omega
theorem Lb(ps:List Pb)(N:List Int)(gl gn:Option Addr)(cl cn n:Nat)(w:World)(hps:Gh ps)(hn:n=ps.length)(hNl:N.length=n)(hP:Sts Za0 w (.slice gl ps.length cl) ps)(hN:Sl w (.slice gn n cn) n (N.map (Value.int .i64)))(h:Pc ps N n=true) :
  Calls Tryz.prog 64 #[.slice gl ps.length cl,.slice gn n cn] w (Ret (.string ⟨(Zdc ps N ps.length).toArray⟩) w):=(Dp ps N gl gn cl cn n w hps hn hNl hP hN).mono (by
 rintro e W q
 rcases q with ⟨q,_⟩|⟨_,rfl,hb⟩
 ·rw[h] at q;cases q
 ·exact⟨rfl,hb⟩)
def M24:List UInt8:=Zdc Kj [50331652] 1
def D24:List UInt8:=Zdc Kv [1,5,0,0] 4
def R24:List UInt8:=leB 3 4
def eM:List Ent:=[(7,M24,0)]
def eR:List Ent:=[(2,R24,0)]
def eD:List Ent:=[(2,D24,0)]
def L24:List Nf:=[(1,[]),(3,[]),(2,eM),(1,eR),(3,eD)]
def Z24:List UInt8:=List.replicate 2560 0
theorem Z24_len:Z24.length=2560:=List.length_replicate
def B24 (k:Nat):List UInt8:=Fq (L24.take k) 1 Z24
def d24:Dv:=((2,5,0,0),[(7,3,4)])
theorem Ot:M24.length=8∧Xl Kj M24=0∧Wo M24=3∧Mj M24=4:=by decide
theorem Si:D24.length=24∧Xl Kv D24=0∧Yi D24 0=1∧Yi D24 1=5∧Yi D24 2=0∧Yi D24 3=0:=by decide
theorem Zhj:R24.length=4∧Xw R24=0∧Yz R24=3:=by decide
theorem Zcm(w:Nat):EntsOk w []:=⟨fun i hi=>absurd hi (by simp),fun j hj=>absurd hj (by simp),fun i hi=>absurd hi (by simp)⟩
theorem Ap{w:Nat}{k:Int}{v:List UInt8}(h0:0≤k)(h1:k<281474976710656)(hv:v.length=w):EntsOk w [(k,v,0)]:=by
 refine⟨fun i hi=>?_,fun j hj=>?_,fun i hi=>?_⟩
 ·obtain rfl:i=0:=by simp at hi;omega
  exact⟨h0,by simpa [List.getD] using (by omega:k≤281474976710655)⟩
 ·simp at hj
 ·obtain rfl:i=0:=by simp at hi;omega
  exact hv
theorem Uc{t:Int}{n:Nat}(h:n≤1):Hx t n=1:=by
 have hm:=Yv t true
 have hp:=Qd n (Vy t true)
 have ho:ovN n (Vy t true)=1:=by
  unfold ovN at hp ⊢
  have:n+Vy t true-1<2*Vy t true:=by omega
  have h2:=Nat.div_lt_of_lt_mul (m:=n+Vy t true-1) (n:=Vy t true) (k:=2) (by omega)
  omega
 unfold Hx Hl
 rw[ho,Jg (by decide)];rfl
theorem L24_ok:∀ x∈L24,Fp x∧Jn x=1:=by
 intro x hx
 simp only[L24,List.mem_cons,List.not_mem_nil,or_false] at hx
 have h1:=Ot.1
 have h2:=Si.1
 have h3:=Zhj.1
 rcases hx with rfl|rfl|rfl|rfl|rfl
 ·exact⟨⟨by decide,by decide,Zcm _,by decide⟩,Uc (by decide)⟩
 ·exact⟨⟨by decide,by decide,Zcm _,by decide⟩,Uc (by decide)⟩
 ·exact⟨⟨by decide,by decide,Ap (by decide) (by decide) (by rw[h1];rfl),by decide⟩,Uc (by decide)⟩
 ·exact⟨⟨by decide,by decide,Ap (by decide) (by decide) (by rw[h3];rfl),by decide⟩,Uc (by decide)⟩
 ·exact⟨⟨by decide,by decide,Ap (by decide) (by decide) (by rw[h2];rfl),by decide⟩,Uc (by decide)⟩
theorem Mg:∀ (L:List Nf),(∀ x∈L,Jn x=1)→Pl L=L.length
 | [],_=>rfl
 | x::r,h=>by
  show Jn x+Pl r=_
  rw[h x (by simp),Mg r fun y hy=>h y (by simp[hy])];simp;omega
theorem Zbo(k:Nat):∀ x∈L24.take k,Fp x∧Jn x=1:=fun x hx=>L24_ok x (List.mem_of_mem_take hx)
theorem B24_next{k:Nat}(hk:k<5){x:Nf}(hx:L24[k]? = some x):Yp x.1 x.2 (1+k) (B24 k)=(((1+k:Nat):Int),B24 (k+1)):=by
 have hk':k<L24.length:=hk
 have hn:=L24_ok x (List.mem_of_getElem? hx)
 have hxe:L24[k]=x:=by rw[List.getElem?_eq_getElem hk'] at hx;exact Option.some.inj hx
 have h2:B24 (k+1)=(Yp x.1 x.2 (1+k) (B24 k)).2:=by
  unfold B24
  rw[List.take_succ_eq_append_getElem hk',Di,hxe,Mg _ fun x hx=>(Zbo k x hx).2,List.length_take,Nat.min_eq_left (by omega)]
  rfl
 have h1:=Rl (t:=x.1) (l:=x.2) (q:=1+k) (bs:=B24 k) (by omega)
 rw[show Hx x.1 x.2.length=1 from hn.2] at h1
 rw[h2]
 exact Prod.ext h1 rfl
theorem Az{k i:Nat}{t:Int}{e:List Ent}(r:Int)(hk:k≤5)(hi:i<k)(hx0:L24[i]? = some (t,e))(hr:((1+i:Nat):Int)=r):∃ es:List Ent,es.map kvE=e.map kvE∧(Zd (B24 k) r t 9).es=es∧(Zd (B24 k) r t 9).fs=[]:=by
 subst hr
 obtain⟨x,hxx⟩:∃ x:Nf,x=(t,e):=⟨_,rfl⟩
 have hx:L24[i]? = some x:=by rw[hxx];exact hx0
 have ht:t=x.1:=by rw[hxx]
 have he:e=x.2:=by rw[hxx]
 rw[ht,he]
 clear hxx hx0
 have hi':i<(L24.take k).length:=by rw[List.length_take];exact Nat.lt_min.2 ⟨hi,Nat.lt_of_lt_of_le hi hk⟩
 have hil:i<L24.length:=Nat.lt_of_lt_of_le hi hk
 have hxe:(L24.take k)[i]=x:=by rw[List.getElem_take];rw[List.getElem?_eq_getElem hil] at hx;exact Option.some.inj hx
 have hsp:L24.take k=(L24.take k).take i++x::(L24.take k).drop (i+1):=by rw[←hxe,←List.drop_eq_getElem_cons hi',List.take_append_drop]
 have hall:∀ y∈(L24.take k).take i++x::(L24.take k).drop (i+1),Fp y∧Jn y=1:=by rw[←hsp];exact Zbo k
 have hfn:=Mg _ fun y hy=>(hall y hy).2
 rw[←hsp] at hfn
 have hlen:(L24.take k).length≤5:=by rw[List.length_take];exact Nat.min_le_right _ _
 have hx1:=(hall x (by simp)).2
 have s:=for_scan (q:=1) (bs:=Z24) (fuel:=9) (fun y hy=>(hall y hy).1) (by decide) (by rw[←hsp,hfn,Z24_len];omega) (by rw[←hsp,hfn];omega) (by rw[hx1];decide)
 rw[←hsp] at s
 have hti:(L24.take k).take i=L24.take i:=by rw[List.take_take,Nat.min_eq_left (by omega)]
 have hfi:=Mg (L24.take i) fun y hy=>(Zbo i y hy).2
 rw[hti,hfi,List.length_take,Nat.min_eq_left (Nat.le_of_lt hil),Rl (by omega),show Hx x.1 x.2.length=1 from hx1] at s
 obtain⟨es,bl,h1,_,h3⟩:=s
 refine⟨es,h1,?_⟩
 have h4:Zd (B24 k) ((1+i:Nat):Int) x.1 9=_:=h3
 rw[h4];exact⟨rfl,rfl⟩
theorem one_kv{es:List Ent}{k:Int}{v:List UInt8}{a:Int}(h:es.map kvE=([(k,v,a)]:List Ent).map kvE):∃ a',es=[(k,v,a')]:=by
 match es,h with
 | [],h=>simp at h
 | [(k',v',a')],h =>
  simp only[kvE,List.map_cons,List.map_nil,List.cons.injEq,Prod.mk.injEq,and_true] at h
  obtain⟨rfl,rfl⟩:=h
  exact⟨a',rfl⟩
 | _::_::_,h=>simp at h
theorem load24a:Qv (B24 2) 1 2 5 9=([],0,[]):=by
 obtain⟨e1,h1,h1',h1f⟩:=Az (k:=2) (i:=0) (t:=1) (e:=[]) 1 (by decide) (by decide) rfl rfl
 obtain⟨e2,h2,h2',h2f⟩:=Az (k:=2) (i:=1) (t:=3) (e:=[]) 2 (by decide) (by decide) rfl rfl
 have e1':e1=[]:=by simpa using h1
 have e2':e2=[]:=by simpa using h2
 subst e1' e2'
 rw[Yc h2f h1f (by rw[h2'];decide) (by rw[h2',h1'];rfl),h2']
 exact Mi (fun j hj=>absurd hj (by simp))
theorem load24b:Qv (B24 5) 4 5 5 9=([],0,[d24]):=by
 obtain⟨e1,h1,h1',h1f⟩:=Az (k:=5) (i:=3) (t:=1) (e:=eR) 4 (by decide) (by decide) rfl rfl
 obtain⟨e2,h2,h2',h2f⟩:=Az (k:=5) (i:=4) (t:=3) (e:=eD) 5 (by decide) (by decide) rfl rfl
 obtain⟨e3,h3,h3',h3f⟩:=Az (k:=5) (i:=2) (t:=2) (e:=eM) 3 (by decide) (by decide) rfl rfl
 obtain⟨a1,rfl⟩:=one_kv h1
 obtain⟨a2,rfl⟩:=one_kv h2
 obtain⟨a3,rfl⟩:=one_kv h3
 have hm:Zab (B24 5) 3 5 9=([],0,[(7,3,4)]):=by
  rw[Jz h3f,h3']
  rw[Cw (fun j hj=>by
   obtain rfl:j=0:=by simp at hj;omega
   show Ip 5 M24=0
   exact Dy Ot.2.1 (by rw[Ot.2.2.1];decide))]
  show([],0,[Zdj (7,M24,a3)])=_
  unfold Zdj
  rw[Ot.2.2.1,Ot.2.2.2];rfl
 have ho:Ys (B24 5) (2,R24,a1) 5 9=([],0,[(7,3,4)]):=by
  unfold Ys
  rw[Zhj.2.2];exact hm
 rw[Yc h2f h1f (by rw[h2'];exact(by decide:¬ (4096:Nat)<1)) (by rw[h2',h1'];rfl),h2',h1']
 rw[Mi (fun j hj=>by
  obtain rfl:j=0:=by simp at hj;omega
  show(Cs (B24 5) (2,D24,a2) (2,R24,a1) 5 9 0).2=0
  rw[dev_7 (by exact(by decide:¬ (16777215:Int)<2)) Si.2.1 Zhj.2.1 (by rw[ho]) (by rw[ho,Si.2.2.1];rfl) (by rw[ho];decide)])]
 show([],0,[Zcz (B24 5) (2,D24,a2) (2,R24,a1) 5 9])=_
 unfold Zcz
 rw[ho,Si.2.2.2.1,Si.2.2.2.2.1,Si.2.2.2.2.2];rfl
theorem Dg(B ba b g c:Nat)(pa:Option Addr)(ca k n:Nat)(t:Int)(e:List Ent)(a:Option Addr)(cc:Nat)(r:Int)(w:World)(hk:k<5)(hx:L24[k]? = some (t,e))(hr:((1+k:Nat):Int)=r)(hn:e.length=n)(hC:AlC B ba 2560 c ca 1 9)(hA:Al B ba b g 2560 c pa ca 1 9 k (B24 k) w)
 (hin:∀ W,Below B w W→Ze [153,5,26] w W→Sts Ky W (.slice a e.length cc) e) (hBw:B≤w.heap.size) :
 Calls Tryz.prog 25 #[.pointer (some ⟨ba,0,none⟩),.int .i64 t,.slice a n cc] w (fun e' w'=>e'=.returned (.tuple #[.int .i64 r,.nilIface])∧Below B w w'∧Ze [153,5,26] w w'∧Fr [ba,g] w w'∧Al B ba b g 2560 c pa ca 1 9 (k+1) (B24 (k+1)) w'):=by
 subst hr
 have hok:=L24_ok _ (List.mem_of_getElem? hx)
 have hnn:Hx t e.length=1:=hok.2
 refine(Zay B ba b g 2560 c pa ca 1 9 k (B24 k) t a cc e n w hn hC hA hok.1.1 hok.1.2.1 hok.1.2.2.1 (by rw[←hn];exact hok.1.2.2.2) (by decide) (by omega) (by rw[←hn,hnn];omega) hin hBw).mono ?_
 rintro e' w' ⟨rfl,hb,hO,hX,hA'⟩
 have hnx:=B24_next hk hx
 rw[show(1+k)=1+k from rfl] at hnx
 simp only at hnx
 rw[hnn,hnx] at hA'
 rw[hnx]
 exact⟨rfl,hb,hO,hX,hA'⟩
theorem Me(Bi b:Nat)(pi:Option Addr)(ni ci:Nat)(l:List UInt8)(top details data fuel:Int)(n:Nat)(L:List Dv)(w:World)(hI:ImgR Bi b pi ni ci l w)(hfu:fuel≤1000)(hO:Qv l top details data fuel=([],0,L))(hn:L.length=n) :
 Calls Tryz.prog 8 #[.pointer (some ⟨b,0,none⟩),.int .i64 top,.int .i64 details,.int .i64 data,.int .i64 fuel] w (Vx (fun w' r=>∃ p c Z,r=.tuple #[.slice p n c,.nilIface]∧Z.map Prod.fst=L∧Xs w.heap.size w' Z∧w'.ownsRow w.heap.size 82 5 (.slice p n c) n (Z.flatMap Ll)) w):=by
 subst hn
 refine(Lq Bi b pi ni ci l top details data fuel w hI hfu).mono ?_
 rintro e W q
 rw[hO] at q
 rcases q with ⟨h,_⟩|⟨_,p,c,Z,rfl,hb,hZ,hM,ho⟩
 ·exact absurd rfl h
 ·exact⟨_,rfl,hb,p,c,Z,rfl,hZ,hM,ho⟩
theorem one_dev{Z:List Zv}{d:Dv}(h:Z.map Prod.fst=[d]):∃ p c,Z=[(d,p,c)]:=by
 match Z,h with
 | [],h=>simp at h
 | [(d',p,c)],h =>
  simp only[List.map_cons,List.map_nil,List.cons.injEq,and_true] at h
  subst h
  exact⟨p,c,rfl⟩
 | _::_::_,h=>simp at h
theorem Tq(Bi b:Nat)(pi:Option Addr)(ni ci:Nat)(l:List UInt8)(top details data fuel:Int)(w:World)(hI:ImgR Bi b pi ni ci l w)(hfu:fuel≤1000)(hO:Qv l top details data fuel=([],0,[d24])) :
 Calls Tryz.prog 8 #[.pointer (some ⟨b,0,none⟩),.int .i64 top,.int .i64 details,.int .i64 data,.int .i64 fuel] w (Vx (fun w' r=>∃ p c pm cm,r=.tuple #[.slice p 1 c,.nilIface]∧w'.ownsRow w.heap.size 82 5 (.slice p 1 c) 1 (([(d24,pm,cm)]:List Zv).flatMap Ll)∧w'.ownsRow w.heap.size 84 3 (.slice pm 1 cm) 1 (([(7,3,4)]:List Mp).flatMap Ux)) w):=by
 refine(Me Bi b pi ni ci l top details data fuel 1 [d24] w hI hfu hO rfl).mono ?_
 rintro e W ⟨_,rfl,hb,p,c,Z,rfl,hZ,hM,ho⟩
 obtain⟨pm,cm,rfl⟩:=one_dev hZ
 exact⟨_,rfl,hb,p,c,pm,cm,rfl,ho,hM 0 Nat.one_pos⟩
theorem Zbc(w:World) :
 Calls Tryz.prog 27 #[.int .i64 3,.int .i64 4] w (Ret (.string ⟨M24.toArray⟩) w):=by
 refine zin 26 Tryz.func27 ?_
 refine xc 29 (args:=#[]) (Ph _) ?_
 rintro _ W1 ⟨_,rfl,hb1,gl,rfl,gg,kl⟩
 refine xbs 4 1 [.int .i64 50331652] 3 fun b2 W2 n2=>?_
 have kl'1:=kl.below n2.below
 refine xr 0 (args:=#[.slice (some ⟨gl,0,none⟩) 1 1,.slice (some ⟨b2,0,none⟩) 1 1]) (Lb Kj [50331652] (some ⟨gl,0,none⟩) (some ⟨b2,0,none⟩) 1 1 1 _ mapP_ok rfl rfl (kl'1.sl 1 1 (by decide) (by decide)) (n2.blk.sl 1 1 (by decide) (by decide)) (by decide)) fun W3 hb3=>?_
 have hB:=bln (bln hb1 n2.below) hb3
 exact xe 4 (.string ⟨M24.toArray⟩) ⟨rfl,hB⟩
theorem Fx(w:World) :
 Calls Tryz.prog 29 #[.agg #[.int .i64 1,.int .i64 5,.int .i64 0,.int .i64 0]] w (Ret (.string ⟨D24.toArray⟩) w):=by
 refine zin 14 Tryz.func29 ?_
 refine xa 2 [.int .i64 1,.int .i64 5,.int .i64 0,.int .i64 0] 79 fun b1 W1 n1=>?_
 refine xd 4 .z ?_
 have k1:=n1.blk.below (Zb W1)
 refine xb (.e [1] 2) 0 k1 ?_
 refine xb (.e [3] 4) 1 k1 ?_
 refine xb (.e [5] 6) 2 k1 ?_
 refine xb (.e [7] 8) 3 k1 ?_
 refine xm2 0 0 9 ?_ ?_
 ·refine yc 0 (args:=#[]) .z (Gg _) ?_
  rintro _ W2 ⟨_,rfl,hb2,gl,rfl,gg,kl⟩
  refine⟨hb2,?_⟩
  refine xbs (.o [] 9) 4 [.int .i64 1,.int .i64 5,.int .i64 0,.int .i64 0] 3 fun b3 W3 n3=>?_
  have kl'1:=kl.below n3.below
  refine xr (.o [] 10) (args:=#[.slice (some ⟨gl,0,none⟩) 4 4,.slice (some ⟨b3,0,none⟩) 4 4]) (Lb Kv [1,5,0,0] (some ⟨gl,0,none⟩) (some ⟨b3,0,none⟩) 4 4 4 _ Zbx rfl rfl (kl'1.sl 4 4 (by decide) (by decide)) (n3.blk.sl 4 4 (by decide) (by decide)) (by decide)) fun W4 hb4=>?_
  have hB:=bln (bln (bln (bln n1.below (Zb W1)) hb2) n3.below) hb4
  exact xe (.r [11] 3) (.string ⟨D24.toArray⟩) ⟨rfl,hB⟩
 refine xbs 0 4 [.int .i64 1,.int .i64 5,.int .i64 0,.int .i64 0] 3 fun b5 W5 n5=>?_
 refine yc (.o [] 0) (args:=#[]) .z (Gg _) ?_
 rintro _ W6 ⟨_,rfl,hb6,gl,rfl,gg,kl⟩
 refine⟨hb6,?_⟩
 have k5:=n5.blk.below hb6
 refine xr (.o [] 10) (args:=#[.slice (some ⟨gl,0,none⟩) 4 4,.slice (some ⟨b5,0,none⟩) 4 4]) (Lb Kv [1,5,0,0] (some ⟨gl,0,none⟩) (some ⟨b5,0,none⟩) 4 4 4 _ Zbx rfl rfl (kl.sl 4 4 (by decide) (by decide)) (k5.sl 4 4 (by decide) (by decide)) (by decide)) fun W7 hb7=>?_
 have hB:=bln (bln (bln (bln n1.below (Zb W1)) n5.below) hb6) hb7
 exact xe (.r [11] 3) (.string ⟨D24.toArray⟩) ⟨rfl,hB⟩
theorem Zas(w:World) :
 Calls Tryz.prog 7 #[] w (Ret (.bool true) w):=by
 refine zin 113 Tryz.func7 ?_
 refine xmk 7 fun _ _ _ _ zJ zQ zo zx zy zK=>Uf 2560 (.int .u8 0) 1 1 ((List.replicate 2560 (0:UInt8)).map bv) zo zx zy Tryz.underlying22 (by kernel_rfl) rfl (by omega) (by omega) (zerosB 2560) fun b1 W1 n1=>?_
 refine zK _ _ ?_
 have o1:=Xb (size:=1) (n:=2560) n1.blk (n1.ge (Below.refl w.heap.size _)) (by rw[List.length_map,List.length_replicate]) (by unfold maxLen;omega)
 refine xc 0 (args:=#[.slice (some ⟨b1,0,none⟩) 2560 2560]) (Zg8 (some ⟨b1,0,none⟩) 2560 2560 2560 (List.replicate 2560 (0:UInt8)) _ List.length_replicate (by omega) (Jv (Zg o1) List.length_replicate) (by omega) (Nat.le_refl _)) ?_
 rintro _ W2 ⟨_,rfl,hb2,bi,pi,ci,rfl,gi,ki,hd⟩
 have hd'1:=Zf hd n1.below.size
 rw[List.take_of_length_le (by rw[List.length_replicate];omega)] at hd'1
 obtain⟨g,rfl,hci⟩:=Zgv hd'1 (by omega)
 have hB:=bln n1.below hb2
 have hs9:=hB.size
 refine xc 0 (args:=#[.pointer (some ⟨bi,0,none⟩),.int .i64 1]) (Zf9 bi (some ⟨g,0,none⟩) 2560 ci 1 9 (1:Int) rfl (by omega) _ ki (by omega) (by decide) (by omega)) ?_
 rintro _ W3 ⟨_,rfl,hb3,ba,pa,ca,rfl,ga,ka,ho⟩
 replace ga:=Nat.le_trans hs9 ga
 have ki'1:=ki.below hb3
 have hd'2:=Za hd'1 hb3
 have ho'1:=Zf ho hB.size
 have hA:Al w.heap.size ba bi g 2560 ci pa ca 1 9 0 (B24 0) _:=⟨ka,ki'1,hd'2,ho'1⟩
 have hca:9≤ca:=own_cap ho'1 (by decide)
 have hC:AlC w.heap.size ba 2560 ci ca 1 9:=⟨by omega,hci,hca,by omega,ga⟩
 have hB'1:=bln hB hb3
 refine xc 24 (args:=#[.pointer (some ⟨ba,0,none⟩),.int .i64 1,.slice none 0 0]) (Dg w.heap.size ba bi g _ pa ca 0 0 1 [] none 0 1 _ (by decide) rfl rfl rfl hC hA (fun W _ h2=>.inl ⟨_,_,rfl,rfl,rfl⟩) hB'1.size) ?_
 rintro _ W4 ⟨rfl,hb4,hO4,hX4,hA⟩
 have hB'2:=hB'1.trans hb4
 refine xc 10 (args:=#[.pointer (some ⟨ba,0,none⟩),.int .i64 3,.slice none 0 0]) (Dg w.heap.size ba bi g _ pa ca 1 0 3 [] none 0 2 _ (by decide) rfl rfl rfl hC hA (fun W _ h2=>.inl ⟨_,_,rfl,rfl,rfl⟩) hB'2.size) ?_
 rintro _ W5 ⟨rfl,hb5,hO5,hX5,hA⟩
 refine xr 10 (args:=#[.pointer (some ⟨ba,0,none⟩)]) (Pv ba bi _ _ _ hA.blkA) fun W6 hb6=>?_
 have hA'1:=hA.below hb6
 refine xc 2 (args:=#[.pointer (some ⟨bi,0,none⟩),.int .i64 1,.int .i64 2,.int .i64 5,.int .i64 9]) (Me w.heap.size bi (some ⟨g,0,none⟩) 2560 ci (B24 2) 1 2 5 9 0 [] _ ⟨hA'1.blkI,hA'1.data,by omega⟩ (by decide) load24a rfl) ?_
 rintro _ W7 ⟨_,rfl,hb7,px,cx,Zx,rfl,hZx,_,_⟩
 refine xr 25 (args:=#[.int .i64 3,.int .i64 4]) (Zbc _) fun W8 hb8=>?_
 refine xbs 1 1 [.int .i64 7,.string ⟨M24.toArray⟩,.int .i64 0] 74 fun b9 W9 n9=>?_
 have hB'3:=bln (bln (bln (hB'2.trans hb5) hb6) hb7) hb8
 have g9:=n9.ge hB'3
 have hA'2:=((hA'1.below hb7).below hb8).below n9.below
 have hB'4:=bln hB'3 n9.below
 refine xc 0 (args:=#[.pointer (some ⟨ba,0,none⟩),.int .i64 2,.slice (some ⟨b9,0,none⟩) 1 1]) (Dg w.heap.size ba bi g _ pa ca 2 1 2 eM (some ⟨b9,0,none⟩) 1 3 _ (by decide) rfl rfl rfl hC hA'2 (fun W _ h2=>((n9.blk.only h2 (by decide)).sl 1 1 (by decide) (by decide))) hB'4.size) ?_
 rintro _ W10 ⟨rfl,hb10,hO10,hX10,hA⟩
 refine xr 11 (args:=#[.int .i64 3]) (Rx 3 (by decide) (by decide) _) fun W11 hb11=>?_
 refine xbs 1 1 [.int .i64 2,.string ⟨R24.toArray⟩,.int .i64 0] 74 fun b12 W12 n12=>?_
 have k9'1:=(n9.blk.only hO10 (by decide)).below hb11
 have d12_b9:=n12.ne k9'1
 have hB'5:=bln (hB'4.trans hb10) hb11
 have g12:=n12.ge hB'5
 have hA'3:=(hA.below hb11).below n12.below
 have hB'6:=bln hB'5 n12.below
 refine xc 0 (args:=#[.pointer (some ⟨ba,0,none⟩),.int .i64 1,.slice (some ⟨b12,0,none⟩) 1 1]) (Dg w.heap.size ba bi g _ pa ca 3 1 1 eR (some ⟨b12,0,none⟩) 1 4 _ (by decide) rfl rfl rfl hC hA'3 (fun W _ h2=>((n12.blk.only h2 (by decide)).sl 1 1 (by decide) (by decide))) hB'6.size) ?_
 rintro _ W13 ⟨rfl,hb13,hO13,hX13,hA⟩
 refine xr 10 (args:=#[.agg #[.int .i64 1,.int .i64 5,.int .i64 0,.int .i64 0]]) (Fx _) fun W14 hb14=>?_
 refine xbs 1 1 [.int .i64 2,.string ⟨D24.toArray⟩,.int .i64 0] 74 fun b15 W15 n15=>?_
 have k9'2:=((k9'1.below n12.below).only hO13 (by decide)).below hb14
 have d15_b9:=n15.ne k9'2
 have k12'1:=(n12.blk.only hO13 (by decide)).below hb14
 have d15_b12:=n15.ne k12'1
 have hB'7:=bln (hB'6.trans hb13) hb14
 have g15:=n15.ge hB'7
 have hA'4:=(hA.below hb14).below n15.below
 have hB'8:=bln hB'7 n15.below
 refine xc 0 (args:=#[.pointer (some ⟨ba,0,none⟩),.int .i64 3,.slice (some ⟨b15,0,none⟩) 1 1]) (Dg w.heap.size ba bi g _ pa ca 4 1 3 eD (some ⟨b15,0,none⟩) 1 5 _ (by decide) rfl rfl rfl hC hA'4 (fun W _ h2=>((n15.blk.only h2 (by decide)).sl 1 1 (by decide) (by decide))) hB'8.size) ?_
 rintro _ W16 ⟨rfl,hb16,hO16,hX16,hA⟩
 refine xr 9 (args:=#[.pointer (some ⟨ba,0,none⟩)]) (Pv ba bi _ _ _ hA.blkA) fun W17 hb17=>?_
 have hA'5:=hA.below hb17
 refine xc 2 (args:=#[.pointer (some ⟨bi,0,none⟩),.int .i64 4,.int .i64 5,.int .i64 5,.int .i64 9]) (Tq w.heap.size bi (some ⟨g,0,none⟩) 2560 ci (B24 5) 4 5 5 9 _ ⟨hA'5.blkI,hA'5.data,by omega⟩ (by decide) load24b) ?_
 rintro _ W18 ⟨_,rfl,hb18,pz,cz,pm,cm,rfl,hdv,hmv⟩
 have hs18:=(bln (hB'8.trans hb16) hb17).size
 have hdv'1:=Zf hdv hs18
 refine xx 18 _ 1 0 5 (Sts.cell (f:=Ll) (l:=[(d24,pm,cm)]) (Zg hdv'1) Jw zvD (k:=0) (i:=0) Nat.one_pos rfl).1 ?_
 refine xl 1 ((Sts.cell (f:=Ll) (l:=[(d24,pm,cm)]) (Zg hdv'1) Jw zvD (k:=0) (i:=1) Nat.one_pos rfl).2) ?_
 refine xx 4 _ 1 0 5 (Sts.cell (f:=Ll) (l:=[(d24,pm,cm)]) (Zg hdv'1) Jw zvD (k:=0) (i:=0) Nat.one_pos rfl).1 ?_
 refine xl 1 ((Sts.cell (f:=Ll) (l:=[(d24,pm,cm)]) (Zg hdv'1) Jw zvD (k:=0) (i:=4) Nat.one_pos rfl).2) ?_
 refine xx 5 _ 1 0 5 (Sts.cell (f:=Ll) (l:=[(d24,pm,cm)]) (Zg hdv'1) Jw zvD (k:=0) (i:=0) Nat.one_pos rfl).1 ?_
 refine xl 1 ((Sts.cell (f:=Ll) (l:=[(d24,pm,cm)]) (Zg hdv'1) Jw zvD (k:=0) (i:=4) Nat.one_pos rfl).2) ?_
 have hmv'1:=Zf hmv hs18
 refine xx 0 _ 1 0 3 (Sts.cell (f:=Ux) (l:=[(7,3,4)]) (Zg hmv'1) Wp (0,0,0) (k:=0) (i:=0) (by decide) rfl).1 ?_
 refine xlv 0 (Sts.rp (k:=0) (show Sts Ux _ (.slice pm ([(7,3,4)]:List Mp).length cm) [(7,3,4)] from(Zg hmv'1)) Wp (0,0,0) (by decide) (by decide)) ?_
 have hB'9:=bln (bln (hB'8.trans hb16) hb17) hb18
 exact xe 7 (.bool true) ⟨rfl,hB'9⟩
theorem Zdr(s:List UInt8):Pg Kj s=[Zj s 0 8]:=rfl
theorem Zdf(s:List UInt8):Ub Kj s=decide (Zj s 0 8≤1099511627775):=by
 unfold Ub
 rw[Zdr,show Kj.length=1 from rfl]
 unfold Pc
 rw[show List.range 1=[0] from rfl]
 simp[inP,Kj]
 omega
theorem map_e7{s:List UInt8}(h:s.length≠8):Xl Kj s=7∧Wo s=0∧Mj s=0:=by
 have he:Xl Kj s=7:=if_neg h
 have hn:Zbq s=0:=by unfold Zbq Qb;rw[he];rfl
 unfold Wo Mj
 rw[hn];exact⟨he,rfl,rfl⟩
theorem map_e2{s:List UInt8}(h8:s.length=8)(h:¬ Zj s 0 8≤1099511627775):Xl Kj s=2∧Wo s=0∧Mj s=0:=by
 have he:Xl Kj s=2:=by unfold Xl;rw[show(Gj Kj Kj.length).sum=8 from rfl,if_pos h8,Zdf,decide_eq_false h];rfl
 have hn:Zbq s=0:=by unfold Zbq Qb;rw[he];rfl
 unfold Wo Mj
 rw[hn];exact⟨he,rfl,rfl⟩
theorem map_e0{s:List UInt8}(h8:s.length=8)(h:Zj s 0 8≤1099511627775):Xl Kj s=0∧Wo s=Zj s 0 8/16777216∧Mj s=Zj s 0 8%16777216:=by
 have he:Xl Kj s=0:=by unfold Xl;rw[show(Gj Kj Kj.length).sum=8 from rfl,if_pos h8,Zdf,decide_eq_true h];rfl
 have hn:Zbq s=Zj s 0 8:=by unfold Zbq Qb;rw[if_pos he,Zdr];rfl
 unfold Wo Mj
 rw[hn];exact⟨he,rfl,rfl⟩
def GetP8(s:List UInt8)(w:World)(e:Ending)(w':World):Prop :=
 (¬ Zj s 0 8<9223372036854775808∧e=.returned (.tuple #[.int .i64 0,.int .i64 2])∧Below w.heap.size w w')∨(Zj s 0 8<9223372036854775808∧e=.returned (.tuple #[.int .i64 (Zj s 0 8:Int),.int .i64 0])∧Below w.heap.size w w')
theorem ref_Get8(a:Option Addr)(n c:Nat)(s:List UInt8)(w:World)(hn:s.length=n)(h8:n=8)(h:Bys w (.slice a n c) s):Calls Tryz.prog 118 #[.slice a n c,.int .i64 0,.int .i64 8] w (GetP8 s w):=by
 subst hn
 by_cases hq:Zj s 0 8<9223372036854775808
 ·refine(Wx a c 0 8 s w (by decide) (by omega) (by omega) h hq).mono ?_
  rintro e W ⟨rfl,hb⟩
  exact .inr ⟨hq,rfl,hb⟩
 ·refine(Px a c 0 8 s w (by decide) (by omega) (by omega) h hq).mono ?_
  rintro e W ⟨rfl,hb⟩
  exact .inl ⟨hq,rfl,hb⟩
theorem rem_m(n:Nat):Int.tmod (n:Int) 16777216=((n%16777216:Nat):Int):=by
 rw[show(16777216:Int)=((16777216:Nat):Int) from rfl];exact(Int.ofNat_tmod _ _).symm
theorem Ak(s:List UInt8)(w:World)(hs:s.length≤1000) :
 Calls Tryz.prog 80 #[.string ⟨s.toArray⟩] w (Ret (.tuple #[.int .i64 (↑(Wo s):Int),.int .i64 (↑(Mj s):Int),.int .i64 (Xl Kj s)]) w):=by
 refine zin 27 Tryz.func80 ?_
 refine xin 15 (↑s.length:Int) (8:Int) (fun hc1=>?_) (fun hc1=>?_)
 ·refine xe 9 (.tuple #[.int .i64 0,.int .i64 0,.int .i64 7]) ?_
  obtain⟨e1,e2,e3⟩:=map_e7 (s:=s) (by omega)
  rw[e1,e2,e3];exact⟨rfl,(Below.refl w.heap.size _)⟩
 refine xcf 5 fun _ _ _ zJ zQ zo zx zK=>Kc s zo zx Tryz.underlying9 Tryz.underlying22 Tryz.underlying5 (by omega) ?_
 intro bz cz W2 hb2 hbz
 refine zK _ _ ?_
 refine xc 0 (args:=#[.slice (some ⟨bz,0,none⟩) s.length cz,.int .i64 0,.int .i64 8]) (ref_Get8 (some ⟨bz,0,none⟩) s.length cz s _ rfl (by omega) hbz) ?_
 rintro e W3 hq3
 rcases hq3 with ⟨hq,rfl,hb3⟩|⟨hq,rfl,hb3⟩
 ·have hB:=bln hb2 hb3
  refine xe 29 (.tuple #[.int .i64 0,.int .i64 0,.int .i64 2]) ?_
  obtain⟨e1,e2,e3⟩:=map_e2 (s:=s) (by omega) (by omega)
  rw[e1,e2,e3];exact⟨rfl,hB⟩
 refine xq 14 (congrArg (Value.int .i64) (show(IntKind.i64.wrap (Int.tdiv (↑(Zj s 0 8):Int) 16777216):Int)=(↑((Zj s 0 8)/16777216):Int) from Cm (Zj s 0 8) 16777216 (by omega) (by decide))) ?_
 refine xid 4 ((↑((Zj s 0 8)/16777216):Int)≥(65536:Int)) (fun hc4=>?_) (fun hc4=>?_)
 ·have hB:=bln hb2 hb3
  refine xe 9 (.tuple #[.int .i64 0,.int .i64 0,.int .i64 2]) ?_
  obtain⟨e1,e2,e3⟩:=map_e2 (s:=s) (by omega) (by omega)
  rw[e1,e2,e3];exact⟨rfl,hB⟩
 refine xq 5 (congrArg (Value.int .i64) (show(IntKind.i64.wrap (Int.tdiv (↑(Zj s 0 8):Int) 16777216):Int)=(↑((Zj s 0 8)/16777216):Int) from Cm (Zj s 0 8) 16777216 (by omega) (by decide))) ?_
 refine xq 1 (congrArg (Value.int .i64) (show(Int.tmod (↑(Zj s 0 8):Int) 16777216:Int)=(↑((Zj s 0 8)%16777216):Int) from rem_m (Zj s 0 8))) ?_
 have hB:=bln hb2 hb3
 refine xe 6 (.tuple #[.int .i64 (↑((Zj s 0 8)/16777216):Int),.int .i64 (↑((Zj s 0 8)%16777216):Int),.int .i64 0]) ?_
 obtain⟨e1,e2,e3⟩:=map_e0 (s:=s) (by omega) (by omega)
 rw[e1,e2,e3];exact⟨rfl,hB⟩
theorem Uu(B bm:Nat)(p:Option Addr)(k c:Nat)(l:List UInt8)(root tree fuel:Int)(w:World)(hfu:fuel≤1000)(hI:RefI B bm p k c l w) :
 Calls Tryz.prog 35 #[.pointer (some ⟨bm,0,none⟩),.int .i64 root,.int .i64 tree,.int .i64 fuel] w (fun e w' =>
 ((Zd l root tree fuel).fs≠[]∧∃ pe ce pb cb pf nf cf a c2,e=.returned (.tuple #[.agg #[.slice pe 0 ce,.slice pb 0 cb,.int .i64 0,.int .i64 0,.slice pf nf cf],.agg #[.slice a (Xo (Zd l root tree fuel)).1.length c2,.int .i64 (Xo (Zd l root tree fuel)).2]])∧Below w.heap.size w w'∧w'.ownsRow w.heap.size 3 1 (.slice a (Xo (Zd l root tree fuel)).1.length c2) (Xo (Zd l root tree fuel)).1.length ((Xo (Zd l root tree fuel)).1.map (Value.int .i64))) ∨
 ((Zd l root tree fuel).fs=[]∧∃ pe ce pb nb cb dp lk pf nf cf a c2,e=.returned (.tuple #[.agg #[.slice pe (Zd l root tree fuel).es.length ce,.slice pb nb cb,.int .i64 dp,.int .i64 lk,.slice pf nf cf],.agg #[.slice a 0 c2,.int .i64 0]])∧Below w.heap.size w w'∧w'.ownsRow w.heap.size 74 3 (.slice pe (Zd l root tree fuel).es.length ce) (Zd l root tree fuel).es.length ((Zd l root tree fuel).es.flatMap Ky))):=by
 refine(Oj B bm p k c l root tree fuel w hfu hI).mono ?_
 rintro e W ⟨t,pe,pb,pf,ce,cb,cf,fv,a,c2,ht,rfl,hb,hW,hv⟩
 by_cases h:(Zd l root tree fuel).fs=[]
 ·obtain⟨h1,h2,_,_⟩:=Hy h
  rw[h1] at ht
  subst ht
  refine .inr ⟨h,pe,ce,pb,(Zd l root tree fuel).bs.length,cb,(Zd l root tree fuel).deep,((Zd l root tree fuel).looked:Int),pf,fv.length,cf,a,c2,?_,hb,hW.ents⟩
  rw[h2];rfl
 ·obtain⟨h1,h2,h3,h4⟩:=Qe h
  rw[h1] at ht
  subst ht
  exact .inl ⟨h,pe,ce,pb,cb,pf,fv.length,cf,a,c2,rfl,hb,hv⟩
def Zda(O:List Int×Int×List Mp)(w:World)(e:Ending)(w':World):Prop :=
 (O.2.1≠0∧∃ a c,e=.returned (.tuple #[.slice none 0 0,.agg #[.slice a O.1.length c,.int .i64 O.2.1]])∧Below w.heap.size w w'∧w'.ownsRow w.heap.size 3 1 (.slice a O.1.length c) O.1.length (O.1.map (Value.int .i64))) ∨
 (O.2.1=0∧∃ p c,e=.returned (.tuple #[.slice p O.2.2.length c,.agg #[.slice none 0 0,.int .i64 0]])∧Below w.heap.size w w'∧w'.ownsRow w.heap.size 84 3 (.slice p O.2.2.length c) O.2.2.length (O.2.2.flatMap Ux))
theorem Ni{O:List Int×Int×List Mp}{bl:List Int}{er:Int}{m c:Nat}{w W:World}{a:Option Addr}(h:O=(bl,er,[]))(her:er≠0)(hm:bl.length=m)(hb:Below w.heap.size w W)(ho:W.ownsRow w.heap.size 3 1 (.slice a m c) m (bl.map (Value.int .i64))):Zda O w (.returned (.tuple #[.slice none 0 0,.agg #[.slice a m c,.int .i64 er]])) W:=by
 subst h hm;exact .inl ⟨her,a,c,rfl,hb,ho⟩
theorem rtell_ok{O:List Int×Int×List Mp}{L:List Mp}{n c:Nat}{w W:World}{p:Option Addr}(h:O=([],0,L))(hn:L.length=n)(hb:Below w.heap.size w W)(ho:W.ownsRow w.heap.size 84 3 (.slice p n c) n (L.flatMap Ux)):Zda O w (.returned (.tuple #[.slice p n c,.agg #[.slice none 0 0,.int .i64 0]])) W:=by
 subst h hn;exact .inr ⟨rfl,p,c,rfl,hb,ho⟩
theorem Zd5(B bm:Nat)(p:Option Addr)(k c:Nat)(l:List UInt8)(root data fuel:Int)(w:World)(hI:RefI B bm p k c l w)(hfu:fuel≤1000) :
 Calls Tryz.prog 40 #[.pointer (some ⟨bm,0,none⟩),.int .i64 root,.int .i64 data,.int .i64 fuel] w (Zda (Zab l root data fuel) w):=by
 have hfew:=(Ko l root 2 fuel hfu).1
 refine zin 71 Tryz.func40 ?_
 refine xa 3 [.slice none 0 0,.int .i64 0] 33 fun b1 W1 n1=>?_
 refine xc 7 (args:=#[.pointer (some ⟨bm,0,none⟩),.int .i64 root,.int .i64 2,.int .i64 fuel]) (Uu B bm p k c l root 2 fuel _ hfu (hI.below n1.below)) ?_
 rintro e W2 hq2
 rcases hq2 with ⟨hfs,pe,ce,pb,cb,pf,nf,cf,a9,d9,rfl,hb2,hf9⟩|⟨hfs,pe,ce,pb,nb,cb,dp,lk,pf,nf,cf,a9,d9,rfl,hb2,hen⟩
 ·have hwn:=Vq hfs
  refine xa 3 [.slice none 0 0,.slice none 0 0,.int .i64 0,.int .i64 0,.slice none 0 0] 106 fun b3 W3 n3=>?_
  have hB'1:=bln n1.below hb2
  have g3:=n3.ge hB'1
  refine xa 0 [.slice none 0 0,.int .i64 0] 33 fun b4 W4 n4=>?_
  have k1:=(n1.blk.below hb2).below n3.below
  have d4_b1:=n4.ne k1
  have hB'2:=bln hB'1 n3.below
  have g4:=n4.ge hB'2
  have k3:=n3.blk.below n4.below
  refine xsv 0 k3 [.slice pe 0 ce,.slice pb 0 cb,.int .i64 0,.int .i64 0,.slice pf nf cf] fun W5 u5 k5=>?_
  have k4:=u5.blkT n4.blk k3 (by decide)
  refine xsv 0 k4 [.slice a9 ((Xo (Zd l root 2 fuel)).1.length) d9,.int .i64 ((Xo (Zd l root 2 fuel)).2)] fun W6 u6 k6=>?_
  refine xb 6 1 k6 ?_
  refine xk 3 (show(((Xo (Zd l root 2 fuel)).2 != (0:Int)):Bool)=true from bne_iff_ne.2 hwn) ?_
  refine xd 1 (.t w.heap.size [33]) ?_
  have k6'1:=k6.below (Zb W6)
  refine xlv (.o [1] 0) k6'1.rp ?_
  have k1'1:=(u6.blk (u5.blkT (k1.below n4.below) k3 (by decide)) (Ne.symm (Ne.symm d4_b1))).below (Zb W6)
  have g1:=n1.ge (Below.refl w.heap.size _)
  refine ysv (.o [] 2) k1'1 [.slice a9 ((Xo (Zd l root 2 fuel)).1.length) d9,.int .i64 ((Xo (Zd l root 2 fuel)).2)] (.t w.heap.size [33]) fun W7 u7 k7=>⟨(Zm u7 k1'1 g1 (by decide)),?_⟩
  have hf9'1:=u7.own2 (Za (u6.own2 (u5.own2 (Za (Za (Zf hf9 n1.below.size) n3.below) n4.below) k3 (by decide)) k4 (by decide)) (Zb W6)) k1'1 (by decide)
  have hB'3:=u7.below (bln (u6.below (u5.below (bln hB'2 n4.below) g3) g4) (Zb W6)) g1
  exact xec 4 k7 (.tuple #[.slice none 0 0,.agg #[.slice a9 ((Xo (Zd l root 2 fuel)).1.length) d9,.int .i64 ((Xo (Zd l root 2 fuel)).2)]]) (Ni (Fd hfs) (Vq hfs) rfl hB'3 hf9'1)
 refine xa 3 [.slice none 0 0,.slice none 0 0,.int .i64 0,.int .i64 0,.slice none 0 0] 106 fun b8 W8 n8=>?_
 have hB'4:=bln n1.below hb2
 have g8:=n8.ge hB'4
 refine xa 0 [.slice none 0 0,.int .i64 0] 33 fun b9 W9 n9=>?_
 have k1:=(n1.blk.below hb2).below n8.below
 have d9_b1:=n9.ne k1
 have hB'5:=bln hB'4 n8.below
 have g9:=n9.ge hB'5
 have k8:=n8.blk.below n9.below
 refine xsv 0 k8 [.slice pe ((Zd l root 2 fuel).es.length) ce,.slice pb nb cb,.int .i64 dp,.int .i64 lk,.slice pf nf cf] fun W10 u10 k10=>?_
 have k9:=u10.blkT n9.blk k8 (by decide)
 refine xsv 0 k9 [.slice a9 0 d9,.int .i64 0] fun W11 u11 k11=>?_
 refine xb 6 1 k11 ?_
 have hen'1:=u11.own2 (u10.own2 (Za (Za (Zf hen n1.below.size) n8.below) n9.below) k8 (by decide)) k9 (by decide)
 have hB'6:=u11.below (u10.below (bln hB'5 n9.below) g8) g9
 have k1'2:=u11.blk (u10.blkT (k1.below n9.below) k8 (by decide)) (Ne.symm (Ne.symm d9_b1))
 have k10'1:=u11.blkT k10 k9 (by decide)
 refine zl 18 71 (fun zm zkv V=>∃ (i:Nat) (pm:Option Addr) (cm:Nat),zkv=[(2,.int .i64 data),(9,.pointer (some ⟨b1,0,none⟩)),(10,.pointer (some ⟨b8,0,none⟩)),(12,.slice pm i cm),(13,.int .i64 (↑i:Int))]∧zm=(Zd l root 2 fuel).es.length-((↑i:Int)).toNat∧Below w.heap.size w V∧Blk V b1 ([.slice none 0 0,.int .i64 0]) 33∧Blk V b8 ([.slice pe ((Zd l root 2 fuel).es.length) ce,.slice pb nb cb,.int .i64 dp,.int .i64 lk,.slice pf nf cf]) 106∧Blk V b9 ([.slice a9 0 d9,.int .i64 0]) 33∧V.ownsRow w.heap.size 74 3 (.slice pe (Zd l root 2 fuel).es.length ce) (Zd l root 2 fuel).es.length ((Zd l root 2 fuel).es.flatMap Ky)∧V.ownsRow w.heap.size 84 3 (.slice pm i cm) i ((((Zd l root 2 fuel).es.take i).map Zdj).flatMap Ux)∧i≤(Zd l root 2 fuel).es.length∧Zbr data (Zd l root 2 fuel).es i) ⟨0,none,0,rfl,rfl,hB'6,k1'2,k10'1,k11,hen'1,World.ownsRow_nil _ _ _ _,Nat.zero_le _,fun j hj=>absurd hj (by omega)⟩ ?_
 rintro _ _ W12 ⟨i,pm,cm,rfl,rfl,hB_12,k12_b1,k12_b8,k12_b9,hen,ho,hi,hmk⟩ J12 hJ12 r12
 refine xb 5 0 k12_b8 ?_
 refine xid 4 ((↑i:Int)<(↑((Zd l root 2 fuel).es.length):Int)) (fun hc13=>?_) (fun hc13=>?_)
 ·refine xb 7 0 k12_b8 ?_
  refine xx 1 _ ((Zd l root 2 fuel).es.length) i 3 (Sts.cell (f:=Ky) (Zg hen) Xm Zi (k:=i) (i:=0) (by omega) rfl).1 ?_
  refine xlv 0 (Sts.rp (k:=i) (Zg hen) Xm Zi (by omega) (by decide)) ?_
  refine xa 0 [.int .i64 0,.string ⟨#[]⟩,.int .i64 0] 74 fun b14 W14 n14=>?_
  have g14:=n14.ge hB_12
  have r14_hen:=Zp hen n14
  refine xsv 0 n14.blk [.int .i64 (((Zd l root 2 fuel).es.getD i Zi).1),.string ⟨(((Zd l root 2 fuel).es.getD i Zi).2.1).toArray⟩,.int .i64 (((Zd l root 2 fuel).es.getD i Zi).2.2)] fun W15 u15 k15=>?_
  refine xb 5 1 k15 ?_
  refine xr 0 (args:=#[.string ⟨(((Zd l root 2 fuel).es.getD i Zi).2.1).toArray⟩]) (Ak ((Zd l root 2 fuel).es.getD i Zi).2.1 _ (Qc _ _ _ _ i (by omega))) fun W16 hb16=>?_
  refine xg 15 [49,50] ((Xl Kj ((Zd l root 2 fuel).es.getD i Zi).2.1)==(0:Int)) (fun hc17=>?_) (fun hc17=>?_)
  ·have hc17:=eq_of_beq hc17
   refine xid 6 ((↑(Wo ((Zd l root 2 fuel).es.getD i Zi).2.1):Int)≥data) (fun hc18=>?_) (fun hc18=>?_)
   ·have k15'1:=k15.below hb16
    refine xb 15 2 k15'1 ?_
    refine xc 1 (args:=#[.int .i64 (((Zd l root 2 fuel).es.getD i Zi).2.2),.int .i64 2]) (Xv ((Zd l root 2 fuel).es.getD i Zi).2.2 2 _ (by omega)) ?_
    rintro _ W19 ⟨pa,ca,rfl,hb19,hva⟩
    have hs19:=(bln (u15.below (bln hB_12 n14.below) g14) hb16).size
    have k12_b1'1:=((u15.blkT (k12_b1.below n14.below) n14.blk (by decide)).below hb16).below hb19
    refine xsv 1 k12_b1'1 [.slice pa 1 ca,.int .i64 2] fun W20 u20 k20=>?_
    have g1:=n1.ge (Below.refl w.heap.size _)
    have hva'1:=u20.own2 (Zf hva hs19) k12_b1'1 (by decide)
    have hB'7:=u20.below (bln (bln (u15.below (bln hB_12 n14.below) g14) hb16) hb19) g1
    exact xec 9 k20 (.tuple #[.slice none 0 0,.agg #[.slice pa 1 ca,.int .i64 2]]) (Ni ((Jz hfs).trans ((Up (i:=i) (by omega) hmk (by rw[Nw (by omega) (by omega)];decide)).trans (by rw[Nw (by omega) (by omega)]))) (by decide) rfl hB'7 hva'1)
   refine xin 9 (Xl Kj ((Zd l root 2 fuel).es.getD i Zi).2.1) (0:Int) (fun hc21=>?_) (fun hc21=>?_)
   ·have k15'2:=k15.below hb16
    refine xb 3 2 k15'2 ?_
    refine xc 1 (args:=#[.int .i64 (((Zd l root 2 fuel).es.getD i Zi).2.2),.int .i64 (Xl Kj ((Zd l root 2 fuel).es.getD i Zi).2.1)]) (Xv ((Zd l root 2 fuel).es.getD i Zi).2.2 (Xl Kj ((Zd l root 2 fuel).es.getD i Zi).2.1) _ (by omega)) ?_
    rintro _ W22 ⟨pa,ca,rfl,hb22,hva⟩
    have hs22:=(bln (u15.below (bln hB_12 n14.below) g14) hb16).size
    have k12_b1'2:=((u15.blkT (k12_b1.below n14.below) n14.blk (by decide)).below hb16).below hb22
    refine xsv 1 k12_b1'2 [.slice pa 1 ca,.int .i64 (Xl Kj ((Zd l root 2 fuel).es.getD i Zi).2.1)] fun W23 u23 k23=>?_
    have g1:=n1.ge (Below.refl w.heap.size _)
    have hva'2:=u23.own2 (Zf hva hs22) k12_b1'2 (by decide)
    have hB'8:=u23.below (bln (bln (u15.below (bln hB_12 n14.below) g14) hb16) hb22) g1
    exact xec 9 k23 (.tuple #[.slice none 0 0,.agg #[.slice pa 1 ca,.int .i64 (Xl Kj ((Zd l root 2 fuel).es.getD i Zi).2.1)]]) (Ni ((Jz hfs).trans ((Up (i:=i) (by omega) hmk (by rw[Hp (by omega)];omega)).trans (by rw[Hp (by omega)]))) (by omega) rfl hB'8 hva'2)
   have k15'3:=k15.below hb16
   refine xb 5 0 k15'3 ?_
   refine xbs 3 1 [.int .i64 (((Zd l root 2 fuel).es.getD i Zi).1),.int .i64 (↑(Wo ((Zd l root 2 fuel).es.getD i Zi).2.1):Int),.int .i64 (↑(Mj ((Zd l root 2 fuel).es.getD i Zi).2.1):Int)] 84 fun b24 W24 n24=>?_
   have hB'9:=bln (u15.below (bln hB_12 n14.below) g14) hb16
   have g24:=n24.ge hB'9
   have ho'1:=Za (u15.own2 (Za ho n14.below) n14.blk (by decide)) hb16
   have r24_ho:=Zp ho'1 n24
   have ho'2:=Za ho'1 n24.below
   have hB'10:=bln hB'9 n24.below
   refine xbi 0 fun _ _ _ _ zJ zQ zo zx zy zK=>Zt (m:=1) (news:=[.int .i64 (((Zd l root 2 fuel).es.getD i Zi).1),.int .i64 (↑(Wo ((Zd l root 2 fuel).es.getD i Zi).2.1):Int),.int .i64 (↑(Mj ((Zd l root 2 fuel).es.getD i Zi).2.1):Int)]) (.agg #[.int .i64 0,.int .i64 0,.int .i64 0]) 3 24 (i+1) (((((Zd l root 2 fuel).es.take (i+1)).map Zdj).flatMap Ux)) zo Tryz.underlying80 (by kernel_rfl) rfl (by decide) zx ho'2 zy (n24.blk.sl 1 1 (by decide) (by decide)) rfl (by simp[Value.oneCell']) (by unfold maxLen;omega) (by omega) hB'10.size (rfl) (by rw[Nv (by omega)];rfl) fun px25 cx25 W25 o25 hg25 hb25=>?_
   refine zK _ _ ?_
   refine xwm 6 ((↑i:Int)+1) (↑(i+1):Int) ?_
   have hB'11:=hB'10.trans hb25
   have k12_b1'3:=(((u15.blkT (k12_b1.below n14.below) n14.blk (by decide)).below hb16).below n24.below).grown hg25 ho'2 (by decide)
   have k12_b8'1:=(((u15.blkT (k12_b8.below n14.below) n14.blk (by decide)).below hb16).below n24.below).grown hg25 ho'2 (by decide)
   have k12_b9'1:=(((u15.blkT (k12_b9.below n14.below) n14.blk (by decide)).below hb16).below n24.below).grown hg25 ho'2 (by decide)
   have hen'2:=Zh (Za (Za (u15.own3 (Za hen n14.below) r14_hen) hb16) n24.below) hg25 ho'2 (by decide)
   exact ze 2 (hJ12 _ _ _ ⟨i+1,_,_,rfl,rfl,hB'11,k12_b1'3,k12_b8'1,k12_b9'1,hen'2,o25,by omega,Wr hmk (Dy (by omega) (by omega))⟩ (by omega))
  have hc17:=Xz hc17
  refine xin 16 (Xl Kj ((Zd l root 2 fuel).es.getD i Zi).2.1) (0:Int) (fun hc26=>?_) (fun hc26=>?_)
  ·have k15'4:=k15.below hb16
   refine xb 3 2 k15'4 ?_
   refine xc 1 (args:=#[.int .i64 (((Zd l root 2 fuel).es.getD i Zi).2.2),.int .i64 (Xl Kj ((Zd l root 2 fuel).es.getD i Zi).2.1)]) (Xv ((Zd l root 2 fuel).es.getD i Zi).2.2 (Xl Kj ((Zd l root 2 fuel).es.getD i Zi).2.1) _ (by omega)) ?_
   rintro _ W27 ⟨pa,ca,rfl,hb27,hva⟩
   have hs27:=(bln (u15.below (bln hB_12 n14.below) g14) hb16).size
   have k12_b1'4:=((u15.blkT (k12_b1.below n14.below) n14.blk (by decide)).below hb16).below hb27
   refine xsv 1 k12_b1'4 [.slice pa 1 ca,.int .i64 (Xl Kj ((Zd l root 2 fuel).es.getD i Zi).2.1)] fun W28 u28 k28=>?_
   have g1:=n1.ge (Below.refl w.heap.size _)
   have hva'3:=u28.own2 (Zf hva hs27) k12_b1'4 (by decide)
   have hB'12:=u28.below (bln (bln (u15.below (bln hB_12 n14.below) g14) hb16) hb27) g1
   exact xec 9 k28 (.tuple #[.slice none 0 0,.agg #[.slice pa 1 ca,.int .i64 (Xl Kj ((Zd l root 2 fuel).es.getD i Zi).2.1)]]) (Ni ((Jz hfs).trans ((Up (i:=i) (by omega) hmk (by rw[Hp (by omega)];omega)).trans (by rw[Hp (by omega)]))) (by omega) rfl hB'12 hva'3)
  have k15'5:=k15.below hb16
  refine xb 5 0 k15'5 ?_
  refine xbs 3 1 [.int .i64 (((Zd l root 2 fuel).es.getD i Zi).1),.int .i64 (↑(Wo ((Zd l root 2 fuel).es.getD i Zi).2.1):Int),.int .i64 (↑(Mj ((Zd l root 2 fuel).es.getD i Zi).2.1):Int)] 84 fun b29 W29 n29=>?_
  have hB'13:=bln (u15.below (bln hB_12 n14.below) g14) hb16
  have g29:=n29.ge hB'13
  have ho'3:=Za (u15.own2 (Za ho n14.below) n14.blk (by decide)) hb16
  have r29_ho:=Zp ho'3 n29
  have ho'4:=Za ho'3 n29.below
  have hB'14:=bln hB'13 n29.below
  refine xbi 0 fun _ _ _ _ zJ zQ zo zx zy zK=>Zt (m:=1) (news:=[.int .i64 (((Zd l root 2 fuel).es.getD i Zi).1),.int .i64 (↑(Wo ((Zd l root 2 fuel).es.getD i Zi).2.1):Int),.int .i64 (↑(Mj ((Zd l root 2 fuel).es.getD i Zi).2.1):Int)]) (.agg #[.int .i64 0,.int .i64 0,.int .i64 0]) 3 24 (i+1) (((((Zd l root 2 fuel).es.take (i+1)).map Zdj).flatMap Ux)) zo Tryz.underlying80 (by kernel_rfl) rfl (by decide) zx ho'4 zy (n29.blk.sl 1 1 (by decide) (by decide)) rfl (by simp[Value.oneCell']) (by unfold maxLen;omega) (by omega) hB'14.size (rfl) (by rw[Nv (by omega)];rfl) fun px30 cx30 W30 o30 hg30 hb30=>?_
  refine zK _ _ ?_
  refine xwm 6 ((↑i:Int)+1) (↑(i+1):Int) ?_
  have hB'15:=hB'14.trans hb30
  have k12_b1'5:=(((u15.blkT (k12_b1.below n14.below) n14.blk (by decide)).below hb16).below n29.below).grown hg30 ho'4 (by decide)
  have k12_b8'2:=(((u15.blkT (k12_b8.below n14.below) n14.blk (by decide)).below hb16).below n29.below).grown hg30 ho'4 (by decide)
  have k12_b9'2:=(((u15.blkT (k12_b9.below n14.below) n14.blk (by decide)).below hb16).below n29.below).grown hg30 ho'4 (by decide)
  have hen'3:=Zh (Za (Za (u15.own3 (Za hen n14.below) r14_hen) hb16) n29.below) hg30 ho'4 (by decide)
  exact ze 2 (hJ12 _ _ _ ⟨i+1,_,_,rfl,rfl,hB'15,k12_b1'5,k12_b8'2,k12_b9'2,hen'3,o30,by omega,Wr hmk (Dy (by omega) (by omega))⟩ (by omega))
 refine xsv 10 k12_b1 [.slice none 0 0,.int .i64 0] fun W31 u31 k31=>?_
 have g1:=n1.ge (Below.refl w.heap.size _)
 have ho'5:=u31.own2 ho k12_b1 (by decide)
 have hB'16:=u31.below hB_12 g1
 refine xec 3 k31 (.tuple #[.slice pm i cm,.agg #[.slice none 0 0,.int .i64 0]]) ?_
 obtain rfl:i=(Zd l root 2 fuel).es.length:=by omega
 rw[List.take_of_length_le (Nat.le_refl _)] at ho'5
 exact rtell_ok ((Jz hfs).trans (Cw hmk)) (List.length_map _) hB'16 ho'5
theorem any_at{l:List Ent}{k:Int}{i:Nat}(hi:i<l.length)(h:(l.getD i Zi).1=k):Sb l k=true:=Wv.2 ⟨l.getD i Zi,by rw[show l.getD i Zi=l[i] from by simp[List.getD,hi]];exact List.getElem_mem hi,h⟩
theorem any_none{l:List Ent}{k:Int}(h:∀ i,i<l.length→(l.getD i Zi).1≠k):Sb l k=false:=by
 rw[Bool.eq_false_iff]
 intro q
 obtain⟨y,hy,e⟩:=Wv.1 q
 obtain⟨i,hi,rfl⟩:=List.getElem_of_mem hy
 exact h i hi (by rw[show l.getD i Zi=l[i] from by simp[List.getD,hi]];exact e)
theorem lone_at{a b:List Ent}{i:Nat}(hi:i<a.length)(hp:∀ j,j<i→Sb b (a.getD j Zi).1=true)(h:Sb b (a.getD i Zi).1=false):Jd a b=some (a.getD i Zi).1:=by
 induction a generalizing i with
 | nil=>exact absurd hi (by simp)
 | cons x a ih =>
  rw[Qy]
  cases i with
  | zero=>rw[if_neg (by simpa [List.getD] using h)];rfl
  | succ i =>
   rw[if_pos (by simpa [List.getD] using hp 0 (by omega))]
   have:=ih (i:=i) (by simpa using hi) (fun j hj=>by simpa [List.getD] using hp (j+1) (by omega)) (by simpa [List.getD] using h)
   rw[this];simp[List.getD]
theorem lone_none{a b:List Ent}(hp:∀ j,j<a.length→Sb b (a.getD j Zi).1=true):Jd a b=none:=by
 induction a with
 | nil=>rfl
 | cons x a ih =>
  rw[Qy,if_pos (by simpa [List.getD] using hp 0 (by simp)),ih fun j hj=>by simpa [List.getD] using hp (j+1) (by simpa using hj)]
def Qp(a b:List Ent):Bool:=(Jd a b).isSome
def Jm(a b:List Ent):Int:=(Jd a b).getD 0
theorem Zhc(a:Option Addr)(c:Nat)(l:List Ent)(k:Int)(w:World)(h:Sts Ky w (.slice a l.length c) l)(hl:l.length≤1000000) :
 Calls Tryz.prog 76 #[.slice a l.length c,.int .i64 k] w (Ret (.bool (Sb l k)) w):=by
 refine zin 19 Tryz.func76 ?_
 have hB:=Below.refl w.heap.size w
 refine zl 12 19 (fun zm zkv V=>∃ (i:Nat),zkv=[(0,.slice a l.length c),(1,.int .i64 k),(5,.int .i64 (↑i:Int))]∧zm=l.length-((↑i:Int)).toNat∧Below w.heap.size w V∧i≤l.length∧((∀ j,j<i→(l.getD j Zi).1≠k))) ⟨0,rfl,rfl,hB,Nat.zero_le _,?_⟩ ?_
 ·exact fun j hj=>absurd hj (by omega)
 rintro _ _ W1 ⟨i,rfl,rfl,hB_1,hi,hz⟩ J1 hJ1 r1
 refine xid 9 ((↑i:Int)<(↑l.length:Int)) (fun hc2=>?_) (fun hc2=>?_)
 ·refine xx 8 _ l.length i 3 (Sts.cell h Xm Zi (k:=i) (i:=0) (by omega) rfl).1 ?_
  refine xl 1 ((Sts.cell (h.below hB_1) Xm Zi (k:=i) (i:=0) (by omega) rfl).2) ?_
  refine xie 4 ((l.getD i Zi).1) k (fun hc3=>?_) (fun hc3=>?_)
  ·exact xe 11 (.bool true) ⟨by rw[any_at (i:=i) (by omega) (by omega)],hB_1⟩
  refine xwm 5 ((↑i:Int)+1) (↑(i+1):Int) ?_
  exact ze 2 (hJ1 _ _ _ ⟨i+1,rfl,rfl,hB_1,by omega,fun j hj=>(Nat.lt_or_ge j i).elim (fun q=>hz j q) (fun q=>by obtain rfl:j=i:=(by omega);first|assumption|omega)⟩ (by omega))
 exact xe 11 (.bool false) ⟨by rw[any_none fun j hj=>hz j (by omega)],hB_1⟩
theorem Rt(a b:Option Addr)(c d:Nat)(la lb:List Ent)(w:World)(ha:Sts Ky w (.slice a la.length c) la)(hb:Sts Ky w (.slice b lb.length d) lb)(hla:la.length≤1000000)(hlb:lb.length≤1000000) :
 Calls Tryz.prog 37 #[.slice a la.length c,.slice b lb.length d] w (Ret (.tuple #[.int .i64 (Jm la lb),.bool (Qp la lb)]) w):=by
 refine zin 26 Tryz.func37 ?_
 have hB:=Below.refl w.heap.size w
 refine zl 13 26 (fun zm zkv V=>∃ (i:Nat),zkv=[(0,.slice a la.length c),(1,.slice b lb.length d),(6,.int .i64 (↑i:Int))]∧zm=la.length-((↑i:Int)).toNat∧Below w.heap.size w V∧i≤la.length∧((∀ j,j<i→Sb lb (la.getD j Zi).1=true))) ⟨0,rfl,rfl,hB,Nat.zero_le _,?_⟩ ?_
 ·exact fun j hj=>absurd hj (by omega)
 rintro _ _ W1 ⟨i,rfl,rfl,hB_1,hi,hz⟩ J1 hJ1 r1
 refine xid 9 ((↑i:Int)<(↑la.length:Int)) (fun hc2=>?_) (fun hc2=>?_)
 ·refine xx 9 _ la.length i 3 (Sts.cell ha Xm Zi (k:=i) (i:=0) (by omega) rfl).1 ?_
  refine xl 1 ((Sts.cell (ha.below hB_1) Xm Zi (k:=i) (i:=0) (by omega) rfl).2) ?_
  refine xr 0 (args:=#[.slice b lb.length d,.int .i64 ((la.getD i Zi).1)]) (Zhc b d lb (la.getD i Zi).1 _ (hb.below hB_1) hlb) fun W3 hb3=>?_
  refine xi 3 (!(Sb lb (la.getD i Zi).1)) (fun hc4=>?_) (fun hc4=>?_)
  ·refine xx 4 _ la.length i 3 (Sts.cell ha Xm Zi (k:=i) (i:=0) (by omega) rfl).1 ?_
   have hB'1:=bln hB_1 hb3
   refine xl 1 ((Sts.cell (ha.below hB'1) Xm Zi (k:=i) (i:=0) (by omega) rfl).2) ?_
   exact xe 10 (.tuple #[.int .i64 ((la.getD i Zi).1),.bool true]) ⟨by unfold Jm Qp;rw[lone_at (i:=i) (by omega) hz (by simpa using (by assumption:(!Sb lb (la.getD i Zi).1)=true))];rfl,hB'1⟩
  refine xwm 5 ((↑i:Int)+1) (↑(i+1):Int) ?_
  have hB'2:=bln hB_1 hb3
  exact ze 2 (hJ1 _ _ _ ⟨i+1,rfl,rfl,hB'2,by omega,fun j hj=>(Nat.lt_or_ge j i).elim (fun q=>hz j q) (fun q=>by obtain rfl:j=i:=(by omega);simpa using (by assumption:(!Sb lb (la.getD j Zi).1)=false))⟩ (by omega))
 exact xe 12 (.tuple #[.int .i64 0,.bool false]) ⟨by unfold Jm Qp;rw[lone_none fun j hj=>hz j (by omega)];rfl,hB_1⟩
end Go.Proofs.YtlmaglneeaecdaaGreatDoor
namespace Go.Proofs.YtlmaglneeaecdaaGreatDoor
set_option maxHeartbeats 8000000
set_option maxRecDepth 100000
open Go.RowKit
set_option linter.unusedVariables false
theorem run_cat{P:Program}{a:Act}{o:Oper}{t t2:TypeId}{x y:Operand}{l m:List UInt8}(ho:o.op=.binOp .add t x y t2)(hx:a.eval x=.string ⟨l.toArray⟩)(hy:a.eval y=.string ⟨m.toArray⟩)(hl:l.length+m.length≤1000000)(w:World):(execOp a.eval o).run P w=.ok (.value (.string ⟨(l++m).toArray⟩)) w:=by
 have e:(⟨l.toArray⟩:ByteArray)++⟨m.toArray⟩=⟨(l++m).toArray⟩:=by
  apply ByteArray.ext
  simp
 have g:binOp .add t (.string ⟨l.toArray⟩) (.string ⟨m.toArray⟩)=pure (.string ((⟨l.toArray⟩:ByteArray)++⟨m.toArray⟩)):=by
  have h:¬ (9223372036854775807:Int)<((⟨l.toArray⟩:ByteArray).size:Int)+((⟨m.toArray⟩:ByteArray).size:Int):=by simp[ByteArray.size];omega
  simp[binOp,Op.stringOp]
  intro q;exact absurd q h
 have q:eqGuard .add t x y (.string ⟨l.toArray⟩:Value) (.string ⟨m.toArray⟩:Value)=pure ():=rfl
 simp only[execOp,ho,hx,hy,g,e,q]
 simp
end Go.Proofs.YtlmaglneeaecdaaGreatDoor
namespace Go.Proofs.YtlmaglneeaecdaaGreatDoor
set_option maxHeartbeats 8000000
set_option maxRecDepth 100000
open Go.RowKit Go.Extern.Stop Go.Stop Go.Extern
set_option linter.unusedVariables false
attribute [local irreducible] wpList wpAnyH Code.wp Oper.wp Go
theorem Mm(n lo hi:Int)(w:World) :
 Calls Tryz.prog 119 #[.int .i64 n,.int .i64 lo,.int .i64 hi] w (Ret (.bool (decide (lo≤n∧n≤hi))) w):=by
 refine zin 15 Tryz.func119 ?_
 refine xg 11 [9,10] (decide (n≥lo)) (fun hc1=>?_) (fun hc1=>?_)
 ·have hc1:=of_decide_eq_true hc1
  exact xe 8 (.bool (decide (n≤hi))) ⟨by rw[show decide (lo≤n∧n≤hi)=decide (n≤hi) from by simp;omega],(Below.refl w.heap.size _)⟩
 have hc1:=of_decide_eq_false hc1
 exact xe 8 (.bool false) ⟨by rw[show decide (lo≤n∧n≤hi)=false from decide_eq_false (by omega)],(Below.refl w.heap.size _)⟩
def Zcw(N:List Int)(ws:List Nat)(k:Nat):List UInt8:=(List.range k).flatMap fun i=>leB (N.getD i 0) (ws.getD i 0)
theorem Fo(N:List Int)(ws:List Nat)(k:Nat):Zcw N ws (k+1)=Zcw N ws k++leB (N.getD k 0) (ws.getD k 0):=by simp[Zcw,List.range_succ]
def TxtOk(N:List Int)(ws:List Nat):Prop:=N.length≤100∧ws.length=N.length∧∀ i,i<N.length→0≤N.getD i 0∧N.getD i 0<9223372036854775808∧ws.getD i 0≤8
theorem Zde{N:List Int}{ws:List Nat}(h:TxtOk N ws):∀ k,k≤N.length→(Zcw N ws k).length≤k*8
 | 0,_=>Nat.zero_le _
 | k+1,hk=>by
  rw[Fo,List.length_append,Zu]
  have:=Zde h k (by omega)
  have:=(h.2.2 k (by omega)).2.2
  omega
theorem Zb4(N:List Int)(ws:List Nat)(gn gw:Option Addr)(cn cw:Nat)(w:World)(hok:TxtOk N ws)(hN:Sl w (.slice gn N.length cn) N.length (N.map (Value.int .i64)))(hW:Sl w (.slice gw N.length cw) N.length (ws.map nv)) :
 Calls Tryz.prog 120 #[.slice gn N.length cn,.slice gw N.length cw] w (Ret (.string ⟨(Zcw N ws N.length).toArray⟩) w):=by
 have hnl:=hok.1
 have hwl:=hok.2.1
 refine zin 26 Tryz.func120 ?_
 have hB:=Below.refl w.heap.size w
 refine zl 17 26 (fun zm zkv V=>∃ (i:Nat),zkv=[(0,.slice gn N.length cn),(1,.slice gw N.length cw),(4,.string ⟨#[]⟩),(5,.string ⟨(Zcw N ws i).toArray⟩),(6,.int .i64 (↑i:Int))]∧zm=N.length-((↑i:Int)).toNat∧Below w.heap.size w V∧i≤N.length) ⟨0,rfl,rfl,hB,Nat.zero_le _⟩ ?_
 rintro _ _ W1 ⟨i,rfl,rfl,hB_1,hi⟩ J1 hJ1 r1
 have htl:=Zde hok i hi
 have hw8:i<N.length→ws.getD i 0≤8:=fun q=>(hok.2.2 i q).2.2
 refine xid 9 ((↑i:Int)<(↑N.length:Int)) (fun hc2=>?_) (fun hc2=>?_)
 ·refine xd 4 .z ?_
  refine xx (.e [0,1,2] 3) _ N.length i 1 (IntsN.elem hN rfl (k:=i) (by omega)).1 ?_
  have hB'1:=bln hB_1 (Zb W1)
  refine xl (.e [] 4) ((IntsN.elem (hN.below hB'1) rfl (k:=i) (by omega)).2) ?_
  refine xx (.e [5,6] 7) _ N.length i 1 (Zo hW hwl (k:=i) (by omega)).1 ?_
  refine xl (.e [] 8) ((Zo (hW.below hB'1) hwl (k:=i) (by omega)).2) ?_
  refine yc (.o [] 9) (args:=#[.int .i64 (N.getD i 0),.int .i64 (↑(ws.getD i 0):Int)]) .z (Sk (N.getD i 0) (ws.getD i 0) (↑(ws.getD i 0):Int) _ (hok.2.2 i (by omega)).1 (hok.2.2 i (by omega)).2.1 rfl (hok.2.2 i (by omega)).2.2) ?_
  rintro _ W3 ⟨_,rfl,hb3,p2,c2,rfl,h2⟩
  refine⟨hb3,?_⟩
  have h2'1:=Zf h2 hB'1.size
  refine xcv (.e [] 10) (fun _ _ _ zo zx V hV=>Jh zo zx (Jv (Zg (Za h2'1 hV)) (Zu _ _)) (Zu _ _) Tryz.underlying22 Tryz.underlying5 Tryz.underlying9) ?_
  refine xbo (.e [] 11) (t:=9) (t2:=9) (fun _ _ _ _ zo zx zy V hV=>run_cat (l:=Zcw N ws i) (m:=leB (N.getD i 0) (ws.getD i 0)) zo zx zy (by rw[Zu];omega) V) ?_
  refine xwm (.r [12] 5) ((↑i:Int)+1) (↑(i+1):Int) ?_
  refine xv1 2 5 (show(.string ⟨(Zcw N ws i++leB (N.getD i 0) (ws.getD i 0)).toArray⟩:Value)=.string ⟨(Zcw N ws (i+1)).toArray⟩ from by rw[Fo]) ?_
  have hB'2:=bln hB'1 hb3
  exact ze 0 (hJ1 _ _ _ ⟨i+1,rfl,rfl,hB'2,by omega⟩ (by omega))
 refine xe 12 (.string ⟨(Zcw N ws i).toArray⟩) ?_
 obtain rfl:i=N.length:=by omega
 exact⟨rfl,hB_1⟩
def Zc1(x y z u:Int):Bool:=decide (0≤x∧x≤16384)&&decide (0≤y∧y≤2147483647)&&decide (0≤z∧z≤16777215)&&decide (0≤u∧u≤16777215)
def DetStrP(x y z u:Int)(w:World)(e:Ending)(w':World):Prop :=
 (Zc1 x y z u=false∧e=.returned (.string ⟨#[]⟩)∧Below w.heap.size w w')∨(Zc1 x y z u=true∧e=.returned (.string ⟨(Zcw [x,y,z,u] [8,8,4,4] 4).toArray⟩)∧Below w.heap.size w w')
theorem detQ_ok{x y z u:Int}(h:Zc1 x y z u=true):TxtOk [x,y,z,u] [8,8,4,4]:=by
 unfold Zc1 at h
 simp only[Bool.and_eq_true,decide_eq_true_iff] at h
 refine⟨show 4≤100 from by decide,rfl,fun i hi=>?_⟩
 have hi':i<4:=hi
 obtain rfl|rfl|rfl|rfl:i=0∨i=1∨i=2∨i=3:=by omega
 all_goals simp[List.getD]
 all_goals omega
theorem txt4_ne(x y z u:Int):((⟨(Zcw [x,y,z,u] [8,8,4,4] 4).toArray⟩:ByteArray).toList==(⟨#[]⟩:ByteArray).toList)=false:=by
 rw[show(⟨#[]⟩:ByteArray)=⟨([]:List UInt8).toArray⟩ from rfl,Tk]
 apply beq_false_of_ne
 intro q
 have h1:=congrArg List.length q
 rw[Fo,List.length_append,Zu,List.length_nil] at h1
 simp at h1
theorem Zc0(s:List UInt8):Pg Kv s=[Zj s 0 8,Zj s 8 8,Zj s 16 4,Zj s 20 4]:=rfl
theorem Lc(s:List UInt8):Ub Kv s=Zc1 (↑(Zj s 0 8):Int) (↑(Zj s 8 8):Int) (↑(Zj s 16 4):Int) (↑(Zj s 20 4):Int):=by
 unfold Ub Pc Zc1
 rw[Zc0]
 simp[Kv,List.range,List.range.loop,inP,List.getD,Yj,Bool.and_assoc]
theorem Tu:(Gj Kv Kv.length).sum=24:=rfl
def UnpRD(s:List UInt8)(w:World)(e:Ending)(w':World):Prop :=
 (¬ (Zj s 0 8<9223372036854775808∧Zj s 8 8<9223372036854775808)∧e=.returned (.tuple #[.slice none 0 0,.int .i64 2])∧Below w.heap.size w w') ∨
 ((Zj s 0 8<9223372036854775808∧Zj s 8 8<9223372036854775808)∧∃ p c,e=.returned (.tuple #[.slice p 4 c,.int .i64 0])∧Below w.heap.size w w'∧w'.ownsRow w.heap.size 3 1 (.slice p 4 c) 4 (([Zj s 0 8,Zj s 8 8,Zj s 16 4,Zj s 20 4]:List Nat).map nv))
theorem Zbe(a:Option Addr)(n c:Nat)(s:List UInt8)(g:Nat)(w:World)(hn:s.length=n)(h24:n=24)(h:Bys w (.slice a n c) s)(kg:Blk w g [.int .i64 8,.int .i64 8,.int .i64 4,.int .i64 4] 3) :
 Calls Tryz.prog 77 #[.slice a n c,.slice (some ⟨g,0,none⟩) 4 4] w (UnpRD s w):=by
 subst hn
 have hk:∀ i,i<([8,8,4,4]:List Nat).length→([8,8,4,4]:List Nat).getD i 0=1∨([8,8,4,4]:List Nat).getD i 0=2∨([8,8,4,4]:List Nat).getD i 0=4∨([8,8,4,4]:List Nat).getD i 0=8:=by decide
 have hws:Sl w (.slice (some ⟨g,0,none⟩) 4 4) 4 (([8,8,4,4]:List Nat).map nv):=kg.sl 4 4 (by decide) (by decide)
 have h1:=Qm s 16 4 (by decide)
 have h2:=Qm s 20 4 (by decide)
 by_cases hq:Zj s 0 8<9223372036854775808∧Zj s 8 8<9223372036854775808
 ·refine(Ml a c s (some ⟨g,0,none⟩) 4 [8,8,4,4] w hk (by rw[h24];decide) (by omega) (by decide) h hws ?_).mono ?_
  ·intro i hi
   have hi':i<4:=hi
   obtain rfl|rfl|rfl|rfl:i=0∨i=1∨i=2∨i=3:=by omega
   ·exact hq.1
   ·exact hq.2
   ·show Zj s 16 4<_;omega
   ·show Zj s 20 4<_;omega
  ·rintro e W ⟨_,rfl,hb,p,c2,rfl,ho⟩
   exact .inr ⟨hq,p,c2,rfl,hb,ho⟩
 ·refine(Fy a c s (some ⟨g,0,none⟩) 4 [8,8,4,4] w hk (by rw[h24];decide) (by omega) (by decide) h hws ?_).mono ?_
  ·intro q;exact hq ⟨q 0 (by decide),q 1 (by decide)⟩
  ·rintro e W ⟨rfl,hb⟩
   exact .inl ⟨hq,rfl,hb⟩
theorem Ie(x y z u:Int)(w:World) :
 Calls Tryz.prog 78 #[.agg #[.int .i64 x,.int .i64 y,.int .i64 z,.int .i64 u]] w (DetStrP x y z u w):=by
 refine zin 36 Tryz.func78 ?_
 refine xa 2 [.int .i64 x,.int .i64 y,.int .i64 z,.int .i64 u] 79 fun b1 W1 n1=>?_
 refine xb 7 0 n1.blk ?_
 refine xr 0 (args:=#[.int .i64 x,.int .i64 0,.int .i64 16384]) (Mm x 0 16384 _) fun W2 hb2=>?_
 refine xg 2 [6,7] (!(decide ((0:Int)≤x∧x≤16384))) (fun hc3=>?_) (fun hc3=>?_)
 ·have hd4:(decide ((0:Int)≤x∧x≤16384))=false:=not_t hc3
  have hB:=bln n1.below hb2
  exact xe 27 (.string ⟨#[]⟩) (.inl ⟨by unfold Zc1;first|(rw[hd4];done)|(rw[hd4];rfl)|(rw[hd4];simp),rfl,hB⟩)
 have hd5:(decide ((0:Int)≤x∧x≤16384))=true:=not_f hc3
 have k1'1:=n1.blk.below hb2
 refine xb 1 1 k1'1 ?_
 refine xr 0 (args:=#[.int .i64 y,.int .i64 0,.int .i64 2147483647]) (Mm y 0 2147483647 _) fun W6 hb6=>?_
 refine xg 3 [11,12,13] (!(decide ((0:Int)≤y∧y≤2147483647))) (fun hc7=>?_) (fun hc7=>?_)
 ·have hd8:(decide ((0:Int)≤y∧y≤2147483647))=false:=not_t hc7
  have hB:=bln (bln n1.below hb2) hb6
  exact xe 21 (.string ⟨#[]⟩) (.inl ⟨by unfold Zc1;first|(rw[hd5,hd8];done)|(rw[hd5,hd8];rfl)|(rw[hd5,hd8];simp),rfl,hB⟩)
 have hd9:(decide ((0:Int)≤y∧y≤2147483647))=true:=not_f hc7
 have k1'2:=k1'1.below hb6
 refine xb 1 2 k1'2 ?_
 refine xr 0 (args:=#[.int .i64 z,.int .i64 0,.int .i64 16777215]) (Mm z 0 16777215 _) fun W10 hb10=>?_
 refine xg 3 [17,18,19] (!(decide ((0:Int)≤z∧z≤16777215))) (fun hc11=>?_) (fun hc11=>?_)
 ·have hd12:(decide ((0:Int)≤z∧z≤16777215))=false:=not_t hc11
  have hB:=bln (bln (bln n1.below hb2) hb6) hb10
  exact xe 15 (.string ⟨#[]⟩) (.inl ⟨by unfold Zc1;first|(rw[hd5,hd9,hd12];done)|(rw[hd5,hd9,hd12];rfl)|(rw[hd5,hd9,hd12];simp),rfl,hB⟩)
 have hd13:(decide ((0:Int)≤z∧z≤16777215))=true:=not_f hc11
 have k1'3:=k1'2.below hb10
 refine xb 1 3 k1'3 ?_
 refine xr 0 (args:=#[.int .i64 u,.int .i64 0,.int .i64 16777215]) (Mm u 0 16777215 _) fun W14 hb14=>?_
 refine xi 4 (!(decide ((0:Int)≤u∧u≤16777215))) (fun hc15=>?_) (fun hc15=>?_)
 ·have hd16:(decide ((0:Int)≤u∧u≤16777215))=false:=not_t hc15
  have hB:=bln (bln (bln (bln n1.below hb2) hb6) hb10) hb14
  exact xe 7 (.string ⟨#[]⟩) (.inl ⟨by unfold Zc1;first|(rw[hd5,hd9,hd13,hd16];done)|(rw[hd5,hd9,hd13,hd16];rfl)|(rw[hd5,hd9,hd13,hd16];simp),rfl,hB⟩)
 have hd17:(decide ((0:Int)≤u∧u≤16777215))=true:=not_f hc15
 have k1'4:=k1'3.below hb14
 refine xb 5 0 k1'4 ?_
 refine xb 1 1 k1'4 ?_
 refine xb 1 2 k1'4 ?_
 refine xb 1 3 k1'4 ?_
 refine xbs 0 4 [.int .i64 x,.int .i64 y,.int .i64 z,.int .i64 u] 3 fun b18 W18 n18=>?_
 refine xbs 0 4 [.int .i64 8,.int .i64 8,.int .i64 4,.int .i64 4] 3 fun b19 W19 n19=>?_
 have d19_b18:=n19.ne n18.blk
 have hsb:Zc1 x y z u=true:=by
  unfold Zc1
  rw[hd5,hd9,hd13,hd17];rfl
 have k18'1:=n18.blk.below n19.below
 refine xr 0 (args:=#[.slice (some ⟨b18,0,none⟩) 4 4,.slice (some ⟨b19,0,none⟩) 4 4]) (Zb4 [x,y,z,u] [8,8,4,4] (some ⟨b18,0,none⟩) (some ⟨b19,0,none⟩) 4 4 _ (detQ_ok hsb) (k18'1.sl 4 4 (by decide) (by decide)) (n19.blk.sl 4 4 (by decide) (by decide))) fun W20 hb20=>?_
 have hB:=bln (bln (bln (bln (bln (bln (bln n1.below hb2) hb6) hb10) hb14) n18.below) n19.below) hb20
 exact xe 4 (.string ⟨(Zcw [x,y,z,u] [8,8,4,4] 4).toArray⟩) (.inr ⟨hsb,rfl,hB⟩)
theorem Un(s:List UInt8)(w:World)(hs:s.length≤1000) :
 Calls Tryz.prog 38 #[.string ⟨s.toArray⟩] w (Ret (.tuple #[.agg #[.int .i64 (↑(Yi s 0):Int),.int .i64 (↑(Yi s 1):Int),.int .i64 (↑(Yi s 2):Int),.int .i64 (↑(Yi s 3):Int)],.int .i64 (Xl Kv s)]) w):=by
 refine zin 39 Tryz.func38 ?_
 refine xa 2 [.int .i64 0,.int .i64 0,.int .i64 0,.int .i64 0] 79 fun b1 W1 n1=>?_
 refine xin 11 (↑s.length:Int) (24:Int) (fun hc2=>?_) (fun hc2=>?_)
 ·refine xsv 3 n1.blk [.int .i64 0,.int .i64 0,.int .i64 0,.int .i64 0] fun W3 u3 k3=>?_
  have g1:=n1.ge (Below.refl w.heap.size _)
  have hB:=u3.below n1.below g1
  refine xec 5 k3 (.tuple #[.agg #[.int .i64 0,.int .i64 0,.int .i64 0,.int .i64 0],.int .i64 7]) ?_
  have he:Xl Kv s=7:=if_neg (by rw[Tu];omega)
  unfold Yi Qb
  rw[he,if_neg (by decide)];exact⟨rfl,hB⟩
 refine xcf 5 fun _ _ _ zJ zQ zo zx zK=>Kc s zo zx Tryz.underlying9 Tryz.underlying22 Tryz.underlying5 (by omega) ?_
 intro bz cz W4 hb4 hbz
 refine zK _ _ ?_
 refine xbs 0 4 [.int .i64 8,.int .i64 8,.int .i64 4,.int .i64 4] 3 fun b5 W5 n5=>?_
 have hbz'1:=hbz.below n5.below
 refine xc 0 (args:=#[.slice (some ⟨bz,0,none⟩) s.length cz,.slice (some ⟨b5,0,none⟩) 4 4]) (Zbe (some ⟨bz,0,none⟩) s.length cz s b5 _ rfl (by omega) hbz'1 n5.blk) ?_
 rintro e W6 hq6
 rcases hq6 with ⟨hq,rfl,hb6⟩|⟨hq,p5,c5,rfl,hb6,h5⟩
 ·have k1:=((n1.blk.below hb4).below n5.below).below hb6
  refine xsv 18 k1 [.int .i64 0,.int .i64 0,.int .i64 0,.int .i64 0] fun W7 u7 k7=>?_
  have g1:=n1.ge (Below.refl w.heap.size _)
  have hB:=u7.below (bln (bln (bln n1.below hb4) n5.below) hb6) g1
  refine xec 5 k7 (.tuple #[.agg #[.int .i64 0,.int .i64 0,.int .i64 0,.int .i64 0],.int .i64 2]) ?_
  have he:Xl Kv s=2:=by unfold Xl;rw[Tu,if_pos (by omega),Lc,show Zc1 (↑(Zj s 0 8):Int) (↑(Zj s 8 8):Int) (↑(Zj s 16 4):Int) (↑(Zj s 20 4):Int)=false from by unfold Zc1;rw[Bool.eq_false_iff];intro q;simp only[Bool.and_eq_true,decide_eq_true_iff] at q;exact hq ⟨by omega,by omega⟩,if_neg (by decide)]
  unfold Yi Qb
  rw[he,if_neg (by decide)];exact⟨rfl,hB⟩
 have hs6:=(bln (bln n1.below hb4) n5.below).size
 refine xd 18 (.t w.heap.size [79]) ?_
 have h5'1:=Za (Zf h5 hs6) (Zb W6)
 refine xx (.e [0] 1) _ 4 0 1 (Zo (l:=[Zj s 0 8,Zj s 8 8,Zj s 16 4,Zj s 20 4]) (Zg h5'1) rfl (k:=0) (by decide)).1 ?_
 refine xlt (.e [] 2) (.t w.heap.size [79]) (fun V hV=>(Zo (l:=[Zj s 0 8,Zj s 8 8,Zj s 16 4,Zj s 20 4]) (Zg (Zl h5'1 hV.2 (by decide))) rfl (k:=0) (by decide)).2) ?_
 refine xx (.e [3] 4) _ 4 1 1 (Zo (l:=[Zj s 0 8,Zj s 8 8,Zj s 16 4,Zj s 20 4]) (Zg h5'1) rfl (k:=1) (by decide)).1 ?_
 refine xlt (.e [] 5) (.t w.heap.size [79]) (fun V hV=>(Zo (l:=[Zj s 0 8,Zj s 8 8,Zj s 16 4,Zj s 20 4]) (Zg (Zl h5'1 hV.2 (by decide))) rfl (k:=1) (by decide)).2) ?_
 refine xx (.e [6] 7) _ 4 2 1 (Zo (l:=[Zj s 0 8,Zj s 8 8,Zj s 16 4,Zj s 20 4]) (Zg h5'1) rfl (k:=2) (by decide)).1 ?_
 refine xlt (.e [] 8) (.t w.heap.size [79]) (fun V hV=>(Zo (l:=[Zj s 0 8,Zj s 8 8,Zj s 16 4,Zj s 20 4]) (Zg (Zl h5'1 hV.2 (by decide))) rfl (k:=2) (by decide)).2) ?_
 refine xx (.e [9] 10) _ 4 3 1 (Zo (l:=[Zj s 0 8,Zj s 8 8,Zj s 16 4,Zj s 20 4]) (Zg h5'1) rfl (k:=3) (by decide)).1 ?_
 refine xlt (.e [] 11) (.t w.heap.size [79]) (fun V hV=>(Zo (l:=[Zj s 0 8,Zj s 8 8,Zj s 16 4,Zj s 20 4]) (Zg (Zl h5'1 hV.2 (by decide))) rfl (k:=3) (by decide)).2) ?_
 refine xa (.o [12] 13) [.int .i64 0,.int .i64 0,.int .i64 0,.int .i64 0] 79 fun b8 W8 n8=>?_
 have k1:=(((n1.blk.below hb4).below n5.below).below hb6).below (Zb W6)
 have d8_b1:=n8.ne k1
 have g8:=n8.ge (bln (bln (bln (bln n1.below hb4) n5.below) hb6) (Zb W6))
 refine ysv (.o [] 14) n8.blk [.int .i64 (↑(Zj s 0 8):Int),.int .i64 (↑(Zj s 8 8):Int),.int .i64 (↑(Zj s 16 4):Int),.int .i64 (↑(Zj s 20 4):Int)] (.t w.heap.size [79]) fun W9 u9 k9=>⟨(Zm u9 n8.blk g8 (by decide)),?_⟩
 refine xlv 5 k9.rp ?_
 refine xc 0 (args:=#[.agg #[.int .i64 (↑(Zj s 0 8):Int),.int .i64 (↑(Zj s 8 8):Int),.int .i64 (↑(Zj s 16 4):Int),.int .i64 (↑(Zj s 20 4):Int)]]) (Ie (↑(Zj s 0 8):Int) (↑(Zj s 8 8):Int) (↑(Zj s 16 4):Int) (↑(Zj s 20 4):Int) _) ?_
 rintro e W10 hq10
 rcases hq10 with ⟨hsb,rfl,hb10⟩|⟨hsb,rfl,hb10⟩
 ·have k1'1:=(u9.blk (k1.below n8.below) (Ne.symm (Ne.symm d8_b1))).below hb10
  refine xsv 7 k1'1 [.int .i64 0,.int .i64 0,.int .i64 0,.int .i64 0] fun W11 u11 k11=>?_
  have g1:=n1.ge (Below.refl w.heap.size _)
  have hB:=u11.below (bln (u9.below (bln (bln (bln (bln (bln n1.below hb4) n5.below) hb6) (Zb W6)) n8.below) g8) hb10) g1
  refine xec 5 k11 (.tuple #[.agg #[.int .i64 0,.int .i64 0,.int .i64 0,.int .i64 0],.int .i64 2]) ?_
  have he:Xl Kv s=2:=by unfold Xl;rw[Tu,if_pos (by omega),Lc,hsb,if_neg (by decide)]
  unfold Yi Qb
  rw[he,if_neg (by decide)];exact⟨rfl,hB⟩
 refine xk 3 (show(((⟨(Zcw [(↑(Zj s 0 8):Int),(↑(Zj s 8 8):Int),(↑(Zj s 16 4):Int),(↑(Zj s 20 4):Int)] [8,8,4,4] 4).toArray⟩:ByteArray).toList==(⟨#[]⟩:ByteArray).toList):Bool)=false from txt4_ne _ _ _ _) ?_
 have k9'1:=k9.below hb10
 refine xlv 4 k9'1.rp ?_
 have k1'2:=(u9.blk (k1.below n8.below) (Ne.symm (Ne.symm d8_b1))).below hb10
 refine xsv 0 k1'2 [.int .i64 (↑(Zj s 0 8):Int),.int .i64 (↑(Zj s 8 8):Int),.int .i64 (↑(Zj s 16 4):Int),.int .i64 (↑(Zj s 20 4):Int)] fun W12 u12 k12=>?_
 have g1:=n1.ge (Below.refl w.heap.size _)
 have hB:=u12.below (bln (u9.below (bln (bln (bln (bln (bln n1.below hb4) n5.below) hb6) (Zb W6)) n8.below) g8) hb10) g1
 refine xec 4 k12 (.tuple #[.agg #[.int .i64 (↑(Zj s 0 8):Int),.int .i64 (↑(Zj s 8 8):Int),.int .i64 (↑(Zj s 16 4):Int),.int .i64 (↑(Zj s 20 4):Int)],.int .i64 0]) ?_
 have he:Xl Kv s=0:=by unfold Xl;rw[Tu,if_pos (by omega),Lc,hsb,if_pos rfl]
 unfold Yi Qb
 rw[he,if_pos rfl,Zc0];exact⟨rfl,hB⟩
def Ig(O:List Int×Int×List Dv)(w:World)(e:Ending)(w':World):Prop :=
 (O.2.1≠0∧∃ a c,e=.returned (.tuple #[.slice none 0 0,.agg #[.slice a O.1.length c,.int .i64 O.2.1]])∧Below w.heap.size w w'∧w'.ownsRow w.heap.size 3 1 (.slice a O.1.length c) O.1.length (O.1.map (Value.int .i64))) ∨
 (O.2.1=0∧∃ p c Z,e=.returned (.tuple #[.slice p O.2.2.length c,.agg #[.slice none 0 0,.int .i64 0]])∧Below w.heap.size w w'∧Z.map Prod.fst=O.2.2∧Xs w.heap.size w' Z∧w'.ownsRow w.heap.size 82 5 (.slice p O.2.2.length c) O.2.2.length (Z.flatMap Ll))
theorem Yb{O:List Int×Int×List Dv}{bl:List Int}{er:Int}{m c:Nat}{w W:World}{a:Option Addr}(h:O=(bl,er,[]))(her:er≠0)(hm:bl.length=m)(hb:Below w.heap.size w W)(ho:W.ownsRow w.heap.size 3 1 (.slice a m c) m (bl.map (Value.int .i64))):Ig O w (.returned (.tuple #[.slice none 0 0,.agg #[.slice a m c,.int .i64 er]])) W:=by
 subst h hm;exact .inl ⟨her,a,c,rfl,hb,ho⟩
theorem Zdq{O:List Int×Int×List Dv}{L:List Dv}{Z:List Zv}{n c:Nat}{w W:World}{p:Option Addr}(h:O=([],0,L))(hn:Z.length=n)(hZ:Z.map Prod.fst=L)(hb:Below w.heap.size w W)(hM:Xs w.heap.size W Z)(ho:W.ownsRow w.heap.size 82 5 (.slice p n c) n (Z.flatMap Ll)):Ig O w (.returned (.tuple #[.slice p n c,.agg #[.slice none 0 0,.int .i64 0]])) W:=by
 subst h
 have hl:L.length=n:=by rw[←hZ,List.length_map,hn]
 subst hl
 exact .inr ⟨rfl,p,c,Z,rfl,hb,hZ,hM,ho⟩
theorem Zfc{D T:List Ent}(h:docE D T=Yu D T):(Qp D T=true∧(Qp T D=false∨Jm D T<Jm T D)∧Yu D T=2)∨(Qp T D=true∧¬ (Qp D T=true∧Jm D T<Jm T D)∧Yu D T=1)∨(Qp D T=false∧Qp T D=false∧Yu D T=0):=by
 rw[←h]
 unfold docE Qp Jm
 cases h1:Jd D T with
 | none=>cases h2:Jd T D with
  | none=>simp
  | some b=>simp
 | some a=>cases h2:Jd T D with
  | none=>simp
  | some b=>by_cases q:a<b<;>simp[q]
theorem Zb2(l:List UInt8)(y:Ent)(data fuel:Int):(Ys l y data fuel).1.length≤40:=by
 unfold Ys Zab
 split
 ·rename_i h
  rw[(Qe h).2.1];exact Nat.le_trans (Oc l (Yz y.2.1:Int) 2 fuel _ (Eo (List.length_pos_iff.2 h))) (by decide)
 ·unfold Ov
  split<;>simp
theorem Zg1{D T:List Ent}(hlc:(Qp D T=true∧(Qp T D=false∨Jm D T<Jm T D)∧Yu D T=2)∨(Qp T D=true∧¬ (Qp D T=true∧Jm D T<Jm T D)∧Yu D T=1)∨(Qp D T=false∧Qp T D=false∧Yu D T=0))(h1:Qp D T=true)(h2:(!Qp T D)=true∨Jm D T<Jm T D):Yu D T=2:=by
 rcases hlc with ⟨a1,a2,a3⟩|⟨a1,a2,a3⟩|⟨a1,a2,a3⟩
 ·exact a3
 ·exfalso
  rcases h2 with h2|h2
  ·rw[a1] at h2;cases h2
  ·exact a2 ⟨h1,h2⟩
 ·rw[a1] at h1;cases h1
theorem lone_p1{D T:List Ent}(hlc:(Qp D T=true∧(Qp T D=false∨Jm D T<Jm T D)∧Yu D T=2)∨(Qp T D=true∧¬ (Qp D T=true∧Jm D T<Jm T D)∧Yu D T=1)∨(Qp D T=false∧Qp T D=false∧Yu D T=0))(h1:Qp T D=true)(h2:Qp D T=false∨¬ Jm D T<Jm T D):Yu D T=1:=by
 rcases hlc with ⟨a1,a2,a3⟩|⟨a1,a2,a3⟩|⟨a1,a2,a3⟩
 ·exfalso
  rcases h2 with h2|h2
  ·rw[a1] at h2;cases h2
  ·rcases a2 with a2|a2
   ·rw[a2] at h1;cases h1
   ·exact h2 a2
 ·exact a3
 ·rw[a2] at h1;cases h1
theorem lone_p0{D T:List Ent}(hlc:(Qp D T=true∧(Qp T D=false∨Jm D T<Jm T D)∧Yu D T=2)∨(Qp T D=true∧¬ (Qp D T=true∧Jm D T<Jm T D)∧Yu D T=1)∨(Qp D T=false∧Qp T D=false∧Yu D T=0))(h1:Qp T D=false)(h2:Qp D T=false∨(!Qp T D)=false):Yu D T=0:=by
 rcases hlc with ⟨a1,a2,a3⟩|⟨a1,a2,a3⟩|⟨a1,a2,a3⟩
 ·exfalso
  rcases h2 with h2|h2
  ·rw[a1] at h2;cases h2
  ·rw[h1] at h2;cases h2
 ·rw[a1] at h1;cases h1
 ·exact a3
theorem Ed(B bm:Nat)(p:Option Addr)(k c:Nat)(l:List UInt8)(data fuel:Int)(y:Ent)(w:World)(hI:RefI B bm p k c l w)(hfu:fuel≤1000):Calls Tryz.prog 40 #[.pointer (some ⟨bm,0,none⟩),.int .i64 (↑(Yz y.2.1):Int),.int .i64 data,.int .i64 fuel] w (Zda (Ys l y data fuel) w):=Zd5 B bm p k c l (↑(Yz y.2.1):Int) data fuel w hI hfu
theorem Nl(B bm:Nat)(p:Option Addr)(k c:Nat)(l:List UInt8)(top details data fuel:Int)(w:World)(hI:RefI B bm p k c l w)(hfu:fuel≤1000) :
 Calls Tryz.prog 10 #[.pointer (some ⟨bm,0,none⟩),.int .i64 top,.int .i64 details,.int .i64 data,.int .i64 fuel] w (Ig (Qv l top details data fuel) w):=by
 have hfew:=(Ko l details 3 fuel hfu).1
 have hfew1:=(Ko l top 1 fuel hfu).1
 have hlc:=Zfc (Zaa (Tf l details 3 fuel).2.2.2.1 (Tf l top 1 fuel).2.2.2.1)
 refine zin 184 Tryz.func10 ?_
 refine xa 3 [.slice none 0 0,.int .i64 0] 33 fun b1 W1 n1=>?_
 refine xc 7 (args:=#[.pointer (some ⟨bm,0,none⟩),.int .i64 details,.int .i64 3,.int .i64 fuel]) (Uu B bm p k c l details 3 fuel _ hfu (hI.below n1.below)) ?_
 rintro e W2 hq2
 rcases hq2 with ⟨hfd,pe,ce,pb,cb,pf,nf,cf,a9,d9,rfl,hb2,hf9⟩|⟨hfd,pd,cd,pb2,nb2,cb2,dp2,lk2,pf2,nf2,cf2,a2,d2,rfl,hb2,hd⟩
 ·have hwd:=Vq hfd
  refine xa 3 [.slice none 0 0,.slice none 0 0,.int .i64 0,.int .i64 0,.slice none 0 0] 106 fun b3 W3 n3=>?_
  have hB'1:=bln n1.below hb2
  have g3:=n3.ge hB'1
  refine xa 0 [.slice none 0 0,.int .i64 0] 33 fun b4 W4 n4=>?_
  have k1:=(n1.blk.below hb2).below n3.below
  have d4_b1:=n4.ne k1
  have hB'2:=bln hB'1 n3.below
  have g4:=n4.ge hB'2
  have k3:=n3.blk.below n4.below
  refine xsv 0 k3 [.slice pe 0 ce,.slice pb 0 cb,.int .i64 0,.int .i64 0,.slice pf nf cf] fun W5 u5 k5=>?_
  have k4:=u5.blkT n4.blk k3 (by decide)
  refine xsv 0 k4 [.slice a9 ((Xo (Zd l details 3 fuel)).1.length) d9,.int .i64 ((Xo (Zd l details 3 fuel)).2)] fun W6 u6 k6=>?_
  refine xb 6 1 k6 ?_
  refine xk 3 (show(((Xo (Zd l details 3 fuel)).2 != (0:Int)):Bool)=true from bne_iff_ne.2 hwd) ?_
  refine xd 1 (.t w.heap.size [33]) ?_
  have k6'1:=k6.below (Zb W6)
  refine xlv (.o [1] 0) k6'1.rp ?_
  have k1'1:=(u6.blk (u5.blkT (k1.below n4.below) k3 (by decide)) (Ne.symm (Ne.symm d4_b1))).below (Zb W6)
  have g1:=n1.ge (Below.refl w.heap.size _)
  refine ysv (.o [] 2) k1'1 [.slice a9 ((Xo (Zd l details 3 fuel)).1.length) d9,.int .i64 ((Xo (Zd l details 3 fuel)).2)] (.t w.heap.size [33]) fun W7 u7 k7=>⟨(Zm u7 k1'1 g1 (by decide)),?_⟩
  have hf9'1:=u7.own2 (Za (u6.own2 (u5.own2 (Za (Za (Zf hf9 n1.below.size) n3.below) n4.below) k3 (by decide)) k4 (by decide)) (Zb W6)) k1'1 (by decide)
  have hB'3:=u7.below (bln (u6.below (u5.below (bln hB'2 n4.below) g3) g4) (Zb W6)) g1
  exact xec 4 k7 (.tuple #[.slice none 0 0,.agg #[.slice a9 ((Xo (Zd l details 3 fuel)).1.length) d9,.int .i64 ((Xo (Zd l details 3 fuel)).2)]]) (Yb (Zg9 hfd) (Vq hfd) rfl hB'3 hf9'1)
 refine xa 3 [.slice none 0 0,.slice none 0 0,.int .i64 0,.int .i64 0,.slice none 0 0] 106 fun b8 W8 n8=>?_
 have hB'4:=bln n1.below hb2
 have g8:=n8.ge hB'4
 refine xa 0 [.slice none 0 0,.int .i64 0] 33 fun b9 W9 n9=>?_
 have k1:=(n1.blk.below hb2).below n8.below
 have d9_b1:=n9.ne k1
 have hB'5:=bln hB'4 n8.below
 have g9:=n9.ge hB'5
 have k8:=n8.blk.below n9.below
 refine xsv 0 k8 [.slice pd ((Zd l details 3 fuel).es.length) cd,.slice pb2 nb2 cb2,.int .i64 dp2,.int .i64 lk2,.slice pf2 nf2 cf2] fun W10 u10 k10=>?_
 have k9:=u10.blkT n9.blk k8 (by decide)
 refine xsv 0 k9 [.slice a2 0 d2,.int .i64 0] fun W11 u11 k11=>?_
 refine xb 6 1 k11 ?_
 have hB'6:=u11.below (u10.below (bln hB'5 n9.below) g8) g9
 refine xc 11 (args:=#[.pointer (some ⟨bm,0,none⟩),.int .i64 top,.int .i64 1,.int .i64 fuel]) (Uu B bm p k c l top 1 fuel _ hfu (hI.below hB'6)) ?_
 rintro e W12 hq12
 rcases hq12 with ⟨hft,pe,ce,pb,cb,pf,nf,cf,a9,d9,rfl,hb12,hf9⟩|⟨hft,pt,ct,pb12,nb12,cb12,dp12,lk12,pf12,nf12,cf12,a12,d12,rfl,hb12,ht⟩
 ·have hs12:=(u11.below (u10.below (bln hB'5 n9.below) g8) g9).size
  have hwt:=Vq hft
  refine xa 3 [.slice none 0 0,.slice none 0 0,.int .i64 0,.int .i64 0,.slice none 0 0] 106 fun b13 W13 n13=>?_
  have k10'1:=(u11.blkT k10 k9 (by decide)).below hb12
  have d13_b8:=n13.ne k10'1
  have hB'7:=bln hB'6 hb12
  have g13:=n13.ge hB'7
  refine xa 0 [.slice none 0 0,.int .i64 0] 33 fun b14 W14 n14=>?_
  have k1'2:=((u11.blk (u10.blkT (k1.below n9.below) k8 (by decide)) (Ne.symm (Ne.symm d9_b1))).below hb12).below n13.below
  have d14_b1:=n14.ne k1'2
  have k11'1:=(k11.below hb12).below n13.below
  have d14_b9:=n14.ne k11'1
  have hB'8:=bln hB'7 n13.below
  have g14:=n14.ge hB'8
  have k13:=n13.blk.below n14.below
  refine xsv 0 k13 [.slice pe 0 ce,.slice pb 0 cb,.int .i64 0,.int .i64 0,.slice pf nf cf] fun W15 u15 k15=>?_
  have k14:=u15.blkT n14.blk k13 (by decide)
  refine xsv 0 k14 [.slice a9 ((Xo (Zd l top 1 fuel)).1.length) d9,.int .i64 ((Xo (Zd l top 1 fuel)).2)] fun W16 u16 k16=>?_
  refine xb 6 1 k16 ?_
  refine xk 3 (show(((Xo (Zd l top 1 fuel)).2 != (0:Int)):Bool)=true from bne_iff_ne.2 hwt) ?_
  refine xd 1 (.t w.heap.size [33]) ?_
  have k16'1:=k16.below (Zb W16)
  refine xlv (.o [1] 0) k16'1.rp ?_
  have k1'3:=(u16.blk (u15.blkT (k1'2.below n14.below) k13 (by decide)) (Ne.symm (Ne.symm d14_b1))).below (Zb W16)
  have g1:=n1.ge (Below.refl w.heap.size _)
  refine ysv (.o [] 2) k1'3 [.slice a9 ((Xo (Zd l top 1 fuel)).1.length) d9,.int .i64 ((Xo (Zd l top 1 fuel)).2)] (.t w.heap.size [33]) fun W17 u17 k17=>⟨(Zm u17 k1'3 g1 (by decide)),?_⟩
  have hf9'2:=u17.own2 (Za (u16.own2 (u15.own2 (Za (Za (Zf hf9 hs12) n13.below) n14.below) k13 (by decide)) k14 (by decide)) (Zb W16)) k1'3 (by decide)
  have hB'9:=u17.below (bln (u16.below (u15.below (bln hB'8 n14.below) g13) g14) (Zb W16)) g1
  exact xec 4 k17 (.tuple #[.slice none 0 0,.agg #[.slice a9 ((Xo (Zd l top 1 fuel)).1.length) d9,.int .i64 ((Xo (Zd l top 1 fuel)).2)]]) (Yb (devsO_t hfd hft) (Vq hft) rfl hB'9 hf9'2)
 have hs12:=(u11.below (u10.below (bln hB'5 n9.below) g8) g9).size
 refine xa 3 [.slice none 0 0,.slice none 0 0,.int .i64 0,.int .i64 0,.slice none 0 0] 106 fun b18 W18 n18=>?_
 have k10'2:=(u11.blkT k10 k9 (by decide)).below hb12
 have d18_b8:=n18.ne k10'2
 have hB'10:=bln hB'6 hb12
 have g18:=n18.ge hB'10
 refine xa 0 [.slice none 0 0,.int .i64 0] 33 fun b19 W19 n19=>?_
 have k1'4:=((u11.blk (u10.blkT (k1.below n9.below) k8 (by decide)) (Ne.symm (Ne.symm d9_b1))).below hb12).below n18.below
 have d19_b1:=n19.ne k1'4
 have k11'2:=(k11.below hb12).below n18.below
 have d19_b9:=n19.ne k11'2
 have hB'11:=bln hB'10 n18.below
 have g19:=n19.ge hB'11
 have k18:=n18.blk.below n19.below
 refine xsv 0 k18 [.slice pt ((Zd l top 1 fuel).es.length) ct,.slice pb12 nb12 cb12,.int .i64 dp12,.int .i64 lk12,.slice pf12 nf12 cf12] fun W20 u20 k20=>?_
 have k19:=u20.blkT n19.blk k18 (by decide)
 refine xsv 0 k19 [.slice a12 0 d12,.int .i64 0] fun W21 u21 k21=>?_
 refine xb 6 1 k21 ?_
 have k10'3:=u21.blkT (u20.blk ((k10'2.below n18.below).below n19.below) (Ne.symm (Ne.symm d18_b8))) k19 (by decide)
 refine xb 10 0 k10'3 ?_
 refine xid 4 ((↑((Zd l details 3 fuel).es.length):Int)>(4096:Int)) (fun hc22=>?_) (fun hc22=>?_)
 ·refine xc 3 (args:=#[.int .i64 details,.int .i64 2]) (Xv details 2 _ (by omega)) ?_
  rintro _ W23 ⟨pa,ca,rfl,hb23,hva⟩
  have hs23:=(u21.below (u20.below (bln hB'11 n19.below) g18) g19).size
  have k1'5:=(u21.blk (u20.blkT (k1'4.below n19.below) k18 (by decide)) (Ne.symm (Ne.symm d19_b1))).below hb23
  refine xsv 1 k1'5 [.slice pa 1 ca,.int .i64 2] fun W24 u24 k24=>?_
  have g1:=n1.ge (Below.refl w.heap.size _)
  have hva'1:=u24.own2 (Zf hva hs23) k1'5 (by decide)
  have hB'12:=u24.below (bln (u21.below (u20.below (bln hB'11 n19.below) g18) g19) hb23) g1
  exact xec 4 k24 (.tuple #[.slice none 0 0,.agg #[.slice pa 1 ca,.int .i64 2]]) (Yb (Rp hfd hft (by omega)) (by decide) rfl hB'12 hva'1)
 refine xb 5 0 k10'3 ?_
 have k20'1:=u21.blkT k20 k19 (by decide)
 refine xb 1 0 k20'1 ?_
 have hd'1:=u21.own2 (u20.own2 (Za (Za (Za (u11.own2 (u10.own2 (Za (Za (Zf hd n1.below.size) n8.below) n9.below) k8 (by decide)) k9 (by decide)) hb12) n18.below) n19.below) k18 (by decide)) k19 (by decide)
 have ht'1:=u21.own2 (u20.own2 (Za (Za (Zf ht hs12) n18.below) n19.below) k18 (by decide)) k19 (by decide)
 refine xr 0 (args:=#[.slice pd ((Zd l details 3 fuel).es.length) cd,.slice pt ((Zd l top 1 fuel).es.length) ct]) (Rt pd pt cd ct (Zd l details 3 fuel).es (Zd l top 1 fuel).es _ (Zg hd'1) (Zg ht'1) (by omega) (by omega)) fun W25 hb25=>?_
 have k20'2:=k20'1.below hb25
 refine xb 10 0 k20'2 ?_
 have k10'4:=k10'3.below hb25
 refine xb 1 0 k10'4 ?_
 have hd'2:=Za hd'1 hb25
 have ht'2:=Za ht'1 hb25
 refine xr 0 (args:=#[.slice pt ((Zd l top 1 fuel).es.length) ct,.slice pd ((Zd l details 3 fuel).es.length) cd]) (Rt pt pd ct cd (Zd l top 1 fuel).es (Zd l details 3 fuel).es _ (Zg ht'2) (Zg hd'2) (by omega) (by omega)) fun W26 hb26=>?_
 refine xg 12 [17,66,75,76] (Qp (Zd l details 3 fuel).es (Zd l top 1 fuel).es) (fun hc27=>?_) (fun hc27=>?_)
 ·have hl28:=hc27
  refine xg 3 [78,79] (!(Qp (Zd l top 1 fuel).es (Zd l details 3 fuel).es)) (fun hc29=>?_) (fun hc29=>?_)
  ·have hl30:=hc29
   refine xc 11 (args:=#[.int .i64 top,.int .i64 18]) (Xv top 18 _ (by omega)) ?_
   rintro _ W31 ⟨pa,ca,rfl,hb31,hva⟩
   have hs31:=(bln (bln (u21.below (u20.below (bln hB'11 n19.below) g18) g19) hb25) hb26).size
   have k1'6:=(((u21.blk (u20.blkT (k1'4.below n19.below) k18 (by decide)) (Ne.symm (Ne.symm d19_b1))).below hb25).below hb26).below hb31
   refine xsv 1 k1'6 [.slice pa 1 ca,.int .i64 18] fun W32 u32 k32=>?_
   have g1:=n1.ge (Below.refl w.heap.size _)
   have hva'2:=u32.own2 (Zf hva hs31) k1'6 (by decide)
   have hB'13:=u32.below (bln (bln (bln (u21.below (u20.below (bln hB'11 n19.below) g18) g19) hb25) hb26) hb31) g1
   refine xec 4 k32 (.tuple #[.slice none 0 0,.agg #[.slice pa 1 ca,.int .i64 18]]) ?_
   have hp2:Yu (Zd l details 3 fuel).es (Zd l top 1 fuel).es=2:=Zg1 hlc (by assumption) (by first|exact .inl (by assumption)|exact .inr (by assumption))
   exact Yb (Te hfd hft (by omega) hp2) (by decide) rfl hB'13 hva'2
  have hl33:=hc29
  refine xid 7 ((Jm (Zd l details 3 fuel).es (Zd l top 1 fuel).es)<(Jm (Zd l top 1 fuel).es (Zd l details 3 fuel).es)) (fun hc34=>?_) (fun hc34=>?_)
  ·refine xc 3 (args:=#[.int .i64 top,.int .i64 18]) (Xv top 18 _ (by omega)) ?_
   rintro _ W35 ⟨pa,ca,rfl,hb35,hva⟩
   have hs35:=(bln (bln (u21.below (u20.below (bln hB'11 n19.below) g18) g19) hb25) hb26).size
   have k1'7:=(((u21.blk (u20.blkT (k1'4.below n19.below) k18 (by decide)) (Ne.symm (Ne.symm d19_b1))).below hb25).below hb26).below hb35
   refine xsv 1 k1'7 [.slice pa 1 ca,.int .i64 18] fun W36 u36 k36=>?_
   have g1:=n1.ge (Below.refl w.heap.size _)
   have hva'3:=u36.own2 (Zf hva hs35) k1'7 (by decide)
   have hB'14:=u36.below (bln (bln (bln (u21.below (u20.below (bln hB'11 n19.below) g18) g19) hb25) hb26) hb35) g1
   refine xec 4 k36 (.tuple #[.slice none 0 0,.agg #[.slice pa 1 ca,.int .i64 18]]) ?_
   have hp2:Yu (Zd l details 3 fuel).es (Zd l top 1 fuel).es=2:=Zg1 hlc (by assumption) (by first|exact .inl (by assumption)|exact .inr (by assumption))
   exact Yb (Te hfd hft (by omega) hp2) (by decide) rfl hB'14 hva'3
  refine xi 8 (Qp (Zd l top 1 fuel).es (Zd l details 3 fuel).es) (fun hc37=>?_) (fun hc37=>?_)
  ·have hl38:=hc37
   refine xc 3 (args:=#[.int .i64 details,.int .i64 18]) (Xv details 18 _ (by omega)) ?_
   rintro _ W39 ⟨pa,ca,rfl,hb39,hva⟩
   have hs39:=(bln (bln (u21.below (u20.below (bln hB'11 n19.below) g18) g19) hb25) hb26).size
   have k1'8:=(((u21.blk (u20.blkT (k1'4.below n19.below) k18 (by decide)) (Ne.symm (Ne.symm d19_b1))).below hb25).below hb26).below hb39
   refine xsv 1 k1'8 [.slice pa 1 ca,.int .i64 18] fun W40 u40 k40=>?_
   have g1:=n1.ge (Below.refl w.heap.size _)
   have hva'4:=u40.own2 (Zf hva hs39) k1'8 (by decide)
   have hB'15:=u40.below (bln (bln (bln (u21.below (u20.below (bln hB'11 n19.below) g18) g19) hb25) hb26) hb39) g1
   refine xec 4 k40 (.tuple #[.slice none 0 0,.agg #[.slice pa 1 ca,.int .i64 18]]) ?_
   have hp1:Yu (Zd l details 3 fuel).es (Zd l top 1 fuel).es=1:=lone_p1 hlc (by assumption) (by first|exact .inl (by assumption)|exact .inr (by assumption))
   exact Yb (Cl hfd hft (by omega) hp1) (by decide) rfl hB'15 hva'4
  have hl41:=hc37
  have hpz:Yu (Zd l details 3 fuel).es (Zd l top 1 fuel).es=0:=lone_p0 hlc (by assumption) (by first|exact .inl (by assumption)|exact .inr (by assumption))
  have hnl:=(Lj hpz).1
  have hd'3:=Za hd'2 hb26
  have ht'3:=Za ht'2 hb26
  have hB'16:=bln (bln (u21.below (u20.below (bln hB'11 n19.below) g18) g19) hb25) hb26
  have k1'9:=((u21.blk (u20.blkT (k1'4.below n19.below) k18 (by decide)) (Ne.symm (Ne.symm d19_b1))).below hb25).below hb26
  have k10'5:=k10'4.below hb26
  have k11'3:=((u21.blk (u20.blkT (k11'2.below n19.below) k18 (by decide)) (Ne.symm (Ne.symm d19_b9))).below hb25).below hb26
  have k20'3:=k20'2.below hb26
  have k21'1:=(k21.below hb25).below hb26
  refine zl 19 184 (fun zm zkv V=>∃ (i:Nat) (pz:Option Addr) (cp:Nat) (Z:List Zv),zkv=[(0,.pointer (some ⟨bm,0,none⟩)),(3,.int .i64 data),(4,.int .i64 fuel),(11,.pointer (some ⟨b1,0,none⟩)),(12,.pointer (some ⟨b8,0,none⟩)),(14,.pointer (some ⟨b18,0,none⟩)),(20,.slice pz i cp),(21,.int .i64 (↑(Au l (Zd l top 1 fuel).es data fuel i):Int)),(22,.int .i64 (↑i:Int))]∧zm=(Zd l details 3 fuel).es.length-((↑i:Int)).toNat∧Below w.heap.size w V∧Blk V b1 ([.slice none 0 0,.int .i64 0]) 33∧Blk V b8 ([.slice pd ((Zd l details 3 fuel).es.length) cd,.slice pb2 nb2 cb2,.int .i64 dp2,.int .i64 lk2,.slice pf2 nf2 cf2]) 106∧Blk V b9 ([.slice a2 0 d2,.int .i64 0]) 33∧Blk V b18 ([.slice pt ((Zd l top 1 fuel).es.length) ct,.slice pb12 nb12 cb12,.int .i64 dp12,.int .i64 lk12,.slice pf12 nf12 cf12]) 106∧Blk V b19 ([.slice a12 0 d12,.int .i64 0]) 33∧V.ownsRow w.heap.size 74 3 (.slice pd (Zd l details 3 fuel).es.length cd) (Zd l details 3 fuel).es.length ((Zd l details 3 fuel).es.flatMap Ky)∧V.ownsRow w.heap.size 74 3 (.slice pt (Zd l top 1 fuel).es.length ct) (Zd l top 1 fuel).es.length ((Zd l top 1 fuel).es.flatMap Ky)∧V.ownsRow w.heap.size 82 5 (.slice pz i cp) i (Z.flatMap Ll)∧Xs w.heap.size V Z∧i≤(Zd l details 3 fuel).es.length∧Z.length=i∧Z.map Prod.fst=devL l (Zd l details 3 fuel).es (Zd l top 1 fuel).es data fuel i∧devK l (Zd l details 3 fuel).es (Zd l top 1 fuel).es data fuel i∧(Au l (Zd l top 1 fuel).es data fuel i)≤16384) ⟨0,none,0,[],rfl,rfl,hB'16,k1'9,k10'5,k11'3,k20'3,k21'1,hd'3,ht'3,World.ownsRow_nil _ _ _ _,Xs.nil _ _,Nat.zero_le _,rfl,rfl,fun j hj=>absurd hj (by omega),Nat.zero_le _⟩ ?_
  rintro _ _ W42 ⟨i,pz,cp,Z,rfl,rfl,hB_42,k42_b1,k42_b8,k42_b9,k42_b18,k42_b19,hd,ht,ho,hMo,hi,hZl,hZd,hdk,hsm⟩ J42 hJ42 r42
  refine xb 5 0 k42_b8 ?_
  refine xid 4 ((↑i:Int)<(↑((Zd l details 3 fuel).es.length):Int)) (fun hc43=>?_) (fun hc43=>?_)
  ·refine xb 7 0 k42_b8 ?_
   refine xx 1 _ ((Zd l details 3 fuel).es.length) i 3 (Sts.cell (f:=Ky) (Zg hd) Xm Zi (k:=i) (i:=0) (by omega) rfl).1 ?_
   refine xlv 0 (Sts.rp (k:=i) (Zg hd) Xm Zi (by omega) (by decide)) ?_
   refine xa 0 [.int .i64 0,.string ⟨#[]⟩,.int .i64 0] 74 fun b44 W44 n44=>?_
   have g44:=n44.ge hB_42
   have r44_hd:=Zp hd n44
   have r44_ht:=Zp ht n44
   refine xsv 0 n44.blk [.int .i64 (((Zd l details 3 fuel).es.getD i Zi).1),.string ⟨(((Zd l details 3 fuel).es.getD i Zi).2.1).toArray⟩,.int .i64 (((Zd l details 3 fuel).es.getD i Zi).2.2)] fun W45 u45 k45=>?_
   have k42_b18'1:=u45.blkT (k42_b18.below n44.below) n44.blk (by decide)
   refine xb 5 0 k42_b18'1 ?_
   have ht'4:=u45.own3 (Za ht n44.below) r44_ht
   refine xx 1 _ ((Zd l top 1 fuel).es.length) i 3 (Sts.cell (f:=Ky) (Zg ht'4) Xm Zi (k:=i) (i:=0) (by omega) rfl).1 ?_
   refine xlv 0 (Sts.rp (k:=i) (Zg ht'4) Xm Zi (by omega) (by decide)) ?_
   refine xa 0 [.int .i64 0,.string ⟨#[]⟩,.int .i64 0] 74 fun b46 W46 n46=>?_
   have d46_b44:=n46.ne k45
   have hB'17:=u45.below (bln hB_42 n44.below) g44
   have g46:=n46.ge hB'17
   have hd'4:=u45.own3 (Za hd n44.below) r44_hd
   have r46_hd:=Zp hd'4 n46
   have r46_ht:=Zp ht'4 n46
   refine xsv 0 n46.blk [.int .i64 (((Zd l top 1 fuel).es.getD i Zi).1),.string ⟨(((Zd l top 1 fuel).es.getD i Zi).2.1).toArray⟩,.int .i64 (((Zd l top 1 fuel).es.getD i Zi).2.2)] fun W47 u47 k47=>?_
   have k45'1:=u47.blk (k45.below n46.below) (Ne.symm (Ne.symm d46_b44))
   refine xb 6 0 k45'1 ?_
   refine xid 3 (((Zd l details 3 fuel).es.getD i Zi).1>(16777215:Int)) (fun hc48=>?_) (fun hc48=>?_)
   ·refine xb 3 2 k45'1 ?_
    refine xc 0 (args:=#[.int .i64 (((Zd l details 3 fuel).es.getD i Zi).2.2),.int .i64 9]) (Xv (((Zd l details 3 fuel).es.getD i Zi).2.2) 9 _ (by omega)) ?_
    rintro _ W49 ⟨pa,ca,rfl,hb49,hva⟩
    have hs49:=(u47.below (bln hB'17 n46.below) g46).size
    have k42_b1'1:=(u47.blkT ((u45.blkT (k42_b1.below n44.below) n44.blk (by decide)).below n46.below) n46.blk (by decide)).below hb49
    refine xsv 1 k42_b1'1 [.slice pa 1 ca,.int .i64 9] fun W50 u50 k50=>?_
    have g1:=n1.ge (Below.refl w.heap.size _)
    have hva'5:=u50.own2 (Zf hva hs49) k42_b1'1 (by decide)
    have hB'18:=u50.below (bln (u47.below (bln hB'17 n46.below) g46) hb49) g1
    refine xec 9 k50 (.tuple #[.slice none 0 0,.agg #[.slice pa 1 ca,.int .i64 9]]) ?_
    have e9:Ch l (Zd l details 3 fuel).es (Zd l top 1 fuel).es data fuel i=_:=dev_1 (by omega)
    exact Yb ((Yc hfd hft (by omega) hpz).trans ((Yw (i:=i) (by omega) hdk (by rw[e9];first|decide|omega)).trans (by rw[e9]))) (by first|decide|omega) rfl hB'18 hva'5
   refine xb 5 1 k45'1 ?_
   refine xr 0 (args:=#[.string ⟨(((Zd l details 3 fuel).es.getD i Zi).2.1).toArray⟩]) (Un ((Zd l details 3 fuel).es.getD i Zi).2.1 _ (Qc _ _ _ _ i (by omega))) fun W51 hb51=>?_
   refine xa 3 [.int .i64 0,.int .i64 0,.int .i64 0,.int .i64 0] 79 fun b52 W52 n52=>?_
   have hB'19:=bln (u47.below (bln hB'17 n46.below) g46) hb51
   have g52:=n52.ge hB'19
   refine xsv 0 n52.blk [.int .i64 (↑(Yi ((Zd l details 3 fuel).es.getD i Zi).2.1 0):Int),.int .i64 (↑(Yi ((Zd l details 3 fuel).es.getD i Zi).2.1 1):Int),.int .i64 (↑(Yi ((Zd l details 3 fuel).es.getD i Zi).2.1 2):Int),.int .i64 (↑(Yi ((Zd l details 3 fuel).es.getD i Zi).2.1 3):Int)] fun W53 u53 k53=>?_
   refine xin 10 (Xl Kv ((Zd l details 3 fuel).es.getD i Zi).2.1) (0:Int) (fun hc54=>?_) (fun hc54=>?_)
   ·have k45'2:=u53.blkT ((k45'1.below hb51).below n52.below) n52.blk (by decide)
    refine xb 3 2 k45'2 ?_
    refine xc 1 (args:=#[.int .i64 (((Zd l details 3 fuel).es.getD i Zi).2.2),.int .i64 (Xl Kv ((Zd l details 3 fuel).es.getD i Zi).2.1)]) (Xv (((Zd l details 3 fuel).es.getD i Zi).2.2) (Xl Kv ((Zd l details 3 fuel).es.getD i Zi).2.1) _ (by omega)) ?_
    rintro _ W55 ⟨pa,ca,rfl,hb55,hva⟩
    have hs55:=(u53.below (bln hB'19 n52.below) g52).size
    have k42_b1'2:=(u53.blkT (((u47.blkT ((u45.blkT (k42_b1.below n44.below) n44.blk (by decide)).below n46.below) n46.blk (by decide)).below hb51).below n52.below) n52.blk (by decide)).below hb55
    refine xsv 1 k42_b1'2 [.slice pa 1 ca,.int .i64 (Xl Kv ((Zd l details 3 fuel).es.getD i Zi).2.1)] fun W56 u56 k56=>?_
    have g1:=n1.ge (Below.refl w.heap.size _)
    have hva'6:=u56.own2 (Zf hva hs55) k42_b1'2 (by decide)
    have hB'20:=u56.below (bln (u53.below (bln hB'19 n52.below) g52) hb55) g1
    refine xec 9 k56 (.tuple #[.slice none 0 0,.agg #[.slice pa 1 ca,.int .i64 (Xl Kv ((Zd l details 3 fuel).es.getD i Zi).2.1)]]) ?_
    have e9:Ch l (Zd l details 3 fuel).es (Zd l top 1 fuel).es data fuel i=_:=dev_2 (by omega) (by omega)
    exact Yb ((Yc hfd hft (by omega) hpz).trans ((Yw (i:=i) (by omega) hdk (by rw[e9];first|decide|omega)).trans (by rw[e9]))) (by first|decide|omega) rfl hB'20 hva'6
   have k47'1:=u53.blkT ((k47.below hb51).below n52.below) n52.blk (by decide)
   refine xb 5 1 k47'1 ?_
   refine xr 0 (args:=#[.string ⟨(((Zd l top 1 fuel).es.getD i Zi).2.1).toArray⟩]) (Gl ((Zd l top 1 fuel).es.getD i Zi).2.1 _ (Qc _ _ _ _ i (by omega))) fun W57 hb57=>?_
   refine xin 14 (Xw ((Zd l top 1 fuel).es.getD i Zi).2.1) (0:Int) (fun hc58=>?_) (fun hc58=>?_)
   ·have k47'2:=k47'1.below hb57
    refine xb 3 2 k47'2 ?_
    refine xc 1 (args:=#[.int .i64 (((Zd l top 1 fuel).es.getD i Zi).2.2),.int .i64 (Xw ((Zd l top 1 fuel).es.getD i Zi).2.1)]) (Xv (((Zd l top 1 fuel).es.getD i Zi).2.2) (Xw ((Zd l top 1 fuel).es.getD i Zi).2.1) _ (by omega)) ?_
    rintro _ W59 ⟨pa,ca,rfl,hb59,hva⟩
    have hs59:=(bln (u53.below (bln hB'19 n52.below) g52) hb57).size
    have k42_b1'3:=((u53.blkT (((u47.blkT ((u45.blkT (k42_b1.below n44.below) n44.blk (by decide)).below n46.below) n46.blk (by decide)).below hb51).below n52.below) n52.blk (by decide)).below hb57).below hb59
    refine xsv 1 k42_b1'3 [.slice pa 1 ca,.int .i64 (Xw ((Zd l top 1 fuel).es.getD i Zi).2.1)] fun W60 u60 k60=>?_
    have g1:=n1.ge (Below.refl w.heap.size _)
    have hva'7:=u60.own2 (Zf hva hs59) k42_b1'3 (by decide)
    have hB'21:=u60.below (bln (bln (u53.below (bln hB'19 n52.below) g52) hb57) hb59) g1
    refine xec 9 k60 (.tuple #[.slice none 0 0,.agg #[.slice pa 1 ca,.int .i64 (Xw ((Zd l top 1 fuel).es.getD i Zi).2.1)]]) ?_
    have e9:Ch l (Zd l details 3 fuel).es (Zd l top 1 fuel).es data fuel i=_:=dev_3 (by omega) (by omega) (by omega)
    exact Yb ((Yc hfd hft (by omega) hpz).trans ((Yw (i:=i) (by omega) hdk (by rw[e9];first|decide|omega)).trans (by rw[e9]))) (by first|decide|omega) rfl hB'21 hva'7
   have hB'22:=bln (u53.below (bln hB'19 n52.below) g52) hb57
   refine xc 8 (args:=#[.pointer (some ⟨bm,0,none⟩),.int .i64 (↑(Yz ((Zd l top 1 fuel).es.getD i Zi).2.1):Int),.int .i64 data,.int .i64 fuel]) (Ed B bm p k c l data fuel ((Zd l top 1 fuel).es.getD i Zi) _ (hI.below hB'22) hfu) ?_
   rintro e W61 hq61
   rcases hq61 with ⟨hoe,a8,d8,rfl,hb61,hf8⟩|⟨hoe,po,co,rfl,hb61,hom⟩
   ·have hs61:=(bln (u53.below (bln hB'19 n52.below) g52) hb57).size
    refine xa 3 [.slice none 0 0,.int .i64 0] 33 fun b62 W62 n62=>?_
    have k42_b1'4:=((u53.blkT (((u47.blkT ((u45.blkT (k42_b1.below n44.below) n44.blk (by decide)).below n46.below) n46.blk (by decide)).below hb51).below n52.below) n52.blk (by decide)).below hb57).below hb61
    have d62_b1:=n62.ne k42_b1'4
    have k42_b9'1:=((u53.blkT (((u47.blkT ((u45.blkT (k42_b9.below n44.below) n44.blk (by decide)).below n46.below) n46.blk (by decide)).below hb51).below n52.below) n52.blk (by decide)).below hb57).below hb61
    have d62_b9:=n62.ne k42_b9'1
    have k42_b19'1:=((u53.blkT (((u47.blkT ((u45.blkT (k42_b19.below n44.below) n44.blk (by decide)).below n46.below) n46.blk (by decide)).below hb51).below n52.below) n52.blk (by decide)).below hb57).below hb61
    have d62_b19:=n62.ne k42_b19'1
    have hB'23:=bln hB'22 hb61
    have g62:=n62.ge hB'23
    refine xsv 1 n62.blk [.slice a8 ((Ys l ((Zd l top 1 fuel).es.getD i Zi) data fuel).1.length) d8,.int .i64 ((Ys l ((Zd l top 1 fuel).es.getD i Zi) data fuel).2.1)] fun W63 u63 k63=>?_
    refine xb 6 1 k63 ?_
    refine xk 3 (show(((Ys l ((Zd l top 1 fuel).es.getD i Zi) data fuel).2.1 != (0:Int)):Bool)=true from bne_iff_ne.2 hoe) ?_
    have k47'3:=u63.blkT (((k47'1.below hb57).below hb61).below n62.below) n62.blk (by decide)
    refine xb 3 2 k47'3 ?_
    refine xlv 0 k63.rp ?_
    have hf8'1:=u63.own2 (Za (Zf hf8 hs61) n62.below) n62.blk (by decide)
    refine xc 0 (args:=#[.int .i64 (((Zd l top 1 fuel).es.getD i Zi).2.2),.agg #[.slice a8 ((Ys l ((Zd l top 1 fuel).es.getD i Zi) data fuel).1.length) d8,.int .i64 ((Ys l ((Zd l top 1 fuel).es.getD i Zi) data fuel).2.1)]]) (Fg ((Zd l top 1 fuel).es.getD i Zi).2.2 (Ys l ((Zd l top 1 fuel).es.getD i Zi) data fuel).2.1 a8 (Ys l ((Zd l top 1 fuel).es.getD i Zi) data fuel).1.length d8 (Ys l ((Zd l top 1 fuel).es.getD i Zi) data fuel).1 _ hoe rfl (Nat.le_trans (Zb2 _ _ _ _) (by decide)) (Zg hf8'1)) ?_
    rintro _ W64 ⟨_,rfl,hb64,pa,ca,rfl,hva⟩
    have hs64:=(u63.below (bln hB'23 n62.below) g62).size
    have k42_b1'5:=(u63.blk (k42_b1'4.below n62.below) (Ne.symm (Ne.symm d62_b1))).below hb64
    refine xsv 1 k42_b1'5 [.slice pa ((Ys l ((Zd l top 1 fuel).es.getD i Zi) data fuel).1.length+1) ca,.int .i64 ((Ys l ((Zd l top 1 fuel).es.getD i Zi) data fuel).2.1)] fun W65 u65 k65=>?_
    have g1:=n1.ge (Below.refl w.heap.size _)
    have hva'8:=u65.own2 (Zf hva hs64) k42_b1'5 (by decide)
    have hB'24:=u65.below (bln (u63.below (bln hB'23 n62.below) g62) hb64) g1
    refine xec 9 k65 (.tuple #[.slice none 0 0,.agg #[.slice pa ((Ys l ((Zd l top 1 fuel).es.getD i Zi) data fuel).1.length+1) ca,.int .i64 ((Ys l ((Zd l top 1 fuel).es.getD i Zi) data fuel).2.1)]]) ?_
    have e9:Ch l (Zd l details 3 fuel).es (Zd l top 1 fuel).es data fuel i=_:=dev_4 (by omega) (by omega) (by omega) hoe
    exact Yb ((Yc hfd hft (by omega) hpz).trans ((Yw (i:=i) (by omega) hdk (by rw[e9];first|decide|omega)).trans (by rw[e9]))) (by first|decide|omega) rfl hB'24 hva'8
   have hs61:=(bln (u53.below (bln hB'19 n52.below) g52) hb57).size
   have hfo:=Zao l ((Zd l top 1 fuel).es.getD i Zi) data fuel hfu
   refine xa 3 [.slice none 0 0,.int .i64 0] 33 fun b66 W66 n66=>?_
   have k42_b1'6:=((u53.blkT (((u47.blkT ((u45.blkT (k42_b1.below n44.below) n44.blk (by decide)).below n46.below) n46.blk (by decide)).below hb51).below n52.below) n52.blk (by decide)).below hb57).below hb61
   have d66_b1:=n66.ne k42_b1'6
   have k42_b9'2:=((u53.blkT (((u47.blkT ((u45.blkT (k42_b9.below n44.below) n44.blk (by decide)).below n46.below) n46.blk (by decide)).below hb51).below n52.below) n52.blk (by decide)).below hb57).below hb61
   have d66_b9:=n66.ne k42_b9'2
   have k42_b19'2:=((u53.blkT (((u47.blkT ((u45.blkT (k42_b19.below n44.below) n44.blk (by decide)).below n46.below) n46.blk (by decide)).below hb51).below n52.below) n52.blk (by decide)).below hb57).below hb61
   have d66_b19:=n66.ne k42_b19'2
   have hB'25:=bln hB'22 hb61
   have g66:=n66.ge hB'25
   refine xsv 1 n66.blk [.slice none 0 0,.int .i64 0] fun W67 u67 k67=>?_
   refine xb 6 1 k67 ?_
   have k53'1:=u67.blkT (((k53.below hb57).below hb61).below n66.below) n66.blk (by decide)
   refine xb 10 0 k53'1 ?_
   refine xin 5 (↑(Yi ((Zd l details 3 fuel).es.getD i Zi).2.1 0):Int) (↑((Ys l ((Zd l top 1 fuel).es.getD i Zi) data fuel).2.2.length):Int) (fun hc68=>?_) (fun hc68=>?_)
   ·have k45'3:=u67.blkT ((((u53.blkT ((k45'1.below hb51).below n52.below) n52.blk (by decide)).below hb57).below hb61).below n66.below) n66.blk (by decide)
    refine xb 3 2 k45'3 ?_
    refine xc 0 (args:=#[.int .i64 (((Zd l details 3 fuel).es.getD i Zi).2.2),.int .i64 13]) (Xv (((Zd l details 3 fuel).es.getD i Zi).2.2) 13 _ (by omega)) ?_
    rintro _ W69 ⟨pa,ca,rfl,hb69,hva⟩
    have hs69:=(u67.below (bln hB'25 n66.below) g66).size
    have k42_b1'7:=(u67.blk (k42_b1'6.below n66.below) (Ne.symm (Ne.symm d66_b1))).below hb69
    refine xsv 1 k42_b1'7 [.slice pa 1 ca,.int .i64 13] fun W70 u70 k70=>?_
    have g1:=n1.ge (Below.refl w.heap.size _)
    have hva'9:=u70.own2 (Zf hva hs69) k42_b1'7 (by decide)
    have hB'26:=u70.below (bln (u67.below (bln hB'25 n66.below) g66) hb69) g1
    refine xec 9 k70 (.tuple #[.slice none 0 0,.agg #[.slice pa 1 ca,.int .i64 13]]) ?_
    have e9:Ch l (Zd l details 3 fuel).es (Zd l top 1 fuel).es data fuel i=_:=dev_5 (by omega) (by omega) (by omega) hoe (by omega)
    exact Yb ((Yc hfd hft (by omega) hpz).trans ((Yw (i:=i) (by omega) hdk (by rw[e9];first|decide|omega)).trans (by rw[e9]))) (by first|decide|omega) rfl hB'26 hva'9
   refine xwm 7 ((↑(Au l (Zd l top 1 fuel).es data fuel i):Int)+(↑((Ys l ((Zd l top 1 fuel).es.getD i Zi) data fuel).2.2.length):Int)) (↑((Au l (Zd l top 1 fuel).es data fuel i)+((Ys l ((Zd l top 1 fuel).es.getD i Zi) data fuel).2.2.length)):Int) ?_
   refine xid 10 ((↑((Au l (Zd l top 1 fuel).es data fuel i)+((Ys l ((Zd l top 1 fuel).es.getD i Zi) data fuel).2.2.length)):Int)>(16384:Int)) (fun hc71=>?_) (fun hc71=>?_)
   ·have k47'4:=u67.blkT (((k47'1.below hb57).below hb61).below n66.below) n66.blk (by decide)
    refine xb 3 2 k47'4 ?_
    refine xc 0 (args:=#[.int .i64 (((Zd l top 1 fuel).es.getD i Zi).2.2),.int .i64 2]) (Xv (((Zd l top 1 fuel).es.getD i Zi).2.2) 2 _ (by omega)) ?_
    rintro _ W72 ⟨pa,ca,rfl,hb72,hva⟩
    have hs72:=(u67.below (bln hB'25 n66.below) g66).size
    have k42_b1'8:=(u67.blk (k42_b1'6.below n66.below) (Ne.symm (Ne.symm d66_b1))).below hb72
    refine xsv 1 k42_b1'8 [.slice pa 1 ca,.int .i64 2] fun W73 u73 k73=>?_
    have g1:=n1.ge (Below.refl w.heap.size _)
    have hva'10:=u73.own2 (Zf hva hs72) k42_b1'8 (by decide)
    have hB'27:=u73.below (bln (u67.below (bln hB'25 n66.below) g66) hb72) g1
    refine xec 9 k73 (.tuple #[.slice none 0 0,.agg #[.slice pa 1 ca,.int .i64 2]]) ?_
    have e9:Ch l (Zd l details 3 fuel).es (Zd l top 1 fuel).es data fuel i=_:=dev_6 (by omega) (by omega) (by omega) hoe (by omega) (by omega)
    exact Yb ((Yc hfd hft (by omega) hpz).trans ((Yw (i:=i) (by omega) hdk (by rw[e9];first|decide|omega)).trans (by rw[e9]))) (by first|decide|omega) rfl hB'27 hva'10
   have k45'4:=u67.blkT ((((u53.blkT ((k45'1.below hb51).below n52.below) n52.blk (by decide)).below hb57).below hb61).below n66.below) n66.blk (by decide)
   refine xb 5 0 k45'4 ?_
   refine xb 1 1 k53'1 ?_
   refine xb 1 2 k53'1 ?_
   refine xb 1 3 k53'1 ?_
   refine xbs 2 1 [.int .i64 (((Zd l details 3 fuel).es.getD i Zi).1),.int .i64 (↑(Yi ((Zd l details 3 fuel).es.getD i Zi).2.1 1):Int),.int .i64 (↑(Yi ((Zd l details 3 fuel).es.getD i Zi).2.1 2):Int),.int .i64 (↑(Yi ((Zd l details 3 fuel).es.getD i Zi).2.1 3):Int),.slice po ((Ys l ((Zd l top 1 fuel).es.getD i Zi) data fuel).2.2.length) co] 82 fun b74 W74 n74=>?_
   have hB'28:=u67.below (bln hB'25 n66.below) g66
   have g74:=n74.ge hB'28
   have ho'1:=u67.own2 (Za (Za (Za (u53.own2 (Za (Za (u47.own2 (Za (u45.own2 (Za ho n44.below) n44.blk (by decide)) n46.below) n46.blk (by decide)) hb51) n52.below) n52.blk (by decide)) hb57) hb61) n66.below) n66.blk (by decide)
   have r74_ho:=Zp ho'1 n74
   have ho'2:=Za ho'1 n74.below
   have hB'29:=bln hB'28 n74.below
   refine xbi 0 fun _ _ _ _ zJ zQ zo zx zy zK=>Zt (m:=1) (news:=[.int .i64 (((Zd l details 3 fuel).es.getD i Zi).1),.int .i64 (↑(Yi ((Zd l details 3 fuel).es.getD i Zi).2.1 1):Int),.int .i64 (↑(Yi ((Zd l details 3 fuel).es.getD i Zi).2.1 2):Int),.int .i64 (↑(Yi ((Zd l details 3 fuel).es.getD i Zi).2.1 3):Int),.slice po ((Ys l ((Zd l top 1 fuel).es.getD i Zi) data fuel).2.2.length) co]) (.agg #[.int .i64 0,.int .i64 0,.int .i64 0,.int .i64 0,.slice none 0 0]) 5 56 (i+1) (((Z++[(Zcz l ((Zd l details 3 fuel).es.getD i Zi) ((Zd l top 1 fuel).es.getD i Zi) data fuel,po,co)]).flatMap Ll)) zo Tryz.underlying24 (by kernel_rfl) rfl (by decide) zx ho'2 zy (n74.blk.sl 1 1 (by decide) (by decide)) rfl (by simp[Value.oneCell']) (by unfold maxLen;omega) (by omega) hB'29.size (rfl) (by rw[List.flatMap_append];rfl) fun px75 cx75 W75 o75 hg75 hb75=>?_
   refine zK _ _ ?_
   refine xwm 6 ((↑i:Int)+1) (↑(i+1):Int) ?_
   have hMo'1:=((((((((((((hMo.below n44.below).only (Ze.of_upd (T:=[74]) u45 n44.blk (by decide)) (by decide)).below n46.below).only (Ze.of_upd (T:=[74]) u47 n46.blk (by decide)) (by decide)).below hb51).below n52.below).only (Ze.of_upd (T:=[79]) u53 n52.blk (by decide)) (by decide)).below hb57).below hb61).below n66.below).only (Ze.of_upd (T:=[33]) u67 n66.blk (by decide)) (by decide)).below n74.below).only (Ze.of_grown (T:=[82]) hg75 ho'2 (by decide)) (by decide)
   have hom'1:=Zh (Za (u67.own2 (Za (Zf hom hs61) n66.below) n66.blk (by decide)) n74.below) hg75 ho'2 (by decide)
   have hB'30:=hB'29.trans hb75
   have k42_b1'9:=((u67.blk (k42_b1'6.below n66.below) (Ne.symm (Ne.symm d66_b1))).below n74.below).grown hg75 ho'2 (by decide)
   have k42_b8'1:=((u67.blkT ((((u53.blkT (((u47.blkT ((u45.blkT (k42_b8.below n44.below) n44.blk (by decide)).below n46.below) n46.blk (by decide)).below hb51).below n52.below) n52.blk (by decide)).below hb57).below hb61).below n66.below) n66.blk (by decide)).below n74.below).grown hg75 ho'2 (by decide)
   have k42_b9'3:=((u67.blk (k42_b9'2.below n66.below) (Ne.symm (Ne.symm d66_b9))).below n74.below).grown hg75 ho'2 (by decide)
   have k42_b18'2:=((u67.blkT ((((u53.blkT (((u47.blkT (k42_b18'1.below n46.below) n46.blk (by decide)).below hb51).below n52.below) n52.blk (by decide)).below hb57).below hb61).below n66.below) n66.blk (by decide)).below n74.below).grown hg75 ho'2 (by decide)
   have k42_b19'3:=((u67.blk (k42_b19'2.below n66.below) (Ne.symm (Ne.symm d66_b19))).below n74.below).grown hg75 ho'2 (by decide)
   have hd'5:=Zh (Za (u67.own2 (Za (Za (Za (u53.own2 (Za (Za (u47.own3 (Za hd'4 n46.below) r46_hd) hb51) n52.below) n52.blk (by decide)) hb57) hb61) n66.below) n66.blk (by decide)) n74.below) hg75 ho'2 (by decide)
   have ht'5:=Zh (Za (u67.own2 (Za (Za (Za (u53.own2 (Za (Za (u47.own3 (Za ht'4 n46.below) r46_ht) hb51) n52.below) n52.blk (by decide)) hb57) hb61) n66.below) n66.blk (by decide)) n74.below) hg75 ho'2 (by decide)
   exact ze 2 (hJ42 _ _ _ ⟨i+1,_,_,Z++[(Zcz l ((Zd l details 3 fuel).es.getD i Zi) ((Zd l top 1 fuel).es.getD i Zi) data fuel,po,co)],rfl,rfl,hB'30,k42_b1'9,k42_b8'1,k42_b9'3,k42_b18'2,k42_b19'3,hd'5,ht'5,o75,(hMo'1.snoc (d:=Zcz l ((Zd l details 3 fuel).es.getD i Zi) ((Zd l top 1 fuel).es.getD i Zi) data fuel) rfl hom'1),by omega,by simp[hZl],by rw[List.map_append,hZd,Md];rfl,Mf hdk (by unfold Ch;rw[dev_7 (by omega) (by omega) (by omega) hoe (by omega) (by omega)]),by simp only[Au];omega⟩ (by omega))
  refine xsv 10 k42_b1 [.slice none 0 0,.int .i64 0] fun W76 u76 k76=>?_
  have g1:=n1.ge (Below.refl w.heap.size _)
  have hMo'2:=hMo.only (Ze.of_upd (T:=[33]) u76 k42_b1 (by decide)) (by decide)
  have hB'31:=u76.below hB_42 g1
  have ho'3:=u76.own2 ho k42_b1 (by decide)
  refine xec 3 k76 (.tuple #[.slice pz i cp,.agg #[.slice none 0 0,.int .i64 0]]) ?_
  obtain rfl:i=(Zd l details 3 fuel).es.length:=by omega
  exact Zdq ((Yc hfd hft (by omega) hpz).trans (Mi hdk)) hZl hZd hB'31 hMo'2 ho'3
 have hl77:=hc27
 refine xi 19 (Qp (Zd l top 1 fuel).es (Zd l details 3 fuel).es) (fun hc78=>?_) (fun hc78=>?_)
 ·have hl79:=hc78
  refine xc 3 (args:=#[.int .i64 details,.int .i64 18]) (Xv details 18 _ (by omega)) ?_
  rintro _ W80 ⟨pa,ca,rfl,hb80,hva⟩
  have hs80:=(bln (bln (u21.below (u20.below (bln hB'11 n19.below) g18) g19) hb25) hb26).size
  have k1'10:=(((u21.blk (u20.blkT (k1'4.below n19.below) k18 (by decide)) (Ne.symm (Ne.symm d19_b1))).below hb25).below hb26).below hb80
  refine xsv 1 k1'10 [.slice pa 1 ca,.int .i64 18] fun W81 u81 k81=>?_
  have g1:=n1.ge (Below.refl w.heap.size _)
  have hva'11:=u81.own2 (Zf hva hs80) k1'10 (by decide)
  have hB'32:=u81.below (bln (bln (bln (u21.below (u20.below (bln hB'11 n19.below) g18) g19) hb25) hb26) hb80) g1
  refine xec 4 k81 (.tuple #[.slice none 0 0,.agg #[.slice pa 1 ca,.int .i64 18]]) ?_
  have hp1:Yu (Zd l details 3 fuel).es (Zd l top 1 fuel).es=1:=lone_p1 hlc (by assumption) (by first|exact .inl (by assumption)|exact .inr (by assumption))
  exact Yb (Cl hfd hft (by omega) hp1) (by decide) rfl hB'32 hva'11
 have hl82:=hc78
 have hpz:Yu (Zd l details 3 fuel).es (Zd l top 1 fuel).es=0:=lone_p0 hlc (by assumption) (by first|exact .inl (by assumption)|exact .inr (by assumption))
 have hnl:=(Lj hpz).1
 have hd'6:=Za hd'2 hb26
 have ht'6:=Za ht'2 hb26
 have hB'33:=bln (bln (u21.below (u20.below (bln hB'11 n19.below) g18) g19) hb25) hb26
 have k1'11:=((u21.blk (u20.blkT (k1'4.below n19.below) k18 (by decide)) (Ne.symm (Ne.symm d19_b1))).below hb25).below hb26
 have k10'6:=k10'4.below hb26
 have k11'4:=((u21.blk (u20.blkT (k11'2.below n19.below) k18 (by decide)) (Ne.symm (Ne.symm d19_b9))).below hb25).below hb26
 have k20'4:=k20'2.below hb26
 have k21'2:=(k21.below hb25).below hb26
 refine zl 19 184 (fun zm zkv V=>∃ (i:Nat) (pz:Option Addr) (cp:Nat) (Z:List Zv),zkv=[(0,.pointer (some ⟨bm,0,none⟩)),(3,.int .i64 data),(4,.int .i64 fuel),(11,.pointer (some ⟨b1,0,none⟩)),(12,.pointer (some ⟨b8,0,none⟩)),(14,.pointer (some ⟨b18,0,none⟩)),(20,.slice pz i cp),(21,.int .i64 (↑(Au l (Zd l top 1 fuel).es data fuel i):Int)),(22,.int .i64 (↑i:Int))]∧zm=(Zd l details 3 fuel).es.length-((↑i:Int)).toNat∧Below w.heap.size w V∧Blk V b1 ([.slice none 0 0,.int .i64 0]) 33∧Blk V b8 ([.slice pd ((Zd l details 3 fuel).es.length) cd,.slice pb2 nb2 cb2,.int .i64 dp2,.int .i64 lk2,.slice pf2 nf2 cf2]) 106∧Blk V b9 ([.slice a2 0 d2,.int .i64 0]) 33∧Blk V b18 ([.slice pt ((Zd l top 1 fuel).es.length) ct,.slice pb12 nb12 cb12,.int .i64 dp12,.int .i64 lk12,.slice pf12 nf12 cf12]) 106∧Blk V b19 ([.slice a12 0 d12,.int .i64 0]) 33∧V.ownsRow w.heap.size 74 3 (.slice pd (Zd l details 3 fuel).es.length cd) (Zd l details 3 fuel).es.length ((Zd l details 3 fuel).es.flatMap Ky)∧V.ownsRow w.heap.size 74 3 (.slice pt (Zd l top 1 fuel).es.length ct) (Zd l top 1 fuel).es.length ((Zd l top 1 fuel).es.flatMap Ky)∧V.ownsRow w.heap.size 82 5 (.slice pz i cp) i (Z.flatMap Ll)∧Xs w.heap.size V Z∧i≤(Zd l details 3 fuel).es.length∧Z.length=i∧Z.map Prod.fst=devL l (Zd l details 3 fuel).es (Zd l top 1 fuel).es data fuel i∧devK l (Zd l details 3 fuel).es (Zd l top 1 fuel).es data fuel i∧(Au l (Zd l top 1 fuel).es data fuel i)≤16384) ⟨0,none,0,[],rfl,rfl,hB'33,k1'11,k10'6,k11'4,k20'4,k21'2,hd'6,ht'6,World.ownsRow_nil _ _ _ _,Xs.nil _ _,Nat.zero_le _,rfl,rfl,fun j hj=>absurd hj (by omega),Nat.zero_le _⟩ ?_
 rintro _ _ W83 ⟨i,pz,cp,Z,rfl,rfl,hB_83,k83_b1,k83_b8,k83_b9,k83_b18,k83_b19,hd,ht,ho,hMo,hi,hZl,hZd,hdk,hsm⟩ J83 hJ83 r83
 refine xb 5 0 k83_b8 ?_
 refine xid 4 ((↑i:Int)<(↑((Zd l details 3 fuel).es.length):Int)) (fun hc84=>?_) (fun hc84=>?_)
 ·refine xb 7 0 k83_b8 ?_
  refine xx 1 _ ((Zd l details 3 fuel).es.length) i 3 (Sts.cell (f:=Ky) (Zg hd) Xm Zi (k:=i) (i:=0) (by omega) rfl).1 ?_
  refine xlv 0 (Sts.rp (k:=i) (Zg hd) Xm Zi (by omega) (by decide)) ?_
  refine xa 0 [.int .i64 0,.string ⟨#[]⟩,.int .i64 0] 74 fun b85 W85 n85=>?_
  have g85:=n85.ge hB_83
  have r85_hd:=Zp hd n85
  have r85_ht:=Zp ht n85
  refine xsv 0 n85.blk [.int .i64 (((Zd l details 3 fuel).es.getD i Zi).1),.string ⟨(((Zd l details 3 fuel).es.getD i Zi).2.1).toArray⟩,.int .i64 (((Zd l details 3 fuel).es.getD i Zi).2.2)] fun W86 u86 k86=>?_
  have k83_b18'1:=u86.blkT (k83_b18.below n85.below) n85.blk (by decide)
  refine xb 5 0 k83_b18'1 ?_
  have ht'7:=u86.own3 (Za ht n85.below) r85_ht
  refine xx 1 _ ((Zd l top 1 fuel).es.length) i 3 (Sts.cell (f:=Ky) (Zg ht'7) Xm Zi (k:=i) (i:=0) (by omega) rfl).1 ?_
  refine xlv 0 (Sts.rp (k:=i) (Zg ht'7) Xm Zi (by omega) (by decide)) ?_
  refine xa 0 [.int .i64 0,.string ⟨#[]⟩,.int .i64 0] 74 fun b87 W87 n87=>?_
  have d87_b85:=n87.ne k86
  have hB'34:=u86.below (bln hB_83 n85.below) g85
  have g87:=n87.ge hB'34
  have hd'7:=u86.own3 (Za hd n85.below) r85_hd
  have r87_hd:=Zp hd'7 n87
  have r87_ht:=Zp ht'7 n87
  refine xsv 0 n87.blk [.int .i64 (((Zd l top 1 fuel).es.getD i Zi).1),.string ⟨(((Zd l top 1 fuel).es.getD i Zi).2.1).toArray⟩,.int .i64 (((Zd l top 1 fuel).es.getD i Zi).2.2)] fun W88 u88 k88=>?_
  have k86'1:=u88.blk (k86.below n87.below) (Ne.symm (Ne.symm d87_b85))
  refine xb 6 0 k86'1 ?_
  refine xid 3 (((Zd l details 3 fuel).es.getD i Zi).1>(16777215:Int)) (fun hc89=>?_) (fun hc89=>?_)
  ·refine xb 3 2 k86'1 ?_
   refine xc 0 (args:=#[.int .i64 (((Zd l details 3 fuel).es.getD i Zi).2.2),.int .i64 9]) (Xv (((Zd l details 3 fuel).es.getD i Zi).2.2) 9 _ (by omega)) ?_
   rintro _ W90 ⟨pa,ca,rfl,hb90,hva⟩
   have hs90:=(u88.below (bln hB'34 n87.below) g87).size
   have k83_b1'1:=(u88.blkT ((u86.blkT (k83_b1.below n85.below) n85.blk (by decide)).below n87.below) n87.blk (by decide)).below hb90
   refine xsv 1 k83_b1'1 [.slice pa 1 ca,.int .i64 9] fun W91 u91 k91=>?_
   have g1:=n1.ge (Below.refl w.heap.size _)
   have hva'12:=u91.own2 (Zf hva hs90) k83_b1'1 (by decide)
   have hB'35:=u91.below (bln (u88.below (bln hB'34 n87.below) g87) hb90) g1
   refine xec 9 k91 (.tuple #[.slice none 0 0,.agg #[.slice pa 1 ca,.int .i64 9]]) ?_
   have e9:Ch l (Zd l details 3 fuel).es (Zd l top 1 fuel).es data fuel i=_:=dev_1 (by omega)
   exact Yb ((Yc hfd hft (by omega) hpz).trans ((Yw (i:=i) (by omega) hdk (by rw[e9];first|decide|omega)).trans (by rw[e9]))) (by first|decide|omega) rfl hB'35 hva'12
  refine xb 5 1 k86'1 ?_
  refine xr 0 (args:=#[.string ⟨(((Zd l details 3 fuel).es.getD i Zi).2.1).toArray⟩]) (Un ((Zd l details 3 fuel).es.getD i Zi).2.1 _ (Qc _ _ _ _ i (by omega))) fun W92 hb92=>?_
  refine xa 3 [.int .i64 0,.int .i64 0,.int .i64 0,.int .i64 0] 79 fun b93 W93 n93=>?_
  have hB'36:=bln (u88.below (bln hB'34 n87.below) g87) hb92
  have g93:=n93.ge hB'36
  refine xsv 0 n93.blk [.int .i64 (↑(Yi ((Zd l details 3 fuel).es.getD i Zi).2.1 0):Int),.int .i64 (↑(Yi ((Zd l details 3 fuel).es.getD i Zi).2.1 1):Int),.int .i64 (↑(Yi ((Zd l details 3 fuel).es.getD i Zi).2.1 2):Int),.int .i64 (↑(Yi ((Zd l details 3 fuel).es.getD i Zi).2.1 3):Int)] fun W94 u94 k94=>?_
  refine xin 10 (Xl Kv ((Zd l details 3 fuel).es.getD i Zi).2.1) (0:Int) (fun hc95=>?_) (fun hc95=>?_)
  ·have k86'2:=u94.blkT ((k86'1.below hb92).below n93.below) n93.blk (by decide)
   refine xb 3 2 k86'2 ?_
   refine xc 1 (args:=#[.int .i64 (((Zd l details 3 fuel).es.getD i Zi).2.2),.int .i64 (Xl Kv ((Zd l details 3 fuel).es.getD i Zi).2.1)]) (Xv (((Zd l details 3 fuel).es.getD i Zi).2.2) (Xl Kv ((Zd l details 3 fuel).es.getD i Zi).2.1) _ (by omega)) ?_
   rintro _ W96 ⟨pa,ca,rfl,hb96,hva⟩
   have hs96:=(u94.below (bln hB'36 n93.below) g93).size
   have k83_b1'2:=(u94.blkT (((u88.blkT ((u86.blkT (k83_b1.below n85.below) n85.blk (by decide)).below n87.below) n87.blk (by decide)).below hb92).below n93.below) n93.blk (by decide)).below hb96
   refine xsv 1 k83_b1'2 [.slice pa 1 ca,.int .i64 (Xl Kv ((Zd l details 3 fuel).es.getD i Zi).2.1)] fun W97 u97 k97=>?_
   have g1:=n1.ge (Below.refl w.heap.size _)
   have hva'13:=u97.own2 (Zf hva hs96) k83_b1'2 (by decide)
   have hB'37:=u97.below (bln (u94.below (bln hB'36 n93.below) g93) hb96) g1
   refine xec 9 k97 (.tuple #[.slice none 0 0,.agg #[.slice pa 1 ca,.int .i64 (Xl Kv ((Zd l details 3 fuel).es.getD i Zi).2.1)]]) ?_
   have e9:Ch l (Zd l details 3 fuel).es (Zd l top 1 fuel).es data fuel i=_:=dev_2 (by omega) (by omega)
   exact Yb ((Yc hfd hft (by omega) hpz).trans ((Yw (i:=i) (by omega) hdk (by rw[e9];first|decide|omega)).trans (by rw[e9]))) (by first|decide|omega) rfl hB'37 hva'13
  have k88'1:=u94.blkT ((k88.below hb92).below n93.below) n93.blk (by decide)
  refine xb 5 1 k88'1 ?_
  refine xr 0 (args:=#[.string ⟨(((Zd l top 1 fuel).es.getD i Zi).2.1).toArray⟩]) (Gl ((Zd l top 1 fuel).es.getD i Zi).2.1 _ (Qc _ _ _ _ i (by omega))) fun W98 hb98=>?_
  refine xin 14 (Xw ((Zd l top 1 fuel).es.getD i Zi).2.1) (0:Int) (fun hc99=>?_) (fun hc99=>?_)
  ·have k88'2:=k88'1.below hb98
   refine xb 3 2 k88'2 ?_
   refine xc 1 (args:=#[.int .i64 (((Zd l top 1 fuel).es.getD i Zi).2.2),.int .i64 (Xw ((Zd l top 1 fuel).es.getD i Zi).2.1)]) (Xv (((Zd l top 1 fuel).es.getD i Zi).2.2) (Xw ((Zd l top 1 fuel).es.getD i Zi).2.1) _ (by omega)) ?_
   rintro _ W100 ⟨pa,ca,rfl,hb100,hva⟩
   have hs100:=(bln (u94.below (bln hB'36 n93.below) g93) hb98).size
   have k83_b1'3:=((u94.blkT (((u88.blkT ((u86.blkT (k83_b1.below n85.below) n85.blk (by decide)).below n87.below) n87.blk (by decide)).below hb92).below n93.below) n93.blk (by decide)).below hb98).below hb100
   refine xsv 1 k83_b1'3 [.slice pa 1 ca,.int .i64 (Xw ((Zd l top 1 fuel).es.getD i Zi).2.1)] fun W101 u101 k101=>?_
   have g1:=n1.ge (Below.refl w.heap.size _)
   have hva'14:=u101.own2 (Zf hva hs100) k83_b1'3 (by decide)
   have hB'38:=u101.below (bln (bln (u94.below (bln hB'36 n93.below) g93) hb98) hb100) g1
   refine xec 9 k101 (.tuple #[.slice none 0 0,.agg #[.slice pa 1 ca,.int .i64 (Xw ((Zd l top 1 fuel).es.getD i Zi).2.1)]]) ?_
   have e9:Ch l (Zd l details 3 fuel).es (Zd l top 1 fuel).es data fuel i=_:=dev_3 (by omega) (by omega) (by omega)
   exact Yb ((Yc hfd hft (by omega) hpz).trans ((Yw (i:=i) (by omega) hdk (by rw[e9];first|decide|omega)).trans (by rw[e9]))) (by first|decide|omega) rfl hB'38 hva'14
  have hB'39:=bln (u94.below (bln hB'36 n93.below) g93) hb98
  refine xc 8 (args:=#[.pointer (some ⟨bm,0,none⟩),.int .i64 (↑(Yz ((Zd l top 1 fuel).es.getD i Zi).2.1):Int),.int .i64 data,.int .i64 fuel]) (Ed B bm p k c l data fuel ((Zd l top 1 fuel).es.getD i Zi) _ (hI.below hB'39) hfu) ?_
  rintro e W102 hq102
  rcases hq102 with ⟨hoe,a8,d8,rfl,hb102,hf8⟩|⟨hoe,po,co,rfl,hb102,hom⟩
  ·have hs102:=(bln (u94.below (bln hB'36 n93.below) g93) hb98).size
   refine xa 3 [.slice none 0 0,.int .i64 0] 33 fun b103 W103 n103=>?_
   have k83_b1'4:=((u94.blkT (((u88.blkT ((u86.blkT (k83_b1.below n85.below) n85.blk (by decide)).below n87.below) n87.blk (by decide)).below hb92).below n93.below) n93.blk (by decide)).below hb98).below hb102
   have d103_b1:=n103.ne k83_b1'4
   have k83_b9'1:=((u94.blkT (((u88.blkT ((u86.blkT (k83_b9.below n85.below) n85.blk (by decide)).below n87.below) n87.blk (by decide)).below hb92).below n93.below) n93.blk (by decide)).below hb98).below hb102
   have d103_b9:=n103.ne k83_b9'1
   have k83_b19'1:=((u94.blkT (((u88.blkT ((u86.blkT (k83_b19.below n85.below) n85.blk (by decide)).below n87.below) n87.blk (by decide)).below hb92).below n93.below) n93.blk (by decide)).below hb98).below hb102
   have d103_b19:=n103.ne k83_b19'1
   have hB'40:=bln hB'39 hb102
   have g103:=n103.ge hB'40
   refine xsv 1 n103.blk [.slice a8 ((Ys l ((Zd l top 1 fuel).es.getD i Zi) data fuel).1.length) d8,.int .i64 ((Ys l ((Zd l top 1 fuel).es.getD i Zi) data fuel).2.1)] fun W104 u104 k104=>?_
   refine xb 6 1 k104 ?_
   refine xk 3 (show(((Ys l ((Zd l top 1 fuel).es.getD i Zi) data fuel).2.1 != (0:Int)):Bool)=true from bne_iff_ne.2 hoe) ?_
   have k88'3:=u104.blkT (((k88'1.below hb98).below hb102).below n103.below) n103.blk (by decide)
   refine xb 3 2 k88'3 ?_
   refine xlv 0 k104.rp ?_
   have hf8'2:=u104.own2 (Za (Zf hf8 hs102) n103.below) n103.blk (by decide)
   refine xc 0 (args:=#[.int .i64 (((Zd l top 1 fuel).es.getD i Zi).2.2),.agg #[.slice a8 ((Ys l ((Zd l top 1 fuel).es.getD i Zi) data fuel).1.length) d8,.int .i64 ((Ys l ((Zd l top 1 fuel).es.getD i Zi) data fuel).2.1)]]) (Fg ((Zd l top 1 fuel).es.getD i Zi).2.2 (Ys l ((Zd l top 1 fuel).es.getD i Zi) data fuel).2.1 a8 (Ys l ((Zd l top 1 fuel).es.getD i Zi) data fuel).1.length d8 (Ys l ((Zd l top 1 fuel).es.getD i Zi) data fuel).1 _ hoe rfl (Nat.le_trans (Zb2 _ _ _ _) (by decide)) (Zg hf8'2)) ?_
   rintro _ W105 ⟨_,rfl,hb105,pa,ca,rfl,hva⟩
   have hs105:=(u104.below (bln hB'40 n103.below) g103).size
   have k83_b1'5:=(u104.blk (k83_b1'4.below n103.below) (Ne.symm (Ne.symm d103_b1))).below hb105
   refine xsv 1 k83_b1'5 [.slice pa ((Ys l ((Zd l top 1 fuel).es.getD i Zi) data fuel).1.length+1) ca,.int .i64 ((Ys l ((Zd l top 1 fuel).es.getD i Zi) data fuel).2.1)] fun W106 u106 k106=>?_
   have g1:=n1.ge (Below.refl w.heap.size _)
   have hva'15:=u106.own2 (Zf hva hs105) k83_b1'5 (by decide)
   have hB'41:=u106.below (bln (u104.below (bln hB'40 n103.below) g103) hb105) g1
   refine xec 9 k106 (.tuple #[.slice none 0 0,.agg #[.slice pa ((Ys l ((Zd l top 1 fuel).es.getD i Zi) data fuel).1.length+1) ca,.int .i64 ((Ys l ((Zd l top 1 fuel).es.getD i Zi) data fuel).2.1)]]) ?_
   have e9:Ch l (Zd l details 3 fuel).es (Zd l top 1 fuel).es data fuel i=_:=dev_4 (by omega) (by omega) (by omega) hoe
   exact Yb ((Yc hfd hft (by omega) hpz).trans ((Yw (i:=i) (by omega) hdk (by rw[e9];first|decide|omega)).trans (by rw[e9]))) (by first|decide|omega) rfl hB'41 hva'15
  have hs102:=(bln (u94.below (bln hB'36 n93.below) g93) hb98).size
  have hfo:=Zao l ((Zd l top 1 fuel).es.getD i Zi) data fuel hfu
  refine xa 3 [.slice none 0 0,.int .i64 0] 33 fun b107 W107 n107=>?_
  have k83_b1'6:=((u94.blkT (((u88.blkT ((u86.blkT (k83_b1.below n85.below) n85.blk (by decide)).below n87.below) n87.blk (by decide)).below hb92).below n93.below) n93.blk (by decide)).below hb98).below hb102
  have d107_b1:=n107.ne k83_b1'6
  have k83_b9'2:=((u94.blkT (((u88.blkT ((u86.blkT (k83_b9.below n85.below) n85.blk (by decide)).below n87.below) n87.blk (by decide)).below hb92).below n93.below) n93.blk (by decide)).below hb98).below hb102
  have d107_b9:=n107.ne k83_b9'2
  have k83_b19'2:=((u94.blkT (((u88.blkT ((u86.blkT (k83_b19.below n85.below) n85.blk (by decide)).below n87.below) n87.blk (by decide)).below hb92).below n93.below) n93.blk (by decide)).below hb98).below hb102
  have d107_b19:=n107.ne k83_b19'2
  have hB'42:=bln hB'39 hb102
  have g107:=n107.ge hB'42
  refine xsv 1 n107.blk [.slice none 0 0,.int .i64 0] fun W108 u108 k108=>?_
  refine xb 6 1 k108 ?_
  have k94'1:=u108.blkT (((k94.below hb98).below hb102).below n107.below) n107.blk (by decide)
  refine xb 10 0 k94'1 ?_
  refine xin 5 (↑(Yi ((Zd l details 3 fuel).es.getD i Zi).2.1 0):Int) (↑((Ys l ((Zd l top 1 fuel).es.getD i Zi) data fuel).2.2.length):Int) (fun hc109=>?_) (fun hc109=>?_)
  ·have k86'3:=u108.blkT ((((u94.blkT ((k86'1.below hb92).below n93.below) n93.blk (by decide)).below hb98).below hb102).below n107.below) n107.blk (by decide)
   refine xb 3 2 k86'3 ?_
   refine xc 0 (args:=#[.int .i64 (((Zd l details 3 fuel).es.getD i Zi).2.2),.int .i64 13]) (Xv (((Zd l details 3 fuel).es.getD i Zi).2.2) 13 _ (by omega)) ?_
   rintro _ W110 ⟨pa,ca,rfl,hb110,hva⟩
   have hs110:=(u108.below (bln hB'42 n107.below) g107).size
   have k83_b1'7:=(u108.blk (k83_b1'6.below n107.below) (Ne.symm (Ne.symm d107_b1))).below hb110
   refine xsv 1 k83_b1'7 [.slice pa 1 ca,.int .i64 13] fun W111 u111 k111=>?_
   have g1:=n1.ge (Below.refl w.heap.size _)
   have hva'16:=u111.own2 (Zf hva hs110) k83_b1'7 (by decide)
   have hB'43:=u111.below (bln (u108.below (bln hB'42 n107.below) g107) hb110) g1
   refine xec 9 k111 (.tuple #[.slice none 0 0,.agg #[.slice pa 1 ca,.int .i64 13]]) ?_
   have e9:Ch l (Zd l details 3 fuel).es (Zd l top 1 fuel).es data fuel i=_:=dev_5 (by omega) (by omega) (by omega) hoe (by omega)
   exact Yb ((Yc hfd hft (by omega) hpz).trans ((Yw (i:=i) (by omega) hdk (by rw[e9];first|decide|omega)).trans (by rw[e9]))) (by first|decide|omega) rfl hB'43 hva'16
  refine xwm 7 ((↑(Au l (Zd l top 1 fuel).es data fuel i):Int)+(↑((Ys l ((Zd l top 1 fuel).es.getD i Zi) data fuel).2.2.length):Int)) (↑((Au l (Zd l top 1 fuel).es data fuel i)+((Ys l ((Zd l top 1 fuel).es.getD i Zi) data fuel).2.2.length)):Int) ?_
  refine xid 10 ((↑((Au l (Zd l top 1 fuel).es data fuel i)+((Ys l ((Zd l top 1 fuel).es.getD i Zi) data fuel).2.2.length)):Int)>(16384:Int)) (fun hc112=>?_) (fun hc112=>?_)
  ·have k88'4:=u108.blkT (((k88'1.below hb98).below hb102).below n107.below) n107.blk (by decide)
   refine xb 3 2 k88'4 ?_
   refine xc 0 (args:=#[.int .i64 (((Zd l top 1 fuel).es.getD i Zi).2.2),.int .i64 2]) (Xv (((Zd l top 1 fuel).es.getD i Zi).2.2) 2 _ (by omega)) ?_
   rintro _ W113 ⟨pa,ca,rfl,hb113,hva⟩
   have hs113:=(u108.below (bln hB'42 n107.below) g107).size
   have k83_b1'8:=(u108.blk (k83_b1'6.below n107.below) (Ne.symm (Ne.symm d107_b1))).below hb113
   refine xsv 1 k83_b1'8 [.slice pa 1 ca,.int .i64 2] fun W114 u114 k114=>?_
   have g1:=n1.ge (Below.refl w.heap.size _)
   have hva'17:=u114.own2 (Zf hva hs113) k83_b1'8 (by decide)
   have hB'44:=u114.below (bln (u108.below (bln hB'42 n107.below) g107) hb113) g1
   refine xec 9 k114 (.tuple #[.slice none 0 0,.agg #[.slice pa 1 ca,.int .i64 2]]) ?_
   have e9:Ch l (Zd l details 3 fuel).es (Zd l top 1 fuel).es data fuel i=_:=dev_6 (by omega) (by omega) (by omega) hoe (by omega) (by omega)
   exact Yb ((Yc hfd hft (by omega) hpz).trans ((Yw (i:=i) (by omega) hdk (by rw[e9];first|decide|omega)).trans (by rw[e9]))) (by first|decide|omega) rfl hB'44 hva'17
  have k86'4:=u108.blkT ((((u94.blkT ((k86'1.below hb92).below n93.below) n93.blk (by decide)).below hb98).below hb102).below n107.below) n107.blk (by decide)
  refine xb 5 0 k86'4 ?_
  refine xb 1 1 k94'1 ?_
  refine xb 1 2 k94'1 ?_
  refine xb 1 3 k94'1 ?_
  refine xbs 2 1 [.int .i64 (((Zd l details 3 fuel).es.getD i Zi).1),.int .i64 (↑(Yi ((Zd l details 3 fuel).es.getD i Zi).2.1 1):Int),.int .i64 (↑(Yi ((Zd l details 3 fuel).es.getD i Zi).2.1 2):Int),.int .i64 (↑(Yi ((Zd l details 3 fuel).es.getD i Zi).2.1 3):Int),.slice po ((Ys l ((Zd l top 1 fuel).es.getD i Zi) data fuel).2.2.length) co] 82 fun b115 W115 n115=>?_
  have hB'45:=u108.below (bln hB'42 n107.below) g107
  have g115:=n115.ge hB'45
  have ho'4:=u108.own2 (Za (Za (Za (u94.own2 (Za (Za (u88.own2 (Za (u86.own2 (Za ho n85.below) n85.blk (by decide)) n87.below) n87.blk (by decide)) hb92) n93.below) n93.blk (by decide)) hb98) hb102) n107.below) n107.blk (by decide)
  have r115_ho:=Zp ho'4 n115
  have ho'5:=Za ho'4 n115.below
  have hB'46:=bln hB'45 n115.below
  refine xbi 0 fun _ _ _ _ zJ zQ zo zx zy zK=>Zt (m:=1) (news:=[.int .i64 (((Zd l details 3 fuel).es.getD i Zi).1),.int .i64 (↑(Yi ((Zd l details 3 fuel).es.getD i Zi).2.1 1):Int),.int .i64 (↑(Yi ((Zd l details 3 fuel).es.getD i Zi).2.1 2):Int),.int .i64 (↑(Yi ((Zd l details 3 fuel).es.getD i Zi).2.1 3):Int),.slice po ((Ys l ((Zd l top 1 fuel).es.getD i Zi) data fuel).2.2.length) co]) (.agg #[.int .i64 0,.int .i64 0,.int .i64 0,.int .i64 0,.slice none 0 0]) 5 56 (i+1) (((Z++[(Zcz l ((Zd l details 3 fuel).es.getD i Zi) ((Zd l top 1 fuel).es.getD i Zi) data fuel,po,co)]).flatMap Ll)) zo Tryz.underlying24 (by kernel_rfl) rfl (by decide) zx ho'5 zy (n115.blk.sl 1 1 (by decide) (by decide)) rfl (by simp[Value.oneCell']) (by unfold maxLen;omega) (by omega) hB'46.size (rfl) (by rw[List.flatMap_append];rfl) fun px116 cx116 W116 o116 hg116 hb116=>?_
  refine zK _ _ ?_
  refine xwm 6 ((↑i:Int)+1) (↑(i+1):Int) ?_
  have hMo'3:=((((((((((((hMo.below n85.below).only (Ze.of_upd (T:=[74]) u86 n85.blk (by decide)) (by decide)).below n87.below).only (Ze.of_upd (T:=[74]) u88 n87.blk (by decide)) (by decide)).below hb92).below n93.below).only (Ze.of_upd (T:=[79]) u94 n93.blk (by decide)) (by decide)).below hb98).below hb102).below n107.below).only (Ze.of_upd (T:=[33]) u108 n107.blk (by decide)) (by decide)).below n115.below).only (Ze.of_grown (T:=[82]) hg116 ho'5 (by decide)) (by decide)
  have hom'2:=Zh (Za (u108.own2 (Za (Zf hom hs102) n107.below) n107.blk (by decide)) n115.below) hg116 ho'5 (by decide)
  have hB'47:=hB'46.trans hb116
  have k83_b1'9:=((u108.blk (k83_b1'6.below n107.below) (Ne.symm (Ne.symm d107_b1))).below n115.below).grown hg116 ho'5 (by decide)
  have k83_b8'1:=((u108.blkT ((((u94.blkT (((u88.blkT ((u86.blkT (k83_b8.below n85.below) n85.blk (by decide)).below n87.below) n87.blk (by decide)).below hb92).below n93.below) n93.blk (by decide)).below hb98).below hb102).below n107.below) n107.blk (by decide)).below n115.below).grown hg116 ho'5 (by decide)
  have k83_b9'3:=((u108.blk (k83_b9'2.below n107.below) (Ne.symm (Ne.symm d107_b9))).below n115.below).grown hg116 ho'5 (by decide)
  have k83_b18'2:=((u108.blkT ((((u94.blkT (((u88.blkT (k83_b18'1.below n87.below) n87.blk (by decide)).below hb92).below n93.below) n93.blk (by decide)).below hb98).below hb102).below n107.below) n107.blk (by decide)).below n115.below).grown hg116 ho'5 (by decide)
  have k83_b19'3:=((u108.blk (k83_b19'2.below n107.below) (Ne.symm (Ne.symm d107_b19))).below n115.below).grown hg116 ho'5 (by decide)
  have hd'8:=Zh (Za (u108.own2 (Za (Za (Za (u94.own2 (Za (Za (u88.own3 (Za hd'7 n87.below) r87_hd) hb92) n93.below) n93.blk (by decide)) hb98) hb102) n107.below) n107.blk (by decide)) n115.below) hg116 ho'5 (by decide)
  have ht'8:=Zh (Za (u108.own2 (Za (Za (Za (u94.own2 (Za (Za (u88.own3 (Za ht'7 n87.below) r87_ht) hb92) n93.below) n93.blk (by decide)) hb98) hb102) n107.below) n107.blk (by decide)) n115.below) hg116 ho'5 (by decide)
  exact ze 2 (hJ83 _ _ _ ⟨i+1,_,_,Z++[(Zcz l ((Zd l details 3 fuel).es.getD i Zi) ((Zd l top 1 fuel).es.getD i Zi) data fuel,po,co)],rfl,rfl,hB'47,k83_b1'9,k83_b8'1,k83_b9'3,k83_b18'2,k83_b19'3,hd'8,ht'8,o116,(hMo'3.snoc (d:=Zcz l ((Zd l details 3 fuel).es.getD i Zi) ((Zd l top 1 fuel).es.getD i Zi) data fuel) rfl hom'2),by omega,by simp[hZl],by rw[List.map_append,hZd,Md];rfl,Mf hdk (by unfold Ch;rw[dev_7 (by omega) (by omega) (by omega) hoe (by omega) (by omega)]),by simp only[Au];omega⟩ (by omega))
 refine xsv 10 k83_b1 [.slice none 0 0,.int .i64 0] fun W117 u117 k117=>?_
 have g1:=n1.ge (Below.refl w.heap.size _)
 have hMo'4:=hMo.only (Ze.of_upd (T:=[33]) u117 k83_b1 (by decide)) (by decide)
 have hB'48:=u117.below hB_83 g1
 have ho'6:=u117.own2 ho k83_b1 (by decide)
 refine xec 3 k117 (.tuple #[.slice pz i cp,.agg #[.slice none 0 0,.int .i64 0]]) ?_
 obtain rfl:i=(Zd l details 3 fuel).es.length:=by omega
 exact Zdq ((Yc hfd hft (by omega) hpz).trans (Mi hdk)) hZl hZd hB'48 hMo'4 ho'6
theorem told_O(bl:List Int)(er:Int)(v:Value)(w:World)(hlen:bl.length≤41)(hg:Zgi w)(hv:Vu w (bl.map some) (some er) v):Calls Tryz.prog 14 #[v] w (Vx (fun w' r=>FltV w' r bl er) w):=by
 have:=Sc (some er) (bl.map some) v w (by rw[List.length_map];omega) hg hv
 rwa [Za5,Tw] at this
theorem told_0(w:World)(hg:Zgi w):Calls Tryz.prog 14 #[.nilIface] w (Vx (fun w' r=>FltV w' r [] 0) w):=Sc none [] .nilIface w (by decide) hg rfl
theorem Ou(l:List UInt8)(root tree fuel:Int):(Xo (Zd l root tree fuel)).1.length≤40:=by
 by_cases h:(Zd l root tree fuel).fs=[]
 ·rw[(Hy h).2.1];exact Nat.zero_le _
 ·rw[(Qe h).2.1];exact Nat.le_trans (Oc l root tree fuel _ (Eo (List.length_pos_iff.2 h))) (by decide)
theorem devE_len(l:List UInt8)(x y:Ent)(data fuel:Int)(sum:Nat):(Cs l x y data fuel sum).1.length≤41:=by
 have:=Zb2 l y data fuel
 unfold Cs
 repeat' split
 all_goals first|(simp only[List.length_cons];omega)|simp
theorem devsO_len(l:List UInt8)(top details data fuel:Int):(Qv l top details data fuel).1.length≤41:=by
 have h1:=Ou l details 3 fuel
 have h2:=Ou l top 1 fuel
 unfold Qv
 split
 ·exact Nat.le_succ_of_le h1
 ·split
  ·exact Nat.le_succ_of_le h2
  ·split
   ·simp
   ·split
    ·simp
    ·split
     ·simp
     ·unfold Zbw
      split
      ·exact devE_len _ _ _ _ _ _
      ·simp
def Pd(O:List Int×Int×List Dv)(V:World)(p:Option Addr)(c:Nat)(Z:List Zv):Prop:=Z.length=O.2.2.length∧Z.map Prod.fst=O.2.2∧Xs 0 V Z∧V.ownsRow 0 82 5 (.slice p O.2.2.length c) O.2.2.length (Z.flatMap Ll)
theorem Pd.below{O:List Int×Int×List Dv}{V W:World}{p:Option Addr}{c:Nat}{Z:List Zv}(h:Pd O V p c Z)(hb:Below V.heap.size V W):Pd O W p c Z:=⟨h.1,h.2.1,h.2.2.1.below hb,Za h.2.2.2 hb⟩
theorem Pd.only{O:List Int×Int×List Dv}{V W:World}{p:Option Addr}{c:Nat}{Z:List Zv}{T:List TypeId}(h:Pd O V p c Z)(hO:Ze T V W)(hT:(T.contains 84||T.contains 82)=false):Pd O W p c Z:=by
 rw[Bool.or_eq_false_iff] at hT
 exact⟨h.1,h.2.1,h.2.2.1.only hO hT.1,Zl h.2.2.2 hO hT.2⟩
theorem Pd.read{O:List Int×Int×List Dv}{V:World}{p:Option Addr}{c:Nat}{Z:List Zv}(h:Pd O V p c Z):DevsR V p c Z:=by
 have ho:=h.2.2.2
 rw[←h.1] at ho
 exact devs_read h.2.2.1 ho
theorem Zdk{O:List Int×Int×List Dv}{V:World}{B:Nat}{p:Option Addr}{c:Nat}{Z:List Zv}(hZ:Z.map Prod.fst=O.2.2)(hM:Xs B V Z)(ho:V.ownsRow B 82 5 (.slice p O.2.2.length c) O.2.2.length (Z.flatMap Ll)):Pd O V p c Z:=by
 have hl:Z.length=O.2.2.length:=by rw[←hZ,List.length_map]
 exact⟨hl,hZ,hM.mono (Nat.zero_le _),Zf ho (Nat.zero_le _)⟩
theorem Of(V:World){O:List Int×Int×List Dv}(h:O.2.2=[]):Pd O V none 0 []:=by
 refine⟨by rw[h];rfl,by rw[h];rfl,fun i hi=>absurd hi (by simp),?_⟩
 rw[h];exact World.ownsRow_nil _ _ _ _
theorem Ti(Bi b:Nat)(pi:Option Addr)(ni ci:Nat)(l:List UInt8)(top details data fuel:Int)(w:World)(hI:ImgR Bi b pi ni ci l w)(hfu:fuel≤1000):Calls Tryz.prog 8 #[.pointer (some ⟨b,0,none⟩),.int .i64 top,.int .i64 details,.int .i64 data,.int .i64 fuel] w (fun e w' =>
 ((Qv l top details data fuel).2.1≠0∧∃ ty v,e=.returned (.tuple #[.slice none 0 0,.iface ty v])∧Below w.heap.size w w'∧Vu w' ((Qv l top details data fuel).1.map some) (some (Qv l top details data fuel).2.1) (.iface ty v)) ∨
 ((Qv l top details data fuel).2.1=0∧∃ p c Z,e=.returned (.tuple #[.slice p (Qv l top details data fuel).2.2.length c,.nilIface])∧Below w.heap.size w w'∧Pd (Qv l top details data fuel) w' p c Z)):=by
 refine(Lq Bi b pi ni ci l top details data fuel w hI hfu).mono ?_
 rintro e W q
 rcases q with q|⟨h,p,c,Z,rfl,hb,hZ,hM,ho⟩
 ·exact .inl q
 ·exact .inr ⟨h,p,c,Z,rfl,hb,Zdk hZ hM ho⟩
theorem rdevs_B{O:List Int×Int×List Dv}{f:FuncId}{args:Array Value}{w:World}(h:O.2.1≠0)(hc:Calls Tryz.prog f args w (Ig O w)):Calls Tryz.prog f args w (Vx (fun w' r=>∃ a c,r=.tuple #[.slice none 0 0,.agg #[.slice a O.1.length c,.int .i64 O.2.1]]∧w'.ownsRow w.heap.size 3 1 (.slice a O.1.length c) O.1.length (O.1.map (Value.int .i64))) w):=hc.mono (by
 rintro e W q
 rcases q with ⟨_,a,c,rfl,hb,ho⟩|⟨h2,_⟩
 ·exact⟨_,rfl,hb,a,c,rfl,ho⟩
 ·exact absurd h2 h)
theorem rdevs_G{O:List Int×Int×List Dv}{f:FuncId}{args:Array Value}{w:World}(h:O.2.1=0)(hc:Calls Tryz.prog f args w (Ig O w)):Calls Tryz.prog f args w (Vx (fun w' r=>∃ p c Z,r=.tuple #[.slice p O.2.2.length c,.agg #[.slice none 0 0,.int .i64 0]]∧Pd O w' p c Z) w):=hc.mono (by
 rintro e W q
 rcases q with ⟨h2,_⟩|⟨_,p,c,Z,rfl,hb,hZ,hM,ho⟩
 ·exact absurd h h2
 ·exact⟨_,rfl,hb,p,c,Z,rfl,Zdk hZ hM ho⟩)
theorem dq_fst{O:List Int×Int×List Dv}{V W:World}{p q:Option Addr}{c d:Nat}{Z Y:List Zv}(h:Pd O V p c Z)(k:Pd O W q d Y):∀ i,i<O.2.2.length→(Z.getD i zvD).1=(Y.getD i zvD).1:=by
 intro i hi
 have h1:i<Z.length:=by rw[h.1];exact hi
 have h2:i<Y.length:=by rw[k.1];exact hi
 have e:(Z.map Prod.fst)[i]? = (Y.map Prod.fst)[i]? := by rw[h.2.1,k.2.1]
 rw[List.getElem?_map,List.getElem?_map,List.getElem?_eq_getElem h1,List.getElem?_eq_getElem h2] at e
 simp only[Option.map_some,Option.some.injEq] at e
 simp[List.getD,h1,h2,e]
theorem Su(O:List Int×Int×List Dv)(p q:Option Addr)(c d n:Nat)(Z Y:List Zv)(w:World)(hn:O.2.2.length=n)(hP:Pd O w p c Z)(hQ:Pd O w q d Y) :
 Calls Tryz.prog 12 #[.slice p n c,.slice q n d] w (Ret (.bool true) w):=by
 refine zin 10 Tryz.func12 ?_
 refine xr 11 (args:=#[.agg #[.int .i64 0,.int .i64 0,.int .i64 0,.int .i64 0,.slice p n c],.agg #[.int .i64 0,.int .i64 0,.int .i64 0,.int .i64 0,.slice q n d]]) (Ze2 p q c d n 0 0 0 0 Z Y _ (hP.1.trans hn) (hQ.1.trans hn) (fun i hi=>dq_fst hP hQ i (by rw[hn];exact hi)) hP.read hQ.read) fun W1 hb1=>?_
 exact xe 4 (.bool true) ⟨rfl,hb1⟩
theorem Fj(a:Option Addr)(c:Nat)(l:List UInt8)(top details data fuel:Int)(w:World)(h:Bys w (.slice a l.length c) l)(hg:Zgi w) :
 Calls Tryz.prog 3 #[.slice a l.length c,.int .i64 top,.int .i64 details,.int .i64 data,.int .i64 fuel] w (Ret (.bool true) w):=by
 have hcap:=h.cap rfl
 obtain⟨f2,hf2,hf3⟩:∃ x,(if(200:Int)<fuel then(200:Int) else fuel)=x∧x≤200:=⟨_,rfl,by split<;>omega⟩
 refine zin 53 Tryz.func3 ?_
 refine xid 13 ((↑l.length:Int)>(12000:Int)) (fun hc1=>?_) (fun hc1=>?_)
 ·refine xr 2 (args:=#[]) (Zas _) fun W2 hb2=>?_
  exact xe 5 (.bool true) ⟨rfl,hb2⟩
 refine xq 5 (congrArg (Value.int .i64) (show(if(200:Int)<fuel then(200:Int) else fuel:Int)=f2 from hf2)) ?_
 refine xc 6 (args:=#[.slice a l.length c]) (image_OfR a c l.length ((l.length/256)*256) l _ rfl (by omega) (h.below (Below.refl w.heap.size _)) (by omega) hcap) ?_
 rintro _ W3 ⟨_,rfl,hb3,bi,pi,ci,rfl,_,hI⟩
 refine xc 4 (args:=#[.pointer (some ⟨bi,0,none⟩),.int .i64 top,.int .i64 details,.int .i64 data,.int .i64 f2]) (Ti _ bi pi _ ci (l.take ((l.length/256)*256)) top details data f2 _ hI (by omega)) ?_
 rintro e W4 hq4
 rcases hq4 with ⟨hbe,ty9,v9,rfl,hb4,hv9⟩|⟨hbe,p9,c9,Z9,rfl,hb4,hD9⟩
 ·have hB:=bln hb3 hb4
  refine xc 10 (args:=#[.slice a l.length c]) (ref_OfM a c l.length (l.length/256) l _ rfl (by omega) (h.below hB) (by omega)) ?_
  rintro _ W5 ⟨_,rfl,hb5,bj,pj,cj,rfl,_,hJ⟩
  refine xc 4 (args:=#[.pointer (some ⟨bj,0,none⟩),.int .i64 top,.int .i64 details,.int .i64 data,.int .i64 f2]) (rdevs_B hbe (Nl _ bj pj _ cj (l.take ((l.length/256)*256)) top details data f2 _ hJ (by omega))) ?_
  rintro _ W6 ⟨_,rfl,hb6,a8,d8,rfl,hr9⟩
  have hs6:=(bln hB hb5).size
  refine xa 3 [.slice none 0 0,.int .i64 0] 33 fun b7 W7 n7=>?_
  have hB'1:=bln (bln hB hb5) hb6
  have g7:=n7.ge hB'1
  refine xsv 1 n7.blk [.slice a8 ((Qv (l.take ((l.length/256)*256)) top details data f2).1.length) d8,.int .i64 ((Qv (l.take ((l.length/256)*256)) top details data f2).2.1)] fun W8 u8 k8=>?_
  refine xd 3 .z ?_
  refine xr (.o [0,1] 2) (args:=#[.slice none 0 0,.slice none 0 0]) (Su ([],0,[]) none none 0 0 0 [] [] _ rfl (Of _ rfl) (Of _ rfl)) fun W9 hb9=>?_
  have k8'1:=(k8.below (Zb W8)).below hb9
  refine xlv (.e [3,4] 6) k8'1.rp ?_
  have hB'2:=bln (bln (u8.below (bln hB'1 n7.below) g7) (Zb W8)) hb9
  have hv9'1:=(((((hv9.below hb5).below hb6).below n7.below).upd u8 n7.blk (by decide)).below (Zb W8)).below hb9
  refine yc (.o [] 5) (args:=#[.iface ty9 (v9)]) .z (told_O (Qv (l.take ((l.length/256)*256)) top details data f2).1 (Qv (l.take ((l.length/256)*256)) top details data f2).2.1 (.iface ty9 v9) _ (devsO_len _ _ _ _ _) (hg.below hB'2) hv9'1) ?_
  rintro _ W10 ⟨vt10,rfl,hb10,hq⟩
  refine⟨hb10,?_⟩
  have hr9'1:=Za (Za (Za (u8.own2 (Za (Zf hr9 hs6) n7.below) n7.blk (by decide)) (Zb W8)) hb9) hb10
  refine xr (.o [] 7) (args:=#[vt10,.agg #[.slice a8 ((Qv (l.take ((l.length/256)*256)) top details data f2).1.length) d8,.int .i64 ((Qv (l.take ((l.length/256)*256)) top details data f2).2.1)]]) (Rr (Qv (l.take ((l.length/256)*256)) top details data f2).1 (Qv (l.take ((l.length/256)*256)) top details data f2).2.1 vt10 _ _ hq ⟨_,rfl,Zg hr9'1⟩) fun W11 hb11=>?_
  refine xr (.o [8,9] 10) (args:=#[]) (Zas _) fun W12 hb12=>?_
  have hB'3:=bln (bln (bln hB'2 hb10) hb11) hb12
  exact xe (.r [11,12] 3) (.bool true) ⟨rfl,hB'3⟩
 have hB:=bln hb3 hb4
 refine xc 10 (args:=#[.slice a l.length c]) (ref_OfM a c l.length (l.length/256) l _ rfl (by omega) (h.below hB) (by omega)) ?_
 rintro _ W13 ⟨_,rfl,hb13,bj,pj,cj,rfl,_,hJ⟩
 refine xc 4 (args:=#[.pointer (some ⟨bj,0,none⟩),.int .i64 top,.int .i64 details,.int .i64 data,.int .i64 f2]) (rdevs_G hbe (Nl _ bj pj _ cj (l.take ((l.length/256)*256)) top details data f2 _ hJ (by omega))) ?_
 rintro _ W14 ⟨_,rfl,hb14,p8,c8,Z8,rfl,hD8⟩
 refine xa 3 [.slice none 0 0,.int .i64 0] 33 fun b15 W15 n15=>?_
 have hB'4:=bln (bln hB hb13) hb14
 have g15:=n15.ge hB'4
 refine xsv 1 n15.blk [.slice none 0 0,.int .i64 0] fun W16 u16 k16=>?_
 refine xd 3 .z ?_
 have hD9'1:=((((hD9.below hb13).below hb14).below n15.below).only (Ze.of_upd (T:=[33]) u16 n15.blk (by decide)) (by decide)).below (Zb W16)
 have hD8'1:=((hD8.below n15.below).only (Ze.of_upd (T:=[33]) u16 n15.blk (by decide)) (by decide)).below (Zb W16)
 refine xr (.o [0,1] 2) (args:=#[.slice p9 ((Qv (l.take ((l.length/256)*256)) top details data f2).2.2.length) c9,.slice p8 ((Qv (l.take ((l.length/256)*256)) top details data f2).2.2.length) c8]) (Su (Qv (l.take ((l.length/256)*256)) top details data f2) p9 p8 c9 c8 _ Z9 Z8 _ rfl hD9'1 hD8'1) fun W17 hb17=>?_
 have k16'1:=(k16.below (Zb W16)).below hb17
 refine xlv (.e [3,4] 6) k16'1.rp ?_
 have hB'5:=bln (bln (u16.below (bln hB'4 n15.below) g15) (Zb W16)) hb17
 refine yc (.o [] 5) (args:=#[.nilIface]) .z (told_0 _ (hg.below hB'5)) ?_
 rintro _ W18 ⟨vt18,rfl,hb18,hq⟩
 refine⟨hb18,?_⟩
 refine xr (.o [] 7) (args:=#[vt18,.agg #[.slice none 0 0,.int .i64 0]]) (Rr [] 0 vt18 _ _ hq ⟨_,rfl,(.inl ⟨_,_,rfl,rfl,rfl⟩)⟩) fun W19 hb19=>?_
 refine xr (.o [8,9] 10) (args:=#[]) (Zas _) fun W20 hb20=>?_
 have hB'6:=bln (bln (bln hB'5 hb18) hb19) hb20
 exact xe (.r [11,12] 3) (.bool true) ⟨rfl,hB'6⟩
end Go.Proofs.YtlmaglneeaecdaaGreatDoor
namespace Go.Proofs.YtlmaglneeaecdaaGreatDoor
set_option maxHeartbeats 8000000
set_option maxRecDepth 100000
open Go.ChangeShapes Go.WideShapes Go.ChangeAt Go.RowKit Go.Joins
set_option linter.unusedVariables false
theorem Zfz{H:Type}{enc:TypeId×Value→H}{P:Program}{W:World}{r:Reach}{b0:Nat}{t e:TypeId}{v:Value}{d:DataW H}{p:List MemPlace}(ht:P.underlying t=some (.slice e))(he:P.underlying e=some (.int .u8))(hC:P.cellsOf e=1)
 (hv:Value.okWide P W r b0 t v) (h:DataW.Trod enc P W 0 (fun _=>true) true t v d p):∃ l,Bys W v l:=by
 obtain⟨a,len,cap,rfl⟩:=okWide_slice ht hv
 obtain⟨fuel,hf⟩:=h
 rcases open_ints ht he hC hf with ⟨hcs,_⟩|⟨x,l,c,zs,hcs,_,hl,hm,hz,_,hcell,hwz⟩
 ·simp[Value.cells] at hcs
  obtain⟨rfl,rfl,rfl⟩:=hcs
  exact⟨[],.inl ⟨_,_,rfl,rfl,rfl⟩⟩
 ·simp[Value.cells] at hcs
  obtain⟨rfl,rfl,rfl⟩:=hcs
  have hz':zs.length=cap:=by simpa using hz
  by_cases h0:len=0
  ·subst h0
   exact⟨[],.inl ⟨_,_,rfl,rfl,rfl⟩⟩
  ·obtain⟨b,off,spot⟩:=x
   have hc:=hcell 0 (by omega)
   have hspot:spot=none:=by simpa [Addr.add] using World.cell?_spot hc
   subst hspot
   have hlen:((zs.take len).map fun n=>UInt8.ofNat n.toNat).length=len:=by simp;omega
   refine⟨(zs.take len).map fun n=>UInt8.ofNat n.toNat,.inr ⟨b,off,cap,by rw[hlen],by omega,hm,fun j x hj=>?_⟩⟩
   have hjl:j<len:=by have:=(List.getElem?_eq_some_iff.1 hj).1;simp at this;omega
   have e1:zs[j]? = some zs[j]:=List.getElem?_eq_getElem (by omega)
   have hw:=hwz zs[j] (List.getElem_mem _)
   have hcj:=hcell j (by omega)
   have e2:zs.getD j 0=zs[j]:=by simp[List.getD,e1]
   rw[e2] at hcj
   have hx:x=.int .u8 zs[j]:=by
    rw[List.getElem?_map,List.getElem?_map,List.getElem?_take_of_lt hjl,e1] at hj
    simp only[Option.map_some,Option.some.injEq] at hj
    rw[←hj]
    have hb:0≤zs[j]∧zs[j]≤255:=by simpa [Lit.wf,IntKind.min,IntKind.max,IntKind.signed,IntKind.bits] using hw
    have h3:(zs[j].toNat%256:Nat)=zs[j].toNat:=Nat.mod_eq_of_lt (by omega)
    simp only[bv,UInt8.toNat_ofNat']
    rw[show(2 ^ 8:Nat)=256 from rfl,h3,Int.toNat_of_nonneg hb.1]
   subst hx
   by_cases hj0:j=0
   ·subst hj0;simpa [Addr.add] using hcj
   ·simpa [Addr.add,hj0] using hcj
end Go.Proofs.YtlmaglneeaecdaaGreatDoor
