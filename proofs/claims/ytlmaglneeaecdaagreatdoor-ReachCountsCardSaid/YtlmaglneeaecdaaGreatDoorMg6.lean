/- The document's answer for layer 25: count, Part. -/
import Derived.Lib.SmallJoins
import Derived.Test.YtlmaglneeaecdaaGreatDoorMg5
namespace Go.Proofs.YtlmaglneeaecdaaGreatDoor
set_option maxHeartbeats 8000000
set_option maxRecDepth 100000
open Go.RowKit Go.Extern.Stop Go.Stop Go.Extern
set_option linter.unusedVariables false
attribute [local irreducible] wpList wpAnyH Code.wp Oper.wp Go
theorem nv_bumpR(cs:List Nat)(k:Nat):(cs.map nv).set k (.int .i64 ((cs.getD k 0+1:Nat):Int))=(Jp cs (k:Int)).map nv:=by
 unfold Jp;rw[Int.toNat_natCast,List.map_set];rfl
theorem bump_getR{cs:List Nat}{k:Nat}(h:k<cs.length):(Jp cs (k:Int)).getD k 0=cs.getD k 0+1:=by
 unfold Jp;rw[Int.toNat_natCast];simp[List.getD,h]
theorem Gw{w:World}{pc:Option Addr}{n m:Nat}{cs:List Nat}(h:Sl w (.slice pc n m) n (cs.map nv)){k:Nat}(hk:k<cs.length):pc.isSome=true∧w.cell? (Xa pc (k*1))=some (.int .i64 ((cs.getD k 0:Nat):Int)):=by
 have hg:(cs.map nv)[k]? = some (.int .i64 ((cs.getD k 0:Nat):Int)):=by simp[List.getD,hk,nv]
 rcases h with ⟨a,c,h1,h2,h3⟩|⟨b,off,cap,h1,h2,h3,h4⟩
 ·rw[h3] at hg;simp at hg
 ·simp only[Value.slice.injEq] at h1
  obtain⟨rfl,_,_⟩:=h1
  refine⟨rfl,?_⟩
  have:=h4 k _ hg
  simpa [Xa,Addr.add_mid] using this
def RCntsP(B g n:Nat)(O:Cx)(w:World)(e:Ending)(w':World):Prop :=
 (O.2.2≠0∧∃ a d,e=.returned (.tuple #[.slice none 0 0,.agg #[.slice a O.2.1.length d,.int .i64 O.2.2]])∧Below B w w'∧w'.ownsRow B 3 1 (.slice a O.2.1.length d) O.2.1.length (O.2.1.map (Value.int .i64))) ∨
 (O.2.2=0∧e=.returned (.tuple #[.slice (some ⟨g,0,none⟩) n n,.agg #[.slice none 0 0,.int .i64 0]])∧Below B w w'∧O.1.length=n∧w'.ownsRow B 3 1 (.slice (some ⟨g,0,none⟩) n n) n (O.1.map nv))
theorem Ku{B g n:Nat}{O:Cx}{c:List Nat}{no er:Int}{d:Nat}{a:Option Addr}{w W:World}(h:O=(c,[no],er))(her:er≠0)(hb:Below B w W)(ho:W.ownsRow B 3 1 (.slice a 1 d) 1 (([no]:List Int).map (Value.int .i64))):RCntsP B g n O w (.returned (.tuple #[.slice none 0 0,.agg #[.slice a 1 d,.int .i64 er]])) W:=by
 subst h;exact .inl ⟨her,a,d,rfl,hb,ho⟩
theorem Ow(B Bi bm:Nat)(p:Option Addr)(k cm:Nat)(l:List UInt8)(g n:Nat)(cs:List Nat)(pw:Option Addr)(cw0:Nat)(L:List Rx)(w:World)(hI:RefI Bi bm p k cm l w)(hBw:B≤w.heap.size)(hc:w.ownsRow B 3 1 (.slice (some ⟨g,0,none⟩) n n) n (cs.map nv))(hn:cs.length=n)(hWt:Tj B w pw cw0 L)(hph:phi cs+L.length≤100000000) :
 Calls Tryz.prog 52 #[.pointer (some ⟨bm,0,none⟩),.slice (some ⟨g,0,none⟩) n n,.slice pw L.length cw0] w (RCntsP B g n (Ys l cs L) w):=by
 refine zin 68 Tryz.func52 ?_
 refine xa 3 [.slice none 0 0,.int .i64 0] 33 fun b1 W1 n1=>?_
 have hc'1:=Zb hc n1.below
 have hWt'1:=hWt.below n1.below
 have hI'1:=hI.below n1.below
 have hB:=blB (Below.refl B w) hBw n1.below
 refine zl 4 68 (fun zm zkv V=>∃ (c:List Nat) (ts:List Rx) (aw:Option Addr) (cw:Nat),zkv=[(0,.pointer (some ⟨bm,0,none⟩)),(1,.slice (some ⟨g,0,none⟩) n n),(2,.slice aw ts.length cw),(7,.pointer (some ⟨b1,0,none⟩))]∧zm=1001*zer c+ts.length∧Below B w V∧Blk V b1 ([.slice none 0 0,.int .i64 0]) 33∧V.ownsRow B 3 1 (.slice (some ⟨g,0,none⟩) n n) n (c.map nv)∧Tj B V aw cw ts∧RefI Bi bm p k cm l V∧c.length=n∧Ys l c ts=Ys l cs L∧phi c+ts.length≤phi cs+L.length) ⟨cs,L,_,_,rfl,rfl,hB,n1.blk,hc'1,hWt'1,hI'1,hn,rfl,Nat.le_refl _⟩ ?_
 rintro _ _ W2 ⟨c,ts,aw,cw,rfl,rfl,hB_2,k2_b1,hc,hWt,hI,hcn,hinv,hbd⟩ J2 hJ2 r2
 refine xid 8 ((↑ts.length:Int)>(0:Int)) (fun hc3=>?_) (fun hc3=>?_)
 ·obtain⟨⟨nq,kq,eq9⟩,r,htr⟩:∃ x r,ts=x::r:=List.exists_cons_of_ne_nil (fun q=>by rw[q] at hc3;simp at hc3)
  have htl:ts.length=r.length+1:=by rw[htr];rfl
  rw[htr] at hinv
  have hWs:=hWt.at_
  refine xx 6 _ ts.length 0 3 (Sts.cell (f:=rxC) (l:=(nq,kq,eq9)::r) (hWs.sts htr) Su (0,0,0) (k:=0) (i:=0) (Nat.succ_pos _) rfl).1 ?_
  refine xlv 0 (Sts.rp (k:=0) (hWs.sts htr) Su (0,0,0) (Nat.succ_pos _) (by decide)) ?_
  refine xa 0 [.int .i64 0,.int .i64 0,.int .i64 0] 141 fun b4 W4 n4=>?_
  have g4:=n4.ge0 hB_2
  refine xsv 0 n4.blk [.int .i64 nq,.int .i64 kq,.int .i64 eq9] fun W5 u5 k5=>?_
  refine xsL 5 (fun _ _ _ _ zo zx zy V=>Xw (k:=1) (b:=aw) (n:=ts.length) (c:=cw) (i:=1) (ki:=.i64) 3 zo zx zy rfl (by omega) Tryz.underlying142 (by kernel_rfl) V) ?_
  refine xb 7 2 k5 ?_
  refine xin 3 eq9 (0:Int) (fun hc6=>?_) (fun hc6=>?_)
  ·refine xb 3 0 k5 ?_
   refine xb 1 2 k5 ?_
   refine xc 0 (args:=#[.int .i64 nq,.int .i64 eq9]) (Dd nq eq9 _ (by omega)) ?_
   rintro _ W7 ⟨pa,ca,rfl,hb7,hva⟩
   have hs7:=(u5.below (blB hB_2 hBw n4.below) (Nat.le_trans hBw g4)).size
   have k2_b1'1:=(u5.blkT (k2_b1.below n4.below) n4.blk (by decide)).below hb7
   refine xsv 1 k2_b1'1 [.slice pa 1 ca,.int .i64 eq9] fun W8 u8 k8=>?_
   have g1:=n1.ge0 (Below.refl B _)
   have hva'1:=u8.own2 (Zd hva hs7) k2_b1'1 (by decide)
   have hB'1:=u8.below (blB (u5.below (blB hB_2 hBw n4.below) (Nat.le_trans hBw g4)) hBw hb7) (Nat.le_trans hBw g1)
   refine xec 8 k8 (.tuple #[.slice none 0 0,.agg #[.slice pa 1 ca,.int .i64 eq9]]) ?_
   first|exact Ku (hinv.symm.trans (Nx (x:=(nq,kq,eq9)) (by assumption))) (by assumption) hB'1 (Zd hva'1 hBw)|exact Ku (hinv.symm.trans (Mr (x:=(nq,kq,eq9)) (by assumption) (fun q=>by have q1:=q.1;have q2:=q.2;simp only at q1 q2;omega))) (by decide) hB'1 (Zd hva'1 hBw)
  refine xb 6 0 k5 ?_
  refine xg 2 [29,30] (decide (nq<(0:Int))) (fun hc9=>?_) (fun hc9=>?_)
  ·have hc9:=of_decide_eq_true hc9
   refine xb 12 0 k5 ?_
   refine xc 0 (args:=#[.int .i64 nq,.int .i64 3]) (Dd nq 3 _ (by omega)) ?_
   rintro _ W10 ⟨pa,ca,rfl,hb10,hva⟩
   have hs10:=(u5.below (blB hB_2 hBw n4.below) (Nat.le_trans hBw g4)).size
   have k2_b1'2:=(u5.blkT (k2_b1.below n4.below) n4.blk (by decide)).below hb10
   refine xsv 1 k2_b1'2 [.slice pa 1 ca,.int .i64 3] fun W11 u11 k11=>?_
   have g1:=n1.ge0 (Below.refl B _)
   have hva'2:=u11.own2 (Zd hva hs10) k2_b1'2 (by decide)
   have hB'2:=u11.below (blB (u5.below (blB hB_2 hBw n4.below) (Nat.le_trans hBw g4)) hBw hb10) (Nat.le_trans hBw g1)
   refine xec 8 k11 (.tuple #[.slice none 0 0,.agg #[.slice pa 1 ca,.int .i64 3]]) ?_
   first|exact Ku (hinv.symm.trans (Nx (x:=(nq,kq,eq9)) (by assumption))) (by assumption) hB'2 (Zd hva'2 hBw)|exact Ku (hinv.symm.trans (Mr (x:=(nq,kq,eq9)) (by assumption) (fun q=>by have q1:=q.1;have q2:=q.2;simp only at q1 q2;omega))) (by decide) hB'2 (Zd hva'2 hBw)
  have hc9:=of_decide_eq_false hc9
  refine xb 1 0 k5 ?_
  refine xid 6 (nq≥(↑n:Int)) (fun hc12=>?_) (fun hc12=>?_)
  ·refine xb 3 0 k5 ?_
   refine xc 0 (args:=#[.int .i64 nq,.int .i64 3]) (Dd nq 3 _ (by omega)) ?_
   rintro _ W13 ⟨pa,ca,rfl,hb13,hva⟩
   have hs13:=(u5.below (blB hB_2 hBw n4.below) (Nat.le_trans hBw g4)).size
   have k2_b1'3:=(u5.blkT (k2_b1.below n4.below) n4.blk (by decide)).below hb13
   refine xsv 1 k2_b1'3 [.slice pa 1 ca,.int .i64 3] fun W14 u14 k14=>?_
   have g1:=n1.ge0 (Below.refl B _)
   have hva'3:=u14.own2 (Zd hva hs13) k2_b1'3 (by decide)
   have hB'3:=u14.below (blB (u5.below (blB hB_2 hBw n4.below) (Nat.le_trans hBw g4)) hBw hb13) (Nat.le_trans hBw g1)
   refine xec 8 k14 (.tuple #[.slice none 0 0,.agg #[.slice pa 1 ca,.int .i64 3]]) ?_
   first|exact Ku (hinv.symm.trans (Nx (x:=(nq,kq,eq9)) (by assumption))) (by assumption) hB'3 (Zd hva'3 hBw)|exact Ku (hinv.symm.trans (Mr (x:=(nq,kq,eq9)) (by assumption) (fun q=>by have q1:=q.1;have q2:=q.2;simp only at q1 q2;omega))) (by decide) hB'3 (Zd hva'3 hBw)
  obtain⟨kx,rfl⟩:∃ kx:Nat,nq=(kx:Int):=⟨nq.toNat,by omega⟩
  have hx0:eq9=0:=by assumption
  have hxb:0≤(kx:Int)∧(kx:Int)<c.length:=by omega
  have hgp:=Zbl c kx
  have hbg:=bump_getR (cs:=c) (k:=kx) (by omega)
  have hbl:=Vp c (kx:Int)
  refine xb 6 0 k5 ?_
  have hc'2:=u5.own2 (Zb hc n4.below) n4.blk (by decide)
  refine xx 0 _ n kx 1 (Gw (Ze hc'2) (k:=kx) (by omega)).1 ?_
  refine xl 0 ((Gw (Ze hc'2) (k:=kx) (by omega)).2) ?_
  refine xwm 0 ((↑(c.getD kx 0):Int)+1) (↑((c.getD kx 0)+1):Int) ?_
  refine xx 0 _ n kx 1 (Gw (Ze hc'2) (k:=kx) (by omega)).1 ?_
  refine xst 0 fun _ _ _ _ zJ zQ zo zx zy zK=>Kv (t:=3) (k:=kx) (v:=.int .i64 (↑((c.getD kx 0)+1):Int)) zo zx zy (by kernel_rfl) rfl hc'2 (by omega) fun W15 u15 o15=>?_
  rw[nv_bumpR c kx] at o15
  have k2_b1'4:=u5.blkT (k2_b1.below n4.below) n4.blk (by decide)
  refine zK _ _ ?_
  have k5'1:=u15.blk k5 (Kq k5 hc'2 (by decide))
  refine xb 7 0 k5'1 ?_
  refine xx 0 _ n kx 1 (Gw (Ze o15) (k:=kx) (by omega)).1 ?_
  refine xl 0 ((Gw (Ze o15) (k:=kx) (by omega)).2) ?_
  refine xid 3 ((↑((Jp c (↑kx:Int)).getD kx 0):Int)>(1:Int)) (fun hc16=>?_) (fun hc16=>?_)
  ·have hx1:c.getD (kx:Int).toNat 0≠0:=by rw[Int.toNat_natCast];omega
   have hWs'1:=((hWs.below n4.below).updN u5 n4 (by omega)).only (Zh.of_updRow (T:=[3]) u15 hc'2 (by decide)) (by decide)
   refine xv1 3 2 (show(.slice (Qw aw 1 cw 3) (ts.length-1) (cw-1):Value)=.slice (Qw aw 1 cw 3) r.length (cw-1) from by rw[htr];rfl) ?_
   have hB'4:=u15.below (u5.below (blB hB_2 hBw n4.below) (Nat.le_trans hBw g4)) (Jv hc'2)
   have k2_b1'5:=u15.blk k2_b1'4 (Kq k2_b1'4 hc'2 (by decide))
   have hI'2:=((hI.below n4.below).only (Zh.of_upd (T:=[141]) u5 n4.blk (by decide)) (by decide)).only (Zh.of_updRow (T:=[3]) u15 hc'2 (by decide)) (by decide)
   refine ze 0 (hJ2 _ _ _ ⟨(Jp c (↑kx:Int)),r,(Qw aw 1 cw 3),(cw-1),rfl,rfl,hB'4,k2_b1'5,o15,(Sk.tail hWs'1 htr),hI'2,(by rw[Vp];exact hcn),((Za4 (x:=((kx:Int),kq,eq9)) hx0 hxb hx1).symm.trans hinv),(by have:=Kh hxb.1 hxb.2;have:=Pk hxb.1 hxb.2;unfold phi at hbd ⊢;omega)⟩ ?_)
   have:=Kh hxb.1 hxb.2
   show 1001*zer (Jp c (↑kx:Int))+r.length<1001*zer c+ts.length
   omega
  have hx1:c.getD (kx:Int).toNat 0=0:=by rw[Int.toNat_natCast];omega
  refine xlv 5 k5'1.rp ?_
  have hI'3:=((hI.below n4.below).only (Zh.of_upd (T:=[141]) u5 n4.blk (by decide)) (by decide)).only (Zh.of_updRow (T:=[3]) u15 hc'2 (by decide)) (by decide)
  refine xc 0 (args:=#[.pointer (some ⟨bm,0,none⟩),.agg #[.int .i64 (↑kx:Int),.int .i64 kq,.int .i64 eq9]]) (ref25_has Bi bm p k cm l (↑kx:Int) kq eq9 _ hI'3) ?_
  rintro e W17 hq17
  rcases hq17 with ⟨hhe,p9,m9,c9,a9,d9,rfl,hb17,hr9⟩|⟨hhe,p9,c9,a9,d9,rfl,hb17,hh9⟩
  ·have hs17:=(u15.below (u5.below (blB hB_2 hBw n4.below) (Nat.le_trans hBw g4)) (Jv hc'2)).size
   refine xa 3 [.slice none 0 0,.int .i64 0] 33 fun b18 W18 n18=>?_
   have k2_b1'6:=(u15.blk k2_b1'4 (Kq k2_b1'4 hc'2 (by decide))).below hb17
   have d18_b1:=n18.ne k2_b1'6
   have hB'5:=blB (u15.below (u5.below (blB hB_2 hBw n4.below) (Nat.le_trans hBw g4)) (Jv hc'2)) hBw hb17
   have g18:=n18.ge0 hB'5
   refine xsv 1 n18.blk [.slice a9 1 d9,.int .i64 (Gm l (↑kx:Int) kq)] fun W19 u19 k19=>?_
   refine xb 6 1 k19 ?_
   refine xk 3 (show(((Gm l (↑kx:Int) kq) != (0:Int)):Bool)=true from bne_iff_ne.2 hhe) ?_
   refine xd 1 (.t B [33]) ?_
   have k19'1:=k19.below (Za W19)
   refine xlv (.o [1] 0) k19'1.rp ?_
   have k2_b1'7:=(u19.blk (k2_b1'6.below n18.below) (Ne.symm (Ne.symm d18_b1))).below (Za W19)
   have g1:=n1.ge0 (Below.refl B _)
   refine ysv (.o [] 2) k2_b1'7 [.slice a9 1 d9,.int .i64 (Gm l (↑kx:Int) kq)] (.t B [33]) fun W20 u20 k20=>⟨(Zr u20 k2_b1'7 (Nat.le_trans hBw g1) (by decide)),?_⟩
   have hr9'1:=u20.own2 (Zb (u19.own2 (Zb (Zd hr9 hs17) n18.below) n18.blk (by decide)) (Za W19)) k2_b1'7 (by decide)
   have hB'6:=u20.below (blB (u19.below (blB hB'5 hBw n18.below) (Nat.le_trans hBw g18)) hBw (Za W19)) (Nat.le_trans hBw g1)
   exact xec 8 k20 (.tuple #[.slice none 0 0,.agg #[.slice a9 1 d9,.int .i64 (Gm l (↑kx:Int) kq)]]) (Ku (hinv.symm.trans (Zeq (x:=((kx:Int),kq,eq9)) hx0 hxb hx1 hhe)) hhe hB'6 (Zd hr9'1 hBw))
  have hs17:=(u15.below (u5.below (blB hB_2 hBw n4.below) (Nat.le_trans hBw g4)) (Jv hc'2)).size
  have hfew:=Zbs hhe
  refine xa 3 [.slice none 0 0,.int .i64 0] 33 fun b21 W21 n21=>?_
  have k2_b1'8:=(u15.blk k2_b1'4 (Kq k2_b1'4 hc'2 (by decide))).below hb17
  have d21_b1:=n21.ne k2_b1'8
  have hB'7:=blB (u15.below (u5.below (blB hB_2 hBw n4.below) (Nat.le_trans hBw g4)) (Jv hc'2)) hBw hb17
  have g21:=n21.ge0 hB'7
  refine xsv 1 n21.blk [.slice a9 0 d9,.int .i64 0] fun W22 u22 k22=>?_
  refine xb 6 1 k22 ?_
  have hWs'2:=(((((hWs.below n4.below).updN u5 n4 (by omega)).only (Zh.of_updRow (T:=[3]) u15 hc'2 (by decide)) (by decide)).below hb17).below n21.below).only (Zh.of_upd (T:=[33]) u22 n21.blk (by decide)) (by decide)
  have hh9'1:=u22.own2 (Zb (Zd hh9 hs17) n21.below) n21.blk (by decide)
  have hB'8:=u22.below (blB hB'7 hBw n21.below) (Nat.le_trans hBw g21)
  refine xbi 9 fun _ _ _ _ zJ zQ zo zx zy zK=>Zo (m:=(ts.length-1)) (news:=(r.flatMap rxC)) (.agg #[.int .i64 0,.int .i64 0,.int .i64 0]) 3 24 (((Wj l (↑kx:Int) kq)++r).length) ((((Wj l (↑kx:Int) kq)++r).flatMap rxC)) zo Tryz.underlying142 (by kernel_rfl) rfl (by decide) zx hh9'1 zy (hWs'2.slN htr) (by rw[Wy Su,htl];rfl) (rx_one r) (by unfold maxLen;omega) (by omega) hB'8.size (by rw[List.length_append,htl];rfl) (by rw[List.flatMap_append]) fun px23 cx23 W23 o23 hg23 hb23=>?_
  refine zK _ _ ?_
  have hB'9:=hB'8.trans (hb23.mono hBw)
  have k2_b1'9:=(u22.blk (k2_b1'8.below n21.below) (Ne.symm (Ne.symm d21_b1))).grown hg23 hh9'1 (by decide)
  have o15'1:=Xb (u22.own2 (Zb (Zb o15 hb17) n21.below) n21.blk (by decide)) hg23 hh9'1 (by decide)
  have hI'4:=(((hI'3.below hb17).below n21.below).only (Zh.of_upd (T:=[33]) u22 n21.blk (by decide)) (by decide)).only (Zh.of_grown (T:=[141]) hg23 hh9'1 (by decide)) (by decide)
  refine ze 3 (hJ2 _ _ _ ⟨(Jp c (↑kx:Int)),((Wj l (↑kx:Int) kq)++r),px23,cx23,rfl,rfl,hB'9,k2_b1'9,o15'1,(Tj.of (Zd o23 hBw) rfl),hI'4,(by rw[Vp];exact hcn),((Li (x:=((kx:Int),kq,eq9)) hx0 hxb hx1 hhe).symm.trans hinv),(by have:=Kh hxb.1 hxb.2;rw[if_pos hx1] at this;have:=Pk hxb.1 hxb.2;rw[List.length_append];unfold phi at hbd ⊢;omega)⟩ ?_)
  have:=Kh hxb.1 hxb.2
  rw[if_pos hx1] at this
  show 1001*zer (Jp c (↑kx:Int))+((Wj l (↑kx:Int) kq)++r).length<1001*zer c+ts.length
  rw[List.length_append]
  omega
 have hts:ts=[]:=List.eq_nil_of_length_eq_zero (by omega)
 refine xsv 10 k2_b1 [.slice none 0 0,.int .i64 0] fun W24 u24 k24=>?_
 have g1:=n1.ge0 (Below.refl B _)
 have hc'3:=u24.own2 hc k2_b1 (by decide)
 have hB'10:=u24.below hB_2 (Nat.le_trans hBw g1)
 refine xec 3 k24 (.tuple #[.slice (some ⟨g,0,none⟩) n n,.agg #[.slice none 0 0,.int .i64 0]]) ?_
 rw[hts] at hinv
 exact .inr ⟨by rw[←hinv];rfl,rfl,hB'10,by rw[←hinv];exact hcn,by rw[←hinv];exact hc'3⟩
def Ia(O:Cx)(w:World)(e:Ending)(w':World):Prop :=
 (O.2.2≠0∧∃ a m d,m=O.2.1.length∧e=.returned (.tuple #[.slice none 0 0,.agg #[.slice a m d,.int .i64 O.2.2]])∧Below w.heap.size w w'∧w'.ownsRow w.heap.size 3 1 (.slice a m d) m (O.2.1.map (Value.int .i64))) ∨
 (O.2.2=0∧∃ p c,e=.returned (.tuple #[.slice p O.1.length c,.agg #[.slice none 0 0,.int .i64 0]])∧Below w.heap.size w w'∧w'.ownsRow w.heap.size 3 1 (.slice p O.1.length c) O.1.length (O.1.map nv))
theorem Tt{O:Cx}{c:List Nat}{bl:List Int}{er:Int}{m d:Nat}{a:Option Addr}{w W:World}(h:O=(c,bl,er))(her:er≠0)(hm:m=bl.length)(hb:Below w.heap.size w W)(ho:W.ownsRow w.heap.size 3 1 (.slice a m d) m (bl.map (Value.int .i64))):Ia O w (.returned (.tuple #[.slice none 0 0,.agg #[.slice a m d,.int .i64 er]])) W:=by
 subst h;exact .inl ⟨her,a,m,d,hm,rfl,hb,ho⟩
theorem rpart_ok{O:Cx}{c:List Nat}{n d:Nat}{p:Option Addr}{w W:World}(h:O.2.2=0)(h1:O.1=c)(hn:c.length=n)(hb:Below w.heap.size w W)(ho:W.ownsRow w.heap.size 3 1 (.slice p n d) n (c.map nv)):Ia O w (.returned (.tuple #[.slice p n d,.agg #[.slice none 0 0,.int .i64 0]])) W:=by
 subst h1 hn;exact .inr ⟨h,p,d,rfl,hb,ho⟩
theorem Az(s:Sup)(w:World) :
 Calls Tryz.prog 51 #[.agg #[.int .i64 s.tx,.int .i64 s.time,.int .i64 s.unit,.int .i64 s.data,.int .i64 s.blocks,.int .i64 s.top,.int .i64 s.details,.int .i64 s.dslots,.int .i64 s.dover,.int .i64 s.mindex,.int .i64 s.mover]] w (Ret (.bool (Xr s)) w):=by
 refine zin 69 Tryz.func51 ?_
 refine xa 2 [.int .i64 s.tx,.int .i64 s.time,.int .i64 s.unit,.int .i64 s.data,.int .i64 s.blocks,.int .i64 s.top,.int .i64 s.details,.int .i64 s.dslots,.int .i64 s.dover,.int .i64 s.mindex,.int .i64 s.mover] 43 fun b1 W1 n1=>?_
 refine xb 7 0 n1.blk ?_
 refine xr 0 (args:=#[.int .i64 s.tx,.int .i64 0,.int .i64 2147483647]) (Va s.tx 0 2147483647 _) fun W2 hb2=>?_
 refine xg 2 [7,8] (!(decide ((0:Int)≤s.tx∧s.tx≤2147483647))) (fun hc3=>?_) (fun hc3=>?_)
 ·have hd4:(decide ((0:Int)≤s.tx∧s.tx≤2147483647))=false:=Nu hc3
  have hB:=bln n1.below hb2
  refine xe 33 (.bool false) ?_
  have hR:Xr s=false:=by
   unfold Xr
   first|(rw[hd4];done)|(rw[hd4];rfl)
  rw[hR];exact⟨rfl,hB⟩
 have hd5:(decide ((0:Int)≤s.tx∧s.tx≤2147483647))=true:=Mk hc3
 have k1'1:=n1.blk.below hb2
 refine xb 1 1 k1'1 ?_
 refine xr 0 (args:=#[.int .i64 s.time,.int .i64 0,.int .i64 16777215]) (Va s.time 0 16777215 _) fun W6 hb6=>?_
 refine xg 3 [12,13,14] (!(decide ((0:Int)≤s.time∧s.time≤16777215))) (fun hc7=>?_) (fun hc7=>?_)
 ·have hd8:(decide ((0:Int)≤s.time∧s.time≤16777215))=false:=Nu hc7
  have hB:=bln (bln n1.below hb2) hb6
  refine xe 27 (.bool false) ?_
  have hR:Xr s=false:=by
   unfold Xr
   first|(rw[hd5,hd8];done)|(rw[hd5,hd8];rfl)
  rw[hR];exact⟨rfl,hB⟩
 have hd9:(decide ((0:Int)≤s.time∧s.time≤16777215))=true:=Mk hc7
 have k1'2:=k1'1.below hb6
 refine xb 1 2 k1'2 ?_
 refine xr 0 (args:=#[.int .i64 s.unit,.int .i64 1,.int .i64 65536]) (Va s.unit 1 65536 _) fun W10 hb10=>?_
 refine xg 3 [18,19,20] (!(decide ((1:Int)≤s.unit∧s.unit≤65536))) (fun hc11=>?_) (fun hc11=>?_)
 ·have hd12:(decide ((1:Int)≤s.unit∧s.unit≤65536))=false:=Nu hc11
  have hB:=bln (bln (bln n1.below hb2) hb6) hb10
  refine xe 21 (.bool false) ?_
  have hR:Xr s=false:=by
   unfold Xr
   first|(rw[hd5,hd9,hd12];done)|(rw[hd5,hd9,hd12];rfl)
  rw[hR];exact⟨rfl,hB⟩
 have hd13:(decide ((1:Int)≤s.unit∧s.unit≤65536))=true:=Mk hc11
 have k1'3:=k1'2.below hb10
 refine xb 1 3 k1'3 ?_
 refine xr 0 (args:=#[.int .i64 s.data,.int .i64 0,.int .i64 65536]) (Va s.data 0 65536 _) fun W14 hb14=>?_
 refine xg 3 [24,25,26] (!(decide ((0:Int)≤s.data∧s.data≤65536))) (fun hc15=>?_) (fun hc15=>?_)
 ·have hd16:(decide ((0:Int)≤s.data∧s.data≤65536))=false:=Nu hc15
  have hB:=bln (bln (bln (bln n1.below hb2) hb6) hb10) hb14
  refine xe 15 (.bool false) ?_
  have hR:Xr s=false:=by
   unfold Xr
   first|(rw[hd5,hd9,hd13,hd16];done)|(rw[hd5,hd9,hd13,hd16];rfl)
  rw[hR];exact⟨rfl,hB⟩
 have hd17:(decide ((0:Int)≤s.data∧s.data≤65536))=true:=Mk hc15
 have k1'4:=k1'3.below hb14
 refine xb 1 4 k1'4 ?_
 refine xr 0 (args:=#[.int .i64 s.blocks,.int .i64 2,.int .i64 14400]) (Va s.blocks 2 14400 _) fun W18 hb18=>?_
 refine xi 4 (!(decide ((2:Int)≤s.blocks∧s.blocks≤14400))) (fun hc19=>?_) (fun hc19=>?_)
 ·have hd20:(decide ((2:Int)≤s.blocks∧s.blocks≤14400))=false:=Nu hc19
  have hB:=bln (bln (bln (bln (bln n1.below hb2) hb6) hb10) hb14) hb18
  refine xe 7 (.bool false) ?_
  have hR:Xr s=false:=by
   unfold Xr
   first|(rw[hd5,hd9,hd13,hd17,hd20];done)|(rw[hd5,hd9,hd13,hd17,hd20];rfl)
  rw[hR];exact⟨rfl,hB⟩
 have hd21:(decide ((2:Int)≤s.blocks∧s.blocks≤14400))=true:=Mk hc19
 have hbk:=of_decide_eq_true hd21
 have k1'5:=k1'4.below hb18
 refine xb 5 4 k1'5 ?_
 refine xw 0 (s.blocks-1) ?_
 refine xb 6 5 k1'5 ?_
 refine xr 1 (args:=#[.int .i64 s.top,.int .i64 1,.int .i64 (s.blocks-1)]) (Va s.top 1 (s.blocks-1) _) fun W22 hb22=>?_
 refine xg 1 [38,39] (decide ((1:Int)≤s.top∧s.top≤s.blocks-1)) (fun hc23=>?_) (fun hc23=>?_)
 ·have hd24:(decide ((1:Int)≤s.top∧s.top≤s.blocks-1))=true:=hc23
  have k1'6:=k1'5.below hb22
  refine xb 1 6 k1'6 ?_
  refine xr 1 (args:=#[.int .i64 s.details,.int .i64 1,.int .i64 (s.blocks-1)]) (Va s.details 1 (s.blocks-1) _) fun W25 hb25=>?_
  refine xg 2 [43,44,45] (decide ((1:Int)≤s.details∧s.details≤s.blocks-1)) (fun hc26=>?_) (fun hc26=>?_)
  ·have hd27:(decide ((1:Int)≤s.details∧s.details≤s.blocks-1))=true:=hc26
   have k1'7:=k1'6.below hb25
   refine xb 1 7 k1'7 ?_
   refine xr 1 (args:=#[.int .i64 s.dslots,.int .i64 1,.int .i64 (s.blocks-1)]) (Va s.dslots 1 (s.blocks-1) _) fun W28 hb28=>?_
   refine xg 2 [49,50,51] (decide ((1:Int)≤s.dslots∧s.dslots≤s.blocks-1)) (fun hc29=>?_) (fun hc29=>?_)
   ·have hd30:(decide ((1:Int)≤s.dslots∧s.dslots≤s.blocks-1))=true:=hc29
    have k1'8:=k1'7.below hb28
    refine xb 1 8 k1'8 ?_
    refine xr 1 (args:=#[.int .i64 s.dover,.int .i64 1,.int .i64 (s.blocks-1)]) (Va s.dover 1 (s.blocks-1) _) fun W31 hb31=>?_
    refine xg 2 [55,56,57] (decide ((1:Int)≤s.dover∧s.dover≤s.blocks-1)) (fun hc32=>?_) (fun hc32=>?_)
    ·have hd33:(decide ((1:Int)≤s.dover∧s.dover≤s.blocks-1))=true:=hc32
     have k1'9:=k1'8.below hb31
     refine xb 1 9 k1'9 ?_
     refine xr 1 (args:=#[.int .i64 s.mindex,.int .i64 1,.int .i64 (s.blocks-1)]) (Va s.mindex 1 (s.blocks-1) _) fun W34 hb34=>?_
     refine xg 2 [61,62,63] (decide ((1:Int)≤s.mindex∧s.mindex≤s.blocks-1)) (fun hc35=>?_) (fun hc35=>?_)
     ·have hd36:(decide ((1:Int)≤s.mindex∧s.mindex≤s.blocks-1))=true:=hc35
      have k1'10:=k1'9.below hb34
      refine xb 1 10 k1'10 ?_
      refine xr 1 (args:=#[.int .i64 s.mover,.int .i64 1,.int .i64 (s.blocks-1)]) (Va s.mover 1 (s.blocks-1) _) fun W37 hb37=>?_
      have hB:=bln (bln (bln (bln (bln (bln (bln (bln (bln (bln (bln n1.below hb2) hb6) hb10) hb14) hb18) hb22) hb25) hb28) hb31) hb34) hb37
      refine xe 5 (.bool (decide ((1:Int)≤s.mover∧s.mover≤s.blocks-1))) ?_
      have hR:Xr s=(decide ((1:Int)≤s.mover∧s.mover≤s.blocks-1)):=by
       unfold Xr
       first|(rw[hd5,hd9,hd13,hd17,hd21,hd24,hd27,hd30,hd33,hd36];done)|(rw[hd5,hd9,hd13,hd17,hd21,hd24,hd27,hd30,hd33,hd36];rfl)
      rw[hR];exact⟨rfl,hB⟩
     have hd38:(decide ((1:Int)≤s.mindex∧s.mindex≤s.blocks-1))=false:=hc35
     have hB:=bln (bln (bln (bln (bln (bln (bln (bln (bln (bln n1.below hb2) hb6) hb10) hb14) hb18) hb22) hb25) hb28) hb31) hb34
     refine xe 9 (.bool false) ?_
     have hR:Xr s=false:=by
      unfold Xr
      first|(rw[hd5,hd9,hd13,hd17,hd21,hd24,hd27,hd30,hd33,hd38];done)|(rw[hd5,hd9,hd13,hd17,hd21,hd24,hd27,hd30,hd33,hd38];rfl)
     rw[hR];exact⟨rfl,hB⟩
    have hd39:(decide ((1:Int)≤s.dover∧s.dover≤s.blocks-1))=false:=hc32
    have hB:=bln (bln (bln (bln (bln (bln (bln (bln (bln n1.below hb2) hb6) hb10) hb14) hb18) hb22) hb25) hb28) hb31
    refine xe 15 (.bool false) ?_
    have hR:Xr s=false:=by
     unfold Xr
     first|(rw[hd5,hd9,hd13,hd17,hd21,hd24,hd27,hd30,hd39];done)|(rw[hd5,hd9,hd13,hd17,hd21,hd24,hd27,hd30,hd39];rfl)
    rw[hR];exact⟨rfl,hB⟩
   have hd40:(decide ((1:Int)≤s.dslots∧s.dslots≤s.blocks-1))=false:=hc29
   have hB:=bln (bln (bln (bln (bln (bln (bln (bln n1.below hb2) hb6) hb10) hb14) hb18) hb22) hb25) hb28
   refine xe 21 (.bool false) ?_
   have hR:Xr s=false:=by
    unfold Xr
    first|(rw[hd5,hd9,hd13,hd17,hd21,hd24,hd27,hd40];done)|(rw[hd5,hd9,hd13,hd17,hd21,hd24,hd27,hd40];rfl)
   rw[hR];exact⟨rfl,hB⟩
  have hd41:(decide ((1:Int)≤s.details∧s.details≤s.blocks-1))=false:=hc26
  have hB:=bln (bln (bln (bln (bln (bln (bln n1.below hb2) hb6) hb10) hb14) hb18) hb22) hb25
  refine xe 27 (.bool false) ?_
  have hR:Xr s=false:=by
   unfold Xr
   first|(rw[hd5,hd9,hd13,hd17,hd21,hd24,hd41];done)|(rw[hd5,hd9,hd13,hd17,hd21,hd24,hd41];rfl)
  rw[hR];exact⟨rfl,hB⟩
 have hd42:(decide ((1:Int)≤s.top∧s.top≤s.blocks-1))=false:=hc23
 have hB:=bln (bln (bln (bln (bln (bln n1.below hb2) hb6) hb10) hb14) hb18) hb22
 refine xe 33 (.bool false) ?_
 have hR:Xr s=false:=by
  unfold Xr
  first|(rw[hd5,hd9,hd13,hd17,hd21,hd42];done)|(rw[hd5,hd9,hd13,hd17,hd21,hd42];rfl)
 rw[hR];exact⟨rfl,hB⟩
theorem nv_first(n:Nat)(h:0<n):((List.replicate n (0:Nat)).map nv).set 0 (.int .i64 1)=(Nr n).map nv:=by
 have e0:(List.replicate n (0:Nat)).getD 0 0=0:=by rw[List.getD,List.getElem?_replicate];split<;>rfl
 unfold Nr Jp
 rw[show(0:Int).toNat=0 from rfl,e0,List.map_set];rfl
theorem Vn(Bi bm:Nat)(p:Option Addr)(k cm:Nat)(l:List UInt8)(s:Sup)(w:World)(hI:RefI Bi bm p k cm l w) :
 Calls Tryz.prog 17 #[.pointer (some ⟨bm,0,none⟩),.agg #[.int .i64 s.tx,.int .i64 s.time,.int .i64 s.unit,.int .i64 s.data,.int .i64 s.blocks,.int .i64 s.top,.int .i64 s.details,.int .i64 s.dslots,.int .i64 s.dover,.int .i64 s.mindex,.int .i64 s.mover]] w (Ia (Xj l s) w):=by
 refine zin 40 Tryz.func17 ?_
 refine xa 2 [.int .i64 s.tx,.int .i64 s.time,.int .i64 s.unit,.int .i64 s.data,.int .i64 s.blocks,.int .i64 s.top,.int .i64 s.details,.int .i64 s.dslots,.int .i64 s.dover,.int .i64 s.mindex,.int .i64 s.mover] 43 fun b1 W1 n1=>?_
 refine xa 1 [.slice none 0 0,.int .i64 0] 33 fun b2 W2 n2=>?_
 have k1:=n1.blk.below n2.below
 refine xlv 5 k1.rp ?_
 refine xr 0 (args:=#[.agg #[.int .i64 s.tx,.int .i64 s.time,.int .i64 s.unit,.int .i64 s.data,.int .i64 s.blocks,.int .i64 s.top,.int .i64 s.details,.int .i64 s.dslots,.int .i64 s.dover,.int .i64 s.mindex,.int .i64 s.mover]]) (Az s _) fun W3 hb3=>?_
 refine xi 3 (!(Xr s)) (fun hc4=>?_) (fun hc4=>?_)
 ·have hrs:Xr s=false:=Nu hc4
  have k2:=n2.blk.below hb3
  refine xsv 4 k2 [.slice none 0 0,.int .i64 1] fun W5 u5 k5=>?_
  have g2:=n2.ge n1.below
  have hB:=u5.below (bln (bln n1.below n2.below) hb3) g2
  refine xec 4 k5 (.tuple #[.slice none 0 0,.agg #[.slice none 0 0,.int .i64 1]]) ?_
  exact Tt (bl:=[]) (Fu hrs) (by decide) rfl hB (World.ownsRow_nil _ _ _ _)
 have hrs:Xr s=true:=Mk hc4
 have hbd:=Ik hrs
 obtain⟨nb,hnb⟩:∃ nb:Nat,s.blocks=(nb:Int):=⟨s.blocks.toNat,by omega⟩
 have hcs:Xj l s=(Ys l (Nr nb) (Ac s)):=by unfold Xj;rw[if_neg (by rw[hrs];decide),hnb,Int.toNat_natCast]
 have hp0:=phi0 nb
 have k1'1:=k1.below hb3
 have kbx:=k1'1
 rw[hnb] at kbx
 refine xb 5 4 kbx ?_
 have hB:=bln (bln n1.below n2.below) hb3
 have hF6:=hB
 refine xmk 0 fun _ _ _ _ zJ zQ zo zx zy zK=>Vm nb (.int .i64 0) 1 8 ((List.replicate nb (0:Nat)).map nv) zo zx zy Tryz.underlying31 (by kernel_rfl) rfl (by omega) (by omega) ((zerosV nb)) fun b7 W7 n7=>?_
 refine zK _ _ ?_
 refine xxb 6 b7 0 nb 0 1 ?_
 refine xsg 0 n7.blk (0+0*1) (.int .i64 1) (by rw[List.length_map,List.length_replicate];omega) fun W8 u8 k8=>?_
 replace k8:Blk W8 b7 ((Nr nb).map nv) 3:=by rw[←(nv_first nb (by omega))];exact k8
 have g7:=n7.ge (Below.refl W3.heap.size _)
 have hB:=u8.below n7.below g7
 refine xl 7 ((kbx.below hB).cell (i:=5) rfl) ?_
 refine xl 2 ((kbx.below hB).cell (i:=6) rfl) ?_
 refine xl 2 ((kbx.below hB).cell (i:=7) rfl) ?_
 refine xl 2 ((kbx.below hB).cell (i:=8) rfl) ?_
 refine xl 2 ((kbx.below hB).cell (i:=9) rfl) ?_
 refine xl 2 ((kbx.below hB).cell (i:=10) rfl) ?_
 refine xbs 1 6 [.int .i64 s.top,.int .i64 1,.int .i64 0,.int .i64 s.details,.int .i64 3,.int .i64 0,.int .i64 s.dslots,.int .i64 4,.int .i64 0,.int .i64 s.dover,.int .i64 5,.int .i64 0,.int .i64 s.mindex,.int .i64 6,.int .i64 0,.int .i64 s.mover,.int .i64 5,.int .i64 0] 141 fun b9 W9 n9=>?_
 have g9:=n9.ge hB
 have k8'1:=k8.below n9.below
 have hB'1:=bln hB n9.below
 refine xc 0 (args:=#[.pointer (some ⟨bm,0,none⟩),.slice (some ⟨b7,0,none⟩) nb nb,.slice (some ⟨b9,0,none⟩) 6 6]) (Ow W3.heap.size Bi bm p k cm l b7 nb (Nr nb) (some ⟨b9,0,none⟩) 6 (Ac s) _ ((hI.below hF6).below hB'1) hB'1.size (Zv (size:=1) (n:=nb) k8'1 g7 (by rw[List.length_map,Vc,Nat.mul_one]) (by unfold maxLen;omega)) (Vc _) (Tj.of (Zv (size:=3) (n:=6) n9.blk g9 rfl (by decide)) rfl) (by show _+6≤_;omega)) ?_
 rintro e W10 hq10
 rcases hq10 with ⟨hce,a9,d9,rfl,hb10,hf9⟩|⟨hce,rfl,hb10,hcl,hc9⟩
 ·have hB'2:=hB'1.trans hb10
  have hT11:Below W3.heap.size W3 W10:=hB'2
  have hs11:w.heap.size≤W3.heap.size:=hF6.size
  have k2:=(n2.blk.below hb3).below hT11
  refine xsv 3 k2 [.slice a9 ((Ys l (Nr nb) (Ac s)).2.1.length) d9,.int .i64 ((Ys l (Nr nb) (Ac s)).2.2)] fun W12 u12 k12=>?_
  have g2:=n2.ge n1.below
  have hf9'1:=u12.own2 (Zd hf9 hs11) k2 (by decide)
  have hB:=u12.below (bln hF6 hT11) g2
  refine xec 3 k12 (.tuple #[.slice none 0 0,.agg #[.slice a9 ((Ys l (Nr nb) (Ac s)).2.1.length) d9,.int .i64 ((Ys l (Nr nb) (Ac s)).2.2)]]) ?_
  exact Tt hcs hce rfl hB hf9'1
 have hB'3:=hB'1.trans hb10
 have hT13:Below W3.heap.size W3 W10:=hB'3
 have hs13:w.heap.size≤W3.heap.size:=hF6.size
 have k2:=(n2.blk.below hb3).below hT13
 refine xsv 3 k2 [.slice none 0 0,.int .i64 0] fun W14 u14 k14=>?_
 have g2:=n2.ge n1.below
 have hc9'1:=u14.own2 (Zd hc9 hs13) k2 (by decide)
 have hB:=u14.below (bln hF6 hT13) g2
 refine xec 3 k14 (.tuple #[.slice (some ⟨b7,0,none⟩) nb nb,.agg #[.slice none 0 0,.int .i64 0]]) ?_
 exact rpart_ok (by rw[hcs];exact hce) (by rw[hcs]) hcl hB hc9'1
theorem Zhe(bl:List Int)(er:Int)(v:Value)(w:World)(hlen:bl.length≤1)(hg:Zgf w)(hv:Kf w (bl.map some) (some er) v):Calls Tryz.prog 14 #[v] w (Qa (fun w' r=>FltV w' r bl er) w):=by
 have:=Rj (some er) (bl.map some) v w (by rw[List.length_map];omega) hg hv
 rwa [Og,Sr] at this
theorem Oc(w:World)(hg:Zgf w):Calls Tryz.prog 14 #[.nilIface] w (Qa (fun w' r=>FltV w' r [] 0) w):=Rj none [] .nilIface w (by decide) hg rfl
theorem Dx{f:List Nat→Rx→Cx}(hf:∀ cs x,(f cs x).2.1.length≤1):∀ (L:List Rx) (cs:List Nat),(Qt f cs L).2.1.length≤1
 | [],cs=>Nat.zero_le _
 | x::r,cs=>by
  rw[Yd]
  split
  ·exact hf cs x
  ·exact Dx hf r _
theorem Rk(l:List UInt8):∀ (d:Nat) (cs:List Nat) (x:Rx),(Zx l d cs x).2.1.length≤1
 | 0,cs,x=>Nat.zero_le _
 | d+1,cs,x=>by
  unfold Zx
  repeat' split
  all_goals first|exact Dx (Rk l d) _ _|exact Nat.le_refl _|exact Nat.zero_le _
theorem Zdp(l:List UInt8)(cs:List Nat)(L:List Rx):(Ys l cs L).2.1.length≤1:=Dx (Rk l _) _ _
theorem Mp(l:List UInt8)(s:Sup):(Xj l s).2.1.length≤1:=by
 unfold Xj
 split
 ·exact Nat.zero_le _
 ·exact Zdp _ _ _
theorem cnts_ints(cs:List Nat):cs.map nv=(cs.map (fun n:Nat=>(n:Int))).map (Value.int .i64):=by rw[List.map_map];rfl
theorem Vj(a b:Option Addr)(n ca cb:Nat)(cs:List Nat)(w:World)(hn:cs.length=n)(ha:Sl w (.slice a n ca) n (cs.map nv))(hb:Sl w (.slice b n cb) n (cs.map nv)):Calls Tryz.prog 18 #[.slice a n ca,.slice b n cb] w (Ret (.bool true) w):=by
 have h:=Fb a b ca cb (cs.map (fun n:Nat=>(n:Int))) w
 rw[cnts_ints] at ha hb
 rw[show(cs.map (fun n:Nat=>(n:Int))).length=n from by rw[List.length_map];exact hn] at h
 exact h (by unfold Ints;rw[List.length_map,hn];exact ha) (by unfold Ints;rw[List.length_map,hn];exact hb)
theorem Zbf{O:Cx}{f:FuncId}{args:Array Value}{w:World}(h:O.2.2≠0)(hc:Calls Tryz.prog f args w (Ia O w)):Calls Tryz.prog f args w (Qa (fun w' r=>∃ a c,r=.tuple #[.slice none 0 0,.agg #[.slice a O.2.1.length c,.int .i64 O.2.2]]∧w'.ownsRow w.heap.size 3 1 (.slice a O.2.1.length c) O.2.1.length (O.2.1.map (Value.int .i64))) w):=hc.mono (by
 rintro e W q
 rcases q with ⟨_,a,m,c,rfl,rfl,hb,ho⟩|⟨h2,_⟩
 ·exact⟨_,rfl,hb,a,c,rfl,ho⟩
 ·exact absurd h2 h)
theorem Zap{O:Cx}{f:FuncId}{args:Array Value}{w:World}(h:O.2.2=0)(hc:Calls Tryz.prog f args w (Ia O w)):Calls Tryz.prog f args w (Qa (fun w' r=>∃ p c,r=.tuple #[.slice p O.1.length c,.agg #[.slice none 0 0,.int .i64 0]]∧w'.ownsRow w.heap.size 3 1 (.slice p O.1.length c) O.1.length (O.1.map nv)) w):=hc.mono (by
 rintro e W q
 rcases q with ⟨h2,_⟩|⟨_,p,c,rfl,hb,ho⟩
 ·exact absurd h h2
 ·exact⟨_,rfl,hb,p,c,rfl,ho⟩)
theorem Bz(a:Option Addr)(c:Nat)(l:List UInt8)(s:Sup)(w:World)(h:Bys w (.slice a l.length c) l)(hg:Zgf w) :
 Calls Tryz.prog 4 #[.slice a l.length c,.agg #[.int .i64 s.tx,.int .i64 s.time,.int .i64 s.unit,.int .i64 s.data,.int .i64 s.blocks,.int .i64 s.top,.int .i64 s.details,.int .i64 s.dslots,.int .i64 s.dover,.int .i64 s.mindex,.int .i64 s.mover]] w (Ret (.bool true) w):=by
 have hcap:=h.cap rfl
 refine zin 39 Tryz.func4 ?_
 refine xa 2 [.int .i64 s.tx,.int .i64 s.time,.int .i64 s.unit,.int .i64 s.data,.int .i64 s.blocks,.int .i64 s.top,.int .i64 s.details,.int .i64 s.dslots,.int .i64 s.dover,.int .i64 s.mindex,.int .i64 s.mover] 43 fun b1 W1 n1=>?_
 refine xid 11 ((↑l.length:Int)>(12000:Int)) (fun hc2=>?_) (fun hc2=>?_)
 ·refine xr 2 (args:=#[]) (Pb _) fun W3 hb3=>?_
  have hB:=bln n1.below hb3
  exact xe 5 (.bool true) ⟨rfl,hB⟩
 refine xd 3 .z ?_
 have k1:=n1.blk.below (Za W1)
 refine xlv (.e [0] 2) k1.rp ?_
 have hB:=bln n1.below (Za W1)
 refine yc (.o [] 1) (args:=#[.slice a l.length c]) .z (Zhi a c l.length ((l.length/256)*256) l _ rfl (by omega) (h.below hB) (by omega) hcap) ?_
 rintro _ W4 ⟨_,rfl,hb4,bi,pi,ci,rfl,_,hI⟩
 refine⟨hb4,?_⟩
 refine yc (.o [] 3) (args:=#[.pointer (some ⟨bi,0,none⟩),.agg #[.int .i64 s.tx,.int .i64 s.time,.int .i64 s.unit,.int .i64 s.data,.int .i64 s.blocks,.int .i64 s.top,.int .i64 s.details,.int .i64 s.dslots,.int .i64 s.dover,.int .i64 s.mindex,.int .i64 s.mover]]) .z (Dk _ bi pi _ ci (l.take ((l.length/256)*256)) s _ hI) ?_
 rintro e W5 hq5
 rcases hq5 with ⟨hbe,ty9,v9,rfl,hb5,hv9⟩|⟨hbe,p9,c9,rfl,hb5,hD9⟩
 ·refine⟨hb5,?_⟩
  refine xd (.r [4,5,6,7,8] 3) (.t w.heap.size [33]) ?_
  have k1'1:=((k1.below hb4).below hb5).below (Za W5)
  refine xlvt (.e [0] 2) (.t w.heap.size [33]) (fun V hV=>(k1'1.only hV.2 (by decide)).rp) ?_
  refine xm2 0 1 7 ?_ ?_
  ·have hB'1:=bln (bln (bln hB hb4) hb5) (Za W5)
   refine yc 0 (args:=#[.slice a l.length c]) (.t w.heap.size [33]) (Rt a c l.length (l.length/256) l _ rfl (by omega) (h.below hB'1) (by omega)) ?_
   rintro _ W6 ⟨_,rfl,hb6,bj,pj,cj,rfl,_,hJ⟩
   refine⟨(SF.of_below _ hb6),?_⟩
   refine xm2 0 3 7 ?_ ?_
   ·refine yc 0 (args:=#[.pointer (some ⟨bj,0,none⟩),.agg #[.int .i64 s.tx,.int .i64 s.time,.int .i64 s.unit,.int .i64 s.data,.int .i64 s.blocks,.int .i64 s.top,.int .i64 s.details,.int .i64 s.dslots,.int .i64 s.dover,.int .i64 s.mindex,.int .i64 s.mover]]) (.t w.heap.size [33]) (Zbf hbe (Vn _ bj pj _ cj (l.take ((l.length/256)*256)) s _ hJ)) ?_
    rintro _ W7 ⟨_,rfl,hb7,a8,d8,rfl,hr9⟩
    have hs7:=(bln hB'1 hb6).size
    refine⟨(SF.of_below _ hb7),?_⟩
    refine xa (.o [4,5,6] 7) [.slice none 0 0,.int .i64 0] 33 fun b8 W8 n8=>?_
    have hB'2:=bln (bln hB'1 hb6) hb7
    have g8:=n8.ge hB'2
    refine ysv (.o [8] 9) n8.blk [.slice a8 ((Xj (l.take ((l.length/256)*256)) s).2.1.length) d8,.int .i64 ((Xj (l.take ((l.length/256)*256)) s).2.2)] (.t w.heap.size [33]) fun W9 u9 k9=>⟨(Zr u9 n8.blk g8 (by decide)),?_⟩
    refine xd 3 .z ?_
    refine xr (.o [0,1] 2) (args:=#[.slice none 0 0,.slice none 0 0]) (Vj none none 0 0 0 [] _ rfl (.inl ⟨_,_,rfl,rfl,rfl⟩) (.inl ⟨_,_,rfl,rfl,rfl⟩)) fun W10 hb10=>?_
    have k9'1:=(k9.below (Za W9)).below hb10
    refine xlv (.e [3,4] 6) k9'1.rp ?_
    have hv9'1:=((((((hv9.below (Za W5)).below hb6).below hb7).below n8.below).upd u9 n8.blk (by decide)).below (Za W9)).below hb10
    have hB'3:=bln (bln (u9.below (bln hB'2 n8.below) g8) (Za W9)) hb10
    refine yc (.o [] 5) (args:=#[.iface ty9 (v9)]) .z (Zhe (Xj (l.take ((l.length/256)*256)) s).2.1 (Xj (l.take ((l.length/256)*256)) s).2.2 (.iface ty9 v9) _ (Mp _ _) (hg.below hB'3) hv9'1) ?_
    rintro _ W11 ⟨vt11,rfl,hb11,hq⟩
    refine⟨hb11,?_⟩
    have hr9'1:=Zb (Zb (Zb (u9.own2 (Zb (Zd hr9 hs7) n8.below) n8.blk (by decide)) (Za W9)) hb10) hb11
    refine xr (.o [] 7) (args:=#[vt11,.agg #[.slice a8 ((Xj (l.take ((l.length/256)*256)) s).2.1.length) d8,.int .i64 ((Xj (l.take ((l.length/256)*256)) s).2.2)]]) (Kn (Xj (l.take ((l.length/256)*256)) s).2.1 (Xj (l.take ((l.length/256)*256)) s).2.2 vt11 _ _ hq ⟨_,rfl,Ze hr9'1⟩) fun W12 hb12=>?_
    refine xr (.o [8,9] 10) (args:=#[]) (Pb _) fun W13 hb13=>?_
    have hB'4:=bln (bln (bln hB'3 hb11) hb12) hb13
    exact xe (.r [11,12] 3) (.bool true) ⟨rfl,hB'4⟩
   refine xa 0 [.slice none 0 0,.int .i64 0] 33 fun b14 W14 n14=>?_
   have hB'5:=bln hB'1 hb6
   have g14:=n14.ge hB'5
   have hJ'1:=hJ.below n14.below
   refine yc (.o [] 3) (args:=#[.pointer (some ⟨bj,0,none⟩),.agg #[.int .i64 s.tx,.int .i64 s.time,.int .i64 s.unit,.int .i64 s.data,.int .i64 s.blocks,.int .i64 s.top,.int .i64 s.details,.int .i64 s.dslots,.int .i64 s.dover,.int .i64 s.mindex,.int .i64 s.mover]]) (.t w.heap.size [33]) (Zbf hbe (Vn _ bj pj _ cj (l.take ((l.length/256)*256)) s _ hJ'1)) ?_
   rintro _ W15 ⟨_,rfl,hb15,a8,d8,rfl,hr9⟩
   have hs15:=(bln hB'5 n14.below).size
   refine⟨(SF.of_below _ hb15),?_⟩
   have k14:=n14.blk.below hb15
   refine ysv (.o [4,5,6,8] 9) k14 [.slice a8 ((Xj (l.take ((l.length/256)*256)) s).2.1.length) d8,.int .i64 ((Xj (l.take ((l.length/256)*256)) s).2.2)] (.t w.heap.size [33]) fun W16 u16 k16=>⟨(Zr u16 k14 g14 (by decide)),?_⟩
   refine xd 3 .z ?_
   refine xr (.o [0,1] 2) (args:=#[.slice none 0 0,.slice none 0 0]) (Vj none none 0 0 0 [] _ rfl (.inl ⟨_,_,rfl,rfl,rfl⟩) (.inl ⟨_,_,rfl,rfl,rfl⟩)) fun W17 hb17=>?_
   have k16'1:=(k16.below (Za W16)).below hb17
   refine xlv (.e [3,4] 6) k16'1.rp ?_
   have hv9'2:=((((((hv9.below (Za W5)).below hb6).below n14.below).below hb15).upd u16 k14 (by decide)).below (Za W16)).below hb17
   have hB'6:=bln (bln (u16.below (bln (bln hB'5 n14.below) hb15) g14) (Za W16)) hb17
   refine yc (.o [] 5) (args:=#[.iface ty9 (v9)]) .z (Zhe (Xj (l.take ((l.length/256)*256)) s).2.1 (Xj (l.take ((l.length/256)*256)) s).2.2 (.iface ty9 v9) _ (Mp _ _) (hg.below hB'6) hv9'2) ?_
   rintro _ W18 ⟨vt18,rfl,hb18,hq⟩
   refine⟨hb18,?_⟩
   have hr9'2:=Zb (Zb (Zb (u16.own2 (Zd hr9 hs15) k14 (by decide)) (Za W16)) hb17) hb18
   refine xr (.o [] 7) (args:=#[vt18,.agg #[.slice a8 ((Xj (l.take ((l.length/256)*256)) s).2.1.length) d8,.int .i64 ((Xj (l.take ((l.length/256)*256)) s).2.2)]]) (Kn (Xj (l.take ((l.length/256)*256)) s).2.1 (Xj (l.take ((l.length/256)*256)) s).2.2 vt18 _ _ hq ⟨_,rfl,Ze hr9'2⟩) fun W19 hb19=>?_
   refine xr (.o [8,9] 10) (args:=#[]) (Pb _) fun W20 hb20=>?_
   have hB'7:=bln (bln (bln hB'6 hb18) hb19) hb20
   exact xe (.r [11,12] 3) (.bool true) ⟨rfl,hB'7⟩
  refine xa 0 [.slice none 0 0,.int .i64 0] 33 fun b21 W21 n21=>?_
  have hB'8:=bln (bln (bln hB hb4) hb5) (Za W5)
  have g21:=n21.ge hB'8
  have hB'9:=bln hB'8 n21.below
  refine yc (.o [] 1) (args:=#[.slice a l.length c]) (.t w.heap.size [33]) (Rt a c l.length (l.length/256) l _ rfl (by omega) (h.below hB'9) (by omega)) ?_
  rintro _ W22 ⟨_,rfl,hb22,bj,pj,cj,rfl,_,hJ⟩
  refine⟨(SF.of_below _ hb22),?_⟩
  refine yc (.o [] 3) (args:=#[.pointer (some ⟨bj,0,none⟩),.agg #[.int .i64 s.tx,.int .i64 s.time,.int .i64 s.unit,.int .i64 s.data,.int .i64 s.blocks,.int .i64 s.top,.int .i64 s.details,.int .i64 s.dslots,.int .i64 s.dover,.int .i64 s.mindex,.int .i64 s.mover]]) (.t w.heap.size [33]) (Zbf hbe (Vn _ bj pj _ cj (l.take ((l.length/256)*256)) s _ hJ)) ?_
  rintro _ W23 ⟨_,rfl,hb23,a8,d8,rfl,hr9⟩
  have hs23:=(bln hB'9 hb22).size
  refine⟨(SF.of_below _ hb23),?_⟩
  have k21:=(n21.blk.below hb22).below hb23
  refine ysv (.o [4,5,6,8] 9) k21 [.slice a8 ((Xj (l.take ((l.length/256)*256)) s).2.1.length) d8,.int .i64 ((Xj (l.take ((l.length/256)*256)) s).2.2)] (.t w.heap.size [33]) fun W24 u24 k24=>⟨(Zr u24 k21 g21 (by decide)),?_⟩
  refine xd 3 .z ?_
  refine xr (.o [0,1] 2) (args:=#[.slice none 0 0,.slice none 0 0]) (Vj none none 0 0 0 [] _ rfl (.inl ⟨_,_,rfl,rfl,rfl⟩) (.inl ⟨_,_,rfl,rfl,rfl⟩)) fun W25 hb25=>?_
  have k24'1:=(k24.below (Za W24)).below hb25
  refine xlv (.e [3,4] 6) k24'1.rp ?_
  have hv9'3:=((((((hv9.below (Za W5)).below n21.below).below hb22).below hb23).upd u24 k21 (by decide)).below (Za W24)).below hb25
  have hB'10:=bln (bln (u24.below (bln (bln hB'9 hb22) hb23) g21) (Za W24)) hb25
  refine yc (.o [] 5) (args:=#[.iface ty9 (v9)]) .z (Zhe (Xj (l.take ((l.length/256)*256)) s).2.1 (Xj (l.take ((l.length/256)*256)) s).2.2 (.iface ty9 v9) _ (Mp _ _) (hg.below hB'10) hv9'3) ?_
  rintro _ W26 ⟨vt26,rfl,hb26,hq⟩
  refine⟨hb26,?_⟩
  have hr9'3:=Zb (Zb (Zb (u24.own2 (Zd hr9 hs23) k21 (by decide)) (Za W24)) hb25) hb26
  refine xr (.o [] 7) (args:=#[vt26,.agg #[.slice a8 ((Xj (l.take ((l.length/256)*256)) s).2.1.length) d8,.int .i64 ((Xj (l.take ((l.length/256)*256)) s).2.2)]]) (Kn (Xj (l.take ((l.length/256)*256)) s).2.1 (Xj (l.take ((l.length/256)*256)) s).2.2 vt26 _ _ hq ⟨_,rfl,Ze hr9'3⟩) fun W27 hb27=>?_
  refine xr (.o [8,9] 10) (args:=#[]) (Pb _) fun W28 hb28=>?_
  have hB'11:=bln (bln (bln hB'10 hb26) hb27) hb28
  exact xe (.r [11,12] 3) (.bool true) ⟨rfl,hB'11⟩
 have hs5:=(bln hB hb4).size
 refine⟨hb5,?_⟩
 refine xd (.r [4,5,6,7,8] 3) (.t w.heap.size [33]) ?_
 have k1'2:=((k1.below hb4).below hb5).below (Za W5)
 refine xlvt (.e [0] 2) (.t w.heap.size [33]) (fun V hV=>(k1'2.only hV.2 (by decide)).rp) ?_
 refine xm2 0 1 7 ?_ ?_
 ·have hB'12:=bln (bln (bln hB hb4) hb5) (Za W5)
  refine yc 0 (args:=#[.slice a l.length c]) (.t w.heap.size [33]) (Rt a c l.length (l.length/256) l _ rfl (by omega) (h.below hB'12) (by omega)) ?_
  rintro _ W29 ⟨_,rfl,hb29,bj,pj,cj,rfl,_,hJ⟩
  refine⟨(SF.of_below _ hb29),?_⟩
  refine xm2 0 3 7 ?_ ?_
  ·refine yc 0 (args:=#[.pointer (some ⟨bj,0,none⟩),.agg #[.int .i64 s.tx,.int .i64 s.time,.int .i64 s.unit,.int .i64 s.data,.int .i64 s.blocks,.int .i64 s.top,.int .i64 s.details,.int .i64 s.dslots,.int .i64 s.dover,.int .i64 s.mindex,.int .i64 s.mover]]) (.t w.heap.size [33]) (Zap hbe (Vn _ bj pj _ cj (l.take ((l.length/256)*256)) s _ hJ)) ?_
   rintro _ W30 ⟨_,rfl,hb30,p8,c8,rfl,hD8⟩
   have hs30:=(bln hB'12 hb29).size
   refine⟨(SF.of_below _ hb30),?_⟩
   refine xa (.o [4,5,6] 7) [.slice none 0 0,.int .i64 0] 33 fun b31 W31 n31=>?_
   have hB'13:=bln (bln hB'12 hb29) hb30
   have g31:=n31.ge hB'13
   refine ysv (.o [8] 9) n31.blk [.slice none 0 0,.int .i64 0] (.t w.heap.size [33]) fun W32 u32 k32=>⟨(Zr u32 n31.blk g31 (by decide)),?_⟩
   refine xd 3 .z ?_
   have hD9'1:=Zb (u32.own2 (Zb (Zb (Zb (Zb (Zd hD9 hs5) (Za W5)) hb29) hb30) n31.below) n31.blk (by decide)) (Za W32)
   have hD8'1:=Zb (u32.own2 (Zb (Zd hD8 hs30) n31.below) n31.blk (by decide)) (Za W32)
   refine xr (.o [0,1] 2) (args:=#[.slice p9 ((Xj (l.take ((l.length/256)*256)) s).1.length) c9,.slice p8 ((Xj (l.take ((l.length/256)*256)) s).1.length) c8]) (Vj p9 p8 _ c9 c8 (Xj (l.take ((l.length/256)*256)) s).1 _ rfl (Ze hD9'1) (Ze hD8'1)) fun W33 hb33=>?_
   have k32'1:=(k32.below (Za W32)).below hb33
   refine xlv (.e [3,4] 6) k32'1.rp ?_
   have hB'14:=bln (bln (u32.below (bln hB'13 n31.below) g31) (Za W32)) hb33
   refine yc (.o [] 5) (args:=#[.nilIface]) .z (Oc _ (hg.below hB'14)) ?_
   rintro _ W34 ⟨vt34,rfl,hb34,hq⟩
   refine⟨hb34,?_⟩
   refine xr (.o [] 7) (args:=#[vt34,.agg #[.slice none 0 0,.int .i64 0]]) (Kn [] 0 vt34 _ _ hq ⟨_,rfl,(.inl ⟨_,_,rfl,rfl,rfl⟩)⟩) fun W35 hb35=>?_
   refine xr (.o [8,9] 10) (args:=#[]) (Pb _) fun W36 hb36=>?_
   have hB'15:=bln (bln (bln hB'14 hb34) hb35) hb36
   exact xe (.r [11,12] 3) (.bool true) ⟨rfl,hB'15⟩
  refine xa 0 [.slice none 0 0,.int .i64 0] 33 fun b37 W37 n37=>?_
  have hB'16:=bln hB'12 hb29
  have g37:=n37.ge hB'16
  have hJ'2:=hJ.below n37.below
  refine yc (.o [] 3) (args:=#[.pointer (some ⟨bj,0,none⟩),.agg #[.int .i64 s.tx,.int .i64 s.time,.int .i64 s.unit,.int .i64 s.data,.int .i64 s.blocks,.int .i64 s.top,.int .i64 s.details,.int .i64 s.dslots,.int .i64 s.dover,.int .i64 s.mindex,.int .i64 s.mover]]) (.t w.heap.size [33]) (Zap hbe (Vn _ bj pj _ cj (l.take ((l.length/256)*256)) s _ hJ'2)) ?_
  rintro _ W38 ⟨_,rfl,hb38,p8,c8,rfl,hD8⟩
  have hs38:=(bln hB'16 n37.below).size
  refine⟨(SF.of_below _ hb38),?_⟩
  have k37:=n37.blk.below hb38
  refine ysv (.o [4,5,6,8] 9) k37 [.slice none 0 0,.int .i64 0] (.t w.heap.size [33]) fun W39 u39 k39=>⟨(Zr u39 k37 g37 (by decide)),?_⟩
  refine xd 3 .z ?_
  have hD9'2:=Zb (u39.own2 (Zb (Zb (Zb (Zb (Zd hD9 hs5) (Za W5)) hb29) n37.below) hb38) k37 (by decide)) (Za W39)
  have hD8'2:=Zb (u39.own2 (Zd hD8 hs38) k37 (by decide)) (Za W39)
  refine xr (.o [0,1] 2) (args:=#[.slice p9 ((Xj (l.take ((l.length/256)*256)) s).1.length) c9,.slice p8 ((Xj (l.take ((l.length/256)*256)) s).1.length) c8]) (Vj p9 p8 _ c9 c8 (Xj (l.take ((l.length/256)*256)) s).1 _ rfl (Ze hD9'2) (Ze hD8'2)) fun W40 hb40=>?_
  have k39'1:=(k39.below (Za W39)).below hb40
  refine xlv (.e [3,4] 6) k39'1.rp ?_
  have hB'17:=bln (bln (u39.below (bln (bln hB'16 n37.below) hb38) g37) (Za W39)) hb40
  refine yc (.o [] 5) (args:=#[.nilIface]) .z (Oc _ (hg.below hB'17)) ?_
  rintro _ W41 ⟨vt41,rfl,hb41,hq⟩
  refine⟨hb41,?_⟩
  refine xr (.o [] 7) (args:=#[vt41,.agg #[.slice none 0 0,.int .i64 0]]) (Kn [] 0 vt41 _ _ hq ⟨_,rfl,(.inl ⟨_,_,rfl,rfl,rfl⟩)⟩) fun W42 hb42=>?_
  refine xr (.o [8,9] 10) (args:=#[]) (Pb _) fun W43 hb43=>?_
  have hB'18:=bln (bln (bln hB'17 hb41) hb42) hb43
  exact xe (.r [11,12] 3) (.bool true) ⟨rfl,hB'18⟩
 refine xa 0 [.slice none 0 0,.int .i64 0] 33 fun b44 W44 n44=>?_
 have hB'19:=bln (bln (bln hB hb4) hb5) (Za W5)
 have g44:=n44.ge hB'19
 have hB'20:=bln hB'19 n44.below
 refine yc (.o [] 1) (args:=#[.slice a l.length c]) (.t w.heap.size [33]) (Rt a c l.length (l.length/256) l _ rfl (by omega) (h.below hB'20) (by omega)) ?_
 rintro _ W45 ⟨_,rfl,hb45,bj,pj,cj,rfl,_,hJ⟩
 refine⟨(SF.of_below _ hb45),?_⟩
 refine yc (.o [] 3) (args:=#[.pointer (some ⟨bj,0,none⟩),.agg #[.int .i64 s.tx,.int .i64 s.time,.int .i64 s.unit,.int .i64 s.data,.int .i64 s.blocks,.int .i64 s.top,.int .i64 s.details,.int .i64 s.dslots,.int .i64 s.dover,.int .i64 s.mindex,.int .i64 s.mover]]) (.t w.heap.size [33]) (Zap hbe (Vn _ bj pj _ cj (l.take ((l.length/256)*256)) s _ hJ)) ?_
 rintro _ W46 ⟨_,rfl,hb46,p8,c8,rfl,hD8⟩
 have hs46:=(bln hB'20 hb45).size
 refine⟨(SF.of_below _ hb46),?_⟩
 have k44:=(n44.blk.below hb45).below hb46
 refine ysv (.o [4,5,6,8] 9) k44 [.slice none 0 0,.int .i64 0] (.t w.heap.size [33]) fun W47 u47 k47=>⟨(Zr u47 k44 g44 (by decide)),?_⟩
 refine xd 3 .z ?_
 have hD9'3:=Zb (u47.own2 (Zb (Zb (Zb (Zb (Zd hD9 hs5) (Za W5)) n44.below) hb45) hb46) k44 (by decide)) (Za W47)
 have hD8'3:=Zb (u47.own2 (Zd hD8 hs46) k44 (by decide)) (Za W47)
 refine xr (.o [0,1] 2) (args:=#[.slice p9 ((Xj (l.take ((l.length/256)*256)) s).1.length) c9,.slice p8 ((Xj (l.take ((l.length/256)*256)) s).1.length) c8]) (Vj p9 p8 _ c9 c8 (Xj (l.take ((l.length/256)*256)) s).1 _ rfl (Ze hD9'3) (Ze hD8'3)) fun W48 hb48=>?_
 have k47'1:=(k47.below (Za W47)).below hb48
 refine xlv (.e [3,4] 6) k47'1.rp ?_
 have hB'21:=bln (bln (u47.below (bln (bln hB'20 hb45) hb46) g44) (Za W47)) hb48
 refine yc (.o [] 5) (args:=#[.nilIface]) .z (Oc _ (hg.below hB'21)) ?_
 rintro _ W49 ⟨vt49,rfl,hb49,hq⟩
 refine⟨hb49,?_⟩
 refine xr (.o [] 7) (args:=#[vt49,.agg #[.slice none 0 0,.int .i64 0]]) (Kn [] 0 vt49 _ _ hq ⟨_,rfl,(.inl ⟨_,_,rfl,rfl,rfl⟩)⟩) fun W50 hb50=>?_
 refine xr (.o [8,9] 10) (args:=#[]) (Pb _) fun W51 hb51=>?_
 have hB'22:=bln (bln (bln hB'21 hb49) hb50) hb51
 exact xe (.r [11,12] 3) (.bool true) ⟨rfl,hB'22⟩
end Go.Proofs.YtlmaglneeaecdaaGreatDoor
namespace Go.Proofs.YtlmaglneeaecdaaGreatDoor
set_option maxHeartbeats 8000000
set_option maxRecDepth 100000
open Go.ChangeShapes Go.WideShapes Go.ChangeAt Go.RowKit Go.Joins
set_option linter.unusedVariables false
theorem Zd3{H:Type}{enc:TypeId×Value→H}{P:Program}{W:World}{r:Reach}{b0:Nat}{t e:TypeId}{v:Value}{d:DataW H}{p:List MemPlace}(ht:P.underlying t=some (.slice e))(he:P.underlying e=some (.int .u8))(hC:P.cellsOf e=1)
 (hv:Value.okWide P W r b0 t v) (h:DataW.Trod enc P W 0 (fun _=>true) true t v d p):∃ l,Bys W v l:=by
 obtain⟨a,len,cap,rfl⟩:=okWide_slice ht hv
 obtain⟨fuel,hf⟩:=h
 rcases open_ints ht he hC hf with ⟨hcs,_⟩|⟨x,l,c,zs,hcs,_,hl,hm,hz,_,hcell,hwz⟩
 ·simp[Value.cells] at hcs
  obtain⟨rfl,rfl,rfl⟩:=hcs
  exact⟨[],.inl ⟨_,_,rfl,rfl,rfl⟩⟩
 ·simp[Value.cells] at hcs
  obtain⟨rfl,rfl,rfl⟩:=hcs
  have hz':zs.length=cap:=by simpa using hz
  by_cases h0:len=0
  ·subst h0
   exact⟨[],.inl ⟨_,_,rfl,rfl,rfl⟩⟩
  ·obtain⟨b,off,spot⟩:=x
   have hc:=hcell 0 (by omega)
   have hspot:spot=none:=by simpa [Addr.add] using World.cell?_spot hc
   subst hspot
   have hlen:((zs.take len).map fun n=>UInt8.ofNat n.toNat).length=len:=by simp;omega
   refine⟨(zs.take len).map fun n=>UInt8.ofNat n.toNat,.inr ⟨b,off,cap,by rw[hlen],by omega,hm,fun j x hj=>?_⟩⟩
   have hjl:j<len:=by have:=(List.getElem?_eq_some_iff.1 hj).1;simp at this;omega
   have e1:zs[j]? = some zs[j]:=List.getElem?_eq_getElem (by omega)
   have hw:=hwz zs[j] (List.getElem_mem _)
   have hcj:=hcell j (by omega)
   have e2:zs.getD j 0=zs[j]:=by simp[List.getD,e1]
   rw[e2] at hcj
   have hx:x=.int .u8 zs[j]:=by
    rw[List.getElem?_map,List.getElem?_map,List.getElem?_take_of_lt hjl,e1] at hj
    simp only[Option.map_some,Option.some.injEq] at hj
    rw[←hj]
    have hb:0≤zs[j]∧zs[j]≤255:=by simpa [Lit.wf,IntKind.min,IntKind.max,IntKind.signed,IntKind.bits] using hw
    have h3:(zs[j].toNat%256:Nat)=zs[j].toNat:=Nat.mod_eq_of_lt (by omega)
    simp only[bv,UInt8.toNat_ofNat']
    rw[show(2 ^ 8:Nat)=256 from rfl,h3,Int.toNat_of_nonneg hb.1]
   subst hx
   by_cases hj0:j=0
   ·subst hj0;simpa [Addr.add] using hcj
   ·simpa [Addr.add,hj0] using hcj
end Go.Proofs.YtlmaglneeaecdaaGreatDoor
namespace Go.Proofs.YtlmaglneeaecdaaGreatDoor
set_option maxHeartbeats 8000000
set_option maxRecDepth 100000
open Go.ChangeShapes Go.WideShapes Go.ChangeAt Go.RowKit Go.Joins Go.Deep
set_option linter.unusedVariables false
def intOfS:Value→Int
 | .int _ z=>z
 | _=>0
theorem Od{H:Type}{enc:TypeId×Value→H}{P:Program}{W:World}{r:Reach}{b0:Nat}{t ti:TypeId}{fs:Array Field}{v:Value}{d:DataW H}{p:List MemPlace}(hs:P.underlying t=some (.struct fs))(hone:oneCellFields P fs=true)(hC:P.cellsOf t=fs.size)
 (hf:fs.toList.all (fun f=>f.type==ti)=true) (hti:P.underlying ti=some (.int .i64)) (hv:Value.okWide P W r b0 t v) (h:DataW.Trod enc P W 0 (fun _=>true) true t v d p) :
 ∃ N:List Int,N.length=fs.size∧v=.agg (N.map (Value.int .i64)).toArray:=by
 obtain⟨cs,rfl,hsz⟩:=okWide_struct hs hv
 obtain⟨fuel,hx⟩:=h
 obtain⟨xs,n,_,_,hl,hlen,hfd⟩:=DataW.trod_struct hs hx
 have hat:∀ i,i<fs.size→∃ z:Int,cs[i]? = some (.int .i64 z):=by
  intro i hi
  have hfi:fs[i]? = some fs[i]:=by simp[hi]
  obtain⟨o0,k0⟩:=hone_of hone i fs[i] hfi
  have hti':fs[i].type=ti:=by
   have:=List.all_eq_true.1 hf fs[i] (by simp)
   simpa using this
  have hq:=hfd i fs[i] hfi
  have hci:i<cs.size:=by omega
  have e:((Value.agg cs).cells.toList.drop fs[i].offset).take (P.cellsOf fs[i].type)=[cs[i]]:=by
   rw[o0,k0]
   simp[Value.cells,List.drop_eq_getElem_cons,hci]
  rw[e,hti',List.getElem?_eq_getElem (show i<xs.length by omega)] at hq
  obtain⟨z,hz,_⟩:=DataW.trod_int hti hq
  simp only[List.cons.injEq,and_true] at hz
  exact⟨z,by simp[hci,hz]⟩
 refine⟨cs.toList.map intOfS,by simp;omega,?_⟩
 congr 1
 apply Array.ext'
 rw[List.toList_toArray]
 apply List.ext_getElem?
 intro i
 by_cases hi:i<fs.size
 ·obtain⟨z,hz⟩:=hat i hi
  have hz':cs.toList[i]? = some (.int .i64 z):=by simpa using hz
  rw[hz',List.getElem?_map,List.getElem?_map,hz'];rfl
 ·rw[List.getElem?_eq_none (by simp;omega),List.getElem?_eq_none (by simp;omega)]
theorem sup_open{H:Type}{enc:TypeId×Value→H}{P:Program}{W:World}{r:Reach}{b0:Nat}{t ti:TypeId}{fs:Array Field}{v:Value}{d:DataW H}{p:List MemPlace}(hs:P.underlying t=some (.struct fs))(hone:oneCellFields P fs=true)(hC:P.cellsOf t=fs.size)(h11:fs.size=11)
 (hf:fs.toList.all (fun f=>f.type==ti)=true) (hti:P.underlying ti=some (.int .i64)) (hv:Value.okWide P W r b0 t v) (h:DataW.Trod enc P W 0 (fun _=>true) true t v d p) :
 ∃ s:Sup,v=.agg (supC s).toArray:=by
 obtain⟨N,hN,rfl⟩:=Od hs hone hC hf hti hv h
 rw[h11] at hN
 match N,hN with
 | [a,b,c,d,e,f,g,h,i,j,k],_=>exact⟨⟨a,b,c,d,e,f,g,h,i,j,k⟩,rfl⟩
end Go.Proofs.YtlmaglneeaecdaaGreatDoor
