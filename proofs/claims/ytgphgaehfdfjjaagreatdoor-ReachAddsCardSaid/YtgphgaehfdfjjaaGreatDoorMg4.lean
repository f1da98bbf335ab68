/- Package reach: what a block has; references, to any depth. -/
import Derived.Test.YtgphgaehfdfjjaaGreatDoorProg
import Derived.Test.YtgphgaehfdfjjaaGreatDoorMg3
namespace Go.Proofs.YtgphgaehfdfjjaaGreatDoor
set_option maxHeartbeats 8000000
set_option maxRecDepth 100000
open Go.RowKit Go.Extern.Stop Go.Stop Go.Extern
set_option linter.unusedVariables false
attribute [local irreducible] wpList wpAnyH Code.wp Oper.wp Go
def Ek(l:Bl)(d:Nat)(cs:List Nat)(no ak:Int):Cx:=if Us l no ak≠0 then(cs,[no],Us l no ak) else Qc (Zp l d) cs (Lq l no ak)
theorem Di{l:Bl}{d:Nat}{cs:List Nat}{no ak e:Int}(he:Us l no ak=e)(h:e≠0):Ek l d cs no ak=(cs,[no],e):=by subst he;exact if_pos h
theorem Mp{l:Bl}{d:Nat}{cs:List Nat}{no ak:Int}(h:Us l no ak=0):Ek l d cs no ak=Qc (Zp l d) cs (Lq l no ak):=if_neg (fun q=>q h)
theorem Zfh(l:Bl)(no:Int):Us l no 6=Xx l no:=if_pos rfl
theorem hasE_7(l:Bl)(no:Int):Us l no 7=Xo l no:=by unfold Us;rw[if_neg (by decide),if_pos rfl]
theorem Zek{l:Bl}{no t:Int}(h5:t≤5):Us l no t=Xa l no t:=by unfold Us;rw[if_neg (by omega),if_neg (by omega)]
theorem hasL_6(l:Bl)(no:Int):Lq l no 6=(Eo l no).map Jy:=if_pos rfl
theorem hasL_7(l:Bl)(no:Int):Lq l no 7=[]:=by unfold Lq;rw[if_neg (by decide),if_pos rfl]
theorem hasL_n{l:Bl}{no t:Int}(h5:t≤5):Lq l no t=Zad l no:=by unfold Lq;rw[if_neg (by omega),if_neg (by omega)]
theorem Nw(d:Nat)(B Bi b bx br:Nat)(pi:O0)(ni ci:Nat)(l:Bl)(g n:Nat)(hR:Hi d B Bi b bx br pi ni ci l g n)(cs:List Nat)(w:World)(hM:RcM B Bi b bx br pi ni ci l g n cs w)(hz:zer cs<d)(hph:phi cs≤999999998000):C0 119 #[P0 bx,S0] w (fun e w'=>e=.returned .nilIface∧Below B w w'∧Zg [3] w w'∧w'.ownsRow B 3 1 (.slice (S1 g) n n) n (cs.map nv)):=by
 refine(Li d B Bi b bx br pi ni ci l g n hR cs 0 none 0 [] w hM hz hph (World.ownsRow_nil _ _ _ _) (by decide)).mono ?_
 rintro e W q
 rcases q with ⟨h,_⟩|⟨_,h⟩
 ·exact absurd rfl h
 ·exact h
def Nf(l:Bl)(no:Int)(i:Nat):List Rx:=if Rf (Yx (inB l no)) (Qf (inB l no)) then [] else((Wo l no).take i).map (valX no (Yx (inB l no)) (Qf (inB l no)))
theorem Zb0(l:Bl)(no:Int):Nf l no 0=[]:=by unfold Nf;split<;>simp
theorem Zco(l:Bl)(no:Int):Nf l no (Wo l no).length=Zad l no:=by unfold Nf Zad;rw[List.take_length]
theorem Zao{l:Bl}{no:Int}{d i:Nat}{cs c:List Nat}(hi:i<(Wo l no).length)(h:Xt (Zp l d) cs (Nf l no i) c)(h2:(Gl l d c no (Yx (inB l no)) (Qf (inB l no)) ((Wo l no).getD i [])).2.2=0) :
 Xt (Zp l d) cs (Nf l no (i+1)) (Gl l d c no (Yx (inB l no)) (Qf (inB l no)) ((Wo l no).getD i [])).1:=by
 unfold Nf at h ⊢
 unfold Gl at h2 ⊢
 by_cases hd:Rf (Yx (inB l no)) (Qf (inB l no))
 ·rw[if_pos hd] at h h2 ⊢
  rw[if_pos hd]
  exact h
 ·rw[if_neg hd] at h h2 ⊢
  rw[if_neg hd]
  rw[List.take_succ_eq_append_getElem hi,List.map_append,List.map_cons,List.map_nil]
  rw[show(Wo l no).getD i []=(Wo l no)[i] from by simp[List.getD,hi]] at h2 ⊢
  exact h.next h2
theorem Zcx{l:Bl}{no:Int}{d i:Nat}{cs c:List Nat}(hi:i<(Wo l no).length)(h:Xt (Zp l d) cs (Nf l no i) c)(h2:(Gl l d c no (Yx (inB l no)) (Qf (inB l no)) ((Wo l no).getD i [])).2.2≠0) :
 Qc (Zp l d) cs (Zad l no)=Gl l d c no (Yx (inB l no)) (Qf (inB l no)) ((Wo l no).getD i []):=by
 unfold Nf at h
 unfold Gl at h2 ⊢
 by_cases hd:Rf (Yx (inB l no)) (Qf (inB l no))
 ·rw[if_pos hd] at h2;exact absurd rfl h2
 ·rw[if_neg hd] at h h2 ⊢
  rw[show(Wo l no).getD i []=(Wo l no)[i] from by simp[List.getD,hi]] at h2 ⊢
  unfold Zad
  rw[if_neg hd]
  have e:Wo l no=(Wo l no).take i++(Wo l no)[i]::(Wo l no).drop (i+1):=by rw[←List.drop_eq_getElem_cons hi,List.take_append_drop]
  conv=>lhs;rw[e]
  rw[List.map_append,List.map_cons]
  exact h.bad h2 _
theorem Cq(l:Bl)(no:Int):(Wo l no).length=Xb (inB l no):=by unfold Wo;exact Ku _ _
theorem Zen(l:Bl)(no:Int)(i:Nat):(Nf l no i).length≤i:=by
 unfold Nf
 split
 ·exact Nat.zero_le _
 ·rw[List.length_map,List.length_take];exact Nat.min_le_left _ _
theorem nodT_is{l:Bl}{no t:Int}(h:Xa l no t=0)(h1:1≤t):Yx (inB l no)=t:=by
 have h2:=(Bn h).2
 have h3:=Mz h2
 unfold Yh at h2
 rw[if_pos h3] at h2
 split at h2
 ·rename_i h4;omega
 ·omega
theorem Zfl(bb:Nat)(w:World)(k:Blk w bb [.nilIface,.nilIface] 30) :
 C0 118 #[.slice (S1 bb) 2 2] w (Ret (.nilIface) w):=by
 refine zin 15 Tryz.func118 ?_
 refine xu 14 2 ?_
 refine xb 14 0 k ?_
 refine xb 32 1 k ?_
 exact xe 36 .nilIface ⟨rfl,(B4 w)⟩
theorem Zdt(bb:Nat)(ty:TypeId)(x:Value)(w:World)(k:Blk w bb [.nilIface,.iface ty (x)] 30) :
 C0 118 #[.slice (S1 bb) 2 2] w (Ret (.iface ty (x)) w):=by
 refine zin 15 Tryz.func118 ?_
 refine xu 14 2 ?_
 refine xb 14 0 k ?_
 refine xb 32 1 k ?_
 exact xe 22 (.iface ty (x)) ⟨rfl,(B4 w)⟩
theorem Zda(bb:Nat)(ty:TypeId)(x:Value)(w:World)(k:Blk w bb [.iface ty (x),.nilIface] 30) :
 C0 118 #[.slice (S1 bb) 2 2] w (Ret (.iface ty (x)) w):=by
 refine zin 15 Tryz.func118 ?_
 refine xu 14 2 ?_
 refine xb 14 0 k ?_
 exact xe 22 (.iface ty (x)) ⟨rfl,(B4 w)⟩
theorem Zcc(d:Nat)(B Bi b bx br:Nat)(pi:O0)(ni ci:Nat)(l:Bl)(g n:Nat)(hR:Hi d B Bi b bx br pi ni ci l g n)(cs:List Nat)(no:Int)(w:World)(hM:RcM B Bi b bx br pi ni ci l g n cs w)(hz:zer cs<d)(hph:phi cs≤999999998000) :
 C0 66 #[P0 bx,V0 no,V0 (-1)] w (Hb B g n (Ek l d cs no 6) w):=by
 have hc:=hM.hc
 have kx:=hM.kx
 have kr:=hM.kr
 have hI:=hM.hI
 have a1:=hM.hB
 have hn:=hM.hn
 refine zin 75 Tryz.func66 ?_
 refine xb 24 0 kx ?_
 refine xc 1 (args:=#[P0 b,V0 no]) (Ex Bi b pi ni ci l no _ hI) ?_
 rintro e W1 d5
 rcases d5 with ⟨a5,d1,vx,rfl,a0,d7⟩|⟨a5,pl,cl,rfl,a0,hs⟩
 ·have b0:=hI.below a0
  have a9:=Zb hc a0
  have hB:=blB (Below.refl B w) a1 a0
  have hO:=(show Zg [3] w _ from(Zg.of_below a0))
  refine xc 12 (args:=#[P0 bx,S0]) (Nw d B Bi b bx br pi ni ci l g n hR cs _ (hM.move hB hO b0 a9 (by omega)) hz hph) ?_
  rintro _ W2 ⟨rfl,d3,d0,hc⟩
  refine xbs 0 2 [.iface d1 (vx),.nilIface] 30 fun b3 W3 n3=>?_
  have a4:=hB.trans d3
  have g3:=n3.ge0 a4
  refine xr 0 (args:=#[.slice (S1 b3) 2 2]) (Zda b3 _ _ _ n3.blk) fun W4 c3=>?_
  have a3:=((d7.only d0 (by decide)).below n3.below).below c3
  have c8:=blB (blB a4 a1 n3.below) a1 c3
  have c0:=((hO.trans d0).trans (Zg.of_below n3.below)).trans (Zg.of_below c3)
  exact xe 6 (.iface d1 (vx)) (Xe (Di (Zfh l no) a5) a5 c8 c0 a3)
 have d2:=Nat.le_refl w.heap.size
 have c2:=hI.below a0
 have b9:=Zb hc a0
 have b1:=Zd hs d2
 have hB:=blB (Below.refl B w) a1 a0
 have hO:=(show Zg [3] w _ from(Zg.of_below a0))
 refine xc 12 (args:=#[P0 bx,.slice pl ((Eo l no).length) cl]) (Li d B Bi b bx br pi ni ci l g n hR cs _ pl cl (Eo l no) _ (hM.move hB hO c2 b9 (by omega)) hz hph b1 (Ij l no)) ?_
 rintro e W5 d4
 rcases d4 with ⟨c5,c9,vr,rfl,b7,a8,d6⟩|⟨c5,rfl,b7,a8,hc⟩
 ·refine xbs 0 2 [.nilIface,.iface c9 (vr)] 30 fun b6 W6 n6=>?_
  have a6:=hB.trans b7
  have g6:=n6.ge0 a6
  refine xr 0 (args:=#[.slice (S1 b6) 2 2]) (Zdt b6 _ _ _ n6.blk) fun W7 b2=>?_
  have a7:=(d6.below n6.below).below b2
  have c6:=blB (blB a6 a1 n6.below) a1 b2
  have b5:=((hO.trans a8).trans (Zg.of_below n6.below)).trans (Zg.of_below b2)
  refine xe 6 (.iface c9 (vr)) ?_
  have e9:Ek l d cs no 6=Qc (Zp l d) cs ((Eo l no).map Jy):=by rw[Mp ((Zfh l no).trans a5),hasL_6]
  exact Xe (c:=(Ek l d cs no 6).1) (bl:=(Ek l d cs no 6).2.1) (er:=(Ek l d cs no 6).2.2) rfl (by rw[e9];exact c5) c6 b5 (by rw[e9];exact a7)
 refine xbs 0 2 [.nilIface,.nilIface] 30 fun b8 W8 n8=>?_
 have a2:=hB.trans b7
 have g8:=n8.ge0 a2
 refine xr 0 (args:=#[.slice (S1 b8) 2 2]) (Zfl b8 _ n8.blk) fun W9 c7=>?_
 have c1:=Zb (Zb hc n8.below) c7
 have c4:=blB (blB a2 a1 n8.below) a1 c7
 have b4:=((hO.trans a8).trans (Zg.of_below n8.below)).trans (Zg.of_below c7)
 refine xe 6 .nilIface ?_
 have e9:Ek l d cs no 6=Qc (Zp l d) cs ((Eo l no).map Jy):=by rw[Mp ((Zfh l no).trans a5),hasL_6]
 exact Ys (by rw[e9];exact c5) (by rw[e9]) c4 b4 c1
theorem Zbg(d:Nat)(B Bi b bx br:Nat)(pi:O0)(ni ci:Nat)(l:Bl)(g n:Nat)(hR:Hi d B Bi b bx br pi ni ci l g n)(cs:List Nat)(no:Int)(w:World)(hM:RcM B Bi b bx br pi ni ci l g n cs w)(hz:zer cs<d)(hph:phi cs≤999999998000) :
 C0 66 #[P0 bx,V0 no,V0 (-2)] w (Hb B g n (Ek l d cs no 7) w):=by
 have hc:=hM.hc
 have kx:=hM.kx
 have kr:=hM.kr
 have hI:=hM.hI
 have a3:=hM.hB
 have hn:=hM.hn
 refine zin 75 Tryz.func66 ?_
 refine xb 31 0 kx ?_
 refine xc 1 (args:=#[P0 b,V0 no]) (Rv Bi b pi ni ci l no _ hI) ?_
 rintro e W1 a5
 rcases a5 with ⟨a1,a4,vx,rfl,a0,a6⟩|⟨a1,pl,cl,rfl,a0,hs⟩
 ·have hB:=blB (Below.refl B w) a3 a0
  have hO:=(show Zg [3] w _ from(Zg.of_below a0))
  exact xe 16 (.iface a4 (vx)) (Xe (Di (hasE_7 l no) a1) a1 hB hO a6)
 have a2:=Zb hc a0
 have hB:=blB (Below.refl B w) a3 a0
 have hO:=(show Zg [3] w _ from(Zg.of_below a0))
 refine xe 16 .nilIface ?_
 have e9:Ek l d cs no 7=(cs,[],0):=by rw[Mp ((hasE_7 l no).trans a1),hasL_7];rfl
 exact Ys (by rw[e9]) (by rw[e9]) hB hO a2
theorem Zb5(l:Bl)(no:Int)(i:Nat):((Wo l no).getD i []).length≤1000:=Rw _ _ _
theorem Za3(d:Nat)(B Bi b bx br:Nat)(pi:O0)(ni ci:Nat)(l:Bl)(g n:Nat)(hR:Hi d B Bi b bx br pi ni ci l g n)(cs:List Nat)(no t:Int)(w:World)(hM:RcM B Bi b bx br pi ni ci l g n cs w)(hz:zer cs<d)(hph:phi cs≤999999998000)(ht1:1≤t)(ht5:t≤5) :
 C0 66 #[P0 bx,V0 no,V0 t] w (Hb B g n (Ek l d cs no t) w):=by
 have hc:=hM.hc
 have kx:=hM.kx
 have kr:=hM.kr
 have hI:=hM.hI
 have a8:=hM.hB
 have hn:=hM.hn
 refine zin 75 Tryz.func66 ?_
 refine xk 18 (show((t==(-1:Int)):Bool)=false from beq_false_of_ne (by omega)) ?_
 refine xk 6 (show((t==(-2:Int)):Bool)=false from beq_false_of_ne (by omega)) ?_
 refine xb 8 0 kx ?_
 refine xc 2 (args:=#[P0 b,V0 no,V0 t]) (Bh Bi b pi ni ci l no t _ hI) ?_
 rintro e W1 d4
 rcases d4 with ⟨a9,bf,rfl,a0,d8⟩|⟨a9,kp,kc,vp,vc,rfl,a0,e5,b5⟩
 ·refine xa 3 [V0 0,.bool false,S0,S0] 38 fun b2 W2 n2=>?_
  refine xsv 0 n2.blk [V0 0,.bool false,S0,S0] fun W3 u3 k3=>?_
  have g2:=n2.ge0 (blB (Below.refl B w) a8 a0)
  have b3:=(d8.below n2.below).only (Zg.of_upd (T:=[38]) u3 n2.blk (by decide)) (by decide)
  have hB:=u3.below (blB (blB (Below.refl B w) a8 a0) a8 n2.below) (Nat.le_trans a8 g2)
  have hO:=(Zg.upd_new ((show Zg [3] w _ from(Zg.of_below a0)).trans (Zg.of_below n2.below)) u3 g2)
  exact xe 19 (.iface 215 (P0 bf)) (Xe (Di (Zek ht5) a9) a9 hB hO b3)
 have d1:=Nat.le_refl w.heap.size
 have e3:=nodT_is a9 ht1
 have d6:=maxC l no t a9
 have d9:=Cq l no
 refine xa 3 [V0 0,.bool false,S0,S0] 38 fun b4 W4 n4=>?_
 refine xsv 0 n4.blk [V0 (Yx (inB l no)),.bool (Qf (inB l no)),.slice kp (Xb (inB l no)) kc,.slice vp (Xb (inB l no)) vc] fun W5 u5 k5=>?_
 have g4:=n4.ge0 (blB (Below.refl B w) a8 a0)
 refine xb 17 3 k5 ?_
 have b7:=u5.own2 (Zb (Zd b5 d1) n4.below) n4.blk (by decide)
 have b9:=u5.own2 (Zb (Zb hc a0) n4.below) n4.blk (by decide)
 have c0:=((hI.below a0).below n4.below).only (Zg.of_upd (T:=[38]) u5 n4.blk (by decide)) (by decide)
 have hB:=u5.below (blB (blB (Below.refl B w) a8 a0) a8 n4.below) (Nat.le_trans a8 g4)
 have hO:=(Zg.upd_new ((show Zg [3] w _ from(Zg.of_below a0)).trans (Zg.of_below n4.below)) u5 g4)
 have c4:=u5.blkT ((kx.below a0).below n4.below) n4.blk (by decide)
 have c5:=u5.blkT ((kr.below a0).below n4.below) n4.blk (by decide)
 refine zl 5 75 (fun zm d5 V=>∃ (i:Nat) (c:List Nat),d5=[(0,P0 bx),(1,V0 no),(11,P0 b4),(60,.slice vp (Xb (inB l no)) vc),(61,V0 (↑(Xb (inB l no)):Int)),(62,V0 (i:Int))]∧zm=(Xb (inB l no))-((i:Int)).toNat∧Below B w V∧Zg [3] w V∧Blk V bx ([P0 b,P0 br]) 80∧Blk V br ([.slice (S1 g) n n]) 146∧Blk V b4 ([V0 (Yx (inB l no)),.bool (Qf (inB l no)),.slice kp (Xb (inB l no)) kc,.slice vp (Xb (inB l no)) vc]) 38∧V.ownsRow w.heap.size 9 1 (.slice vp (Xb (inB l no)) vc) (Xb (inB l no)) ((Wo l no).map sv)∧V.ownsRow B 3 1 (.slice (S1 g) n n) n (c.map nv)∧ImgR Bi b pi ni ci l V∧i≤(Xb (inB l no))∧Xt (Zp l d) cs (Nf l no i) c) ⟨0,cs,rfl,rfl,hB,hO,c4,c5,k5,b7,b9,c0,Nat.zero_le _,(by rw[Zb0];exact Xt.nil _ _)⟩ ?_
 rintro _ _ W6 ⟨i,c,rfl,rfl,a5,a2,b0,b1,a7,b5,hc,hI,hi,hf⟩ J6 d2 r6
 obtain⟨e0,e4,e2⟩:=hf.well
 have e1:=Zen l no i
 refine xid 6 ((i:Int)<(↑(Xb (inB l no)):Int)) (fun d3=>?_) (fun d3=>?_)
 ·refine xx 6 _ (Xb (inB l no)) i 1 (Strs.elem (Ze b5) (Cq l no) (k:=i) (by omega)).1 ?_
  refine xl 0 ((Strs.elem (Ze b5) (Cq l no) (k:=i) (by omega)).2) ?_
  refine xlv 7 a7.rp ?_
  refine xc 1 (args:=#[P0 bx,V0 no,.agg #[V0 (Yx (inB l no)),.bool (Qf (inB l no)),.slice kp (Xb (inB l no)) kc,.slice vp (Xb (inB l no)) vc],.string ⟨((Wo l no).getD i []).toArray⟩]) (Zfa d B Bi b bx br pi ni ci l g n hR c no (Yx (inB l no)) (Qf (inB l no)) kp vp (Xb (inB l no)) kc (Xb (inB l no)) vc ((Wo l no).getD i []) _ (hM.move a5 a2 hI hc (by omega)) (by omega) (by omega) (by omega) (by omega) (Zb5 l no i)) ?_
  rintro e W8 c9
  rcases c9 with ⟨b8,d0,vr,rfl,c1,a6,d7⟩|⟨b8,rfl,c1,a6,hc⟩
  ·have c2:=a5.trans c1
   have c6:=a2.trans a6
   refine xe 22 (.iface d0 (vr)) ?_
   have e9:Ek l d cs no t=Qc (Zp l d) cs (Zad l no):=by rw[Mp ((Zek ht5).trans a9),hasL_n ht5]
   have e8:=Zcx (by omega) hf b8
   exact Xe (c:=(Ek l d cs no t).1) (bl:=(Ek l d cs no t).2.1) (er:=(Ek l d cs no t).2.2) rfl (by rw[e9,e8];exact b8) c2 c6 (by rw[e9,e8];exact d7)
  refine xwm 14 ((i:Int)+1) (↑(i+1):Int) ?_
  have c8:=a5.trans c1
  have c3:=a2.trans a6
  have a1:=b0.only a6 (by decide)
  have a3:=b1.only a6 (by decide)
  have a4:=a7.only a6 (by decide)
  have b6:=Zo b5 a6 (by decide)
  have c7:=hI.only a6 (by decide)
  exact ze 2 (d2 _ _ _ ⟨i+1,_,rfl,rfl,c8,c3,a1,a3,a4,b6,hc,c7,by omega,Zao (by omega) hf b8⟩ (by omega))
 refine xe 11 .nilIface ?_
 have e9:Ek l d cs no t=Qc (Zp l d) cs (Zad l no):=by rw[Mp ((Zek ht5).trans a9),hasL_n ht5]
 obtain rfl:i=(Wo l no).length:=by omega
 rw[Zco] at hf
 exact Ys (by rw[e9];exact hf.1) (by rw[e9];exact hf.2) a5 a2 hc
theorem Zev(d:Nat)(B Bi b bx br:Nat)(pi:O0)(ni ci:Nat)(l:Bl)(g n:Nat)(hR:Hi d B Bi b bx br pi ni ci l g n)(cs:List Nat)(no ak:Int)(w:World)(hM:RcM B Bi b bx br pi ni ci l g n cs w)(hz:zer cs<d)(hph:phi cs≤999999998000)(h1:1≤ak)(h7:ak≤7) :
 C0 66 #[P0 bx,V0 no,V0 (asP ak)] w (Hb B g n (Ek l d cs no ak) w):=by
 by_cases h6:ak=6
 ·subst h6;exact Zcc d B Bi b bx br pi ni ci l g n hR cs no w hM hz hph
 ·by_cases h8:ak=7
  ·subst h8;exact Zbg d B Bi b bx br pi ni ci l g n hR cs no w hM hz hph
  ·rw[asP_id (by omega)];exact Za3 d B Bi b bx br pi ni ci l g n hR cs no ak w hM hz hph h1 (by omega)
theorem Za4{l:Bl}{d:Nat}{cs:List Nat}{no ak:Int}(h:¬ (0≤no∧no<cs.length)):Zp l (d+1) cs (no,ak,0)=(cs,[no],3):=by unfold Zp;rw[if_neg (fun q=>q rfl),if_pos h]
theorem Ss{l:Bl}{d:Nat}{cs:List Nat}{no ak:Int}(h:0≤no∧no<cs.length)(h2:cs.getD no.toNat 0≠0):Zp l (d+1) cs (no,ak,0)=(Vf cs no,[],0):=by unfold Zp;rw[if_neg (fun q=>q rfl),if_neg (fun q=>q h),if_pos h2]
theorem Bk{l:Bl}{d:Nat}{cs:List Nat}{no ak:Int}(h:0≤no∧no<cs.length)(h2:cs.getD no.toNat 0=0):Zp l (d+1) cs (no,ak,0)=Ek l d (Vf cs no) no ak:=by unfold Zp;rw[if_neg (fun q=>q rfl),if_neg (fun q=>q h),if_neg (fun q=>q h2)];rfl
theorem Ry(d:Nat)(B Bi b bx br:Nat)(pi:O0)(ni ci:Nat)(l:Bl)(g n:Nat)(hR:Hi d B Bi b bx br pi ni ci l g n)(cs:List Nat)(no ak:Int)(w:World)(hM:RcM B Bi b bx br pi ni ci l g n cs w)(hz:zer cs<d+1)(hph:phi cs≤1000000000000)(h1:1≤ak)(h7:ak≤7) :
 C0 29 #[P0 bx,V0 no,V0 (asP ak)] w (Hb B g n (Zp l (d+1) cs (no,ak,0)) w):=by
 have hc:=hM.hc
 have kx:=hM.kx
 have kr:=hM.kr
 have hI:=hM.hI
 have b3:=hM.hB
 have hn:=hM.hn
 refine zin 30 Tryz.func29 ?_
 refine xb 10 1 kx ?_
 refine xc 1 (args:=#[P0 br,V0 no]) (refs_Add B br g n cs no _ kr (Nat.le_trans b3 (Below.refl B _).size) hc hn hph) ?_
 rintro e W1 b5
 rcases b5 with ⟨a0,rfl,a1,a2,hc⟩|⟨a0,rfl,a1,a2,hc⟩
 ·refine xc 20 (args:=#[V0 no,.iface 33 (V0 3)]) (Wl no 3 [] _ _ rfl) ?_
  rintro _ W2 ⟨c0,v2,rfl,b2,c1⟩
  have hB:=blB a1 b3 b2
  have hO:=(show Zg [3] w _ from a2).trans (Zg.of_below b2)
  exact xe 5 (.iface c0 (v2)) (Xe (Za4 a0) (by decide) hB hO c1)
 have b7:=Jt a0.1 a0.2
 have c3:=Uq a0.1 a0.2
 have c2:=Vi cs no
 refine xid 24 ((↑(cs.getD no.toNat 0+1):Int)>(1:Int)) (fun b6=>?_) (fun b6=>?_)
 ·have hO:=(show Zg [3] w _ from a2)
  refine xe 7 .nilIface ?_
  have e9:(Zp l (d+1) cs (no,ak,0))=_:=Ss a0 (by omega)
  exact Ys (by rw[e9]) (by rw[e9]) a1 hO hc
 have a3:=hI.only a2 (by decide)
 have b0:cs.getD no.toNat 0=0:=by omega
 rw[if_pos b0] at b7
 have hO:=(show Zg [3] w _ from a2)
 refine xc 7 (args:=#[P0 bx,V0 no,V0 (asP ak)]) (Zev d B Bi b bx br pi ni ci l g n hR (Vf cs no) no ak _ (hM.move a1 hO a3 hc (by omega)) (by omega) (by unfold phi at hph ⊢;omega) h1 h7) ?_
 rintro e W4 b8
 rcases b8 with ⟨a9,b4,vr,rfl,a8,a7,b9⟩|⟨a9,rfl,a8,a7,hc⟩
 ·have a4:=a1.trans a8
  have a6:=hO.trans a7
  refine xe 4 (.iface b4 (vr)) ?_
  have e9:(Zp l (d+1) cs (no,ak,0))=_:=Bk a0 b0
  exact Xe (c:=(Zp l (d+1) cs (no,ak,0)).1) (bl:=(Zp l (d+1) cs (no,ak,0)).2.1) (er:=(Zp l (d+1) cs (no,ak,0)).2.2) rfl (by rw[e9];exact a9) a4 a6 (by rw[e9];exact b9)
 have b1:=a1.trans a8
 have a5:=hO.trans a7
 refine xe 4 .nilIface ?_
 have e9:(Zp l (d+1) cs (no,ak,0))=_:=Bk a0 b0
 exact Ys (by rw[e9];exact a9) (by rw[e9]) b1 a5 hc
theorem Mx:∀ (d:Nat) (B Bi b bx br:Nat) (pi:O0) (ni ci:Nat) (l:Bl) (g n:Nat),Hi d B Bi b bx br pi ni ci l g n
 | 0,B,Bi,b,bx,br,pi,ni,ci,l,g,n=>fun cs no ak w _ hz _ _ _=>absurd hz (by omega)
 | d+1,B,Bi,b,bx,br,pi,ni,ci,l,g,n=>fun cs no ak w hM hz a0 h1 h7=>Ry d B Bi b bx br pi ni ci l g n (Mx d B Bi b bx br pi ni ci l g n) cs no ak w hM hz a0 h1 h7
end Go.Proofs.YtgphgaehfdfjjaaGreatDoor
namespace Go.Proofs.YtgphgaehfdfjjaaGreatDoor
set_option maxHeartbeats 8000000
set_option maxRecDepth 100000
open Go.RowKit Go.Extern.Stop Go.Stop Go.Extern
set_option linter.unusedVariables false
attribute [local irreducible] wpList wpAnyH Code.wp Oper.wp Go
theorem zerosV(n:Nat):Ha (Value.int .i64 0).cells.toList n=(List.replicate n (0:Nat)).map nv:=by
 rw[show(Value.int .i64 0).cells.toList=[Value.int .i64 0] from rfl,Ha,List.map_replicate]
 induction n with
 | zero=>rfl
 | succ n ih=>rw[List.replicate_succ,List.flatten_cons,ih,List.replicate_succ];rfl
theorem nv_one(cs:List Nat):∀ u∈cs.map nv,u.oneCell'=true:=fun u hu=>by obtain⟨y,_,rfl⟩:=List.mem_map.1 hu;rfl
theorem Zcy(n:Nat)(w:World)(h:n≤65536) :
 C0 27 #[V0 (n:Int)] w (Qi (fun w' r=>∃ br g,r=.tuple #[P0 br,V0 0]∧w.heap.size≤br∧Blk w' br [.slice (S1 g) n n] 146∧w'.ownsRow w.heap.size 3 1 (.slice (S1 g) n n) n ((List.replicate n (0:Nat)).map nv)) w):=by
 refine zin 14 Tryz.func27 ?_
 refine xgk 12 [5,6] (show(decide ((n:Int)<(0:Int)):Bool)=false from decide_eq_false (by omega)) ?_
 refine xk 5 (show(decide ((n:Int)>(65536:Int)):Bool)=false from decide_eq_false (by omega)) ?_
 refine xmk 5 fun _ _ _ _ zJ zQ zo zx zy zK=>Vq n (V0 0) 1 8 ((List.replicate n (0:Nat)).map nv) zo zx zy Tryz.underlying28 (by kernel_rfl) rfl (by omega) (by omega) ((zerosV n)) fun b2 W2 n2=>?_
 refine zK _ _ ?_
 refine xa 1 [.slice (S1 b2) n n] 146 fun b3 W3 n3=>?_
 have o2:=Zb (Xf (size:=1) (n:=n) n2.blk (n2.ge (B4 w)) (by rw[List.length_map,List.length_replicate,Nat.mul_one]) (by unfold maxLen;omega)) n3.below
 have hB:=bln n2.below n3.below
 have g3:=n3.ge n2.below
 exact xe 5 (.tuple #[P0 b3,V0 0]) ⟨_,rfl,hB,_,_,rfl,g3,n3.blk,o2⟩
open Classical in
def CntsP(O:Cx)(w:World)(e:Ending)(w':World):Prop :=
 (O.2.2≠0∧∃ ty v,e=.returned (.tuple #[S0,.iface ty v])∧B3 w w'∧Vz w' (O.2.1.map some) (some O.2.2) (.iface ty v)) ∨
 (O.2.2=0∧∃ p c,e=.returned (.tuple #[.slice p O.1.length c,.nilIface])∧B3 w w'∧w'.ownsRow w.heap.size 3 1 (.slice p O.1.length c) O.1.length (O.1.map nv))
theorem Jl{O:Cx}{c:List Nat}{bl:List Int}{er:Int}{w W:World}{ty:TypeId}{v:Value}(h:O=(c,bl,er))(her:er≠0)(hb:B3 w W)(hv:Vz W (bl.map some) (some er) (.iface ty v)):CntsP O w (.returned (.tuple #[S0,.iface ty v])) W:=by
 subst h;exact .inl ⟨her,ty,v,rfl,hb,hv⟩
theorem cnts_ok{O:Cx}{c:List Nat}{m d:Nat}{p:O0}{w W:World}(h:O.2.2=0)(h1:O.1=c)(hm:c.length=m)(hb:B3 w W)(ho:W.ownsRow w.heap.size 3 1 (.slice p m d) m (c.map nv)):CntsP O w (.returned (.tuple #[.slice p m d,.nilIface])) W:=by
 subst h1 hm;exact .inr ⟨h,p,d,rfl,hb,ho⟩
theorem phi_zero(n:Nat):phi (List.replicate n 0)≤2001*n:=by
 unfold phi zer
 rw[List.count_replicate_self,List.sum_replicate_nat];omega
theorem refs_own(br n:Nat)(p:O0)(w:World)(kr:Blk w br [.slice p n n] 146) :
 C0 67 #[P0 br] w (Ret (.slice p n n) w):=by
 refine zin 9 Tryz.func67 ?_
 refine xb 20 0 kr ?_
 exact xe 4 (.slice p n n) ⟨rfl,(B4 w)⟩
theorem Zdh(br g n B0:Nat)(cs:List Nat)(w:World)(kr:Blk w br [.slice (S1 g) n n] 146)(hc:w.ownsRow B0 3 1 (.slice (S1 g) n n) n (cs.map nv))(hn:cs.length=n)(hn2:n≤100000) :
 C0 30 #[P0 br] w (Qi (fun w' r=>∃ q c2,r=.slice q n c2∧w'.ownsRow w.heap.size 3 1 (.slice q n c2) n (cs.map nv)) w):=by
 refine zin 6 Tryz.func30 ?_
 refine xr 8 (args:=#[P0 br]) (refs_own br n _ _ kr) fun W1 a0=>?_
 have a1:=Zb hc a0
 refine xc 0 (args:=#[.slice (S1 g) n n]) (Ul ⟨g,0,none⟩ n n (cs.map nv) _ (Ze a1) (by rw[List.length_map];exact hn) (nv_one _) (by omega)) ?_
 rintro _ W2 ⟨_,rfl,a3,q,c2,rfl,hq⟩
 have a2:=Zd hq a0.size
 have hB:=bln a0 a3
 exact xe 4 (.slice q n c2) ⟨_,rfl,hB,_,_,rfl,a2⟩
end Go.Proofs.YtgphgaehfdfjjaaGreatDoor
namespace Go.Proofs.YtgphgaehfdfjjaaGreatDoor
set_option maxHeartbeats 8000000
set_option maxRecDepth 100000
open Go.RowKit Go.Extern.Stop Go.Stop Go.Extern
set_option linter.unusedVariables false
attribute [local irreducible] wpList wpAnyH Code.wp Oper.wp Go
def Iu(s:Sup)(z:Int):Bool:=(((((((((((true&&decide ((0:Int)≤s.tx∧s.tx≤2147483647))&&decide ((0:Int)≤s.time∧s.time≤16777215))&&decide ((1:Int)≤s.unit∧s.unit≤65536))&&decide ((0:Int)≤s.data∧s.data≤65536))&&decide ((2:Int)≤s.blocks∧s.blocks≤14400))&&decide ((1:Int)≤s.top∧s.top≤z))&&decide ((1:Int)≤s.details∧s.details≤z))&&decide ((1:Int)≤s.dslots∧s.dslots≤z))&&decide ((1:Int)≤s.dover∧s.dover≤z))&&decide ((1:Int)≤s.mindex∧s.mindex≤z))&&decide ((1:Int)≤s.mover∧s.mover≤z))
theorem Zez{s:Sup}{z:Int}(h:IntKind.i64.wrap (s.blocks-1)=z):Iu s z=Qj s:=by
 by_cases hb:(2:Int)≤s.blocks∧s.blocks≤14400
 ·have e:z=s.blocks-1:=by rw[←h];exact IntWalk.i64_in _ (by omega)
  subst e;rfl
 ·have hd:decide ((2:Int)≤s.blocks∧s.blocks≤14400)=false:=decide_eq_false hb
  unfold Iu Qj
  rw[hd];simp
theorem Mg{s:Sup}(h:Qj s=true):2≤s.blocks∧s.blocks≤14400:=by
 by_cases hb:(2:Int)≤s.blocks∧s.blocks≤14400
 ·exact hb
 ·have hd:decide ((2:Int)≤s.blocks∧s.blocks≤14400)=false:=decide_eq_false hb
  unfold Qj at h
  rw[hd] at h;simp at h
theorem Np(B bs bo:Nat)(s:Sup)(w:World)(hBw:B≤w.heap.size)(hBo:B≤bo)(ks:Blk w bs [V0 s.tx,V0 s.time,V0 s.unit,V0 s.data,V0 s.blocks,V0 s.top,V0 s.details,V0 s.dslots,V0 s.dover,V0 s.mindex,V0 s.mover] 24)(ko:Blk w bo [.bool true] 4) :
 C0 32 #[P0 bs,.func (.func 33) #[] #[P0 bo]] w ((fun e w'=>∃ u,e=.returned u∧Below B w w'∧Zg [4] w w'∧Blk w' bo [.bool (Iu s (IntKind.i64.wrap (s.blocks-1)))] 4)):=by
 refine zin 64 Tryz.func32 ?_
 refine xc 6 (args:=#[P0 bs,V0 0,V0 2147483647,P0 bo]) (Xv B bs bo 0 _ s.tx 0 2147483647 true _ (Nat.le_trans hBw (Below.refl B _).size) hBo ks rfl ko) ?_
 rintro _ W1 ⟨u1,rfl,e1,e4,e7⟩
 have c3:=ks.only e4 (by decide)
 refine xc 8 (args:=#[.pointer (some ⟨bs,1,none⟩),V0 0,V0 16777215,P0 bo]) (Xv B bs bo 1 _ s.time 0 16777215 (true&&decide ((0:Int)≤s.tx∧s.tx≤2147483647)) _ (Nat.le_trans hBw e1.size) hBo c3 rfl e7) ?_
 rintro _ W2 ⟨u2,rfl,e8,e2,f7⟩
 have b4:=e1.trans e8
 have b9:=c3.only e2 (by decide)
 refine xc 8 (args:=#[.pointer (some ⟨bs,2,none⟩),V0 1,V0 65536,P0 bo]) (Xv B bs bo 2 _ s.unit 1 65536 ((true&&decide ((0:Int)≤s.tx∧s.tx≤2147483647))&&decide ((0:Int)≤s.time∧s.time≤16777215)) _ (Nat.le_trans hBw b4.size) hBo b9 rfl f7) ?_
 rintro _ W3 ⟨u3,rfl,f9,e3,f3⟩
 have b3:=b4.trans f9
 have b1:=b9.only e3 (by decide)
 refine xc 8 (args:=#[.pointer (some ⟨bs,3,none⟩),V0 0,V0 65536,P0 bo]) (Xv B bs bo 3 _ s.data 0 65536 (((true&&decide ((0:Int)≤s.tx∧s.tx≤2147483647))&&decide ((0:Int)≤s.time∧s.time≤16777215))&&decide ((1:Int)≤s.unit∧s.unit≤65536)) _ (Nat.le_trans hBw b3.size) hBo b1 rfl f3) ?_
 rintro _ W4 ⟨u4,rfl,f8,e5,f2⟩
 have b8:=b3.trans f8
 have c8:=b1.only e5 (by decide)
 refine xc 8 (args:=#[.pointer (some ⟨bs,4,none⟩),V0 2,V0 14400,P0 bo]) (Xv B bs bo 4 _ s.blocks 2 14400 ((((true&&decide ((0:Int)≤s.tx∧s.tx≤2147483647))&&decide ((0:Int)≤s.time∧s.time≤16777215))&&decide ((1:Int)≤s.unit∧s.unit≤65536))&&decide ((0:Int)≤s.data∧s.data≤65536)) _ (Nat.le_trans hBw b8.size) hBo c8 rfl f2) ?_
 rintro _ W5 ⟨u5,rfl,f0,e0,f6⟩
 refine xd 3 .z ?_
 refine xbs (.o [0,1,2,3,4,5,6,7,8,9,10,11,12,13,14,15,16,17,20] 18) 6 [.pointer (some ⟨bs,5,none⟩),.pointer (some ⟨bs,6,none⟩),.pointer (some ⟨bs,7,none⟩),.pointer (some ⟨bs,8,none⟩),.pointer (some ⟨bs,9,none⟩),.pointer (some ⟨bs,10,none⟩)] 89 fun b6 W6 n6=>?_
 have c5:=blB (b8.trans f0) hBw (Za W5)
 have g6:=n6.ge0 c5
 refine xu (.r [19] 3) 7 ?_
 refine xb 14 0 n6.blk ?_
 have a6:=((c8.only e0 (by decide)).below (Za W5)).below n6.below
 refine xb 9 4 a6 ?_
 have a9:=blB c5 hBw n6.below
 have b7:=(f6.below (Za W5)).below n6.below
 refine xc 1 (args:=#[.pointer (some ⟨bs,5,none⟩),V0 1,V0 (IntKind.i64.wrap (s.blocks-(1:Int))),P0 bo]) (Xv B bs bo 5 _ s.top 1 (IntKind.i64.wrap (s.blocks-(1:Int))) (((((true&&decide ((0:Int)≤s.tx∧s.tx≤2147483647))&&decide ((0:Int)≤s.time∧s.time≤16777215))&&decide ((1:Int)≤s.unit∧s.unit≤65536))&&decide ((0:Int)≤s.data∧s.data≤65536))&&decide ((2:Int)≤s.blocks∧s.blocks≤14400)) _ (Nat.le_trans hBw a9.size) hBo a6 rfl b7) ?_
 rintro _ W7 ⟨u7,rfl,e9,d0,f5⟩
 have b2:=n6.blk.only d0 (by decide)
 refine xb 22 1 b2 ?_
 have a2:=a6.only d0 (by decide)
 refine xb 9 4 a2 ?_
 have c2:=a9.trans e9
 refine xc 1 (args:=#[.pointer (some ⟨bs,6,none⟩),V0 1,V0 (IntKind.i64.wrap (s.blocks-(1:Int))),P0 bo]) (Xv B bs bo 6 _ s.details 1 (IntKind.i64.wrap (s.blocks-(1:Int))) ((((((true&&decide ((0:Int)≤s.tx∧s.tx≤2147483647))&&decide ((0:Int)≤s.time∧s.time≤16777215))&&decide ((1:Int)≤s.unit∧s.unit≤65536))&&decide ((0:Int)≤s.data∧s.data≤65536))&&decide ((2:Int)≤s.blocks∧s.blocks≤14400))&&decide ((1:Int)≤s.top∧s.top≤IntKind.i64.wrap (s.blocks-1))) _ (Nat.le_trans hBw c2.size) hBo a2 rfl f5) ?_
 rintro _ W8 ⟨u8,rfl,e6,c9,f1⟩
 have b0:=b2.only c9 (by decide)
 refine xb 22 2 b0 ?_
 have a5:=a2.only c9 (by decide)
 refine xb 9 4 a5 ?_
 have b5:=c2.trans e6
 refine xc 1 (args:=#[.pointer (some ⟨bs,7,none⟩),V0 1,V0 (IntKind.i64.wrap (s.blocks-(1:Int))),P0 bo]) (Xv B bs bo 7 _ s.dslots 1 (IntKind.i64.wrap (s.blocks-(1:Int))) (((((((true&&decide ((0:Int)≤s.tx∧s.tx≤2147483647))&&decide ((0:Int)≤s.time∧s.time≤16777215))&&decide ((1:Int)≤s.unit∧s.unit≤65536))&&decide ((0:Int)≤s.data∧s.data≤65536))&&decide ((2:Int)≤s.blocks∧s.blocks≤14400))&&decide ((1:Int)≤s.top∧s.top≤IntKind.i64.wrap (s.blocks-1)))&&decide ((1:Int)≤s.details∧s.details≤IntKind.i64.wrap (s.blocks-1))) _ (Nat.le_trans hBw b5.size) hBo a5 rfl f1) ?_
 rintro _ W9 ⟨u9,rfl,g0,d7,f4⟩
 have c0:=b0.only d7 (by decide)
 refine xb 22 3 c0 ?_
 have a8:=a5.only d7 (by decide)
 refine xb 9 4 a8 ?_
 have c1:=b5.trans g0
 refine xc 1 (args:=#[.pointer (some ⟨bs,8,none⟩),V0 1,V0 (IntKind.i64.wrap (s.blocks-(1:Int))),P0 bo]) (Xv B bs bo 8 _ s.dover 1 (IntKind.i64.wrap (s.blocks-(1:Int))) ((((((((true&&decide ((0:Int)≤s.tx∧s.tx≤2147483647))&&decide ((0:Int)≤s.time∧s.time≤16777215))&&decide ((1:Int)≤s.unit∧s.unit≤65536))&&decide ((0:Int)≤s.data∧s.data≤65536))&&decide ((2:Int)≤s.blocks∧s.blocks≤14400))&&decide ((1:Int)≤s.top∧s.top≤IntKind.i64.wrap (s.blocks-1)))&&decide ((1:Int)≤s.details∧s.details≤IntKind.i64.wrap (s.blocks-1)))&&decide ((1:Int)≤s.dslots∧s.dslots≤IntKind.i64.wrap (s.blocks-1))) _ (Nat.le_trans hBw c1.size) hBo a8 rfl f4) ?_
 rintro _ g5 ⟨g3,rfl,d6,a4,d5⟩
 have c6:=c0.only a4 (by decide)
 refine xb 22 4 c6 ?_
 have a7:=a8.only a4 (by decide)
 refine xb 9 4 a7 ?_
 have c4:=c1.trans d6
 refine xc 1 (args:=#[.pointer (some ⟨bs,9,none⟩),V0 1,V0 (IntKind.i64.wrap (s.blocks-(1:Int))),P0 bo]) (Xv B bs bo 9 _ s.mindex 1 (IntKind.i64.wrap (s.blocks-(1:Int))) (((((((((true&&decide ((0:Int)≤s.tx∧s.tx≤2147483647))&&decide ((0:Int)≤s.time∧s.time≤16777215))&&decide ((1:Int)≤s.unit∧s.unit≤65536))&&decide ((0:Int)≤s.data∧s.data≤65536))&&decide ((2:Int)≤s.blocks∧s.blocks≤14400))&&decide ((1:Int)≤s.top∧s.top≤IntKind.i64.wrap (s.blocks-1)))&&decide ((1:Int)≤s.details∧s.details≤IntKind.i64.wrap (s.blocks-1)))&&decide ((1:Int)≤s.dslots∧s.dslots≤IntKind.i64.wrap (s.blocks-1)))&&decide ((1:Int)≤s.dover∧s.dover≤IntKind.i64.wrap (s.blocks-1))) _ (Nat.le_trans hBw c4.size) hBo a7 rfl d5) ?_
 rintro _ g2 ⟨g7,rfl,d1,a3,d8⟩
 have d2:=c6.only a3 (by decide)
 refine xb 22 5 d2 ?_
 have a1:=a7.only a3 (by decide)
 refine xb 9 4 a1 ?_
 have a0:=c4.trans d1
 refine xc 1 (args:=#[.pointer (some ⟨bs,10,none⟩),V0 1,V0 (IntKind.i64.wrap (s.blocks-(1:Int))),P0 bo]) (Xv B bs bo 10 _ s.mover 1 (IntKind.i64.wrap (s.blocks-(1:Int))) ((((((((((true&&decide ((0:Int)≤s.tx∧s.tx≤2147483647))&&decide ((0:Int)≤s.time∧s.time≤16777215))&&decide ((1:Int)≤s.unit∧s.unit≤65536))&&decide ((0:Int)≤s.data∧s.data≤65536))&&decide ((2:Int)≤s.blocks∧s.blocks≤14400))&&decide ((1:Int)≤s.top∧s.top≤IntKind.i64.wrap (s.blocks-1)))&&decide ((1:Int)≤s.details∧s.details≤IntKind.i64.wrap (s.blocks-1)))&&decide ((1:Int)≤s.dslots∧s.dslots≤IntKind.i64.wrap (s.blocks-1)))&&decide ((1:Int)≤s.dover∧s.dover≤IntKind.i64.wrap (s.blocks-1)))&&decide ((1:Int)≤s.mindex∧s.mindex≤IntKind.i64.wrap (s.blocks-1))) _ (Nat.le_trans hBw a0.size) hBo a1 rfl d8) ?_
 rintro _ g8 ⟨g1,rfl,d9,d3,d4⟩
 have c7:=a0.trans d9
 have hO:=((((((((((((show Zg [4] w _ from e4).trans e2).trans e3).trans e5).trans e0).trans (Zg.of_below (Za W5))).trans (Zg.of_below n6.below)).trans d0).trans c9).trans d7).trans a4).trans a3).trans d3
 exact xe 19 (.tuple #[]) ⟨_,rfl,c7,hO,d4⟩
theorem Ce(s:Sup)(w:World) :
 C0 9 #[.agg #[V0 s.tx,V0 s.time,V0 s.unit,V0 s.data,V0 s.blocks,V0 s.top,V0 s.details,V0 s.dslots,V0 s.dover,V0 s.mindex,V0 s.mover]] w (Ret (.bool (Qj s)) w):=by
 refine zin 7 Tryz.func9 ?_
 refine xa 2 [V0 s.tx,V0 s.time,V0 s.unit,V0 s.data,V0 s.blocks,V0 s.top,V0 s.details,V0 s.dslots,V0 s.dover,V0 s.mindex,V0 s.mover] 24 fun b1 W1 n1=>?_
 refine xa 5 [.bool false] 4 fun b2 W2 n2=>?_
 refine xs 0 n2.blk [.bool true] fun W3 u3 k3=>?_
 have g2:=n2.ge n1.below
 have hB:=u3.below (bln n1.below n2.below) g2
 have k1:=u3.blkT (n1.blk.below n2.below) n2.blk (by decide)
 refine xc 5 (args:=#[P0 b1,.func (.func 33) #[] #[P0 b2]]) (Np w.heap.size b1 b2 s _ hB.size g2 k1 k3) ?_
 rintro _ W4 ⟨u4,rfl,a1,a3,a2⟩
 refine xb 4 0 a2 ?_
 have a0:=hB.trans a1
 exact xe 4 (.bool (Iu s (IntKind.i64.wrap (s.blocks-1)))) ⟨by rw[Zez rfl],a0⟩
def Sk(s:Sup):List Rx:=[(s.top,1,0),(s.details,3,0),(s.dslots,4,0),(s.dover,5,0),(s.mindex,6,0),(s.mover,5,0)]
def Gy(n:Nat):List Nat:=Vf (List.replicate n 0) 0
theorem Yw(n:Nat):(Gy n).length=n:=by unfold Gy;rw[Vi,List.length_replicate]
def Qm(l:Bl)(s:Sup):Cx:=if Qj s=false then([],[],1) else Ya l (Gy s.blocks.toNat) (Sk s)
theorem Wp{l:Bl}{s:Sup}(h:Qj s=false):Qm l s=([],[],1):=if_pos h
theorem Vy{l:Bl}{s:Sup}(h:Qj s=true):Qm l s=Qc (Zp l (s.blocks.toNat+1)) (Gy s.blocks.toNat) (Sk s):=by
 unfold Qm;rw[if_neg (by rw[h];decide)];unfold Ya;rw[Yw]
theorem Xt.more{f:List Nat→Rx→Cx}{cs c c':List Nat}{L:List Rx}(h:Xt f cs L c){x:Rx}(hc:(f c x).1=c')(h2:(f c x).2.2=0):Xt f cs (L++[x]) c':=hc▸h.next h2
theorem phi0(n:Nat):phi (Gy n)≤2001*n+1:=by
 unfold Gy
 by_cases h:0<n
 ·have hz:=Jt (cs:=List.replicate n 0) (k:=0) (by decide) (by rw[List.length_replicate];omega)
  have hs:=Uq (cs:=List.replicate n 0) (k:=0) (by decide) (by rw[List.length_replicate];omega)
  have:=phi_zero n
  unfold phi at this ⊢;omega
 ·obtain rfl:n=0:=by omega
  decide
theorem Zel(n:Int)(w:World)(h:0≤n∧n≤65536):C0 27 #[V0 n] w (Qi (fun w' r=>∃ br g,r=.tuple #[P0 br,V0 0]∧w.heap.size≤br∧Blk w' br [.slice (S1 g) n.toNat n.toNat] 146∧w'.ownsRow w.heap.size 3 1 (.slice (S1 g) n.toNat n.toNat) n.toNat ((List.replicate n.toNat (0:Nat)).map nv)) w):=by
 obtain⟨m,rfl⟩:∃ m:Nat,n=(m:Int):=⟨n.toNat,by omega⟩
 exact Zcy m w (by omega)
theorem Zc1(B br g:Nat)(n:Int)(w:World)(kr:Blk w br [.slice (S1 g) n.toNat n.toNat] 146)(hBw:B≤w.heap.size)(hc:w.ownsRow B 3 1 (.slice (S1 g) n.toNat n.toNat) n.toNat ((List.replicate n.toNat 0).map nv))(hn:1≤n) :
 C0 28 #[P0 br,V0 0] w (fun e w'=>e=.returned (.tuple #[V0 1,V0 0])∧Below B w w'∧Zg [3] w w'∧w'.ownsRow B 3 1 (.slice (S1 g) n.toNat n.toNat) n.toNat ((Gy n.toNat).map nv)):=by
 have e0:(List.replicate n.toNat (0:Nat)).getD 0 0=0:=by rw[List.getD,List.getElem?_replicate];split<;>rfl
 have q:=Fn B br g n.toNat 0 (List.replicate n.toNat 0) w kr hBw hc List.length_replicate (by omega) (by rw[e0];omega)
 rw[e0] at q
 exact q
theorem Mb(Bi b:Nat)(pi:O0)(ni ci:Nat)(l:Bl)(s:Sup)(w:World)(hI:ImgR Bi b pi ni ci l w) :
 C0 7 #[P0 b,.agg #[V0 s.tx,V0 s.time,V0 s.unit,V0 s.data,V0 s.blocks,V0 s.top,V0 s.details,V0 s.dslots,V0 s.dover,V0 s.mindex,V0 s.mover]] w (CntsP (Qm l s) w):=by
 refine zin 67 Tryz.func7 ?_
 refine xa 2 [V0 s.tx,V0 s.time,V0 s.unit,V0 s.data,V0 s.blocks,V0 s.top,V0 s.details,V0 s.dslots,V0 s.dover,V0 s.mindex,V0 s.mover] 24 fun b1 W1 n1=>?_
 refine xlv 7 n1.blk.rp ?_
 refine xr 0 (args:=#[.agg #[V0 s.tx,V0 s.time,V0 s.unit,V0 s.data,V0 s.blocks,V0 s.top,V0 s.details,V0 s.dslots,V0 s.dover,V0 s.mindex,V0 s.mover]]) (Ce s _) fun W2 n4=>?_
 refine xi 3 (!(Qj s)) (fun i3=>?_) (fun i3=>?_)
 ·have c9:Qj s=false:=Zch i3
  have hB:=bln n1.below n4
  refine xe 9 (.tuple #[S0,.iface 33 (V0 1)]) ?_
  exact Jl (bl:=[]) (Wp c9) (by decide) hB rfl
 have c9:Qj s=true:=Zb1 i3
 have t5:=Mg c9
 have j7:=n1.blk.below n4
 refine xb 5 4 j7 ?_
 have hB:=bln n1.below n4
 have r3:=hB.size
 refine xc 0 (args:=#[V0 s.blocks]) (Zel s.blocks _ (by omega)) ?_
 rintro _ W4 ⟨_,rfl,q4,br,g,rfl,q2,q7,hc⟩
 replace q2:=Nat.le_trans r3 q2
 have o8:=Zd hc hB.size
 have k1:=bln hB q4
 refine xc 10 (args:=#[P0 br,V0 0]) (Zc1 w.heap.size br g s.blocks _ q7 k1.size o8 (by omega)) ?_
 rintro _ W5 ⟨rfl,r9,q1,hc⟩
 have q3:Xt (Zp l (s.blocks.toNat+1)) (Gy s.blocks.toNat) [] (Gy s.blocks.toNat):=Xt.nil _ _
 have s2:2≤s.blocks.toNat∧s.blocks.toNat≤14400:=by omega
 have u6:=phi0 s.blocks.toNat
 have r8:=zer_le (Gy s.blocks.toNat)
 rw[Yw] at r8
 refine xa 7 [P0 b,P0 br] 80 fun b6 W6 n6=>?_
 have j6:=k1.trans r9
 have g6:=n6.ge j6
 have b4:=((j7.below q4).only q1 (by decide)).below n6.below
 refine xb 7 5 b4 ?_
 refine xb 2 6 b4 ?_
 refine xb 2 7 b4 ?_
 refine xb 2 8 b4 ?_
 refine xb 2 9 b4 ?_
 refine xb 2 10 b4 ?_
 refine xbs 1 6 [V0 s.top,V0 1,V0 s.details,V0 3,V0 s.dslots,V0 4,V0 s.dover,V0 5,V0 s.mindex,V0 (-1),V0 s.mover,V0 5] 81 fun b7 W7 n7=>?_
 have k7:=bln j6 n6.below
 have g7:=n7.ge k7
 refine xu 5 7 ?_
 refine xlv 14 (n7.blk.rpp 0 2) ?_
 refine xa 0 [V0 0,V0 0] 81 fun b8 W8 n8=>?_
 have k5:=n8.ne n7.blk
 have j2:=bln k7 n7.below
 have g8:=n8.ge j2
 refine xsv 0 n8.blk [V0 s.top,V0 1] fun W9 u9 k9=>?_
 refine xb 6 0 k9 ?_
 refine xb 1 1 k9 ?_
 have k6:=u9.blkT ((n6.blk.below n7.below).below n8.below) n8.blk (by decide)
 have f4:=u9.blkT ((((q7.only q1 (by decide)).below n6.below).below n7.below).below n8.below) n8.blk (by decide)
 have o0:=u9.own2 (Zb (Zb (Zb hc n6.below) n7.below) n8.below) n8.blk (by decide)
 have d4:=u9.below (bln j2 n8.below) g8
 refine xc 0 (args:=#[P0 b6,V0 s.top,V0 1]) ((Mx (s.blocks.toNat+1) w.heap.size Bi b b6 br pi ni ci l g s.blocks.toNat) (Gy s.blocks.toNat) s.top 1 _ ⟨hI.below d4,k6,f4,o0,Yw _,d4.size⟩ (by omega) (by omega) (by decide) (by decide)) ?_
 rintro e s6 p8
 rcases p8 with ⟨a0,c0,vr,rfl,g3,c8,b9⟩|⟨a0,rfl,g3,c8,hc⟩
 ·have c7:=q3.bad (x:=(s.top,1,0)) a0 [(s.details,3,0),(s.dslots,4,0),(s.dover,5,0),(s.mindex,6,0),(s.mover,5,0)]
  have p3:=d4.trans g3
  refine xe 23 (.tuple #[S0,.iface c0 (vr)]) ?_
  exact Jl ((Vy c9).trans c7) a0 p3 b9
 obtain⟨c1,q5⟩:∃ c,(Zp l (s.blocks.toNat+1) (Gy s.blocks.toNat) (s.top,1,0)).1=c:=⟨_,rfl⟩
 rw[q5] at hc
 have o6:Xt (Zp l (s.blocks.toNat+1)) (Gy s.blocks.toNat) [(s.top,1,0)] c1:=q3.more q5 a0
 have l6:=o6.well
 rw[Yw] at l6
 have t2:phi c1≤30000000:=by have:=l6.2.2;simp only[List.length_cons,List.length_nil] at this;omega
 have u8:zer c1<s.blocks.toNat+1:=by have:=l6.2.1;omega
 have i0:=(u9.blk (n7.blk.below n8.below) (Ne.symm (Ne.symm k5))).only c8 (by decide)
 refine xlv 32 (i0.rpp 2 2) ?_
 refine xa 0 [V0 0,V0 0] 81 fun s4 v3 b5=>?_
 have g0:=b5.ne i0
 have j1:=k9.only c8 (by decide)
 have h4:=b5.ne j1
 have k2:=d4.trans g3
 have r7:=b5.ge k2
 refine xsv 0 b5.blk [V0 s.details,V0 3] fun t6 i2 p9=>?_
 refine xb 6 0 p9 ?_
 refine xb 1 1 p9 ?_
 have i7:=i2.blkT ((k6.only c8 (by decide)).below b5.below) b5.blk (by decide)
 have e6:=i2.blkT ((f4.only c8 (by decide)).below b5.below) b5.blk (by decide)
 have m8:=i2.own2 (Zb hc b5.below) b5.blk (by decide)
 have d6:=i2.below (bln k2 b5.below) r7
 refine xc 0 (args:=#[P0 b6,V0 s.details,V0 3]) ((Mx (s.blocks.toNat+1) w.heap.size Bi b b6 br pi ni ci l g s.blocks.toNat) c1 s.details 3 _ ⟨hI.below d6,i7,e6,m8,l6.1,d6.size⟩ (by omega) (by omega) (by decide) (by decide)) ?_
 rintro e u0 o3
 rcases o3 with ⟨a0,c0,vr,rfl,h3,b3,b9⟩|⟨a0,rfl,h3,b3,hc⟩
 ·have c7:=o6.bad (x:=(s.details,3,0)) a0 [(s.dslots,4,0),(s.dover,5,0),(s.mindex,6,0),(s.mover,5,0)]
  have m9:=d6.trans h3
  refine xe 23 (.tuple #[S0,.iface c0 (vr)]) ?_
  exact Jl ((Vy c9).trans c7) a0 m9 b9
 obtain⟨c2,r1⟩:∃ c,(Zp l (s.blocks.toNat+1) c1 (s.details,3,0)).1=c:=⟨_,rfl⟩
 rw[r1] at hc
 have o2:Xt (Zp l (s.blocks.toNat+1)) (Gy s.blocks.toNat) [(s.top,1,0),(s.details,3,0)] c2:=o6.more r1 a0
 have m0:=o2.well
 rw[Yw] at m0
 have u2:phi c2≤30000000:=by have:=m0.2.2;simp only[List.length_cons,List.length_nil] at this;omega
 have s8:zer c2<s.blocks.toNat+1:=by have:=m0.2.1;omega
 have h2:=(i2.blk (i0.below b5.below) (Ne.symm (Ne.symm g0))).only b3 (by decide)
 refine xlv 32 (h2.rpp 4 2) ?_
 refine xa 0 [V0 0,V0 0] 81 fun s9 v2 a7=>?_
 have h1:=a7.ne h2
 have i6:=(i2.blk (j1.below b5.below) (Ne.symm (Ne.symm h4))).only b3 (by decide)
 have h9:=a7.ne i6
 have e2:=p9.only b3 (by decide)
 have d1:=a7.ne e2
 have e1:=d6.trans h3
 have r6:=a7.ge e1
 refine xsv 0 a7.blk [V0 s.dslots,V0 4] fun s3 h8 p0=>?_
 refine xb 6 0 p0 ?_
 refine xb 1 1 p0 ?_
 have j8:=h8.blkT ((i7.only b3 (by decide)).below a7.below) a7.blk (by decide)
 have f2:=h8.blkT ((e6.only b3 (by decide)).below a7.below) a7.blk (by decide)
 have m6:=h8.own2 (Zb hc a7.below) a7.blk (by decide)
 have b0:=h8.below (bln e1 a7.below) r6
 refine xc 0 (args:=#[P0 b6,V0 s.dslots,V0 4]) ((Mx (s.blocks.toNat+1) w.heap.size Bi b b6 br pi ni ci l g s.blocks.toNat) c2 s.dslots 4 _ ⟨hI.below b0,j8,f2,m6,m0.1,b0.size⟩ (by omega) (by omega) (by decide) (by decide)) ?_
 rintro e v8 p1
 rcases p1 with ⟨a0,c0,vr,rfl,i1,a6,b9⟩|⟨a0,rfl,i1,a6,hc⟩
 ·have c7:=o2.bad (x:=(s.dslots,4,0)) a0 [(s.dover,5,0),(s.mindex,6,0),(s.mover,5,0)]
  have l4:=b0.trans i1
  refine xe 23 (.tuple #[S0,.iface c0 (vr)]) ?_
  exact Jl ((Vy c9).trans c7) a0 l4 b9
 obtain⟨c3,i3⟩:∃ c,(Zp l (s.blocks.toNat+1) c2 (s.dslots,4,0)).1=c:=⟨_,rfl⟩
 rw[i3] at hc
 have n9:Xt (Zp l (s.blocks.toNat+1)) (Gy s.blocks.toNat) [(s.top,1,0),(s.details,3,0),(s.dslots,4,0)] c3:=o2.more i3 a0
 have l7:=n9.well
 rw[Yw] at l7
 have v6:phi c3≤30000000:=by have:=l7.2.2;simp only[List.length_cons,List.length_nil] at this;omega
 have t7:zer c3<s.blocks.toNat+1:=by have:=l7.2.1;omega
 have h0:=(h8.blk (h2.below a7.below) (Ne.symm (Ne.symm h1))).only a6 (by decide)
 refine xlv 32 (h0.rpp 6 2) ?_
 refine xa 0 [V0 0,V0 0] 81 fun t1 s5 a3=>?_
 have h5:=a3.ne h0
 have l1:=(h8.blk (i6.below a7.below) (Ne.symm (Ne.symm h9))).only a6 (by decide)
 have h6:=a3.ne l1
 have f6:=(h8.blk (e2.below a7.below) (Ne.symm (Ne.symm d1))).only a6 (by decide)
 have e0:=a3.ne f6
 have f5:=p0.only a6 (by decide)
 have d5:=a3.ne f5
 have e4:=b0.trans i1
 have s1:=a3.ge e4
 refine xsv 0 a3.blk [V0 s.dover,V0 5] fun v5 e5 p5=>?_
 refine xb 6 0 p5 ?_
 refine xb 1 1 p5 ?_
 have l0:=e5.blkT ((j8.only a6 (by decide)).below a3.below) a3.blk (by decide)
 have f0:=e5.blkT ((f2.only a6 (by decide)).below a3.below) a3.blk (by decide)
 have n0:=e5.own2 (Zb hc a3.below) a3.blk (by decide)
 have a9:=e5.below (bln e4 a3.below) s1
 refine xc 0 (args:=#[P0 b6,V0 s.dover,V0 5]) ((Mx (s.blocks.toNat+1) w.heap.size Bi b b6 br pi ni ci l g s.blocks.toNat) c3 s.dover 5 _ ⟨hI.below a9,l0,f0,n0,l7.1,a9.size⟩ (by omega) (by omega) (by decide) (by decide)) ?_
 rintro e v1 n2
 rcases n2 with ⟨a0,c0,vr,rfl,g9,a5,b9⟩|⟨a0,rfl,g9,a5,hc⟩
 ·have c7:=n9.bad (x:=(s.dover,5,0)) a0 [(s.mindex,6,0),(s.mover,5,0)]
  have k3:=a9.trans g9
  refine xe 23 (.tuple #[S0,.iface c0 (vr)]) ?_
  exact Jl ((Vy c9).trans c7) a0 k3 b9
 obtain⟨c4,q8⟩:∃ c,(Zp l (s.blocks.toNat+1) c3 (s.dover,5,0)).1=c:=⟨_,rfl⟩
 rw[q8] at hc
 have p6:Xt (Zp l (s.blocks.toNat+1)) (Gy s.blocks.toNat) [(s.top,1,0),(s.details,3,0),(s.dslots,4,0),(s.dover,5,0)] c4:=n9.more q8 a0
 have m4:=p6.well
 rw[Yw] at m4
 have v9:phi c4≤30000000:=by have:=m4.2.2;simp only[List.length_cons,List.length_nil] at this;omega
 have u7:zer c4<s.blocks.toNat+1:=by have:=m4.2.1;omega
 have g1:=(e5.blk (h0.below a3.below) (Ne.symm (Ne.symm h5))).only a5 (by decide)
 refine xlv 32 (g1.rpp 8 2) ?_
 refine xa 0 [V0 0,V0 0] 81 fun u1 t4 a1=>?_
 have g2:=a1.ne g1
 have l3:=(e5.blk (l1.below a3.below) (Ne.symm (Ne.symm h6))).only a5 (by decide)
 have g5:=a1.ne l3
 have f7:=(e5.blk (f6.below a3.below) (Ne.symm (Ne.symm e0))).only a5 (by decide)
 have d0:=a1.ne f7
 have e3:=(e5.blk (f5.below a3.below) (Ne.symm (Ne.symm d5))).only a5 (by decide)
 have d2:=a1.ne e3
 have f1:=p5.only a5 (by decide)
 have d8:=a1.ne f1
 have e7:=a9.trans g9
 have s0:=a1.ge e7
 refine xsv 0 a1.blk [V0 s.mindex,V0 (-1)] fun v4 d3 m7=>?_
 refine xb 6 0 m7 ?_
 refine xb 1 1 m7 ?_
 have k4:=d3.blkT ((l0.only a5 (by decide)).below a1.below) a1.blk (by decide)
 have f3:=d3.blkT ((f0.only a5 (by decide)).below a1.below) a1.blk (by decide)
 have m5:=d3.own2 (Zb hc a1.below) a1.blk (by decide)
 have b2:=d3.below (bln e7 a1.below) s0
 refine xc 0 (args:=#[P0 b6,V0 s.mindex,V0 (-1)]) ((Mx (s.blocks.toNat+1) w.heap.size Bi b b6 br pi ni ci l g s.blocks.toNat) c4 s.mindex 6 _ ⟨hI.below b2,k4,f3,m5,m4.1,b2.size⟩ (by omega) (by omega) (by decide) (by decide)) ?_
 rintro e v7 o5
 rcases o5 with ⟨a0,c0,vr,rfl,f9,a2,b9⟩|⟨a0,rfl,f9,a2,hc⟩
 ·have c7:=p6.bad (x:=(s.mindex,6,0)) a0 [(s.mover,5,0)]
  have j0:=b2.trans f9
  refine xe 23 (.tuple #[S0,.iface c0 (vr)]) ?_
  exact Jl ((Vy c9).trans c7) a0 j0 b9
 obtain⟨c5,q6⟩:∃ c,(Zp l (s.blocks.toNat+1) c4 (s.mindex,6,0)).1=c:=⟨_,rfl⟩
 rw[q6] at hc
 have o7:Xt (Zp l (s.blocks.toNat+1)) (Gy s.blocks.toNat) [(s.top,1,0),(s.details,3,0),(s.dslots,4,0),(s.dover,5,0),(s.mindex,6,0)] c5:=p6.more q6 a0
 have l5:=o7.well
 rw[Yw] at l5
 have u4:phi c5≤30000000:=by have:=l5.2.2;simp only[List.length_cons,List.length_nil] at this;omega
 have t0:zer c5<s.blocks.toNat+1:=by have:=l5.2.1;omega
 have i8:=(d3.blk (g1.below a1.below) (Ne.symm (Ne.symm g2))).only a2 (by decide)
 refine xlv 32 (i8.rpp 10 2) ?_
 refine xa 0 [V0 0,V0 0] 81 fun u5 t8 a8=>?_
 have q0:=a8.ne i8
 have p4:=(d3.blk (l3.below a1.below) (Ne.symm (Ne.symm g5))).only a2 (by decide)
 have p7:=a8.ne p4
 have i4:=(d3.blk (f7.below a1.below) (Ne.symm (Ne.symm d0))).only a2 (by decide)
 have l8:=a8.ne i4
 have j5:=(d3.blk (e3.below a1.below) (Ne.symm (Ne.symm d2))).only a2 (by decide)
 have m3:=a8.ne j5
 have i9:=(d3.blk (f1.below a1.below) (Ne.symm (Ne.symm d8))).only a2 (by decide)
 have l9:=a8.ne i9
 have l2:=m7.only a2 (by decide)
 have m2:=a8.ne l2
 have f8:=b2.trans f9
 have r4:=a8.ge f8
 refine xsv 0 a8.blk [V0 s.mover,V0 5] fun s7 m1 r0=>?_
 refine xb 6 0 r0 ?_
 refine xb 1 1 r0 ?_
 have k0:=m1.blkT ((k4.only a2 (by decide)).below a8.below) a8.blk (by decide)
 have e8:=m1.blkT ((f3.only a2 (by decide)).below a8.below) a8.blk (by decide)
 have o4:=m1.own2 (Zb hc a8.below) a8.blk (by decide)
 have a4:=m1.below (bln f8 a8.below) r4
 refine xc 0 (args:=#[P0 b6,V0 s.mover,V0 5]) ((Mx (s.blocks.toNat+1) w.heap.size Bi b b6 br pi ni ci l g s.blocks.toNat) c5 s.mover 5 _ ⟨hI.below a4,k0,e8,o4,l5.1,a4.size⟩ (by omega) (by omega) (by decide) (by decide)) ?_
 rintro e t9 o9
 rcases o9 with ⟨a0,c0,vr,rfl,d7,h7,b9⟩|⟨a0,rfl,d7,h7,hc⟩
 ·have c7:=o7.bad (x:=(s.mover,5,0)) a0 []
  have i5:=a4.trans d7
  refine xe 23 (.tuple #[S0,.iface c0 (vr)]) ?_
  exact Jl ((Vy c9).trans c7) a0 i5 b9
 obtain⟨c6,r2⟩:∃ c,(Zp l (s.blocks.toNat+1) c5 (s.mover,5,0)).1=c:=⟨_,rfl⟩
 rw[r2] at hc
 have p2:Xt (Zp l (s.blocks.toNat+1)) (Gy s.blocks.toNat) [(s.top,1,0),(s.details,3,0),(s.dslots,4,0),(s.dover,5,0),(s.mindex,6,0),(s.mover,5,0)] c6:=o7.more r2 a0
 have j9:=p2.well
 rw[Yw] at j9
 have t3:phi c6≤30000000:=by have:=j9.2.2;simp only[List.length_cons,List.length_nil] at this;omega
 have u3:zer c6<s.blocks.toNat+1:=by have:=j9.2.1;omega
 have n3:=k0.only h7 (by decide)
 refine xb 35 1 n3 ?_
 have j3:=e8.only h7 (by decide)
 refine xc 0 (args:=#[P0 br]) (Zdh br g s.blocks.toNat w.heap.size c6 _ j3 hc (j9.1) (by omega)) ?_
 rintro _ v0 ⟨_,rfl,n5,q9,d9,rfl,r5⟩
 have o1:=(a4.trans d7).size
 have k8:=Zd r5 o1
 have j4:=bln (a4.trans d7) n5
 refine xe 5 (.tuple #[.slice q9 s.blocks.toNat d9,.nilIface]) ?_
 have e9:=Vy (l:=l) c9
 exact cnts_ok (by rw[e9];exact p2.1) (by rw[e9];exact p2.2) j9.1 j4 k8
end Go.Proofs.YtgphgaehfdfjjaaGreatDoor
namespace Go.Proofs.YtgphgaehfdfjjaaGreatDoor
set_option maxHeartbeats 8000000
set_option maxRecDepth 100000
set_option linter.unusedVariables false
theorem Rb{k no:Int}{x:Bl}(h:Xz k no x=0):(Zh x 252 4:Int)=(Lo x k:Int):=by
 unfold Xz at h
 split at h
 ·exact absurd h (by decide)
 split at h
 ·exact absurd h (by decide)
 split at h
 ·exact absurd h (by decide)
 rename_i h2
 have h3:((Zh x 252 4:Int) != (Lo x k:Int))=false:=by
  cases q:((Zh x 252 4:Int) != (Lo x k:Int)) with
  | false=>rfl
  | true=>exact absurd q h2
 exact Qh h3
theorem Zb7{k j no:Int}{x:Bl}(h1:Xz k no x=0)(h2:Xz j no x=0):Up k=Up j:=by
 have h:=(Rb h1).symm.trans (Rb h2)
 have h3:Lo x k=Lo x j:=by omega
 unfold Lo at h3
 have q:=congrArg (fun y=>Gh (x.take 252) ^^^ y) h3
 simpa only[←Nat.xor_assoc,Nat.xor_self,Nat.zero_xor] using q
theorem Uv{l:Bl}{k j no:Int}(h1:inE l k no=0)(h2:inE l j no=0):Up k=Up j:=by
 unfold inE at h1 h2
 split at h1
 ·rename_i h
  rw[if_pos h] at h2
  exact Zb7 h1 h2
 ·exact absurd h1 (by decide)
theorem inE_1{l:Bl}{k no:Int}(hl:l.length/256≤14400)(h1:1≤k)(h4:k≤4):inE l k no≠1:=by
 unfold inE
 split
 ·rename_i h
  have hk:Gk k no=true:=decide_eq_true ⟨h1,h4,h.1,by omega⟩
  unfold Xz
  rw[if_neg (by show ¬ (!Gk k no)=true;rw[hk];decide)]
  repeat' split
  all_goals decide
 ·decide
def Qa(l:Bl)(no:Int):Nat:=if Xa l no 0=0∧¬ Rf (Yx (inB l no)) (Qf (inB l no)) then Xb (inB l no) else 0
def Qn(l:Bl)(no:Int):Nat:=if Xx l no=0 then Zh (inB l no) 0 4 else 0
theorem Cy{l:Bl}{no t:Int}(h:Xa l no t=0):inE l 2 no=0:=by
 unfold Xa at h
 split at h
 ·assumption
 ·exact h
theorem Zc9{l:Bl}{no:Int}(h:Xx l no=0):inE l 4 no=0:=by
 unfold Xx at h
 split at h
 ·assumption
 ·exact h
theorem Zcr{l:Bl}{no:Int}(h:Xo l no=0):inE l 3 no=0:=by
 unfold Xo at h
 split at h
 ·assumption
 ·exact h
theorem node_any{l:Bl}{no t:Int}(h:Xa l no t=0):Xa l no 0=0:=by
 have hi:=Cy h
 unfold Xa at h ⊢
 rw[if_pos hi] at h ⊢
 unfold Yh at h ⊢
 split at h
 ·rename_i he;rw[if_pos he,if_pos (.inl rfl)]
 ·rename_i he;exact absurd h he
theorem Zfe{l:Bl}{no ak:Int}(h:Us l no ak=0):(Lq l no ak).length=Qa l no+Qn l no:=by
 unfold Us at h
 unfold Lq Qa Qn
 by_cases h6:ak=6
 ·rw[if_pos h6] at h ⊢
  rw[if_neg (fun q=>absurd (Uv (Zc9 h) (Cy q.1)) (by decide)),if_pos h,List.length_map,(Wu h).2,Nat.zero_add]
 ·rw[if_neg h6] at h ⊢
  by_cases h7:ak=7
  ·rw[if_pos h7] at h ⊢
   rw[if_neg (fun q=>absurd (Uv (Zcr h) (Cy q.1)) (by decide)),if_neg (fun q=>absurd (Uv (Zcr h) (Zc9 q)) (by decide))];rfl
  ·rw[if_neg h7] at h ⊢
   rw[if_neg (c:=Xx l no=0) (fun q=>absurd (Uv (Cy h) (Zc9 q)) (by decide)),Nat.add_zero]
   unfold Zad
   by_cases hd:Rf (Yx (inB l no)) (Qf (inB l no))
   ·rw[if_pos hd,if_neg (fun q=>q.2 hd)];rfl
   ·rw[if_neg hd,if_pos ⟨node_any h,hd⟩,List.length_map]
    unfold Wo;rw[Ku]
theorem Kq{f g:Nat→Nat}{k:Nat}(h:∀ i,i≠k→f i=g i):∀ n,((List.range n).map f).sum+(if k<n then g k else 0)=((List.range n).map g).sum+(if k<n then f k else 0)
 | 0=>by simp
 | n+1=>by
  have ih:=Kq h n
  rw[List.range_succ,List.map_append,List.map_append,List.sum_append,List.sum_append]
  simp only[List.map_cons,List.map_nil,List.sum_cons,List.sum_nil,Nat.add_zero]
  by_cases e:n=k
  ·subst e
   rw[if_neg (Nat.lt_irrefl _),if_neg (Nat.lt_irrefl _)] at ih
   rw[if_pos (by omega),if_pos (by omega)];omega
  ·have:=h n e
   by_cases q:k<n
   ·rw[if_pos q,if_pos q] at ih
    rw[if_pos (by omega),if_pos (by omega)];omega
   ·rw[if_neg q,if_neg q] at ih
    rw[if_neg (by omega),if_neg (by omega)];omega
def Vj(l:Bl)(cs:List Nat)(i:Nat):Nat:=if i≠0∧cs.getD i 0≠0 then Qa l (i:Int)+Qn l (i:Int) else 0
def Xg(l:Bl)(cs:List Nat)(n:Nat):Nat:=((List.range n).map (Vj l cs)).sum
theorem Zr(l:Bl)(cs:List Nat)(n:Nat):Xg l cs (n+1)=Xg l cs n+Vj l cs n:=by unfold Xg;rw[List.range_succ,List.map_append,List.sum_append];simp
theorem Js{cs:List Nat}{k i v:Nat}(h:i≠k):(cs.set k v).getD i 0=cs.getD i 0:=by simp[List.getD,Ne.symm h]
theorem Jo{cs:List Nat}{k v:Nat}(h:k<cs.length):(cs.set k v).getD k 0=v:=by simp[List.getD,h]
theorem Zem{l:Bl}{cs:List Nat}{x:Int}(h0:0≤x)(h1:x<cs.length)(h:cs.getD x.toNat 0≠0)(n:Nat):Xg l (Vf cs x) n=Xg l cs n:=by
 have q:=Kq (f:=Vj l (Vf cs x)) (g:=Vj l cs) (k:=x.toNat) (fun i hi=>by unfold Vj Vf;rw[Js hi]) n
 have e:Vj l (Vf cs x) x.toNat=Vj l cs x.toNat:=by
  unfold Vj Vf
  rw[Jo (by omega)]
  by_cases z:x.toNat≠0
  ·rw[if_pos ⟨z,by omega⟩,if_pos ⟨z,h⟩]
  ·rw[if_neg (fun q=>z q.1),if_neg (fun q=>z q.1)]
 unfold Xg
 rw[e] at q;omega
theorem Zb6{l:Bl}{cs:List Nat}{x:Int}(h0:0≤x)(h1:x<cs.length)(h:cs.getD x.toNat 0=0)(hz:cs.getD 0 0≠0):Xg l (Vf cs x) cs.length=Xg l cs cs.length+(Qa l x+Qn l x):=by
 have q:=Kq (f:=Vj l (Vf cs x)) (g:=Vj l cs) (k:=x.toNat) (fun i hi=>by unfold Vj Vf;rw[Js hi]) cs.length
 have hx:x.toNat≠0:=fun q=>hz (by rw[q] at h;exact h)
 have e1:Vj l (Vf cs x) x.toNat=Qa l x+Qn l x:=by
  unfold Vj Vf
  rw[Jo (by omega),if_pos ⟨hx,by omega⟩,Int.toNat_of_nonneg h0]
 have e2:Vj l cs x.toNat=0:=by unfold Vj;rw[if_neg (fun q=>q.2 h)]
 rw[if_pos (by omega),if_pos (by omega),e1,e2] at q
 unfold Xg;omega
theorem Zeo{cs:List Nat}{x:Int}(h0:0≤x)(h1:x<cs.length)(hz:cs.getD 0 0≠0):(Vf cs x).getD 0 0≠0:=by
 unfold Vf
 by_cases e:0=x.toNat
 ·rw[←e,Jo (by omega)];omega
 ·rw[Js e];exact hz
theorem Wz(l:Bl):∀ (m:Nat) (cs:List Nat) (L:List Rx),1001*zer cs+L.length≤m→cs.getD 0 0≠0→(Ya l cs L).2.2=0 →
  (Ya l cs L).1.sum+Xg l cs cs.length=cs.sum+L.length+Xg l (Ya l cs L).1 cs.length∧(Ya l cs L).1.getD 0 0≠0
 | _,cs,[],_,hz,_=>by rw[Br];exact⟨by simp,hz⟩
 | 0,cs,x::r,hm,_,_=>absurd hm (by simp)
 | m+1,cs,x::r,hm,hz,h=>by
  rw[List.length_cons] at hm
  by_cases e1:x.2.2=0
  ·by_cases e2:0≤x.1∧x.1<cs.length
   ·have a0:=Jt e2.1 e2.2
    have a2:=Uq e2.1 e2.2
    have a1:=Zeo e2.1 e2.2 hz
    by_cases e3:cs.getD x.1.toNat 0=0
    ·rw[if_pos e3] at a0
     by_cases e4:Us l x.1 x.2.1=0
     ·rw[Hl e1 e2 e3 e4] at h ⊢
      have hf:=De e4
      have ih:=Wz l m (Vf cs x.1) (Lq l x.1 x.2.1++r) (by rw[List.length_append];omega) a1 h
      rw[Vi,Zb6 e2.1 e2.2 e3 hz,List.length_append,Zfe e4] at ih
      refine⟨?_,ih.2⟩
      have:=ih.1
      rw[List.length_cons];omega
     ·rw[Cl e1 e2 e3 e4] at h
      exact absurd h e4
    ·rw[if_neg e3] at a0
     rw[Mi e1 e2 e3] at h ⊢
     have ih:=Wz l m (Vf cs x.1) r (by omega) a1 h
     rw[Vi,Zem e2.1 e2.2 e3] at ih
     refine⟨?_,ih.2⟩
     have:=ih.1
     rw[List.length_cons];omega
   ·rw[Bp e1 e2] at h;exact absurd h (show ¬ (3:Int)=0 by decide)
  ·rw[Cd e1] at h;exact absurd h e1
theorem root_1(v:Bl):Vv v≠1:=by
 unfold Vv
 repeat' split
 all_goals decide
theorem read_1(ps:List Gd)(v:Bl):Yd ps v≠1:=by
 unfold Yd
 repeat' split
 all_goals decide
theorem valX_1(no t:Int)(leaf:Bool)(v:Bl):(valX no t leaf v).2.2≠1:=by
 unfold valX
 split
 ·split
  ·exact read_1 _ _
  ·exact(by decide:(0:Int)≠1)
 ·split
  ·exact root_1 _
  ·exact(by decide:(0:Int)≠1)
theorem hasL_1{l:Bl}{no ak:Int}:∀ x∈Lq l no ak,x.2.2≠1:=by
 intro x hx
 unfold Lq at hx
 split at hx
 ·obtain⟨y,_,rfl⟩:=List.mem_map.1 hx
  exact(by decide:(0:Int)≠1)
 ·split at hx
  ·cases hx
  ·unfold Zad at hx
   split at hx
   ·cases hx
   ·obtain⟨y,_,rfl⟩:=List.mem_map.1 hx
    exact valX_1 _ _ _ _
theorem keys_1(l:Bl):∀ n,Yf l n≠1
 | 0=>(by decide:(0:Int)≠1)
 | n+1=>by
  unfold Yf
  split
  ·exact keys_1 l n
  ·unfold Cp
   repeat' split
   all_goals decide
theorem nodeE_1(l:Bl):Vd l≠1:=by
 unfold Vd
 split
 ·split
  ·exact keys_1 _ _
  ·decide
 ·decide
theorem slts_1(l:Bl):∀ n,Jz l n≠1
 | 0=>(by decide:(0:Int)≠1)
 | n+1=>by
  unfold Jz
  split
  ·exact slts_1 l n
  ·exact read_1 _ _
theorem hasE_1{l:Bl}{no ak:Int}(hl:l.length/256≤14400):Us l no ak≠1:=by
 unfold Us
 split
 ·unfold Xx
  split
  ·unfold Dj
   split
   ·exact slts_1 _ _
   ·decide
  ·exact inE_1 hl (by decide) (by decide)
 ·split
  ·unfold Xo
   split
   ·split<;>decide
   ·exact inE_1 hl (by decide) (by decide)
  ·unfold Xa
   split
   ·unfold Yh
    split
    ·split<;>decide
    ·exact nodeE_1 _
   ·exact inE_1 hl (by decide) (by decide)
theorem Dm(l:Bl)(hl:l.length/256≤14400):∀ (m:Nat) (cs:List Nat) (L:List Rx),1001*zer cs+L.length≤m→(∀ x∈L,x.2.2≠1)→(Ya l cs L).2.2≠1
 | _,cs,[],_,_=>by rw[Br];exact(by decide:(0:Int)≠1)
 | 0,cs,x::r,hm,_=>absurd hm (by simp)
 | m+1,cs,x::r,hm,hL=>by
  rw[List.length_cons] at hm
  by_cases e1:x.2.2=0
  ·by_cases e2:0≤x.1∧x.1<cs.length
   ·have a0:=Jt e2.1 e2.2
    by_cases e3:cs.getD x.1.toNat 0=0
    ·rw[if_pos e3] at a0
     by_cases e4:Us l x.1 x.2.1=0
     ·rw[Hl e1 e2 e3 e4]
      have hf:=De e4
      exact Dm l hl m (Vf cs x.1) _ (by rw[List.length_append];omega) (fun y hy=>by
       rcases List.mem_append.1 hy with q|q
       ·exact hasL_1 y q
       ·exact hL y (by simp[q]))
     ·rw[Cl e1 e2 e3 e4];exact hasE_1 hl
    ·rw[if_neg e3] at a0
     rw[Mi e1 e2 e3]
     exact Dm l hl m (Vf cs x.1) r (by omega) (fun y hy=>hL y (by simp[hy]))
   ·rw[Bp e1 e2];exact(by decide:(3:Int)≠1)
  ·rw[Cd e1];exact hL x (by simp)
theorem Zcg{l:Bl}{s:Sup}(hl:l.length/256≤14400)(h:(Qm l s).2.2≠0):((Qm l s).2.2=1↔Qj s=false):=by
 cases hr:Qj s with
 | false=>rw[Wp hr];exact⟨fun _=>rfl,fun _=>rfl⟩
 | true =>
  have e:Qm l s=Ya l (Gy s.blocks.toNat) (Sk s):=by unfold Qm;rw[if_neg (by rw[hr];decide)]
  rw[e]
  exact⟨fun q=>absurd q (Dm l hl _ _ _ (Nat.le_refl _) (fun x hx=>by
   simp only[Sk,List.mem_cons,List.not_mem_nil,or_false] at hx
   rcases hx with rfl|rfl|rfl|rfl|rfl|rfl<;>exact(by decide:(0:Int)≠1))),fun q=>by cases q⟩
theorem cnt0_get{n:Nat}(h:0<n):(Gy n).getD 0 0=1∧(Gy n).sum=1∧∀ m,Xg ([]:Bl) (Gy n) m=Xg [] (Gy n) m:=by
 refine⟨?_,?_,fun _=>rfl⟩
 ·unfold Gy Vf
  rw[show(0:Int).toNat=0 from rfl,Jo (by rw[List.length_replicate];exact h),List.getD,List.getElem?_replicate,if_pos h];rfl
 ·have:=Uq (cs:=List.replicate n 0) (k:=0) (by decide) (by rw[List.length_replicate];omega)
  rw[List.sum_replicate_nat] at this
  unfold Gy;omega
theorem want0(l:Bl)(n:Nat):∀ m,Xg l (Gy n) m=0
 | 0=>rfl
 | m+1=>by
  rw[Zr,want0 l n m]
  unfold Vj
  rw[if_neg]
  intro q
  refine q.2 ?_
  unfold Gy Vf
  rw[show(0:Int).toNat=0 from rfl,Js q.1,List.getD,List.getElem?_replicate]
  split<;>rfl
theorem Ot{l:Bl}{s:Sup}(h:(Qm l s).2.2=0):Qj s=true∧(Qm l s).1.length=s.blocks.toNat∧(Qm l s).1.sum=7+Xg l (Qm l s).1 s.blocks.toNat∧(Qm l s).1.getD 0 0≠0:=by
 cases hr:Qj s with
 | false=>rw[Wp hr] at h;exact absurd h (by decide)
 | true =>
  have hb:=Mg hr
  have e:Qm l s=Ya l (Gy s.blocks.toNat) (Sk s):=by unfold Qm;rw[if_neg (by rw[hr];decide)]
  rw[e] at h ⊢
  have c:=cnt0_get (n:=s.blocks.toNat) (by omega)
  have q:=Wz l _ _ _ (Nat.le_refl _) (by rw[c.1];decide) h
  rw[Yw,want0,c.2.1,show(Sk s).length=6 from rfl] at q
  refine⟨rfl,?_,by omega,q.2⟩
  have:=(Hr (Vu l ((Gy s.blocks.toNat).length+1)) (Sk s) (Gy s.blocks.toNat)).len
  rw[Yw] at this
  unfold Ya;rw[Yw];exact this
end Go.Proofs.YtgphgaehfdfjjaaGreatDoor
namespace Go.Proofs.YtgphgaehfdfjjaaGreatDoor
set_option maxHeartbeats 8000000
set_option maxRecDepth 100000
open Go.RowKit Go.Extern.Stop Go.Stop Go.Extern
set_option linter.unusedVariables false
attribute [local irreducible] wpList wpAnyH Code.wp Oper.wp Go
def ClosP(B Bx bl:Nat)(L:List (List Int))(q i:Nat)(w:World)(e:Ending)(w':World):Prop :=
 ∃ u p c,e=.returned u∧Below B w w'∧Zg [101,100] w w'∧Blk w' bl [.slice p (i+1) c] 101∧w'.ownsRow Bx 100 3 (.slice p (i+1) c) (i+1) ((Xu L q (i+1)).flatMap Je)∧FrB Bx [bl] w w'
theorem Qx(L:List (List Int))(q i:Nat):(Xu L q i).flatMap Je++[V0 (i:Int),.string ⟨(leB ((q+i:Nat):Int) 8++leB (Xp (L.getD i []):Int) 4++leB (Zy (L.getD i []):Int) 4).toArray⟩,V0 0]=(Xu L q (i+1)).flatMap Je:=by
 rw[Sd];simp[Je,Zaw,slotB]
structure FrZ(Bx:Nat)(S:List Nat)(a w:World):Prop where
 fr:FrB Bx S a w
 le:Bx≤a.heap.size
theorem FrZ.refl{Bx:Nat}{S:List Nat}{w:World}(h:Bx≤w.heap.size):FrZ Bx S w w:=⟨⟨Nat.le_refl _,fun _ _ _=>rfl⟩,h⟩
theorem FrZ.below{Bx:Nat}{S:List Nat}{a w W:World}(h:FrZ Bx S a w)(hb:B3 w W):FrZ Bx S a W:=⟨⟨Nat.le_trans h.fr.1 hb.size,fun k hk hn=>(hb.block k (by have:=h.fr.1;have:=h.le;omega)).trans (h.fr.2 k hk hn)⟩,h.le⟩
theorem FrZ.upd{Bx b:Nat}{S:List Nat}{a w W:World}(h:FrZ Bx S a w)(u:Upd w b W)(hb:b∈S):FrZ Bx S a W:=⟨⟨Nat.le_trans h.fr.1 (Nat.le_of_eq u.size.symm),fun k hk hn=>(u.block k fun e=>hn (e▸hb)).trans (h.fr.2 k hk hn)⟩,h.le⟩
theorem FrZ.grown{Bx:Nat}{S:List Nat}{a w W:World}{size n:Nat}{e:TypeId}{v:Value}{xs:List Value}(h:FrZ Bx S a w)(hg:w.grownBy W v.ownBlock)(hown:w.ownsRow Bx e size v n xs):FrZ Bx S a W:=⟨⟨Nat.le_trans h.fr.1 hg.size,fun k hk hn=>(hg.block k (by have:=h.fr.1;have:=h.le;omega) (fun e=>by have:=(hown.lt k e.symm).1;omega)).trans (h.fr.2 k hk hn)⟩,h.le⟩
theorem Za9(B Bx bl:Nat)(p:O0)(c:Nat)(L:List (List Int))(q i:Nat)(w:World)(hBm:B≤Bx)(hBx:Bx≤w.heap.size)(hBw:B≤w.heap.size)(hBl:B≤bl)(kl:Blk w bl [.slice p i c] 101)(hup:w.ownsRow Bx 100 3 (.slice p i c) i ((Xu L q i).flatMap Je))(hq:1≤q+i)(hq2:q+i≤14399)(hi:i≤100000)(hf:Xp (L.getD i [])≤960)(hg:Zy (L.getD i [])≤960) :
 C0 56 #[.agg #[V0 (↑(q+i):Int),V0 (↑(Xp (L.getD i [])):Int),V0 (↑(Zy (L.getD i [])):Int)],P0 bl] w (ClosP B Bx bl L q i w):=by
 have hZ:FrZ Bx [bl] w w:=FrZ.refl hBx
 refine zin 11 Tryz.func56 ?_
 refine xa 2 [V0 (↑(q+i):Int),V0 (↑(Xp (L.getD i [])):Int),V0 (↑(Zy (L.getD i [])):Int)] 136 fun b1 W1 n1=>?_
 refine xd 2 (.t B [101,100]) ?_
 have k1:=n1.blk.below (Za W1)
 refine xlvt (.e [] 3) (.t B [101,100]) (fun V hV=>(k1.only hV.2 (by decide)).rp) ?_
 refine xm3 0 0 1 4 ?_ ?_ ?_
 ·have c4:=(kl.below n1.below).below (Za W1)
  refine xb 0 0 c4 ?_
  refine xm2 0 1 4 ?_ ?_
  ·refine xb 0 0 c4 ?_
   refine xr (.o [2] 4) (args:=#[.agg #[V0 (↑(q+i):Int),V0 (↑(Xp (L.getD i [])):Int),V0 (↑(Zy (L.getD i [])):Int)]]) (Vp (↑(q+i):Int) (↑(Xp (L.getD i [])):Int) (↑(Zy (L.getD i [])):Int) (by omega) (by omega) (by omega) (by omega) (by omega) (by omega) _) fun W2 f5=>?_
   refine xbs (.o [5] 6) 1 [V0 (i:Int),.string ⟨(leB (↑(q+i):Int) 8++leB (↑(Xp (L.getD i [])):Int) 4++leB (↑(Zy (L.getD i [])):Int) 4).toArray⟩,V0 0] 100 fun b3 W3 n3=>?_
   have e0:=Zb (Zb (Zb hup n1.below) (Za W1)) f5
   have i6:=Zz e0 n3
   have a7:=Zb e0 n3.below
   have hB:=blB (blB (blB (blB (Below.refl B w) hBw n1.below) hBw (Za W1)) hBw f5) hBw n3.below
   refine ybi (.o [] 7) (.t B [101,100]) fun _ _ _ _ zJ zQ zo zx zy zK=>Zx (m:=1) (news:=[V0 (i:Int),.string ⟨(leB (↑(q+i):Int) 8++leB (↑(Xp (L.getD i [])):Int) 4++leB (↑(Zy (L.getD i [])):Int) 4).toArray⟩,V0 0]) (.agg #[V0 0,.string ⟨#[]⟩,V0 0]) 3 32 (i+1) ((Xu L q (i+1)).flatMap Je) zo Tryz.underlying101 (by kernel_rfl) rfl (by decide) zx a7 zy (n3.blk.sl 1 1 (by decide) (by decide)) rfl (by simp[Value.oneCell']) (by unfold maxLen;omega) (by omega) (Nat.le_trans hBx hB.size) (by rfl) (Qx L q i) fun m2 m4 W4 o4 h7 l5=>?_
   refine zK _ _ (Xy (l5.mono hBm) h7 a7 (by decide)) ?_
   have d1:=((c4.below f5).below n3.below).grown h7 a7 (by decide)
   refine ys (.o [] 8) d1 [.slice m2 (i+1) m4] (.t B [101,100]) fun W5 u5 k5=>⟨(Xj u5 d1 hBl (by decide)),?_⟩
   have k0:=u5.below (hB.trans (l5.mono hBm)) hBl
   have hO:=(((((show Zg [101,100] w _ from(Zg.of_below n1.below)).trans (Zg.of_below (Za W1))).trans (Zg.of_below f5)).trans (Zg.of_below n3.below)).trans (Zg.of_grown h7 a7 (by decide))).trans (Zg.of_upd u5 d1 (by decide))
   have i0:=u5.own2 o4 d1 (by decide)
   have l2:=(((((hZ.below n1.below).below (Za W1)).below f5).below n3.below).grown h7 a7).upd u5 (by simp)
   exact xe 1 (.tuple #[]) ⟨_,_,_,rfl,k0,hO,k5,i0,l2.fr⟩
  refine xr 0 (args:=#[.agg #[V0 (↑(q+i):Int),V0 (↑(Xp (L.getD i [])):Int),V0 (↑(Zy (L.getD i [])):Int)]]) (Vp (↑(q+i):Int) (↑(Xp (L.getD i [])):Int) (↑(Zy (L.getD i [])):Int) (by omega) (by omega) (by omega) (by omega) (by omega) (by omega) _) fun W6 f1=>?_
  have g5:=c4.below f1
  refine xb (.o [] 1) 0 g5 ?_
  refine xbs (.o [2,5] 6) 1 [V0 (i:Int),.string ⟨(leB (↑(q+i):Int) 8++leB (↑(Xp (L.getD i [])):Int) 4++leB (↑(Zy (L.getD i [])):Int) 4).toArray⟩,V0 0] 100 fun b7 W7 n7=>?_
  have d9:=Zb (Zb (Zb hup n1.below) (Za W1)) f1
  have j6:=Zz d9 n7
  have a6:=Zb d9 n7.below
  have hB:=blB (blB (blB (blB (Below.refl B w) hBw n1.below) hBw (Za W1)) hBw f1) hBw n7.below
  refine ybi (.o [] 7) (.t B [101,100]) fun _ _ _ _ zJ zQ zo zx zy zK=>Zx (m:=1) (news:=[V0 (i:Int),.string ⟨(leB (↑(q+i):Int) 8++leB (↑(Xp (L.getD i [])):Int) 4++leB (↑(Zy (L.getD i [])):Int) 4).toArray⟩,V0 0]) (.agg #[V0 0,.string ⟨#[]⟩,V0 0]) 3 32 (i+1) ((Xu L q (i+1)).flatMap Je) zo Tryz.underlying101 (by kernel_rfl) rfl (by decide) zx a6 zy (n7.blk.sl 1 1 (by decide) (by decide)) rfl (by simp[Value.oneCell']) (by unfold maxLen;omega) (by omega) (Nat.le_trans hBx hB.size) (by rfl) (Qx L q i) fun m8 l6 W8 o8 h6 l4=>?_
  refine zK _ _ (Xy (l4.mono hBm) h6 a6 (by decide)) ?_
  have d2:=(g5.below n7.below).grown h6 a6 (by decide)
  refine ys (.o [] 8) d2 [.slice m8 (i+1) l6] (.t B [101,100]) fun W9 u9 k9=>⟨(Xj u9 d2 hBl (by decide)),?_⟩
  have j5:=u9.below (hB.trans (l4.mono hBm)) hBl
  have hO:=(((((show Zg [101,100] w _ from(Zg.of_below n1.below)).trans (Zg.of_below (Za W1))).trans (Zg.of_below f1)).trans (Zg.of_below n7.below)).trans (Zg.of_grown h6 a6 (by decide))).trans (Zg.of_upd u9 d2 (by decide))
  have j2:=u9.own2 o8 d2 (by decide)
  have i5:=(((((hZ.below n1.below).below (Za W1)).below f1).below n7.below).grown h6 a6).upd u9 (by simp)
  exact xe 1 (.tuple #[]) ⟨_,_,_,rfl,j5,hO,k9,j2,i5.fr⟩
 ·have b9:=(kl.below n1.below).below (Za W1)
  refine xb 0 0 b9 ?_
  refine xm2 (.b [2]) 0 4 ?_ ?_
  ·refine xb 0 0 b9 ?_
   refine xr (.o [] 4) (args:=#[.agg #[V0 (↑(q+i):Int),V0 (↑(Xp (L.getD i [])):Int),V0 (↑(Zy (L.getD i [])):Int)]]) (Vp (↑(q+i):Int) (↑(Xp (L.getD i [])):Int) (↑(Zy (L.getD i [])):Int) (by omega) (by omega) (by omega) (by omega) (by omega) (by omega) _) fun n9 b8=>?_
   refine xbs (.o [5] 6) 1 [V0 (i:Int),.string ⟨(leB (↑(q+i):Int) 8++leB (↑(Xp (L.getD i [])):Int) 4++leB (↑(Zy (L.getD i [])):Int) 4).toArray⟩,V0 0] 100 fun n6 p8 e6=>?_
   have d7:=Zb (Zb (Zb hup n1.below) (Za W1)) b8
   have h5:=Zz d7 e6
   have a9:=Zb d7 e6.below
   have hB:=blB (blB (blB (blB (Below.refl B w) hBw n1.below) hBw (Za W1)) hBw b8) hBw e6.below
   refine ybi (.o [] 7) (.t B [101,100]) fun _ _ _ _ zJ zQ zo zx zy zK=>Zx (m:=1) (news:=[V0 (i:Int),.string ⟨(leB (↑(q+i):Int) 8++leB (↑(Xp (L.getD i [])):Int) 4++leB (↑(Zy (L.getD i [])):Int) 4).toArray⟩,V0 0]) (.agg #[V0 0,.string ⟨#[]⟩,V0 0]) 3 32 (i+1) ((Xu L q (i+1)).flatMap Je) zo Tryz.underlying101 (by kernel_rfl) rfl (by decide) zx a9 zy (e6.blk.sl 1 1 (by decide) (by decide)) rfl (by simp[Value.oneCell']) (by unfold maxLen;omega) (by omega) (Nat.le_trans hBx hB.size) (by rfl) (Qx L q i) fun h9 k3 o6 n0 d3 h0=>?_
   refine zK _ _ (Xy (h0.mono hBm) d3 a9 (by decide)) ?_
   have c9:=((b9.below b8).below e6.below).grown d3 a9 (by decide)
   refine ys (.o [] 8) c9 [.slice h9 (i+1) k3] (.t B [101,100]) fun p1 f9 m9=>⟨(Xj f9 c9 hBl (by decide)),?_⟩
   have l3:=f9.below (hB.trans (h0.mono hBm)) hBl
   have hO:=(((((show Zg [101,100] w _ from(Zg.of_below n1.below)).trans (Zg.of_below (Za W1))).trans (Zg.of_below b8)).trans (Zg.of_below e6.below)).trans (Zg.of_grown d3 a9 (by decide))).trans (Zg.of_upd f9 c9 (by decide))
   have g6:=f9.own2 n0 c9 (by decide)
   have i4:=(((((hZ.below n1.below).below (Za W1)).below b8).below e6.below).grown d3 a9).upd f9 (by simp)
   exact xe 1 (.tuple #[]) ⟨_,_,_,rfl,l3,hO,m9,g6,i4.fr⟩
  refine xr 0 (args:=#[.agg #[V0 (↑(q+i):Int),V0 (↑(Xp (L.getD i [])):Int),V0 (↑(Zy (L.getD i [])):Int)]]) (Vp (↑(q+i):Int) (↑(Xp (L.getD i [])):Int) (↑(Zy (L.getD i [])):Int) (by omega) (by omega) (by omega) (by omega) (by omega) (by omega) _) fun p6 a5=>?_
  refine xm2 (.b [5]) 0 6 ?_ ?_
  ·have e7:=b9.below a5
   refine xb 0 0 e7 ?_
   refine xbs (.o [] 6) 1 [V0 (i:Int),.string ⟨(leB (↑(q+i):Int) 8++leB (↑(Xp (L.getD i [])):Int) 4++leB (↑(Zy (L.getD i [])):Int) 4).toArray⟩,V0 0] 100 fun p3 n5 e3=>?_
   have d5:=Zb (Zb (Zb hup n1.below) (Za W1)) a5
   have h3:=Zz d5 e3
   have a8:=Zb d5 e3.below
   have hB:=blB (blB (blB (blB (Below.refl B w) hBw n1.below) hBw (Za W1)) hBw a5) hBw e3.below
   refine ybi (.o [] 7) (.t B [101,100]) fun _ _ _ _ zJ zQ zo zx zy zK=>Zx (m:=1) (news:=[V0 (i:Int),.string ⟨(leB (↑(q+i):Int) 8++leB (↑(Xp (L.getD i [])):Int) 4++leB (↑(Zy (L.getD i [])):Int) 4).toArray⟩,V0 0]) (.agg #[V0 0,.string ⟨#[]⟩,V0 0]) 3 32 (i+1) ((Xu L q (i+1)).flatMap Je) zo Tryz.underlying101 (by kernel_rfl) rfl (by decide) zx a8 zy (e3.blk.sl 1 1 (by decide) (by decide)) rfl (by simp[Value.oneCell']) (by unfold maxLen;omega) (by omega) (Nat.le_trans hBx hB.size) (by rfl) (Qx L q i) fun l1 j0 q3 m5 c7 g9=>?_
   refine zK _ _ (Xy (g9.mono hBm) c7 a8 (by decide)) ?_
   have c5:=(e7.below e3.below).grown c7 a8 (by decide)
   refine ys (.o [] 8) c5 [.slice l1 (i+1) j0] (.t B [101,100]) fun n8 g3 l9=>⟨(Xj g3 c5 hBl (by decide)),?_⟩
   have i7:=g3.below (hB.trans (g9.mono hBm)) hBl
   have hO:=(((((show Zg [101,100] w _ from(Zg.of_below n1.below)).trans (Zg.of_below (Za W1))).trans (Zg.of_below a5)).trans (Zg.of_below e3.below)).trans (Zg.of_grown c7 a8 (by decide))).trans (Zg.of_upd g3 c5 (by decide))
   have e8:=g3.own2 m5 c5 (by decide)
   have k6:=(((((hZ.below n1.below).below (Za W1)).below a5).below e3.below).grown c7 a8).upd g3 (by simp)
   exact xe 1 (.tuple #[]) ⟨_,_,_,rfl,i7,hO,l9,e8,k6.fr⟩
  refine xbs 0 1 [V0 (i:Int),.string ⟨(leB (↑(q+i):Int) 8++leB (↑(Xp (L.getD i [])):Int) 4++leB (↑(Zy (L.getD i [])):Int) 4).toArray⟩,V0 0] 100 fun p7 q1 e4=>?_
  have d8:=Zb (Zb (Zb hup n1.below) (Za W1)) a5
  have h1:=Zz d8 e4
  have f4:=(b9.below a5).below e4.below
  refine xb (.o [] 0) 0 f4 ?_
  have a1:=Zb d8 e4.below
  have hB:=blB (blB (blB (blB (Below.refl B w) hBw n1.below) hBw (Za W1)) hBw a5) hBw e4.below
  refine ybi (.o [] 7) (.t B [101,100]) fun _ _ _ _ zJ zQ zo zx zy zK=>Zx (m:=1) (news:=[V0 (i:Int),.string ⟨(leB (↑(q+i):Int) 8++leB (↑(Xp (L.getD i [])):Int) 4++leB (↑(Zy (L.getD i [])):Int) 4).toArray⟩,V0 0]) (.agg #[V0 0,.string ⟨#[]⟩,V0 0]) 3 32 (i+1) ((Xu L q (i+1)).flatMap Je) zo Tryz.underlying101 (by kernel_rfl) rfl (by decide) zx a1 zy (e4.blk.sl 1 1 (by decide) (by decide)) rfl (by simp[Value.oneCell']) (by unfold maxLen;omega) (by omega) (Nat.le_trans hBx hB.size) (by rfl) (Qx L q i) fun k8 i8 p5 m3 d0 f2=>?_
  refine zK _ _ (Xy (f2.mono hBm) d0 a1 (by decide)) ?_
  have b4:=f4.grown d0 a1 (by decide)
  refine ys (.o [] 8) b4 [.slice k8 (i+1) i8] (.t B [101,100]) fun o3 f3 m1=>⟨(Xj f3 b4 hBl (by decide)),?_⟩
  have j7:=f3.below (hB.trans (f2.mono hBm)) hBl
  have hO:=(((((show Zg [101,100] w _ from(Zg.of_below n1.below)).trans (Zg.of_below (Za W1))).trans (Zg.of_below a5)).trans (Zg.of_below e4.below)).trans (Zg.of_grown d0 a1 (by decide))).trans (Zg.of_upd f3 b4 (by decide))
  have g8:=f3.own2 m3 b4 (by decide)
  have j4:=(((((hZ.below n1.below).below (Za W1)).below a5).below e4.below).grown d0 a1).upd f3 (by simp)
  exact xe 1 (.tuple #[]) ⟨_,_,_,rfl,j7,hO,m1,g8,j4.fr⟩
 refine xr 0 (args:=#[.agg #[V0 (↑(q+i):Int),V0 (↑(Xp (L.getD i [])):Int),V0 (↑(Zy (L.getD i [])):Int)]]) (Vp (↑(q+i):Int) (↑(Xp (L.getD i [])):Int) (↑(Zy (L.getD i [])):Int) (by omega) (by omega) (by omega) (by omega) (by omega) (by omega) _) fun q0 a0=>?_
 refine xm2 0 0 1 ?_ ?_
 ·have c1:=((kl.below n1.below).below (Za W1)).below a0
  refine xb 0 0 c1 ?_
  refine xb (.o [] 1) 0 c1 ?_
  refine xbs (.o [2,5] 6) 1 [V0 (i:Int),.string ⟨(leB (↑(q+i):Int) 8++leB (↑(Xp (L.getD i [])):Int) 4++leB (↑(Zy (L.getD i [])):Int) 4).toArray⟩,V0 0] 100 fun o2 q2 e2=>?_
  have c0:=Zb (Zb (Zb hup n1.below) (Za W1)) a0
  have h4:=Zz c0 e2
  have a4:=Zb c0 e2.below
  have hB:=blB (blB (blB (blB (Below.refl B w) hBw n1.below) hBw (Za W1)) hBw a0) hBw e2.below
  refine ybi (.o [] 7) (.t B [101,100]) fun _ _ _ _ zJ zQ zo zx zy zK=>Zx (m:=1) (news:=[V0 (i:Int),.string ⟨(leB (↑(q+i):Int) 8++leB (↑(Xp (L.getD i [])):Int) 4++leB (↑(Zy (L.getD i [])):Int) 4).toArray⟩,V0 0]) (.agg #[V0 0,.string ⟨#[]⟩,V0 0]) 3 32 (i+1) ((Xu L q (i+1)).flatMap Je) zo Tryz.underlying101 (by kernel_rfl) rfl (by decide) zx a4 zy (e2.blk.sl 1 1 (by decide) (by decide)) rfl (by simp[Value.oneCell']) (by unfold maxLen;omega) (by omega) (Nat.le_trans hBx hB.size) (by rfl) (Qx L q i) fun i3 i9 o7 l8 c8 g2=>?_
  refine zK _ _ (Xy (g2.mono hBm) c8 a4 (by decide)) ?_
  have b6:=(c1.below e2.below).grown c8 a4 (by decide)
  refine ys (.o [] 8) b6 [.slice i3 (i+1) i9] (.t B [101,100]) fun o0 f7 m6=>⟨(Xj f7 b6 hBl (by decide)),?_⟩
  have l0:=f7.below (hB.trans (g2.mono hBm)) hBl
  have hO:=(((((show Zg [101,100] w _ from(Zg.of_below n1.below)).trans (Zg.of_below (Za W1))).trans (Zg.of_below a0)).trans (Zg.of_below e2.below)).trans (Zg.of_grown c8 a4 (by decide))).trans (Zg.of_upd f7 b6 (by decide))
  have g1:=f7.own2 l8 b6 (by decide)
  have j1:=(((((hZ.below n1.below).below (Za W1)).below a0).below e2.below).grown c8 a4).upd f7 (by simp)
  exact xe 1 (.tuple #[]) ⟨_,_,_,rfl,l0,hO,m6,g1,j1.fr⟩
 have b0:=((kl.below n1.below).below (Za W1)).below a0
 refine xb 0 0 b0 ?_
 refine xm2 (.b [2,5]) 0 6 ?_ ?_
 ·refine xb 0 0 b0 ?_
  refine xbs (.o [] 6) 1 [V0 (i:Int),.string ⟨(leB (↑(q+i):Int) 8++leB (↑(Xp (L.getD i [])):Int) 4++leB (↑(Zy (L.getD i [])):Int) 4).toArray⟩,V0 0] 100 fun p2 o9 e5=>?_
  have c2:=Zb (Zb (Zb hup n1.below) (Za W1)) a0
  have h8:=Zz c2 e5
  have a3:=Zb c2 e5.below
  have hB:=blB (blB (blB (blB (Below.refl B w) hBw n1.below) hBw (Za W1)) hBw a0) hBw e5.below
  refine ybi (.o [] 7) (.t B [101,100]) fun _ _ _ _ zJ zQ zo zx zy zK=>Zx (m:=1) (news:=[V0 (i:Int),.string ⟨(leB (↑(q+i):Int) 8++leB (↑(Xp (L.getD i [])):Int) 4++leB (↑(Zy (L.getD i [])):Int) 4).toArray⟩,V0 0]) (.agg #[V0 0,.string ⟨#[]⟩,V0 0]) 3 32 (i+1) ((Xu L q (i+1)).flatMap Je) zo Tryz.underlying101 (by kernel_rfl) rfl (by decide) zx a3 zy (e5.blk.sl 1 1 (by decide) (by decide)) rfl (by simp[Value.oneCell']) (by unfold maxLen;omega) (by omega) (Nat.le_trans hBx hB.size) (by rfl) (Qx L q i) fun j9 k7 p4 n2 c6 f6=>?_
  refine zK _ _ (Xy (f6.mono hBm) c6 a3 (by decide)) ?_
  have b2:=(b0.below e5.below).grown c6 a3 (by decide)
  refine ys (.o [] 8) b2 [.slice j9 (i+1) k7] (.t B [101,100]) fun o1 e9 m0=>⟨(Xj e9 b2 hBl (by decide)),?_⟩
  have k2:=e9.below (hB.trans (f6.mono hBm)) hBl
  have hO:=(((((show Zg [101,100] w _ from(Zg.of_below n1.below)).trans (Zg.of_below (Za W1))).trans (Zg.of_below a0)).trans (Zg.of_below e5.below)).trans (Zg.of_grown c6 a3 (by decide))).trans (Zg.of_upd e9 b2 (by decide))
  have g7:=e9.own2 n2 b2 (by decide)
  have i2:=(((((hZ.below n1.below).below (Za W1)).below a0).below e5.below).grown c6 a3).upd e9 (by simp)
  exact xe 1 (.tuple #[]) ⟨_,_,_,rfl,k2,hO,m0,g7,i2.fr⟩
 refine xbs 0 1 [V0 (i:Int),.string ⟨(leB (↑(q+i):Int) 8++leB (↑(Xp (L.getD i [])):Int) 4++leB (↑(Zy (L.getD i [])):Int) 4).toArray⟩,V0 0] 100 fun p9 n4 e1=>?_
 have c3:=Zb (Zb (Zb hup n1.below) (Za W1)) a0
 have h2:=Zz c3 e1
 have d6:=b0.below e1.below
 refine xb (.o [] 0) 0 d6 ?_
 have a2:=Zb c3 e1.below
 have hB:=blB (blB (blB (blB (Below.refl B w) hBw n1.below) hBw (Za W1)) hBw a0) hBw e1.below
 refine ybi (.o [] 7) (.t B [101,100]) fun _ _ _ _ zJ zQ zo zx zy zK=>Zx (m:=1) (news:=[V0 (i:Int),.string ⟨(leB (↑(q+i):Int) 8++leB (↑(Xp (L.getD i [])):Int) 4++leB (↑(Zy (L.getD i [])):Int) 4).toArray⟩,V0 0]) (.agg #[V0 0,.string ⟨#[]⟩,V0 0]) 3 32 (i+1) ((Xu L q (i+1)).flatMap Je) zo Tryz.underlying101 (by kernel_rfl) rfl (by decide) zx a2 zy (e1.blk.sl 1 1 (by decide) (by decide)) rfl (by simp[Value.oneCell']) (by unfold maxLen;omega) (by omega) (Nat.le_trans hBx hB.size) (by rfl) (Qx L q i) fun j8 j3 o5 l7 d4 f8=>?_
 refine zK _ _ (Xy (f8.mono hBm) d4 a2 (by decide)) ?_
 have b5:=d6.grown d4 a2 (by decide)
 refine ys (.o [] 8) b5 [.slice j8 (i+1) j3] (.t B [101,100]) fun p0 f0 m7=>⟨(Xj f0 b5 hBl (by decide)),?_⟩
 have k4:=f0.below (hB.trans (f8.mono hBm)) hBl
 have hO:=(((((show Zg [101,100] w _ from(Zg.of_below n1.below)).trans (Zg.of_below (Za W1))).trans (Zg.of_below a0)).trans (Zg.of_below e1.below)).trans (Zg.of_grown d4 a2 (by decide))).trans (Zg.of_upd f0 b5 (by decide))
 have g0:=f0.own2 l7 b5 (by decide)
 have i1:=(((((hZ.below n1.below).below (Za W1)).below a0).below e1.below).grown d4 a2).upd f0 (by simp)
 exact xe 1 (.tuple #[]) ⟨_,_,_,rfl,k4,hO,m7,g0,i1.fr⟩
def Zdz(B ba b g nn cc:Nat)(pa:O0)(ca f N k0:Nat)(bs:Bl)(t:Int)(leaf:Bool)(m v:Nat)(l:List Ent)(w:World)(e:Ending)(w':World):Prop :=
 ∃ p c,e=.returned (.tuple #[.slice p (ovN l.length m) c,.nilIface])∧Below B w w'∧Zg [125,5] w w'∧Fr [ba,g] w w'∧Al B ba b g nn cc pa ca f N (k0+ovN l.length m) (levB t leaf m v l (f+k0) bs (ovN l.length m)) w'∧w'.ownsRow w.heap.size 100 3 (.slice p (ovN l.length m) c) (ovN l.length m) ((upE l m (f+k0) (ovN l.length m)).flatMap Je)
theorem Rr(B ba b g nn cc:Nat)(pa:O0)(ca f N k0:Nat)(bs:Bl)(t:Int)(leaf:Bool)(m v:Nat)(a:O0)(c:Nat)(l:List Ent)(w:World)(hC:AlC B ba nn cc ca f N)(hA:Al B ba b g nn cc pa ca f N k0 bs w)(ht1:1≤t)(ht2:t≤5)(hm:Yy t leaf=m)(hv:Lp t leaf=v)(E:EntsOk v l)(hl:leaf=false→1≤l.length)(hn:l.length≤32768)(hf1:1≤f)(hk:k0+ovN l.length m≤N)(hin:∀ W,Below B w W→Zg [125,5] w W→Sts Je W (.slice a l.length c) l)(hBw:B≤w.heap.size) :
 C0 53 #[P0 ba,V0 t,.bool leaf,.slice a l.length c] w (Zdz B ba b g nn cc pa ca f N k0 bs t leaf m v l w):=by
 have n8:=Yo t leaf
 rw[hm] at n8
 have p7:=hC.hf
 have p8:=hC.hn
 refine zin 96 Tryz.func53 ?_
 refine xr 18 (args:=#[V0 t,.bool leaf]) (Nn t leaf m hm ht1 ht2 _) fun W1 e7=>?_
 refine xc 0 (args:=#[V0 (l.length:Int),V0 (m:Int)]) (Zba l.length m _ hn (by omega) (by omega)) ?_
 rintro _ W2 ⟨_,rfl,i7,ps,cs,rfl,e6⟩
 have m7:=(blB (Below.refl B w) hBw e7).size
 have f5:=Zd e6 m7
 have k4:=(hA.below e7).below i7
 have hB:=blB (blB (Below.refl B w) hBw e7) hBw i7
 have hX:=(show Fr [ba,g] w _ from(Fr.of_below e7)).trans (Fr.of_below i7)
 have hO:=(show Zg [125,5] w _ from(Zg.of_below e7)).trans (Zg.of_below i7)
 refine zl 5 96 (fun zm j6 V=>∃ (i:Nat) (a2:O0) (c2:Nat) (l2:List Ent) (p4:O0) (c4:Nat),j6=[(0,P0 ba),(1,V0 t),(2,.bool leaf),(3,.slice a2 l2.length c2),(10,.slice p4 i c4),(26,.slice ps (ovN l.length m) cs),(27,V0 (↑(ovN l.length m):Int)),(28,V0 (i:Int))]∧zm=ovN l.length m-((i:Int)).toNat∧Below B w V∧Fr [ba,g] w V∧Zg [125,5] w V∧V.ownsRow w.heap.size 3 1 (.slice ps (ovN l.length m) cs) (ovN l.length m) ((sizL l.length m).map nv)∧V.ownsRow w.heap.size 100 3 (.slice p4 i c4) i ((upE l m (f+k0) i).flatMap Je)∧Al B ba b g nn cc pa ca f N (k0+i) (levB t leaf m v l (f+k0) bs i) V∧(∀ W,Below B w W→Zg [125,5] w W→Sts Je W (.slice a2 l2.length c2) l2)∧i≤ovN l.length m∧l2=l.drop (i*m)) ⟨0,a,c,l,none,0,rfl,rfl,hB,hX,hO,f5,World.ownsRow_nil _ _ _ _,k4,?_,Nat.zero_le _,by simp⟩ ?_
 ·exact hin
 rintro _ _ W3 ⟨i,a2,c2,l2,p4,c4,rfl,rfl,d7,f0,e0,e6,l8,hA,i9,hi,h7⟩ J3 l9 r3
 have n0:=Sl.cap (i9 _ d7 e0)
 have r5:i<ovN l.length m→i*m≤l.length:=Zc0 (by omega)
 have j9:l2.length=l.length-i*m:=by rw[h7];simp
 have f8:Qw l.length m i≤l2.length:=by rw[j9];unfold Qw;omega
 refine xid 6 ((i:Int)<(↑(ovN l.length m):Int)) (fun n9=>?_) (fun n9=>?_)
 ·refine xx 6 _ (ovN l.length m) i 1 (Aq (Ze e6) (k:=i) (by omega)).1 ?_
  refine xl 0 ((Aq (Ze e6) (k:=i) (by omega)).2) ?_
  have j2:=d7
  have d2:=e0
  have d3:=f0
  refine xa 8 [V0 0,.bool false,S0,S0] 38 fun b6 W6 n6=>?_
  refine xsv 0 n6.blk [V0 t,.bool leaf,S0,S0] fun W7 u7 k7=>?_
  have g6:=n6.ge (B4 W3)
  refine xsH 7 (fun _ _ _ _ zo zx zy V=>Vk (k:=(Qw l.length m i)) (b:=a2) (n:=l2.length) (c:=c2) (i:=(↑(Qw l.length m i):Int)) (ki:=.i64) zo zx zy rfl (by omega) Tryz.underlying101 (by kernel_rfl) V) ?_
  have hB:=u7.below n6.below g6
  refine zl 5 96 (fun zm j6 V=>∃ (j:Nat) (kp:O0) (kc:Nat) (vp:O0) (vc:Nat),j6=[(0,P0 ba),(1,V0 t),(2,.bool leaf),(3,.slice a2 l2.length c2),(10,.slice p4 i c4),(12,V0 (↑(Qw l.length m i):Int)),(13,P0 b6),(26,.slice ps (ovN l.length m) cs),(27,V0 (↑(ovN l.length m):Int)),(28,V0 (i:Int)),(37,.slice a2 (Qw l.length m i) c2),(38,V0 (↑(Qw l.length m i):Int)),(39,V0 (j:Int))]∧zm=Qw l.length m i-((j:Int)).toNat∧B3 W3 V∧Blk V b6 ([V0 t,.bool leaf,.slice kp j kc,.slice vp j vc]) 38∧V.ownsRow W3.heap.size 3 1 (.slice kp j kc) j (((Va l2).take j).map V0)∧V.ownsRow W3.heap.size 9 1 (.slice vp j vc) j (((Kr l2).take j).map sv)∧j≤Qw l.length m i) ⟨0,none,0,none,0,rfl,rfl,hB,k7,World.ownsRow_nil _ _ _ _,World.ownsRow_nil _ _ _ _,Nat.zero_le _⟩ ?_
  rintro _ _ W8 ⟨j,kp,kc,vp,vc,rfl,rfl,c7,b4,hK,hV,hj⟩ J8 o1 r8
  refine xid 6 ((j:Int)<(↑(Qw l.length m i):Int)) (fun m4=>?_) (fun m4=>?_)
  ·have b1:=i9 _ j2 d2
   refine xx 6 _ (Qw l.length m i) j 3 (Sts.cell b1 Kj Qz (k:=j) (i:=0) (by omega) rfl).1 ?_
   refine xlv 0 (Sts.rp (k:=j) (b1.below c7) Kj Qz (by omega) (by decide)) ?_
   refine xa 0 [V0 0,.string ⟨#[]⟩,V0 0] 100 fun o8 o6 c5=>?_
   have n7:=c5.ge c7
   refine xsv 0 c5.blk [V0 ((l2.getD j Qz).1),.string ⟨((l2.getD j Qz).2.1).toArray⟩,V0 ((l2.getD j Qz).2.2)] fun q6 i5 m0=>?_
   have b2:=i5.blkT (b4.below c5.below) c5.blk (by decide)
   refine xb 5 2 b2 ?_
   refine xb 1 0 m0 ?_
   refine xbs 0 1 [V0 ((l2.getD j Qz).1)] 3 fun r1 p3 d0=>?_
   have g8:=i5.below (bln c7 c5.below) n7
   have r6:=d0.ge g8
   have i0:=i5.own2 (Zb hK c5.below) c5.blk (by decide)
   have l6:=Zz i0 d0
   have b9:=Zb i0 d0.below
   have g1:=bln g8 d0.below
   refine xbi 0 fun _ _ _ _ zJ zQ zo zx zy zK=>Zx (m:=1) (news:=[V0 ((l2.getD j Qz).1)]) (V0 0) 1 8 (j+1) (((Va l2).take (j+1)).map V0) zo Tryz.underlying28 (by kernel_rfl) rfl (by decide) zx b9 zy (d0.blk.sl 1 1 (by decide) (by decide)) rfl (by simp[Value.oneCell']) (by unfold maxLen;omega) (by omega) g1.size (by rfl) ((Zet (by omega)).symm) fun e9 g7 q0 n5 e1 k9=>?_
   refine zK _ _ ?_
   have a1:=(b2.below d0.below).grown e1 b9 (by decide)
   refine xs 1 a1 [V0 t,.bool leaf,.slice e9 (j+1) g7,.slice vp j vc] fun q5 j0 m2=>?_
   refine xb 4 3 m2 ?_
   have g3:=j0.blkT ((m0.below d0.below).grown e1 b9 (by decide)) a1 (by decide)
   refine xb 1 1 g3 ?_
   refine xbs 0 1 [.string ⟨((l2.getD j Qz).2.1).toArray⟩] 9 fun q1 o4 e3=>?_
   have h9:=j0.below (g1.trans k9) g6
   have r0:=e3.ge h9
   have f6:=j0.own2 (Xn (Zb (i5.own2 (Zb hV c5.below) c5.blk (by decide)) d0.below) e1 b9 (by decide)) a1 (by decide)
   have l5:=Zz f6 e3
   have e2:=Zb f6 e3.below
   have f4:=bln h9 e3.below
   refine xbi 0 fun _ _ _ _ zJ zQ zo zx zy zK=>Zx (m:=1) (news:=[.string ⟨((l2.getD j Qz).2.1).toArray⟩]) (.string ⟨#[]⟩) 1 16 (j+1) (((Kr l2).take (j+1)).map sv) zo Tryz.underlying36 (by kernel_rfl) rfl (by decide) zx e2 zy (e3.blk.sl 1 1 (by decide) (by decide)) rfl (by simp[Value.oneCell']) (by unfold maxLen;omega) (by omega) f4.size (by rfl) ((Zeq (by omega)).symm) fun l3 k2 r4 o0 f7 l7=>?_
   refine zK _ _ ?_
   have b3:=(m2.below e3.below).grown f7 e2 (by decide)
   refine xs 1 b3 [V0 t,.bool leaf,.slice e9 (j+1) g7,.slice l3 (j+1) k2] fun o5 l0 n2=>?_
   refine xwm 4 ((j:Int)+1) (↑(j+1):Int) ?_
   have k6:=l0.below (f4.trans l7) g6
   have g2:=l0.own2 (Xn (Zb (j0.own2 n5 a1 (by decide)) e3.below) f7 e2 (by decide)) b3 (by decide)
   have e8:=l0.own2 o0 b3 (by decide)
   exact ze 2 (o1 _ _ _ ⟨j+1,_,_,_,_,rfl,rfl,k6,n2,g2,e8,by omega⟩ (by omega))
  refine xsL 9 (fun _ _ _ _ zo zx zy V=>Vw (k:=(Qw l.length m i)) (b:=a2) (n:=l2.length) (c:=c2) (i:=(↑(Qw l.length m i):Int)) (ki:=.i64) 3 zo zx zy rfl (by omega) Tryz.underlying101 (by kernel_rfl) V) ?_
  refine xlv 5 b4.rp ?_
  have a6:B3 W3 W8:=c7
  have h8:w.heap.size≤W3.heap.size:=j2.size
  have h4:Qw l.length m i=j:=by omega
  have m6:(Va l2).take j=Va (Xc l m i):=by rw[h7];exact Ox h4
  have m9:(Kr l2).take j=Kr (Xc l m i):=by rw[h7];exact Ow h4
  have i4:(Xc l m i).length=j:=by rw[We,h4]
  have d8:=Zd hK h8
  rw[m6] at d8
  have h0:=Zd hV h8
  rw[m9] at h0
  have hN:=Ii E ht1 ht2 hm hv hl (show i<ovN l.length m by omega)
  have i1:=Iy hN
  rw[i4] at hN
  have m8:Kf m v (Qo t leaf j m v) (Va (Xc l m i)) (Kr (Xc l m i)) j=nodB t leaf m v (Xc l m i):=by rw[←i4];rfl
  refine xc 0 (args:=#[.agg #[V0 t,.bool leaf,.slice kp j kc,.slice vp j vc]]) (node_Put t leaf j m v (Va (Xc l m i)) (Kr (Xc l m i)) kp vp kc vc _ hN (Ze d8) (Ze h0)) ?_
  rintro _ q4 ⟨_,rfl,a4,p6,c6,rfl,h6⟩
  have k3:=(blB j2 hBw a6).size
  have f2:=Zd h6 k3
  rw[m8] at f2
  have l1:=(hA.below a6).below a4
  have hO:=(d2.trans (Zg.of_below a6)).trans (Zg.of_below a4)
  have hB:=blB (blB j2 hBw a6) hBw a4
  refine xc 21 (args:=#[P0 ba,V0 2,.slice p6 244 c6]) (Hx B ba b g nn cc pa ca f N (k0+i) (levB t leaf m v l (f+k0) bs i) 2 p6 c6 (nodB t leaf m v (Xc l m i)) (f+k0+i) 244 _ (Nat.add_assoc _ _ _).symm i1 hC l1 (by omega) (by decide) (by decide) (fun W _ hO=>Yl (Ze (Zo f2 hO (by decide))) i1) (by decide) (Nat.le_trans hBw hB.size)) ?_
  rintro _ p1 ⟨rfl,l4,a9,g5,hA⟩
  refine xr 20 (args:=#[V0 (↑(f+k0+i):Int)]) (Za8 ((f+k0+i:Nat):Int) (by omega) (by omega) _) fun q9 a0=>?_
  refine xa 2 [V0 0,.string ⟨#[]⟩,V0 0] 100 fun p0 r2 a3=>?_
  have e4:=blB (hB.trans l4) hBw a0
  have c1:=a3.ge0 e4
  have b5:=Zb (Zo (Zb (Zb l8 a6) a4) a9 (by decide)) a0
  have a5:=Zz b5 a3
  refine xsv 0 a3.blk [V0 0,.string ⟨(leB (↑(f+k0+i):Int) 4).toArray⟩,V0 (↑(f+k0+i):Int)] fun p5 b0 f3=>?_
  refine xid 9 ((↑(Qw l.length m i):Int)>(0:Int)) (fun j3=>?_) (fun j3=>?_)
  ·have f1:((Va (Xc l m i))).getD 0 0=((Xc l m i).getD 0 Qz).1:=Zfi h4 (by omega)
   have c3:=b0.blkT ((((b4.below a4).only a9 (by decide)).below a0).below a3.below) a3.blk (by decide)
   refine xb 2 2 c3 ?_
   have f9:=b0.own2 (Zb (Zb (Zo (Zb d8 a4) a9 (by decide)) a0) a3.below) a3.blk (by decide)
   refine xx 0 _ j 0 1 (IntsN.elem (Ze f9) (by rw[Uj,i4]) (k:=0) (by omega)).1 ?_
   refine xl 0 ((IntsN.elem (Ze f9) (by rw[Uj,i4]) (k:=0) (by omega)).2) ?_
   refine xs 1 f3 [V0 ((Va (Xc l m i)).getD 0 0),.string ⟨(leB (↑(f+k0+i):Int) 4).toArray⟩,V0 (↑(f+k0+i):Int)] fun p9 e5 m1=>?_
   refine xlv 4 m1.rp ?_
   refine xbs 0 1 [V0 ((Va (Xc l m i)).getD 0 0),.string ⟨(leB (↑(f+k0+i):Int) 4).toArray⟩,V0 (↑(f+k0+i):Int)] 100 fun o9 q3 b8=>?_
   have i6:=b8.ne m1
   have g9:=e5.below (b0.below (blB e4 hBw a3.below) (Nat.le_trans hBw c1)) (Nat.le_trans hBw c1)
   have q8:=b8.ge0 g9
   have d5:=e5.own3 (b0.own3 (Zb b5 a3.below) a5) a5
   have j1:=Zz d5 b8
   have a8:=Zb d5 b8.below
   have h3:=blB g9 hBw b8.below
   refine xbi 0 fun _ _ _ _ zJ zQ zo zx zy zK=>Zx (m:=1) (news:=[V0 ((Va (Xc l m i)).getD 0 0),.string ⟨(leB (↑(f+k0+i):Int) 4).toArray⟩,V0 (↑(f+k0+i):Int)]) (.agg #[V0 0,.string ⟨#[]⟩,V0 0]) 3 32 (i+1) ((upE l m (f+k0) (i+1)).flatMap Je) zo Tryz.underlying101 (by kernel_rfl) rfl (by decide) zx a8 zy (b8.blk.sl 1 1 (by decide) (by decide)) rfl (by simp[Value.oneCell']) (by unfold maxLen;omega) (by omega) h3.size (by rfl) (up_row (by first|exact f1|exact d4)) fun n3 o2 o7 m3 c0 k8=>?_
   refine zK _ _ ?_
   refine xwm 5 ((i:Int)+1) (↑(i+1):Int) ?_
   refine xv1 2 3 (show(.slice (Jh a2 (Qw l.length m i) c2 3) (l2.length-(Qw l.length m i)) (c2-(Qw l.length m i)):Value)=.slice (Jh a2 (Qw l.length m i) c2 3) ((l2.drop (Qw l.length m i)).length) (c2-Qw l.length m i) from by rw[List.length_drop]) ?_
   have j7:=(((((hA.below a0).below a3.below).only (Zg.of_upd (T:=[100]) b0 a3.blk (by decide)) (by decide)).only (Zg.of_upd (T:=[100]) e5 f3 (by decide)) (by decide)).below b8.below).only (Zg.of_grown (T:=[100]) c0 a8 (by decide)) (by decide)
   have d9:l2.drop (Qw l.length m i)=l.drop ((i+1)*m):=by
    rw[h7,List.drop_drop,Nat.add_mul,Nat.one_mul]
    unfold Qw
    rcases Nat.le_total m (l.length-i*m) with q|q
    ·rw[Nat.min_eq_left q]
    ·rw[Nat.min_eq_right q,List.drop_eq_nil_of_le (by omega),List.drop_eq_nil_of_le (by omega)]
   have k1:=h3.trans (k8.mono hBw)
   have hX:=(Fr.grown_new ((Fr.upd_new (Fr.upd_new (((((d3.trans (Fr.of_below a6)).trans (Fr.of_below a4)).trans (g5.mono (by simp))).trans (Fr.of_below a0)).trans (Fr.of_below a3.below)) b0 c1) e5 c1).trans (Fr.of_below b8.below)) c0 a8)
   have j5:=(Zg.grown_new ((Zg.upd_new (Zg.upd_new (((hO.trans a9).trans (Zg.of_below a0)).trans (Zg.of_below a3.below)) b0 c1) e5 c1).trans (Zg.of_below b8.below)) c0 a8)
   have g0:=Xn (Zb (e5.own2 (b0.own2 (Zb (Zb (Zo (Zb (Zb e6 a6) a4) a9 (by decide)) a0) a3.below) a3.blk (by decide)) f3 (by decide)) b8.below) c0 a8 (by decide)
   exact ze 0 (l9 _ _ _ ⟨i+1,_,_,(l2.drop (Qw l.length m i)),_,_,rfl,rfl,k1,hX,j5,g0,m3,j7,fun W h1 h2=>Sts.cut Kj (i9 W h1 h2) _ f8,by omega,d9⟩ (by omega))
  have d4:(0:Int)=((Xc l m i).getD 0 Qz).1:=Tf h4 (by omega)
  refine xlv 4 f3.rp ?_
  refine xbs 0 1 [V0 0,.string ⟨(leB (↑(f+k0+i):Int) 4).toArray⟩,V0 (↑(f+k0+i):Int)] 100 fun q7 o3 b7=>?_
  have i8:=b7.ne f3
  have c9:=b0.below (blB e4 hBw a3.below) (Nat.le_trans hBw c1)
  have q2:=b7.ge0 c9
  have d1:=b0.own3 (Zb b5 a3.below) a5
  have i3:=Zz d1 b7
  have a7:=Zb d1 b7.below
  have d6:=blB c9 hBw b7.below
  refine xbi 0 fun _ _ _ _ zJ zQ zo zx zy zK=>Zx (m:=1) (news:=[V0 0,.string ⟨(leB (↑(f+k0+i):Int) 4).toArray⟩,V0 (↑(f+k0+i):Int)]) (.agg #[V0 0,.string ⟨#[]⟩,V0 0]) 3 32 (i+1) ((upE l m (f+k0) (i+1)).flatMap Je) zo Tryz.underlying101 (by kernel_rfl) rfl (by decide) zx a7 zy (b7.blk.sl 1 1 (by decide) (by decide)) rfl (by simp[Value.oneCell']) (by unfold maxLen;omega) (by omega) d6.size (by rfl) (up_row (by first|exact f1|exact d4)) fun n4 n1 p2 m5 c8 k5=>?_
  refine zK _ _ ?_
  refine xwm 5 ((i:Int)+1) (↑(i+1):Int) ?_
  refine xv1 2 3 (show(.slice (Jh a2 (Qw l.length m i) c2 3) (l2.length-(Qw l.length m i)) (c2-(Qw l.length m i)):Value)=.slice (Jh a2 (Qw l.length m i) c2 3) ((l2.drop (Qw l.length m i)).length) (c2-Qw l.length m i) from by rw[List.length_drop]) ?_
  have j8:=((((hA.below a0).below a3.below).only (Zg.of_upd (T:=[100]) b0 a3.blk (by decide)) (by decide)).below b7.below).only (Zg.of_grown (T:=[100]) c8 a7 (by decide)) (by decide)
  have d9:l2.drop (Qw l.length m i)=l.drop ((i+1)*m):=by
   rw[h7,List.drop_drop,Nat.add_mul,Nat.one_mul]
   unfold Qw
   rcases Nat.le_total m (l.length-i*m) with q|q
   ·rw[Nat.min_eq_left q]
   ·rw[Nat.min_eq_right q,List.drop_eq_nil_of_le (by omega),List.drop_eq_nil_of_le (by omega)]
  have i2:=d6.trans (k5.mono hBw)
  have hX:=(Fr.grown_new ((Fr.upd_new (((((d3.trans (Fr.of_below a6)).trans (Fr.of_below a4)).trans (g5.mono (by simp))).trans (Fr.of_below a0)).trans (Fr.of_below a3.below)) b0 c1).trans (Fr.of_below b7.below)) c8 a7)
  have j4:=(Zg.grown_new ((Zg.upd_new (((hO.trans a9).trans (Zg.of_below a0)).trans (Zg.of_below a3.below)) b0 c1).trans (Zg.of_below b7.below)) c8 a7)
  have h5:=Xn (Zb (b0.own2 (Zb (Zb (Zo (Zb (Zb e6 a6) a4) a9 (by decide)) a0) a3.below) a3.blk (by decide)) b7.below) c8 a7 (by decide)
  exact ze 0 (l9 _ _ _ ⟨i+1,_,_,(l2.drop (Qw l.length m i)),_,_,rfl,rfl,i2,hX,j4,h5,m5,j8,fun W h1 h2=>Sts.cut Kj (i9 W h1 h2) _ f8,by omega,d9⟩ (by omega))
 refine xe 13 (.tuple #[.slice p4 i c4,.nilIface]) ?_
 obtain rfl:i=ovN l.length m:=by omega
 exact⟨_,_,rfl,d7,e0,f0,hA,l8⟩
theorem Ze3{w w':World}(h:Zg [125,5] w w'):Zg [125,5,30] w w':=h.mono fun t ht=>by simp at ht ⊢;exact⟨ht.1,ht.2.1⟩
def Zd5(B ba b g nn cc:Nat)(pa:O0)(ca f N k0:Nat)(bs:Bl)(t:Int)(leaf:Bool)(m v:Nat)(l:List Ent)(b8:Nat)(w:World)(e:Ending)(w':World):Prop :=
 ∃ p c,e=.returned (.slice p (ovN l.length m) c)∧Below B w w'∧Zg [125,5,30] w w'∧Fr [ba,g,b8] w w'∧Blk w' b8 [.nilIface] 30∧Al B ba b g nn cc pa ca f N (k0+ovN l.length m) (levB t leaf m v l (f+k0) bs (ovN l.length m)) w'∧w'.ownsRow w.heap.size 100 3 (.slice p (ovN l.length m) c) (ovN l.length m) ((upE l m (f+k0) (ovN l.length m)).flatMap Je)
theorem Ll(B ba b g nn cc:Nat)(pa:O0)(ca f N k0:Nat)(bs:Bl)(t:Int)(leaf:Bool)(m v:Nat)(a:O0)(c:Nat)(l:List Ent)(b3 b4 b8:Nat)(w:World)(k3:Blk w b3 [P0 ba] 61)(k4:Blk w b4 [V0 t] 3)(k8:Blk w b8 [.nilIface] 30)(h38:b3≠b8)(h48:b4≠b8)(hB8:B≤b8)(hC:AlC B ba nn cc ca f N)(hA:Al B ba b g nn cc pa ca f N k0 bs w)(ht1:1≤t)(ht2:t≤5)(hm:Yy t leaf=m)(hv:Lp t leaf=v)(E:EntsOk v l)(hl:leaf=false→1≤l.length)(hn:l.length≤32768)(hf1:1≤f)(hk:k0+ovN l.length m≤N)(hin:∀ W,Below B w W→Zg [125,5,30] w W→Sts Je W (.slice a l.length c) l)(hBw:B≤w.heap.size) :
 C0 52 #[.bool leaf,.slice a l.length c,P0 b3,P0 b4,P0 b8] w (Zd5 B ba b g nn cc pa ca f N k0 bs t leaf m v l b8 w):=by
 refine zin 20 Tryz.func52 ?_
 refine xb 7 0 k3 ?_
 refine xb 0 0 k4 ?_
 refine xc 2 (args:=#[P0 ba,V0 t,.bool leaf,.slice a l.length c]) (Rr B ba b g nn cc pa ca f N k0 bs t leaf m v a c l _ hC hA ht1 ht2 hm hv E hl hn hf1 hk (fun W h1 h2=>hin W ((Below.refl B _).trans h1) ((Zg.refl _ _).trans (Ze3 h2))) (Nat.le_trans hBw (Below.refl B _).size)) ?_
 rintro _ W1 ⟨p4,c4,rfl,a4,a3,a7,hA,a6⟩
 have a5:=Nat.le_refl w.heap.size
 have a0:=k8.only a3 (by decide)
 refine xs 10 a0 [.nilIface] fun W2 u2 k2=>?_
 have hB:=u2.below a4 hB8
 have hO:=(show Zg [125,5,30] w _ from(Ze3 a3)).trans (Zg.of_upd u2 a0 (by decide))
 have hX:=(show Fr [ba,g,b8] w _ from(a7.mono (by simp))).trans (Fr.of_upd u2 (by simp))
 have a2:=hA.only (Zg.of_upd (T:=[30]) u2 a0 (by decide)) (by decide)
 have a1:=u2.own2 (Zd a6 a5) a0 (by decide)
 exact xe 9 (.slice p4 (ovN l.length m) c4) ⟨_,_,rfl,hB,hO,hX,k2,a2,a1⟩
def Oc(B ba b g nn cc:Nat)(pa:O0)(ca f N k0:Nat)(bs:Bl)(t:Int)(l:List Ent)(w:World)(e:Ending)(w':World):Prop :=
 e=.returned (.tuple #[V0 (Kh t l (f+k0) bs).1,.nilIface])∧Below B w w'∧Zg [125,5,30] w w'∧Fr [ba,g] w w'∧Al B ba b g nn cc pa ca f N (k0+Yi t l.length) (Kh t l (f+k0) bs).2 w'
theorem Zcd(B ba b g nn cc:Nat)(pa:O0)(ca f N k0:Nat)(bs:Bl)(t:Int)(a:O0)(c:Nat)(l:List Ent)(w:World)(hC:AlC B ba nn cc ca f N)(hA:Al B ba b g nn cc pa ca f N k0 bs w)(ht1:1≤t)(ht2:t≤5)(E:EntsOk (Lp t true) l)(hn:l.length≤32768)(hf1:1≤f)(hkN:k0≤N)(hk:k0+Yi t l.length≤N)(hin:∀ W,Below B w W→Zg [125,5,30] w W→Sts Je W (.slice a l.length c) l)(hBw:B≤w.heap.size) :
 C0 21 #[P0 ba,V0 t,.slice a l.length c] w (Oc B ba b g nn cc pa ca f N k0 bs t l w):=by
 have f8:=Am t l.length
 have g0:(ovN l.length (Yy t true))≤Yi t l.length:=My _
 have g1:=Fs l.length (Yy t true) (Yo t true).1
 have f2:=Qq l.length (Yy t true)
 have g3:=hC.hf
 have g5:=hC.hn
 refine zin 52 Tryz.func21 ?_
 refine xa 2 [P0 ba] 61 fun b1 W1 n1=>?_
 refine xa 0 [V0 t] 3 fun b2 W2 n2=>?_
 have k1:=n1.blk.below n2.below
 refine xb 8 0 k1 ?_
 have c8:=(hA.below n1.below).below n2.below
 refine xr 0 (args:=#[P0 ba]) (Jn ba b _ _ _ c8.blkA) fun W3 b6=>?_
 have k2:=n2.blk.below b6
 refine xb 7 0 k2 ?_
 have hB:=blB (blB (blB (Below.refl B w) hBw n1.below) hBw n2.below) hBw b6
 have hO:=((show Zg [125,5,30] w _ from(Zg.of_below n1.below)).trans (Zg.of_below n2.below)).trans (Zg.of_below b6)
 refine xr 1 (args:=#[V0 t,.slice a l.length c]) (Sc t (Lp t true) a c l _ ht1 ht2 rfl E (hin _ hB hO) hn) fun W4 b5=>?_
 refine xd 6 .z ?_
 have c0:=((k1.below b6).below b5).below (Za W4)
 refine xb (.e [] 0) 0 c0 ?_
 have c1:=(k2.below b5).below (Za W4)
 refine xb (.e [] 2) 0 c1 ?_
 have c7:=((c8.below b6).below b5).below (Za W4)
 refine xr (.o [3,4] 1) (args:=#[P0 ba]) (Wr ba b pa N ca k0 _ c7.blkA hkN) fun W5 b4=>?_
 refine xr (.o [] 5) (args:=#[V0 t,V0 (l.length:Int)]) (Jb t l.length _ ht1 ht2 hn) fun W6 b8=>?_
 refine xk (.r [6,7] 2) (show(decide ((↑(N-k0):Int)<(↑(Yi t l.length):Int)):Bool)=false from decide_eq_false (by omega)) ?_
 refine xa 5 [.nilIface] 30 fun b7 W7 n7=>?_
 have a8:=blB (blB (blB (blB hB hBw b5) hBw (Za W4)) hBw b4) hBw b8
 have g7:=n7.ge0 a8
 have a7:=((c0.below b4).below b8).below n7.below
 have b0:=((c1.below b4).below b8).below n7.below
 have e5:=((c7.below b4).below b8).below n7.below
 have b3:=blB a8 hBw n7.below
 have c5:=((((hO.trans (Zg.of_below b5)).trans (Zg.of_below (Za W4))).trans (Zg.of_below b4)).trans (Zg.of_below b8)).trans (Zg.of_below n7.below)
 refine xc 12 (args:=#[.bool true,.slice a l.length c,P0 b1,P0 b2,P0 b7]) (Ll B ba b g nn cc pa ca f N k0 bs t true (Yy t true) (Lp t true) a c l b1 b2 b7 _ a7 b0 n7.blk (Blk.tne a7 n7.blk (by decide)) (Blk.tne b0 n7.blk (by decide)) (Nat.le_trans hBw g7) hC e5 ht1 ht2 rfl rfl E (by simp) hn hf1 (by omega) (fun W h1 h2=>hin W (b3.trans h1) (c5.trans h2)) (Nat.le_trans hBw b3.size)) ?_
 rintro _ W8 ⟨d6,d2,rfl,e9,d3,f0,e3,hA,a9⟩
 have f5:=(blB a8 hBw n7.below).size
 refine xv1 5 10 (show(.slice d6 (ovN l.length (Yy t true)) d2:Value)=.slice d6 ((upE l (Yy t true) (f+k0) (ovN l.length (Yy t true))).length) d2 from by rw[Yc]) ?_
 have c3:=Zd a9 f5
 have e0:=b3.trans e9
 have hX:=(Fr.trans_new ((((((((show Fr [ba,g] w _ from(Fr.of_below n1.below)).trans (Fr.of_below n2.below)).trans (Fr.of_below b6)).trans (Fr.of_below b5)).trans (Fr.of_below (Za W4))).trans (Fr.of_below b4)).trans (Fr.of_below b8)).trans (Fr.of_below n7.below)) f0 g7)
 have e1:=c5.trans d3
 have e4:=a7.only d3 (by decide)
 have d8:=b0.only d3 (by decide)
 refine zl 0 52 (fun zm f4 V=>∃ (u:List Ent) (K:Nat) (d0:Bl) (p:O0) (c2:Nat),f4=[(6,V0 0),(7,.nilIface),(8,P0 b7),(9,.func (.func 52) #[] #[P0 b1,P0 b2,P0 b7]),(10,.slice p u.length c2)]∧zm=u.length∧Below B w V∧Fr [ba,g] w V∧Zg [125,5,30] w V∧Blk V b1 ([P0 ba]) 61∧Blk V b2 ([V0 t]) 3∧Blk V b7 ([.nilIface]) 30∧V.ownsRow w.heap.size 100 3 (.slice p u.length c2) u.length (u.flatMap Je)∧Al B ba b g nn cc pa ca f N K d0 V∧K+(Aa u.length).sum=k0+Yi t l.length+u.length∧1≤u.length∧u.length≤32768∧EntsOk 4 u∧Pl t u (f+K) d0=Kh t l (f+k0) bs) ⟨(upE l (Yy t true) (f+k0) (ovN l.length (Yy t true))),(k0+(ovN l.length (Yy t true))),(levB t true (Yy t true) (Lp t true) l (f+k0) bs (ovN l.length (Yy t true))),d6,d2,rfl,rfl,e0,hX,e1,e4,d8,e3,(by rw[Yc];exact c3),hA,(by rw[Yc];unfold Yi Ks;omega),(by rw[Yc];exact f2),(by rw[Yc];omega),up_ok E (Yo t true).1,(by rw[←Nat.add_assoc];rfl)⟩ ?_
 rintro _ _ W9 ⟨u,K,d0,p,c2,rfl,rfl,a5,c6,b9,a1,a2,a0,a9,hA,hK,f3,g2,hE,c9⟩ J9 f1 r9
 have f6:¬ u.length≤1→(Aa u.length).sum=u.length+(Aa (ovN u.length 18)).sum:=fun h=>by rw[Hq h];rfl
 have f9:=My (ovN u.length 18)
 have g6:2≤u.length→ovN u.length 18≤u.length/2:=ov18
 have d1:=Qq u.length 18
 refine xb 3 0 a0 ?_
 refine xid 8 ((u.length:Int)>(1:Int)) (fun e2=>?_) (fun e2=>?_)
 ·refine xc 6 (args:=#[.bool false,.slice p u.length c2,P0 b1,P0 b2,P0 b7]) (Ll B ba b g nn cc pa ca f N K d0 t false 18 4 p c2 u b1 b2 b7 _ a1 a2 a0 (Blk.tne a1 a0 (by decide)) (Blk.tne a2 a0 (by decide)) (Nat.le_trans hBw g7) hC hA ht1 ht2 rfl rfl hE (fun _=>f3) (by omega) hf1 (by omega) (fun W _ h2=>Ze (Zo a9 h2 (by decide))) (Nat.le_trans hBw a5.size)) ?_
  rintro _ f7 ⟨e8,e7,rfl,d4,a6,d7,e3,hA,a9⟩
  refine xv1 3 10 (show(.slice e8 (ovN u.length 18) e7:Value)=.slice e8 ((upE u 18 (f+K) (ovN u.length 18)).length) e7 from by rw[Yc]) ?_
  have c4:=Zd a9 a5.size
  have e6:=a5.trans d4
  have d5:=(Fr.trans_new c6 d7 g7)
  have d9:=b9.trans a6
  have a4:=a1.only a6 (by decide)
  have a3:=a2.only a6 (by decide)
  refine ze 0 (f1 _ _ _ ⟨(upE u 18 (f+K) (ovN u.length 18)),(K+ovN u.length 18),_,_,_,rfl,rfl,e6,d5,d9,a4,a3,e3,(by rw[Yc];exact c4),hA,(by rw[Yc];omega),(by rw[Yc];exact d1),(by rw[Yc];omega),up_ok hE (by decide),(by rw[←c9,←Nat.add_assoc];exact(Tu (by omega)).symm)⟩ ?_)
  show((upE u 18 (f+K) (ovN u.length 18)).length)<u.length
  rw[Yc];omega
 refine xb 8 0 a0 ?_
 refine xx 9 _ u.length 0 3 (Sts.cell (Ze a9) Kj Qz (k:=0) (i:=0) (by omega) rfl).1 ?_
 refine xl 1 ((Sts.cell (Ze a9) Kj Qz (k:=0) (i:=2) (by omega) rfl).2) ?_
 refine xe 5 (.tuple #[V0 ((u.getD 0 Qz).2.2),.nilIface]) ?_
 have h1:u.length≤1:=by omega
 rw[Ci h1] at c9
 rw[Ht h1] at hK
 simp only[List.sum_cons,List.sum_nil] at hK
 obtain rfl:K=k0+Yi t l.length:=by omega
 refine⟨by rw[←c9],a5,b9,c6,by rw[←c9];exact hA⟩
def entE(v:Nat)(l:List Ent)(i:Nat):Prop:=Zfs l i<(l.getD i Qz).1∧(l.getD i Qz).1≤281474976710655∧(l.getD i Qz).2.1.length=v
instance (v:Nat) (l:List Ent) (i:Nat):Decidable (entE v l i):=by unfold entE;infer_instance
structure AlG(B ba b:Nat)(pa:Option Addr)(N ca k:Nat)(L:List Int)(w:World):Prop where
 blk:Blk w ba [.slice pa N ca,.int .i64 (k:Int),.pointer (some ⟨b,0,none⟩)] 125
 nums:w.ownsRow B 3 1 (.slice pa N ca) N (L.map (Value.int .i64))
 hL:L.length=N
 hB:B≤ba
 hN:N≤1000000
 hk:k≤N
theorem AlG.below{B ba b:Nat}{pa:O0}{N ca k:Nat}{L:List Int}{w W:World}(h:AlG B ba b pa N ca k L w)(hb:B3 w W):AlG B ba b pa N ca k L W:=⟨h.blk.below hb,Zb h.nums hb,h.hL,h.hB,h.hN,h.hk⟩
theorem AlG.only{B ba b:Nat}{pa:O0}{N ca k:Nat}{L:List Int}{w W:World}{T:List TypeId}(h:AlG B ba b pa N ca k L w)(hO:Zg T w W)(hT:T.contains 125=false∧T.contains 3=false):AlG B ba b pa N ca k L W:=⟨h.blk.only hO hT.1,Zo h.nums hO hT.2,h.hL,h.hB,h.hN,h.hk⟩
theorem AlG.mono{B B' ba b:Nat}{pa:O0}{N ca k:Nat}{L:List Int}{w:World}(h:AlG B ba b pa N ca k L w)(hB:B'≤B):AlG B' ba b pa N ca k L w:=⟨h.blk,Zd h.nums hB,h.hL,Nat.le_trans hB h.hB,h.hN,h.hk⟩
theorem Zbk(p:Addr)(N c:Nat)(xs:List Value)(w:World)(h:Sl w (.slice (some p) N c) N xs)(hl:xs.length=N)(h1:∀ u∈xs,u.oneCell'=true)(hn:N≤1000000) :
 C0 59 #[.slice (some p) N c] w (Qi (fun w' r=>∃ q c2,r=.slice q N c2∧w'.ownsRow w.heap.size 3 1 (.slice q N c2) N xs) w):=by
 refine zin 8 Tryz.func59 ?_
 refine xb0 17 3 fun b1 W1 n1=>?_
 have o1:=Xf (size:=1) (n:=0) n1.blk (n1.ge (B4 w)) rfl (by decide)
 refine xbi 1 fun _ _ _ _ zJ zQ zo zx zy zK=>Zx (m:=N) (news:=xs) (V0 0) 1 8 (N) (xs) zo Tryz.underlying28 (by kernel_rfl) rfl (by decide) zx o1 zy (h.below n1.below) (by rw[hl,Nat.mul_one]) h1 (by unfold maxLen;omega) (by omega) n1.below.size (by omega) (by rfl) fun a2 a1 W2 o2 a4 a3=>?_
 refine zK _ _ ?_
 have a0:=n1.below.trans a3
 exact xe 4 (.slice a2 N a1) ⟨_,rfl,a0,_,_,rfl,o2⟩
theorem Lu(w:World) :
 C0 59 #[S0] w (Ret (S0) w):=by
 refine zin 8 Tryz.func59 ?_
 exact xe 20 (S0) ⟨rfl,(B4 w)⟩
theorem Sf(a:O0)(N c:Nat)(xs:List Value)(w:World)(h:Sl w (.slice a N c) N xs)(hc:a=none→c=0)(hl:xs.length=N)(h1:∀ u∈xs,u.oneCell'=true)(hn:N≤1000000) :
 C0 59 #[.slice a N c] w (Qi (fun w' r=>∃ q c2,r=.slice q N c2∧w'.ownsRow w.heap.size 3 1 (.slice q N c2) N xs) w):=by
 cases a with
 | some p=>exact Zbk p N c xs w h hl h1 hn
 | none =>
  have hN:N=0∧xs=[]:=by
   rcases h with ⟨a',c',h2,h3,h4⟩|⟨b',a0,a1,h2,_⟩
   ·simp only[Value.slice.injEq] at h2;exact⟨h2.2.1,h4⟩
   ·cases h2
  obtain⟨rfl,rfl⟩:=hN
  obtain rfl:=hc rfl
  refine(Lu w).mono ?_
  rintro e W ⟨rfl,hb⟩
  exact⟨_,rfl,hb,none,0,rfl,World.ownsRow_nil _ _ _ _⟩
theorem sl_cut{w:World}{b:O0}{n c:Nat}{xs:List Value}(h:Sl w (.slice b n c) n xs)(hl:xs.length=n)(k:Nat)(hk:k≤n):Sl w (.slice (Jh b k c 1) (n-k) (c-k)) (n-k) (xs.drop k):=by
 rcases h with ⟨a',c',h1,h2,h3⟩|⟨g,a0,a1,h1,h2,h3,h4⟩
 ·obtain rfl:k=0:=by omega
  subst h3 h2
  exact .inl ⟨Jh b 0 c 1,c-0,rfl,rfl,rfl⟩
 ·simp only[Value.slice.injEq] at h1
  obtain⟨rfl,_,rfl⟩:=h1
  by_cases hz:n-k=0
  ·refine .inl ⟨Jh (some ⟨g,a0,none⟩) k c 1,c-k,by rw[hz],by omega,?_⟩
   exact List.drop_eq_nil_of_le (by omega)
  ·refine .inr ⟨g,a0+k*1,c-k,?_,by omega,by omega,fun j x hj=>?_⟩
   ·rw[Jh,if_neg (by omega)];simp[Addr.add]
   ·rw[List.getElem?_drop] at hj
    have:=h4 (k+j) x hj
    rwa [Nat.mul_one,Nat.add_assoc]
theorem sl_take{w:World}{b:O0}{n c:Nat}{xs:List Value}(h:Sl w (.slice b n c) n xs)(hl:xs.length=n)(m:Nat)(hm:m≤n):Sl w (.slice b m c) m (xs.take m):=Sl.head h hl m hm
theorem aheadSl{w:World}{b:O0}{n c k i:Nat}{L:List Int}(h:Sl w (.slice b n c) n (L.map V0))(hl:L.length=n)(hk:k≤n):Sl w (.slice (Jh b k c 1) (min i (n-k)) (c-k)) (min i (n-k)) (((L.drop k).take i).map V0):=by
 have h1:=sl_cut h (by simpa using hl) k hk
 have h2:=sl_take h1 (by simp[hl]) (min i (n-k)) (by omega)
 rw[←List.map_drop,←List.map_take] at h2
 have e:(L.drop k).take (min i (n-k))=(L.drop k).take i:=by
  rcases Nat.le_total i (n-k) with q|q
  ·rw[Nat.min_eq_left q]
  ·rw[Nat.min_eq_right q,List.take_of_length_le (by simp[hl]),List.take_of_length_le (by simp[hl];omega)]
 rw[e] at h2
 exact h2
theorem aheadN{w:World}{B:Nat}{b:O0}{n c k:Nat}{xs:List Value}{e size:Nat}(h:w.ownsRow B e size (.slice b n c) n xs):Jh b k c 1=none→c-k=0:=by
 intro hn
 have hb:b=none:=by
  unfold Jh at hn
  split at hn
  ·exact hn
  ·simpa using hn
 subst hb
 rcases h.2 with ⟨h2,_⟩|⟨g,a1,a0,h2,_⟩
 ·simp only[Value.slice.injEq] at h2;omega
 ·cases h2
theorem Ta(B ba b:Nat)(p0:O0)(N ca k i:Nat)(L:List Int)(w:World)(hA:AlG B ba b p0 N ca k L w)(hi:i≤1000000) :
 C0 60 #[P0 ba,V0 (i:Int)] w (Qi (fun w' r=>∃ q c2,r=.slice q (min i (N-k)) c2∧w'.ownsRow w.heap.size 3 1 (.slice q (min i (N-k)) c2) (min i (N-k)) (((L.drop k).take i).map V0)) w):=by
 have hk:=hA.blk
 have a5:=hA.hk
 have hL:=hA.hL
 have hN:=hA.hN
 have a9:N≤ca:=by
  rcases Nat.eq_zero_or_pos N with q|q
  ·omega
  ·exact To hA.nums q
 refine zin 23 Tryz.func60 ?_
 refine xr 9 (args:=#[P0 ba]) (Kk ba b _ _ _ hk) fun W1 a0=>?_
 refine xid 6 ((i:Int)<(1:Int)) (fun a8=>?_) (fun a8=>?_)
 ·refine xe 7 (S0) ?_
  obtain rfl:i=0:=by omega
  exact⟨_,rfl,a0,none,0,by rw[Nat.zero_min],by rw[Nat.zero_min,List.take_zero];exact World.ownsRow_nil _ _ _ _⟩
 have a2:=hk.below a0
 refine xr 7 (args:=#[P0 ba]) (Cb ba p0 N ca k _ _ a2 a5) fun W3 a4=>?_
 refine xq 9 (congrArg V0 (show(if(↑(N-k):Int)<(i:Int) then(↑(N-k):Int) else(i:Int):Int)=(↑(min i (N-k)):Int) from Cs i (N-k))) ?_
 refine xsH 0 (fun _ _ _ _ zo zx zy V=>Vk (k:=(min i (N-k))) (b:=(Jh p0 k ca 1)) (n:=(N-k)) (c:=(ca-k)) (i:=(↑(min i (N-k)):Int)) (ki:=.i64) zo zx zy rfl (by omega) Tryz.underlying28 (by kernel_rfl) V) ?_
 have hB:=bln a0 a4
 refine xc 0 (args:=#[.slice (Jh p0 k ca 1) (min i (N-k)) (ca-k)]) (Sf (Jh p0 k ca 1) (min i (N-k)) (ca-k) (((L.drop k).take i).map V0) _ (aheadSl (Ze (Zb hA.nums hB)) hL a5) (aheadN hA.nums) (by simp;omega) (Ia _) (by omega)) ?_
 rintro _ W4 ⟨_,rfl,a6,pq,cq,rfl,hq⟩
 have a7:=(bln a0 a4).size
 have a1:=bln hB a6
 have a3:=Zd hq a7
 exact xe 4 (.slice pq (min i (N-k)) cq) ⟨_,rfl,a1,_,_,rfl,a3⟩
def rsV (L:List (List Int))(q i:Nat):List Value:=[V0 ((q+i:Nat):Int),V0 (Xp (L.getD i []):Int),V0 (Zy (L.getD i []):Int)]
def rsL (L:List (List Int))(q n:Nat):List Value:=(List.range n).flatMap (rsV L q)
theorem rsL_succ(L:List (List Int))(q n:Nat):rsL L q (n+1)=rsL L q n++rsV L q n:=by simp[rsL,List.range_succ]
def ClosM(B Bx bl:Nat)(L:List (List Int))(q i:Nat)(w:World)(e:Ending)(w':World):Prop :=
 ∃ u p c,e=.returned u∧Below B w w'∧Zg [41,136] w w'∧Blk w' bl [.slice p (i+1) c] 41∧w'.ownsRow Bx 136 3 (.slice p (i+1) c) (i+1) (rsL L q (i+1))∧FrB Bx [bl] w w'
theorem Oo(B Bx bl:Nat)(p:O0)(c:Nat)(L:List (List Int))(q i:Nat)(w:World)(hBm:B≤Bx)(hBx:Bx≤w.heap.size)(hBw:B≤w.heap.size)(hBl:B≤bl)(kl:Blk w bl [.slice p i c] 41)(hup:w.ownsRow Bx 136 3 (.slice p i c) i (rsL L q i))(hi:i≤100000) :
 C0 61 #[.agg #[V0 (↑(q+i):Int),V0 (↑(Xp (L.getD i [])):Int),V0 (↑(Zy (L.getD i [])):Int)],P0 bl] w (ClosM B Bx bl L q i w):=by
 have hZ:FrZ Bx [bl] w w:=FrZ.refl hBx
 refine zin 7 Tryz.func61 ?_
 refine xa 2 [V0 (↑(q+i):Int),V0 (↑(Xp (L.getD i [])):Int),V0 (↑(Zy (L.getD i [])):Int)] 136 fun b1 W1 n1=>?_
 have a4:=Zz hup n1
 have a3:=kl.below n1.below
 refine xb 3 0 a3 ?_
 refine xlv 0 n1.blk.rp ?_
 refine xbs 0 1 [V0 (↑(q+i):Int),V0 (↑(Xp (L.getD i [])):Int),V0 (↑(Zy (L.getD i [])):Int)] 136 fun b2 W2 n2=>?_
 have b0:=n2.ne n1.blk
 have a1:=Zb hup n1.below
 have a7:=Zz a1 n2
 have a0:=Zb a1 n2.below
 have hB:=blB (blB (Below.refl B w) hBw n1.below) hBw n2.below
 refine xbi 0 fun _ _ _ _ zJ zQ zo zx zy zK=>Zx (m:=1) (news:=[V0 (↑(q+i):Int),V0 (↑(Xp (L.getD i [])):Int),V0 (↑(Zy (L.getD i [])):Int)]) (.agg #[V0 0,V0 0,V0 0]) 3 24 (i+1) ((rsL L q (i+1))) zo Tryz.underlying41 (by kernel_rfl) rfl (by decide) zx a0 zy (n2.blk.sl 1 1 (by decide) (by decide)) rfl (by simp[Value.oneCell']) (by unfold maxLen;omega) (by omega) (Nat.le_trans hBx hB.size) (by rfl) (by rw[rsL_succ];rfl) fun b5 b3 W3 o3 a5 b4=>?_
 refine zK _ _ ?_
 have a2:=(a3.below n2.below).grown a5 a0 (by decide)
 refine xs 0 a2 [.slice b5 (i+1) b3] fun W4 u4 k4=>?_
 have a6:=u4.below (hB.trans (b4.mono hBm)) hBl
 have hO:=(((show Zg [41,136] w _ from(Zg.of_below n1.below)).trans (Zg.of_below n2.below)).trans (Zg.of_grown a5 a0 (by decide))).trans (Zg.of_upd u4 a2 (by decide))
 have a9:=u4.own2 o3 a2 (by decide)
 have a8:=(((hZ.below n1.below).below n2.below).grown a5 a0).upd u4 (by simp)
 exact xe 1 (.tuple #[]) ⟨_,_,_,rfl,a6,hO,k4,a9,a8.fr⟩
def LayPostM(B ba b g nn cc:Nat)(pa:O0)(ca f N k0:Nat)(bs:Bl)(bl:Nat)(L:List (List Int))(w:World)(e:Ending)(w':World):Prop :=
 ∃ p c,e=.returned .nilIface∧Below B w w'∧Zg [125,5,41,136] w w'∧Fr [ba,g,bl] w w'∧Al B ba b g nn cc pa ca f N (k0+L.length) (Hz L (f+k0) bs L.length) w'∧Blk w' bl [.slice p L.length c] 41∧w'.ownsRow w.heap.size 136 3 (.slice p L.length c) L.length (rsL L (f+k0) L.length)
theorem Zdf(B ba b g nn cc:Nat)(pa:O0)(ca f N k0:Nat)(bs:Bl)(bl B2:Nat)(pl:O0)(cl:Nat)(gs:List (Nat×Nat))(L:List (List Int))(w:World)(hC:AlC B ba nn cc ca f N)(hA:Al B ba b g nn cc pa ca f N k0 bs w)(hL:Lists w B2 (.slice pl L.length cl) gs L)(hS:∀ i,i<L.length→Kg (L.getD i [])∧(L.getD i []).length≤960)(hf1:1≤f)(hk:k0+L.length≤N)(kl:Blk w bl [S0] 41)(hBl:B≤bl)(hBw:B≤w.heap.size) :
 C0 55 #[P0 ba,.slice pl L.length cl,.func (.func 61) #[] #[P0 bl]] w (LayPostM B ba b g nn cc pa ca f N k0 bs bl L w):=by
 have d3:=hC.hf
 have d4:=hC.hn
 refine zin 51 Tryz.func55 ?_
 have hB:=Below.refl B w
 refine zl 14 51 (fun zm c8 V=>∃ (i:Nat) (p:O0) (c:Nat),c8=[(0,P0 ba),(2,.func (.func 61) #[] #[P0 bl]),(15,.slice pl L.length cl),(16,V0 (L.length:Int)),(17,V0 (i:Int))]∧zm=L.length-((i:Int)).toNat∧Below B w V∧Fr [ba,g,bl] w V∧Zg [125,5,41,136] w V∧Blk V bl ([.slice p i c]) 41∧Al B ba b g nn cc pa ca f N (k0+i) (Hz L (f+k0) bs i) V∧Lists V B2 (.slice pl L.length cl) gs L∧V.ownsRow w.heap.size 136 3 (.slice p i c) i (rsL L (f+k0) i)∧i≤L.length) ⟨0,none,0,rfl,rfl,hB,(Fr.refl _ _),(Zg.refl _ _),kl,hA,hL,World.ownsRow_nil _ _ _ _,Nat.zero_le _⟩ ?_
 rintro _ _ W1 ⟨i,p,c,rfl,rfl,a2,a8,b0,a1,hA,hL,b2,hi⟩ J1 c2 r1
 refine xid 6 ((i:Int)<(L.length:Int)) (fun c3=>?_) (fun c3=>?_)
 ·refine xx 6 _ L.length i 1 (Lists.elem hL rfl (k:=i) (by omega)).1 ?_
  refine xl 0 ((Lists.elem hL rfl (k:=i) (by omega)).2) ?_
  refine xc 6 (args:=#[.slice (some ⟨(gs.getD i (0,0)).1,0,none⟩) ((L.getD i []).length) ((gs.getD i (0,0)).2)]) (Aj _ _ (L.getD i []) _ (hS i (by omega)).1 (hS i (by omega)).2 (Ze (hL.each i (by omega)))) ?_
  rintro _ W3 ⟨_,rfl,a5,g6,rfl,h6⟩
  have c0:=hA.below a5
  have a4:=b0.trans (Zg.of_below a5)
  have b9:=Zd h6 a2.size
  have a7:=blB a2 hBw a5
  refine xc 21 (args:=#[P0 ba,V0 3,.slice (S1 g6) 244 244]) (Hx B ba b g nn cc pa ca f N (k0+i) (Hz L (f+k0) bs i) 3 (S1 g6) 244 (Uz (L.getD i [])) (f+k0+i) 244 _ (Nat.add_assoc _ _ _).symm (Qv _ _) hC c0 (by omega) (by decide) (by decide) (fun W _ a4=>Yl (Ze (Zo b9 a4 (by decide))) (Qv _ _)) (by decide) (Nat.le_trans hBw a7.size)) ?_
  rintro _ W4 ⟨rfl,c7,b3,c6,hA⟩
  have b1:=(hL.below a5).only b3 (by decide)
  refine xr 20 (args:=#[.slice (some ⟨(gs.getD i (0,0)).1,0,none⟩) ((L.getD i []).length) ((gs.getD i (0,0)).2)]) (Ft _ _ (L.getD i []) _ (hS i (by omega)).2 (Ze (b1.each i (by omega)))) fun W5 a3=>?_
  have d2:Xp (L.getD i [])≤960:=Nat.le_trans (Wc _ _) (hS i (by omega)).2
  have d1:Zy (L.getD i [])≤960:=Nat.le_trans (Uy _) (hS i (by omega)).2
  have a6:=blB (a7.trans c7) hBw a3
  have a0:=((a1.below a5).only b3 (by decide)).below a3
  have a9:=Zb (Zo (Zb b2 a5) b3 (by decide)) a3
  refine xc 13 (args:=#[.agg #[V0 (↑(f+k0+i):Int),V0 (↑(Xp (L.getD i [])):Int),V0 (↑(Zy (L.getD i [])):Int)],P0 bl]) (Oo B w.heap.size bl p c L (f+k0) i _ hBw a6.size (Nat.le_trans hBw a6.size) hBl a0 a9 (by omega)) ?_
  rintro _ W6 ⟨_,p9,c9,rfl,d0,b4,c4,b2,c5⟩
  refine xwm 4 ((i:Int)+1) (↑(i+1):Int) ?_
  have b8:=(hA.below a3).only b4 (by decide)
  have c1:=(b1.below a3).only b4 (by decide)
  have b6:=a6.trans d0
  have b5:=(Fr.trans_B (((a8.trans (Fr.of_below a5)).trans (c6.mono (by simp))).trans (Fr.of_below a3)) c5 (by simp))
  have b7:=((a4.trans (b3.wide)).trans (Zg.of_below a3)).trans (b4.wide)
  exact ze 2 (c2 _ _ _ ⟨i+1,_,_,rfl,rfl,b6,b5,b7,c4,b8,c1,b2,by omega⟩ (by omega))
 refine xe 11 .nilIface ?_
 obtain rfl:i=L.length:=by omega
 exact⟨_,_,rfl,a2,b0,a8,hA,a1,b2⟩
def rsC (x:Nat×Nat×Nat):List Value:=[V0 (x.1:Int),V0 (x.2.1:Int),V0 (x.2.2:Int)]
theorem Zfu(x:Nat×Nat×Nat):(rsC x).length=3:=rfl
def rsD:Nat×Nat×Nat:=(0,0,0)
def Rs (L:List (List Int))(q n:Nat):List (Nat×Nat×Nat):=(List.range n).map fun i=>(q+i,Xp (L.getD i []),Zy (L.getD i []))
theorem Cf(L:List (List Int))(q n:Nat):(Rs L q n).length=n:=by simp[Rs]
theorem Rs_get{L:List (List Int)}{q n i:Nat}(h:i<n):(Rs L q n).getD i rsD=(q+i,Xp (L.getD i []),Zy (L.getD i [])):=by simp[Rs,List.getD,List.getElem?_range h]
theorem rsL_Rs(L:List (List Int))(q n:Nat):rsL L q n=(Rs L q n).flatMap rsC:=by simp[rsL,Rs,List.flatMap_map];rfl
theorem Rs_sts{L:List (List Int)}{q n c:Nat}{p:O0}{w:World}(h:Sl w (.slice p n c) n (rsL L q n)):Sts rsC w (.slice p (Rs L q n).length c) (Rs L q n):=by unfold Sts;rw[Cf,←rsL_Rs];exact h
def slB (x:Nat×Nat×Nat):Bl:=leB (x.1:Int) 8++leB (x.2.1:Int) 4++leB (x.2.2:Int) 4
theorem So(x:Nat×Nat×Nat):(slB x).length=16:=by simp[slB,Zf]
def Zbz(S:List (Nat×Nat×Nat))(i:Nat):Bl:=leB (S.length:Int) 4++(List.range i).flatMap fun j=>slB (S.getD j rsD)
theorem Wf(S:List (Nat×Nat×Nat))(i:Nat):Zbz S (i+1)=Zbz S i++slB (S.getD i rsD):=by simp[Zbz,List.range_succ]
theorem Nl(S:List (Nat×Nat×Nat)):∀ i,(Zbz S i).length=4+i*16
 | 0=>by simp[Zbz,Zf]
 | i+1=>by rw[Wf,List.length_append,Nl S i,So];omega
def Lx(S:List (Nat×Nat×Nat)):Bl:=Zbz S S.length++List.replicate (244-(4+S.length*16)) 0
theorem Nk{S:List (Nat×Nat×Nat)}(h:S.length≤15):(Lx S).length=244:=by unfold Lx;rw[List.length_append,Nl,List.length_replicate];omega
def Mc(S:List (Nat×Nat×Nat)):Prop:=S.length≤14∧∀ i,i<S.length→1≤(S.getD i rsD).1∧(S.getD i rsD).1≤14399∧(S.getD i rsD).2.1≤960∧(S.getD i rsD).2.2≤960
theorem slB_ne(x:Nat×Nat×Nat):((⟨(leB (x.1:Int) 8++leB (x.2.1:Int) 4++leB (x.2.2:Int) 4).toArray⟩:ByteArray).toList==(⟨#[]⟩:ByteArray).toList)=false:=by
 rw[show(⟨#[]⟩:ByteArray)=⟨([]:Bl).toArray⟩ from rfl,Zdy]
 apply beq_false_of_ne
 intro q
 have h1:=congrArg List.length q
 simp[Zf] at h1
theorem Zdw(a:O0)(c:Nat)(S:List (Nat×Nat×Nat))(w:World)(hS:Mc S)(h:Sts rsC w (.slice a S.length c) S) :
 C0 62 #[.slice a S.length c] w (Qi (fun w' r=>∃ p c,r=.tuple #[.slice p 244 c,V0 0]∧w'.ownsRow w.heap.size 5 1 (.slice p 244 c) 244 ((Lx S).map bv)) w):=by
 have c6:=hS.1
 refine zin 39 Tryz.func62 ?_
 refine xk 14 (show(decide ((S.length:Int)>(15:Int)):Bool)=false from decide_eq_false (by omega)) ?_
 refine xbs 7 1 [V0 4,V0 (S.length:Int)] 229 fun b1 W1 n1=>?_
 refine xc 0 (args:=#[.slice (S1 b1) 1 1]) (Px b1 (S.length:Int) (by omega) (by omega) _ n1.blk) ?_
 rintro _ W2 ⟨_,rfl,b0,p2,c2,rfl,h2⟩
 have a6:=Zd h2 n1.below.size
 have hB:=bln n1.below b0
 have a5:=n1.blk.below b0
 refine zl 16 39 (fun zm b8 V=>∃ (i:Nat) (p4:O0) (c4:Nat),b8=[(4,.slice p4 (4+i*16) c4),(20,.slice a S.length c),(21,V0 (S.length:Int)),(22,V0 (i:Int))]∧zm=S.length-((i:Int)).toNat∧B3 w V∧Blk V b1 ([V0 4,V0 (S.length:Int)]) 229∧V.ownsRow w.heap.size 5 1 (.slice p4 (4+i*16) c4) (4+i*16) ((Zbz S i).map bv)∧i≤S.length) ⟨0,p2,c2,rfl,rfl,hB,a5,(by simpa [Zbz] using a6),Nat.zero_le _⟩ ?_
 rintro _ _ W3 ⟨i,p4,c4,rfl,rfl,a0,a3,ho,hi⟩ J3 b7 r3
 refine xid 6 ((i:Int)<(S.length:Int)) (fun b6=>?_) (fun b6=>?_)
 ·refine xx 6 _ S.length i 3 (Sts.cell h Zfu rsD (k:=i) (i:=0) (by omega) rfl).1 ?_
  refine xlv 0 (Sts.rp (k:=i) (h.below a0) Zfu rsD (by omega) (by decide)) ?_
  refine xa 0 [V0 0,V0 0,V0 0] 136 fun b5 W5 n5=>?_
  have g5:=n5.ge a0
  refine xsv 0 n5.blk [V0 (↑(S.getD i rsD).1:Int),V0 (↑(S.getD i rsD).2.1:Int),V0 (↑(S.getD i rsD).2.2:Int)] fun W6 u6 k6=>?_
  refine xlv 4 k6.rp ?_
  refine xr 0 (args:=#[.agg #[V0 (↑(S.getD i rsD).1:Int),V0 (↑(S.getD i rsD).2.1:Int),V0 (↑(S.getD i rsD).2.2:Int)]]) (Vp (↑(S.getD i rsD).1:Int) (↑(S.getD i rsD).2.1:Int) (↑(S.getD i rsD).2.2:Int) (by have:=hS.2 i (by omega);omega) (by have:=hS.2 i (by omega);omega) (by omega) (by have:=hS.2 i (by omega);omega) (by omega) (by have:=hS.2 i (by omega);omega) _) fun W7 a7=>?_
  refine xk 10 (show(((⟨(leB (↑(S.getD i rsD).1:Int) 8++leB (↑(S.getD i rsD).2.1:Int) 4++leB (↑(S.getD i rsD).2.2:Int) 4).toArray⟩:ByteArray).toList==(⟨#[]⟩:ByteArray).toList):Bool)=false from slB_ne _) ?_
  have a4:=Zb (u6.own2 (Zb ho n5.below) n5.blk (by decide)) a7
  have a2:=bln (u6.below (bln a0 n5.below) g5) a7
  refine xbi 5 (t2:=9) fun _ _ _ _ zJ zQ zo zx zy zK=>op_appS (leB (↑(S.getD i rsD).1:Int) 8++leB (↑(S.getD i rsD).2.1:Int) 4++leB (↑(S.getD i rsD).2.2:Int) 4) ((4+(i+1)*16)) ((Zbz S (i+1)).map bv) zo Tryz.underlying22 Tryz.underlying9 (by kernel_rfl) zx a4 zy (by simp[Zf];omega) a2.size (by simp[Zf];omega) (by simp[Wf,slB]) fun c1 c3 W8 o8 b4 b2=>?_
  refine zK _ _ ?_
  refine xwm 5 ((i:Int)+1) (↑(i+1):Int) ?_
  have a9:=a2.trans b2
  have a1:=((u6.blkT (a3.below n5.below) n5.blk (by decide)).below a7).grown b4 a4 (by decide)
  exact ze 2 (b7 _ _ _ ⟨i+1,_,_,rfl,rfl,a9,a1,o8,by omega⟩ (by omega))
 refine xwm 10 (244-(↑(4+i*16):Int)) (↑(244-(4+i*16)):Int) ?_
 refine xbi 0 (t2:=3) fun _ _ _ _ zJ zQ zo zx zy zK=>op_appZo (kq:=.i64) (244-(4+i*16)) (244) ((Lx S).map bv) zo Tryz.underlying22 Tryz.underlying3 (by kernel_rfl) zx ho zy (by omega) (by omega) a0.size (by omega) (by rw[show i=S.length by omega];unfold Lx;rw[List.map_append,List.map_replicate];rfl) fun b9 b3 W9 o9 c5 c0=>?_
 refine zK _ _ ?_
 have a8:=a0.trans c0
 exact xe 5 (.tuple #[.slice b9 244 b3,V0 0]) ⟨_,rfl,a8,_,_,rfl,o9⟩
def Yr(l:List Int)(f n:Nat):List Int:=(List.range l.length).map fun i=>l.getD i 0+(if f≤i∧i<f+n then 1 else 0)
theorem Ql(l:List Int)(f n:Nat):(Yr l f n).length=l.length:=by simp[Yr]
theorem Es{l:List Int}{f n i:Nat}(h:i<l.length):(Yr l f n).getD i 0=l.getD i 0+(if f≤i∧i<f+n then 1 else 0):=by simp[Yr,List.getD,List.getElem?_range h]
theorem Zaq(l:List Int)(f:Nat):Yr l f 0=l:=by
 apply List.ext_getElem (by simp[Yr])
 intro i h1 h2
 simp[Yr,List.getD,h2]
 omega
theorem Zct{l:List Int}{f j:Nat}(h:f+j<l.length):((Yr l f j).map V0).set (f+j) (V0 (l.getD (f+j) 0+1))=(Yr l f (j+1)).map V0:=by
 apply List.ext_getElem?
 intro i
 by_cases hi:i<l.length
 ·by_cases e:f+j=i
  ·subst e
   rw[List.getElem?_set_self (by simp[Ql];exact h)]
   simp[Yr,List.getElem?_range h]
  ·rw[List.getElem?_set_ne e]
   have hc:(f≤i∧i<f+j)↔(f≤i∧i<f+(j+1)):=by omega
   simp only[Yr,List.getElem?_map,List.getElem?_range hi,Option.map_some]
   by_cases q:f≤i∧i<f+j
   ·rw[if_pos q,if_pos (hc.1 q)]
   ·rw[if_neg q,if_neg (fun z=>q (hc.2 z))]
 ·rw[List.getElem?_eq_none (by simp[Ql];omega),List.getElem?_eq_none (by simp[Ql];omega)]
def Zcm(l:List Int)(f:Int):Prop:=∀ i,i<l.length→(f≤(i:Int)→l.getD i 0=0)∧l.getD i 0≤1073741824
theorem Dk{l:List Int}{f n:Nat}(h:Zcm l (f:Int))(hc:∀ k,k<l.length→Ua (l.getD k 0)):∀ k,k<(Yr l f n).length→Ua ((Yr l f n).getD k 0):=by
 intro k hk
 rw[Ql] at hk
 rw[Es hk]
 have h1:=(h k hk).2
 have h2:=hc k hk
 unfold Ua at h2 ⊢
 split<;>omega
def Ym(l:List Int):Nat:=Yi 5 (Zn l l.length).length+bmN l.length+1
theorem Bt{w:World}{b:O0}{n c f N k i:Nat}(h:Sl w (.slice b n c) n ((((Bf f N).drop k).take n).map V0))(hn:k+n≤N)(hi:i<n):b.isSome=true∧w.cell? (Zv b (i*1))=some (V0 ((f+k+i:Nat):Int)):=by
 have a0:(((Bf f N).drop k).take n).length=n:=by simp[Bf];omega
 have h1:=IntsN.elem h a0 hi
 have e:(((Bf f N).drop k).take n).getD i 0=((f+k+i:Nat):Int):=by
  have h2:=On (f:=f) (N:=N) (k:=k+i) (by omega)
  rw[←Nat.add_assoc] at h2
  rw[←h2]
  simp only[List.getD,List.getElem?_take,List.getElem?_drop,if_pos hi]
 rwa [e] at h1
def En(l:List Int)(f k0:Nat)(bs:Bl):Int×Int×Bl:=(((f+k0+(Yi 5 (Zn l l.length).length)+(bmN (Yr l (f+k0) (Ym l)).length)):Nat),(Kh 5 (Zn l l.length) (f+k0) bs).1,Qs (Hz (Xh (Zj (Yr l (f+k0) (Ym l))) (bmN (Yr l (f+k0) (Ym l)).length)) (f+k0+(Yi 5 (Zn l l.length).length)) (Kh 5 (Zn l l.length) (f+k0) bs).2 (bmN (Yr l (f+k0) (Ym l)).length)) ((f+k0+(Yi 5 (Zn l l.length).length)+(bmN (Yr l (f+k0) (Ym l)).length))*256) (Yg 4 (((f+k0+(Yi 5 (Zn l l.length).length)+(bmN (Yr l (f+k0) (Ym l)).length)):Nat):Int) (Lx (Rs (Xh (Zj (Yr l (f+k0) (Ym l))) (bmN (Yr l (f+k0) (Ym l)).length)) (f+k0+(Yi 5 (Zn l l.length).length)) (bmN (Yr l (f+k0) (Ym l)).length)))))
theorem As(l:List Int)(q n:Nat):bmN (Yr l q n).length=bmN l.length:=by rw[Ql]
theorem Mq{w:World}{b:O0}{n c q i:Nat}{l:List Int}(h:Sl w (.slice b n c) n ((Yr l q i).map V0))(hn:l.length=n)(hi:q+i<n):b.isSome=true∧w.cell? (Zv b ((q+i)*1))=some (V0 (l.getD (q+i) 0)):=by
 have h1:=IntsN.elem h (by rw[Ql];exact hn) hi
 rw[Es (by omega),if_neg (by omega),Int.add_zero] at h1
 exact h1
def LayPost(B ba b g nn cc:Nat)(pa:O0)(ca f N k0:Nat)(bs:Bl)(bl:Nat)(L:List (List Int))(w:World)(e:Ending)(w':World):Prop :=
 ∃ p c,e=.returned .nilIface∧Below B w w'∧Zg [125,5,101,100] w w'∧Fr [ba,g,bl] w w'∧Al B ba b g nn cc pa ca f N (k0+L.length) (Hz L (f+k0) bs L.length) w'∧Blk w' bl [.slice p L.length c] 101∧w'.ownsRow w.heap.size 100 3 (.slice p L.length c) L.length ((Xu L (f+k0) L.length).flatMap Je)
theorem Zd0(B ba b g nn cc:Nat)(pa:O0)(ca f N k0:Nat)(bs:Bl)(bl B2:Nat)(pl:O0)(cl:Nat)(gs:List (Nat×Nat))(L:List (List Int))(w:World)(hC:AlC B ba nn cc ca f N)(hA:Al B ba b g nn cc pa ca f N k0 bs w)(hL:Lists w B2 (.slice pl L.length cl) gs L)(hS:∀ i,i<L.length→Kg (L.getD i [])∧(L.getD i []).length≤960)(hf1:1≤f)(hk:k0+L.length≤N)(kl:Blk w bl [S0] 101)(hBl:B≤bl)(hBw:B≤w.heap.size) :
 C0 55 #[P0 ba,.slice pl L.length cl,.func (.func 56) #[] #[P0 bl]] w (LayPost B ba b g nn cc pa ca f N k0 bs bl L w):=by
 have d3:=hC.hf
 have d4:=hC.hn
 refine zin 51 Tryz.func55 ?_
 have hB:=Below.refl B w
 refine zl 14 51 (fun zm d1 V=>∃ (i:Nat) (p:O0) (c:Nat),d1=[(0,P0 ba),(2,.func (.func 56) #[] #[P0 bl]),(15,.slice pl L.length cl),(16,V0 (L.length:Int)),(17,V0 (i:Int))]∧zm=L.length-((i:Int)).toNat∧Below B w V∧Fr [ba,g,bl] w V∧Zg [125,5,101,100] w V∧Blk V bl ([.slice p i c]) 101∧Al B ba b g nn cc pa ca f N (k0+i) (Hz L (f+k0) bs i) V∧Lists V B2 (.slice pl L.length cl) gs L∧V.ownsRow w.heap.size 100 3 (.slice p i c) i ((Xu L (f+k0) i).flatMap Je)∧i≤L.length) ⟨0,none,0,rfl,rfl,hB,(Fr.refl _ _),(Zg.refl _ _),kl,hA,hL,World.ownsRow_nil _ _ _ _,Nat.zero_le _⟩ ?_
 rintro _ _ W1 ⟨i,p,c,rfl,rfl,a2,a8,b0,a1,hA,hL,b2,hi⟩ J1 c2 r1
 refine xid 6 ((i:Int)<(L.length:Int)) (fun c3=>?_) (fun c3=>?_)
 ·refine xx 6 _ L.length i 1 (Lists.elem hL rfl (k:=i) (by omega)).1 ?_
  refine xl 0 ((Lists.elem hL rfl (k:=i) (by omega)).2) ?_
  refine xc 6 (args:=#[.slice (some ⟨(gs.getD i (0,0)).1,0,none⟩) ((L.getD i []).length) ((gs.getD i (0,0)).2)]) (Aj _ _ (L.getD i []) _ (hS i (by omega)).1 (hS i (by omega)).2 (Ze (hL.each i (by omega)))) ?_
  rintro _ W3 ⟨_,rfl,a5,g6,rfl,h6⟩
  have c0:=hA.below a5
  have a4:=b0.trans (Zg.of_below a5)
  have b9:=Zd h6 a2.size
  have a7:=blB a2 hBw a5
  refine xc 21 (args:=#[P0 ba,V0 3,.slice (S1 g6) 244 244]) (Hx B ba b g nn cc pa ca f N (k0+i) (Hz L (f+k0) bs i) 3 (S1 g6) 244 (Uz (L.getD i [])) (f+k0+i) 244 _ (Nat.add_assoc _ _ _).symm (Qv _ _) hC c0 (by omega) (by decide) (by decide) (fun W _ a4=>Yl (Ze (Zo b9 a4 (by decide))) (Qv _ _)) (by decide) (Nat.le_trans hBw a7.size)) ?_
  rintro _ W4 ⟨rfl,d0,b3,c7,hA⟩
  have b1:=(hL.below a5).only b3 (by decide)
  refine xr 20 (args:=#[.slice (some ⟨(gs.getD i (0,0)).1,0,none⟩) ((L.getD i []).length) ((gs.getD i (0,0)).2)]) (Ft _ _ (L.getD i []) _ (hS i (by omega)).2 (Ze (b1.each i (by omega)))) fun W5 a3=>?_
  have c8:Xp (L.getD i [])≤960:=Nat.le_trans (Wc _ _) (hS i (by omega)).2
  have c5:Zy (L.getD i [])≤960:=Nat.le_trans (Uy _) (hS i (by omega)).2
  have a6:=blB (a7.trans d0) hBw a3
  have a0:=((a1.below a5).only b3 (by decide)).below a3
  have a9:=Zb (Zo (Zb b2 a5) b3 (by decide)) a3
  refine xc 13 (args:=#[.agg #[V0 (↑(f+k0+i):Int),V0 (↑(Xp (L.getD i [])):Int),V0 (↑(Zy (L.getD i [])):Int)],P0 bl]) (Za9 B w.heap.size bl p c L (f+k0) i _ hBw a6.size (Nat.le_trans hBw a6.size) hBl a0 a9 (by omega) (by omega) (by omega) c8 c5) ?_
  rintro _ W6 ⟨_,p9,c9,rfl,d2,b4,c4,b2,c6⟩
  refine xwm 4 ((i:Int)+1) (↑(i+1):Int) ?_
  have b8:=(hA.below a3).only b4 (by decide)
  have c1:=(b1.below a3).only b4 (by decide)
  have b6:=a6.trans d2
  have b5:=(Fr.trans_B (((a8.trans (Fr.of_below a5)).trans (c7.mono (by simp))).trans (Fr.of_below a3)) c6 (by simp))
  have b7:=((a4.trans (b3.wide)).trans (Zg.of_below a3)).trans (b4.wide)
  exact ze 2 (c2 _ _ _ ⟨i+1,_,_,rfl,rfl,b6,b5,b7,c4,b8,c1,b2,by omega⟩ (by omega))
 refine xe 11 .nilIface ?_
 obtain rfl:i=L.length:=by omega
 exact⟨_,_,rfl,a2,b0,a8,hA,a1,b2⟩
theorem Al.mono{B B' ba b g n c:Nat}{pa:O0}{ca f N k:Nat}{l:Bl}{w:World}(h:Al B' ba b g n c pa ca f N k l w)(hB:B≤B'):Al B ba b g n c pa ca f N k l w:=⟨h.blkA,h.blkI,Zd h.data hB,Zd h.nums hB⟩
theorem AlC.mono{B B' ba n c ca f N:Nat}(h:AlC B' ba n c ca f N)(hB:B≤B'):AlC B ba n c ca f N:=⟨h.hn,h.hc,h.hca,h.hf,Nat.le_trans hB h.hB⟩
theorem row_at{w:World}{base g n c size:Nat}{e:TypeId}{xs:List Value}(h:w.ownsRow base e size (.slice (S1 g) n c) n xs):∃ cur,w.heap[g]? = some (.cells cur e (0,0)):=by
 rcases h.2 with ⟨hv,_⟩|⟨g2,a0,cur,hv,_,hh,_⟩
 ·cases hv
 ·simp only[Value.slice.injEq,Option.some.injEq,Addr.mk.injEq] at hv
  obtain⟨⟨rfl,_,_⟩,_⟩:=hv
  exact⟨cur,hh⟩
theorem Al.ne{B ba b g n c:Nat}{pa:O0}{ca f N k:Nat}{l:Bl}{B2 ba2 b2 g2 n2 c2:Nat}{pa2:O0}{ca2 f2 N2 k2:Nat}{l2:Bl}{w:World}(h:Al B ba b g n c pa ca f N k l w)(h2:Al B2 ba2 b2 g2 n2 c2 pa2 ca2 f2 N2 k2 l2 w):b2≠ba∧b2≠g:=by
 constructor
 ·rintro rfl
  exact absurd (h.blkA.ty h2.blkI) (by decide)
 ·rintro rfl
  obtain⟨a0,hh⟩:=row_at h.data
  have h3:w.heap[b2]? = some (.cells [.slice (S1 g2) n2 c2].toArray 72 (0,0)):=h2.blkI
  rw[hh] at h3
  simp only[Option.some.injEq,Obj.cells.injEq] at h3
  exact absurd h3.2.1 (by decide)
theorem Al.apart{B2 ba2 b2 g2 n2 c2:Nat}{pa2:O0}{ca2 f2 N2 k2:Nat}{l2:Bl}{w W:World}{ba g:Nat}(h:Al B2 ba2 b2 g2 n2 c2 pa2 ca2 f2 N2 k2 l2 w)(hC:AlC B2 ba2 n2 c2 ca2 f2 N2)(h1:ba<B2)(h2:g<B2)(hne:b2≠ba∧b2≠g)(hX:Fr [ba,g] w W):Al B2 ba2 b2 g2 n2 c2 pa2 ca2 f2 N2 k2 l2 W:=by
 have hB:=hC.hB
 refine⟨h.blkA.fr hX (by simp;omega),h.blkI.fr hX (by simp;exact hne),Zed h.data hX fun k hk=>?_,Zed h.nums hX fun k hk=>?_⟩
 ·have:=(h.data.lt k hk).1;simp;omega
 ·have:=(h.nums.lt k hk).1;simp;omega
theorem Jj(B ba b g nn cc:Nat)(pa:O0)(ca f N k0:Nat)(bs:Bl)(t:Int)(a:O0)(c:Nat)(l:List Ent)(n:Nat)(w:World)(hl:l.length=n)(hC:AlC B ba nn cc ca f N)(hA:Al B ba b g nn cc pa ca f N k0 bs w)(ht1:1≤t)(ht2:t≤5)(E:EntsOk (Lp t true) l)(hn:n≤32768)(hf1:1≤f)(hkN:k0≤N)(hk:k0+Yi t n≤N)(hin:∀ W,Below B w W→Zg [125,5,30] w W→Sts Je W (.slice a l.length c) l)(hBw:B≤w.heap.size) :
 C0 21 #[P0 ba,V0 t,.slice a n c] w (Oc B ba b g nn cc pa ca f N k0 bs t l w):=by
 subst hl;exact Zcd B ba b g nn cc pa ca f N k0 bs t a c l w hC hA ht1 ht2 E hn hf1 hkN hk hin hBw
theorem Gg(a:O0)(c:Nat)(l:List Int)(w:World)(h:Sl w (.slice a l.length c) l.length (l.map V0))(hl:l.length≤65536)(hs:Kl l=0):C0 54 #[.slice a l.length c] w (fun e w'=>∃ pb cb gs po co,e=.returned (.tuple #[.slice pb (bmN l.length) cb,.slice po (Zn l l.length).length co,V0 0])∧B3 w w'∧Lists w' w.heap.size (.slice pb (bmN l.length) cb) gs (Xh (Zj l) (bmN l.length))∧w'.ownsRow w.heap.size 100 3 (.slice po (Zn l l.length).length co) (Zn l l.length).length ((Zn l l.length).flatMap Je)) :=
 (Tl a c l w h hl).mono fun e w' q=>(q.resolve_left fun z=>z.1 hs).2
theorem Zaa(B ba b g nn cc:Nat)(pa:O0)(ca f N k0:Nat)(bs:Bl)(bl B2:Nat)(pl:O0)(cl:Nat)(gs:List (Nat×Nat))(L:List (List Int))(n:Nat)(hn:L.length=n)(w:World)(hC:AlC B ba nn cc ca f N)(hA:Al B ba b g nn cc pa ca f N k0 bs w)(hL:Lists w B2 (.slice pl n cl) gs L)(hS:∀ i,i<L.length→Kg (L.getD i [])∧(L.getD i []).length≤960)(hf1:1≤f)(hk:k0+n≤N)(kl:Blk w bl [S0] 101)(hBl:B≤bl)(hBw:B≤w.heap.size) :
 C0 55 #[P0 ba,.slice pl n cl,.func (.func 56) #[] #[P0 bl]] w (fun e w'=>∃ p c,e=.returned .nilIface∧Below B w w'∧Zg [125,5,101,100] w w'∧Fr ([ba,g]++[bl]) w w'∧Al B ba b g nn cc pa ca f N (k0+n) (Hz L (f+k0) bs n) w'∧Blk w' bl [.slice p n c] 101∧w'.ownsRow w.heap.size 100 3 (.slice p n c) n ((Xu L (f+k0) n).flatMap Je)):=by
 subst hn;exact Zd0 B ba b g nn cc pa ca f N k0 bs bl B2 pl cl gs L w hC hA hL hS hf1 hk kl hBl hBw
theorem Nb{l:List Int}(h:∀ k,k<l.length→Ua (l.getD k 0))(n:Nat):∀ i,i<(Xh (Zj l) n).length→Kg ((Xh (Zj l) n).getD i [])∧((Xh (Zj l) n).getD i []).length≤960:=fun i hi=>by
 rw[Kc] at hi
 rw[Sm hi]
 exact⟨Lm (Az h) i,by rw[Pg];omega⟩
theorem own_keep{w W:World}{B ba b g nn cc:Nat}{pa:O0}{ca f N k0 bl:Nat}{bs:Bl}{cs:List Value}{base n:Nat}{v:Value}{xs:List Value}(k:w.ownsRow base 100 3 v n xs)(hA:Al B ba b g nn cc pa ca f N k0 bs w)(kl:Blk w bl cs 101)(hX:Fr ([ba,g]++[bl]) w W):W.ownsRow base 100 3 v n xs:=Zed k hX fun j hj hm=>by
 obtain⟨a0,kb⟩:=Cz hA.data
 simp only[List.cons_append,List.nil_append,List.mem_cons,List.not_mem_nil,or_false] at hm
 rcases hm with h|h|h
 ·exact Lb k hA.blkA (by decide) _ hj h
 ·exact Lb k kb (by decide) _ hj h
 ·exact Lb k kl (by decide) _ hj h
def DataP(B ba b g nn cc:Nat)(pa:O0)(ca f N k0:Nat)(bs:Bl)(l:List Int)(w:World)(e:Ending)(w':World):Prop :=
 e=.returned (.tuple #[V0 (Zdi l (f+k0) bs).1,V0 (Zdi l (f+k0) bs).2.1,.nilIface])∧Below B w w'∧Zg [125,5,101,100,30] w w'∧Fr [ba,g] w w'∧Al B ba b g nn cc pa ca f N (k0+Fa l) (Zdi l (f+k0) bs).2.2 w'
theorem Rk(n:Nat)(w:World)(hn:n≤65536) :
 C0 58 #[V0 (n:Int)] w (Ret (V0 (↑(bmN n):Int)) w):=by
 refine zin 9 Tryz.func58 ?_
 refine xid 12 ((n:Int)<(1:Int)) (fun a0=>?_) (fun a0=>?_)
 ·exact xe 7 (V0 0) ⟨by rw[show bmN n=0 from by unfold bmN;omega];rfl,(B4 w)⟩
 refine xwm 5 ((n:Int)-1) (↑(n-1):Int) ?_
 refine xq 0 (congrArg V0 (show(IntKind.i64.wrap (Int.tdiv (↑(n-1):Int) 960):Int)=(↑((n-1)/960):Int) from Dz (n-1) 960 (by omega) (by decide))) ?_
 refine xw 0 ((↑((n-1)/960):Int)+1) ?_
 exact xe 4 (V0 ((↑((n-1)/960):Int)+1)) ⟨by rw[show bmN n=(n-1)/960+1 from by unfold bmN;omega,Int.natCast_add];rfl,(B4 w)⟩
theorem Zfj(B ba b g nn cc:Nat)(pa:O0)(ca f N k0:Nat)(bs:Bl)(a:O0)(c:Nat)(l:List Int)(w:World)(hC:AlC B ba nn cc ca f N)(hA:Al B ba b g nn cc pa ca f N k0 bs w)(h:Sl w (.slice a l.length c) l.length (l.map V0))(hl:l.length≤3000)(hs:Kl l=0)(hf1:1≤f)(hkN:k0≤N)(hk:k0+Fa l≤N)(hBw:B≤w.heap.size) :
 C0 22 #[P0 ba,.slice a l.length c] w (DataP B ba b g nn cc pa ca f N k0 bs l w):=by
 have d7:=hC.hf
 have d8:=hC.hn
 have d6:=plotN_bd hl
 have c9:=Ux hs
 have d9:=Hm l l.length
 have d3:Fa l=(bmN l.length)+Yi 4 (bmN l.length)+Yi 5 (Zn l l.length).length:=rfl
 have d5:=Nm 4 (bmN l.length)
 have d4:=Nm 5 (Zn l l.length).length
 refine zin 70 Tryz.func22 ?_
 refine xr 11 (args:=#[P0 ba]) (Jn ba b _ _ _ hA.blkA) fun W1 a0=>?_
 refine xc 9 (args:=#[.slice a l.length c]) (Gg a c l _ (h.below a0) (by omega) hs) ?_
 rintro _ W2 ⟨pb,cb,gs,po,co,rfl,a4,hL,b3⟩
 have c4:=(blB (Below.refl B w) hBw a0).size
 have b0:=(hA.below a0).below a4
 refine xr 23 (args:=#[P0 ba]) (Wr ba b pa N ca k0 _ b0.blkA hkN) fun W3 a3=>?_
 refine xr 4 (args:=#[V0 4,V0 (↑(bmN l.length):Int)]) (Jb 4 (bmN l.length) _ (by decide) (by decide) (by omega)) fun W4 a2=>?_
 refine xwm 0 ((↑(bmN l.length):Int)+(↑(Yi 4 (bmN l.length)):Int)) (↑((bmN l.length)+(Yi 4 (bmN l.length))):Int) ?_
 refine xr 2 (args:=#[V0 5,V0 (↑((Zn l l.length).length):Int)]) (Jb 5 (Zn l l.length).length _ (by decide) (by decide) (by omega)) fun W5 a1=>?_
 refine xwm 0 ((↑((bmN l.length)+(Yi 4 (bmN l.length))):Int)+(↑(Yi 5 (Zn l l.length).length):Int)) (↑(((bmN l.length)+(Yi 4 (bmN l.length)))+(Yi 5 (Zn l l.length).length)):Int) ?_
 refine xk 3 (show(decide ((↑(N-k0):Int)<(↑(((bmN l.length)+(Yi 4 (bmN l.length)))+(Yi 5 (Zn l l.length).length)):Int)):Bool)=false from decide_eq_false (by omega)) ?_
 refine xa 4 [S0] 101 fun b6 W6 n6=>?_
 have hX:=(((((show Fr [ba,g] w _ from(Fr.of_below a0)).trans (Fr.of_below a4)).trans (Fr.of_below a3)).trans (Fr.of_below a2)).trans (Fr.of_below a1)).trans (Fr.of_below n6.below)
 have a9:=Zb (Zb (Zb (Zb (Zd b3 c4) a3) a2) a1) n6.below
 have a8:=(((b0.below a3).below a2).below a1).below n6.below
 have b5:=fun(W:World) (hX:Fr ([ba,g]++[b6]) _ W)=>own_keep a9 a8 n6.blk hX
 have b7:=(((hL.below a3).below a2).below a1).below n6.below
 have g6:=n6.ge0 (blB (blB (blB (blB (blB (Below.refl B w) hBw a0) hBw a4) hBw a3) hBw a2) hBw a1)
 have hB:=blB (blB (blB (blB (blB (blB (Below.refl B w) hBw a0) hBw a4) hBw a3) hBw a2) hBw a1) hBw n6.below
 refine xc 8 (args:=#[P0 ba,.slice pb (bmN l.length) cb,.func (.func 56) #[] #[P0 b6]]) (Zaa B ba b g nn cc pa ca f N k0 bs b6 _ pb cb gs (Xh (Zj l) (bmN l.length)) (bmN l.length) (Kc _ _) _ hC a8 b7 (Nb c9.2 _) hf1 (by omega) n6.blk (Nat.le_trans hBw g6) (Nat.le_trans hBw hB.size)) ?_
 rintro _ W7 ⟨p8,c8,rfl,c2,c1,b9,hA,c3,c7⟩
 have c6:=(blB (blB (blB (blB (blB (blB (Below.refl B w) hBw a0) hBw a4) hBw a3) hBw a2) hBw a1) hBw n6.below).size
 replace b3:=b5 _ b9
 refine xb 15 0 c3 ?_
 have a6:=Zd c7 c6
 have a5:=hB.trans c2
 refine xc 0 (args:=#[P0 ba,V0 4,.slice p8 (bmN l.length) c8]) (Jj B ba b g nn cc pa ca f N (k0+(bmN l.length)) (Hz (Xh (Zj l) (bmN l.length)) (f+k0) bs (bmN l.length)) 4 p8 c8 (Xu (Xh (Zj l) (bmN l.length)) (f+k0) (bmN l.length)) (bmN l.length) _ (Hv _ _ _) hC hA (by decide) (by decide) (Zb3 _ _ _ (by omega)) (by omega) hf1 (by omega) (by omega) (fun W _ h2=>by unfold Sts;rw[Hv];exact Ze (Zo a6 h2 (by decide))) (Nat.le_trans hBw a5.size)) ?_
 rintro _ W8 ⟨rfl,c0,b8,c5,hA⟩
 rw[Hv] at hA
 have a7:=Zo b3 b8 (by decide)
 have b1:=a5.trans c0
 refine xc 21 (args:=#[P0 ba,V0 5,.slice po ((Zn l l.length).length) co]) (Jj B ba b g nn cc pa ca f N (k0+(bmN l.length)+Yi 4 (bmN l.length)) (Kh 4 (Xu (Xh (Zj l) (bmN l.length)) (f+k0) (bmN l.length)) (f+(k0+(bmN l.length))) (Hz (Xh (Zj l) (bmN l.length)) (f+k0) bs (bmN l.length))).2 5 po co (Zn l l.length) (Zn l l.length).length _ rfl hC hA (by decide) (by decide) (Fk _ _ (by omega)) (by omega) hf1 (by omega) (by omega) (fun W _ h2=>Ze (Zo a7 h2 (by decide))) (Nat.le_trans hBw b1.size)) ?_
 rintro _ W9 ⟨rfl,d2,d0,d1,hA⟩
 have b4:=b1.trans d2
 have hO:=((((((((show Zg [125,5,101,100,30] w _ from(Zg.of_below a0)).trans (Zg.of_below a4)).trans (Zg.of_below a3)).trans (Zg.of_below a2)).trans (Zg.of_below a1)).trans (Zg.of_below n6.below)).trans (c1.wide)).trans (b8.wide)).trans (d0.wide)
 have b2:=((Fr.trans_new hX b9 g6).trans (c5.mono (by simp))).trans (d1.mono (by simp))
 refine xe 27 (.tuple #[V0 ((Kh 4 (Xu (Xh (Zj l) (bmN l.length)) (f+k0) (bmN l.length)) (f+(k0+(bmN l.length))) (Hz (Xh (Zj l) (bmN l.length)) (f+k0) bs (bmN l.length))).1),V0 ((Kh 5 (Zn l l.length) (f+(k0+(bmN l.length)+Yi 4 (bmN l.length))) (Kh 4 (Xu (Xh (Zj l) (bmN l.length)) (f+k0) (bmN l.length)) (f+(k0+(bmN l.length))) (Hz (Xh (Zj l) (bmN l.length)) (f+k0) bs (bmN l.length))).2).1),.nilIface]) ?_
 have e1:f+(k0+(bmN l.length))=f+k0+(bmN l.length):=by omega
 have e2:f+(k0+(bmN l.length)+Yi 4 (bmN l.length))=f+k0+(bmN l.length)+Yi 4 (bmN l.length):=by omega
 rw[e2,e1] at hA ⊢
 have e3:k0+(bmN l.length)+Yi 4 (bmN l.length)+Yi 5 (Zn l l.length).length=k0+Fa l:=by omega
 rw[e3] at hA
 exact⟨rfl,b4,hO,b2,hA⟩
structure Sin(w W:World):Prop where
 b:Below w.heap.size w W
theorem Sin.below{w W V:World}(h:Sin w W)(hb:B3 W V):Sin w V:=⟨bln h.b hb⟩
theorem Sin.trans{w W V:World}(h:Sin w W)(hb:Below w.heap.size W V):Sin w V:=⟨h.b.trans hb⟩
theorem Sin.upd{w W V:World}{b:Nat}(h:Sin w W)(u:Upd W b V)(hb:w.heap.size≤b):Sin w V:=⟨u.below h.b hb⟩
theorem rs_ok{L:List (List Int)}{q n:Nat}(hS:∀ i,i<L.length→Kg (L.getD i [])∧(L.getD i []).length≤960)(hn:L.length=n)(h1:1≤q)(h2:q+n≤14400)(h3:n≤14):Mc (Rs L q n):=by
 refine⟨by rw[Cf];exact h3,fun i hi=>?_⟩
 rw[Cf] at hi
 rw[Rs_get hi]
 have hc:=(hS i (by omega)).2
 exact⟨by show 1≤q+i;omega,by show q+i≤14399;omega,Nat.le_trans (Wc _ _) hc,Nat.le_trans (Uy _) hc⟩
theorem Re(j:Nat)(B ba b g nn cc:Nat)(pa:O0)(ca f N k0:Nat)(bs:Bl)(w:World)(hC:AlC B ba nn cc ca f N)(hA:Al B ba b g nn cc pa ca f N k0 bs w)(hk:k0≤N)(hN:N≤1000000)(hj:j≤1000000)(hjn:j≤N-k0) :
 C0 60 #[P0 ba,V0 (j:Int)] w (Qi (fun w' r=>∃ q c2,r=.slice q j c2∧w'.ownsRow w.heap.size 3 1 (.slice q j c2) j ((((Bf f N).drop k0).take j).map V0)) w):=by
 have h:=Ta B ba b pa N ca k0 j (Bf f N) w ⟨hA.blkA,hA.nums,An _ _,hC.hB,hN,hk⟩ hj
 rwa [Nat.min_eq_left hjn] at h
theorem Pt(n:Nat)(a:O0)(c:Nat)(l:List Int)(w:World)(hn:l.length=n)(h:Sl w (.slice a n c) n (l.map V0))(hl:n≤65536)(hs:Kl l=0):C0 54 #[.slice a n c] w (fun e w'=>∃ pb cb gs po co,e=.returned (.tuple #[.slice pb (bmN n) cb,.slice po (Zn l n).length co,V0 0])∧B3 w w'∧Lists w' w.heap.size (.slice pb (bmN n) cb) gs (Xh (Zj l) (bmN n))∧w'.ownsRow w.heap.size 100 3 (.slice po (Zn l n).length co) (Zn l n).length ((Zn l n).flatMap Je)):=by
 subst hn;exact Gg a c l w h hl hs
theorem Zal(n:Nat)(a:O0)(c:Nat)(S:List (Nat×Nat×Nat))(w:World)(hn:S.length=n)(hS:Mc S)(h:Sts rsC w (.slice a S.length c) S):C0 62 #[.slice a n c] w (Qi (fun w' r=>∃ p c,r=.tuple #[.slice p 244 c,V0 0]∧w'.ownsRow w.heap.size 5 1 (.slice p 244 c) 244 ((Lx S).map bv)) w):=by
 subst hn;exact Zdw a c S w hS h
theorem Zbo(B ba b g nn cc:Nat)(pa:O0)(ca f N k0:Nat)(bs:Bl)(bl B2:Nat)(pl:O0)(cl:Nat)(gs:List (Nat×Nat))(L:List (List Int))(n:Nat)(hn:L.length=n)(w:World)(hC:AlC B ba nn cc ca f N)(hA:Al B ba b g nn cc pa ca f N k0 bs w)(hL:Lists w B2 (.slice pl n cl) gs L)(hS:∀ i,i<L.length→Kg (L.getD i [])∧(L.getD i []).length≤960)(hf1:1≤f)(hk:k0+n≤N)(kl:Blk w bl [S0] 41)(hBl:B≤bl)(hBw:B≤w.heap.size) :
 C0 55 #[P0 ba,.slice pl n cl,.func (.func 61) #[] #[P0 bl]] w (fun e w'=>∃ p c,e=.returned .nilIface∧Below B w w'∧Zg [125,5,41,136] w w'∧Fr ([ba,g]++[bl]) w w'∧Al B ba b g nn cc pa ca f N (k0+n) (Hz L (f+k0) bs n) w'∧Blk w' bl [.slice p n c] 41∧w'.ownsRow w.heap.size 136 3 (.slice p n c) n (rsL L (f+k0) n)):=by
 subst hn;exact Zdf B ba b g nn cc pa ca f N k0 bs bl B2 pl cl gs L w hC hA hL hS hf1 hk kl hBl hBw
def MetaP(B ba b g nn cc:Nat)(pa:O0)(ca f N k0:Nat)(bs:Bl)(l:List Int)(w:World)(e:Ending)(w':World):Prop :=
 e=.returned (.tuple #[V0 (En l f k0 bs).1,V0 (En l f k0 bs).2.1,.nilIface])∧Below B w w'∧Zg [125,5,41,136,30] w w'∧Fr [ba,g] w w'∧Al B ba b g nn cc pa ca f N (k0+Ym l) (En l f k0 bs).2.2 w'
theorem Za0(B ba b g nn cc:Nat)(pa:O0)(ca f N k0:Nat)(bs:Bl)(a:Addr)(c:Nat)(l:List Int)(w:World)(hC:AlC B ba nn cc ca f N)(hA:Al B ba b g nn cc pa ca f N k0 bs w)(h:Sl w (.slice (some a) l.length c) l.length (l.map V0))(hl:l.length≤3000)(hlen:l.length=nn/256)(hs:Kl l=0)(hkN:k0≤N)(hk:k0+Ym l≤N)(hf1:1≤f)(hfree2:Zcm l ((f+k0:Nat):Int))(hBw:B≤w.heap.size) :
 C0 23 #[P0 ba,.slice (some a) l.length c] w (MetaP B ba b g nn cc pa ca f N k0 bs l w):=by
 have hW:Sin w w:=⟨Below.refl _ _⟩
 have j6:=hC.hf
 have j7:=hC.hn
 have h0:=Ux hs
 have i9:=Hm l l.length
 have j0:Ym l=(Yi 5 (Zn l l.length).length)+(bmN l.length)+1:=rfl
 have i7:=Nm 5 (Zn l l.length).length
 have j2:bmN l.length≤4:=by unfold bmN;omega
 have i1:Kl (Yr l (f+k0) (Ym l))=0:=by unfold Kl;rw[if_neg (by rw[Ql];omega),if_pos (Dk hfree2 h0.2)]
 have h1:=Nb (Dk (n:=Ym l) hfree2 h0.2) (bmN l.length)
 refine zin 120 Tryz.func23 ?_
 refine xr 10 (args:=#[P0 ba]) (Jn ba b _ _ _ (hA.below hW.b).blkA) fun W1 a5=>?_
 have d1:=hW.below a5
 refine xr 19 (args:=#[P0 b]) (Qy b _ nn cc _ (hA.below d1.b).blkI (by omega)) fun W2 b0=>?_
 refine xk 3 (show(((l.length:Int) != (↑(nn/256):Int)):Bool)=false from by rw[hlen];simp) ?_
 have d3:=d1.below b0
 refine xc 5 (args:=#[.slice (some a) l.length c]) (Pt l.length (some a) c l _ rfl (Sl.below h d3.b) (by omega) hs) ?_
 rintro _ W3 ⟨j9,j1,k6,po,co,rfl,c0,k1,e0⟩
 have i0:=(blB (blB (Below.refl B w) hBw a5) hBw b0).size
 refine xr 23 (args:=#[V0 5,V0 (↑((Zn l l.length).length):Int)]) (Jb 5 (Zn l l.length).length _ (by decide) (by decide) (by omega)) fun W4 b1=>?_
 refine xr 2 (args:=#[V0 (l.length:Int)]) (Rk l.length _ (by omega)) fun W5 b4=>?_
 refine xwm 0 ((↑(Yi 5 (Zn l l.length).length):Int)+(↑(bmN l.length):Int)) (↑((Yi 5 (Zn l l.length).length)+(bmN l.length)):Int) ?_
 refine xwm 0 ((↑((Yi 5 (Zn l l.length).length)+(bmN l.length)):Int)+1) (↑(((Yi 5 (Zn l l.length).length)+(bmN l.length))+1):Int) ?_
 have c7:=((d3.below c0).below b1).below b4
 refine xr 7 (args:=#[P0 ba]) (Wr ba b pa N ca k0 _ (hA.below c7.b).blkA hkN) fun W6 a9=>?_
 refine xk 4 (show(decide ((↑(N-k0):Int)<(↑(((Yi 5 (Zn l l.length).length)+(bmN l.length))+1):Int)):Bool)=false from decide_eq_false (by omega)) ?_
 have a6:=c7.below a9
 have h8:=a6.b.size
 refine xc 5 (args:=#[.slice (some a) l.length c]) (Ul a l.length c (l.map V0) _ (Sl.below h a6.b) (by simp) (Ia _) (by omega)) ?_
 rintro _ W7 ⟨_,rfl,b7,qb,cq,rfl,g0⟩
 have k3:=(blB (blB (blB (blB (blB (blB (Below.refl B w) hBw a5) hBw b0) hBw c0) hBw b1) hBw b4) hBw a9).size
 have a0:=Zd g0 h8
 have a8:=a6.below b7
 have i3:=a8.b.size
 have f1:=a0
 refine xc 8 (args:=#[P0 ba,V0 (↑(((Yi 5 (Zn l l.length).length)+(bmN l.length))+1):Int)]) (Re (Ym l) B ba b g nn cc pa ca f N k0 bs _ hC (hA.below a8.b) hkN (by omega) (by omega) (by omega)) ?_
 rintro _ W8 ⟨_,rfl,b9,qa,g6,rfl,c5⟩
 have j5:=(blB (blB (blB (blB (blB (blB (blB (Below.refl B w) hBw a5) hBw b0) hBw c0) hBw b1) hBw b4) hBw a9) hBw b7).size
 have h3:=Pe.of_lt f1 c5 (Nat.le_refl _)
 have c3:=Zd c5 i3
 have a4:=Zb a0 b9
 obtain⟨gb,rfl,i5⟩:=Hg a4 (by omega)
 have c2:=Zb (Zb (Zb (Zb (Zb (Zd e0 i0) b1) b4) a9) b7) b9
 have g1:=a8.below b9
 have hB:=blB (blB (blB (blB (blB (blB (blB (blB (Below.refl B w) hBw a5) hBw b0) hBw c0) hBw b1) hBw b4) hBw a9) hBw b7) hBw b9
 have hX:=(((((((show Fr [ba,g] w _ from(Fr.of_below a5)).trans (Fr.of_below b0)).trans (Fr.of_below c0)).trans (Fr.of_below b1)).trans (Fr.of_below b4)).trans (Fr.of_below a9)).trans (Fr.of_below b7)).trans (Fr.of_below b9)
 have hO:=(((((((show Zg [125,5,41,136,30] w _ from(Zg.of_below a5)).trans (Zg.of_below b0)).trans (Zg.of_below c0)).trans (Zg.of_below b1)).trans (Zg.of_below b4)).trans (Zg.of_below a9)).trans (Zg.of_below b7)).trans (Zg.of_below b9)
 refine zl 5 120 (fun zm h5 V=>∃ (i:Nat),h5=[(0,P0 ba),(4,V0 0),(5,V0 0),(6,.nilIface),(9,.slice po ((Zn l l.length).length) co),(10,V0 0),(12,.slice (S1 gb) l.length cq),(61,.slice qa (Ym l) g6),(62,V0 (↑(Ym l):Int)),(63,V0 (i:Int))]∧zm=Ym l-((i:Int)).toNat∧Below B w V∧Fr [ba,g] w V∧Zg [125,5,41,136,30] w V∧V.ownsRow w.heap.size 3 1 (.slice (S1 gb) l.length cq) l.length ((Yr l (f+k0) i).map V0)∧V.ownsRow w.heap.size 3 1 (.slice qa (Ym l) g6) (Ym l) ((((Bf f N).drop k0).take (Ym l)).map V0)∧V.ownsRow w.heap.size 100 3 (.slice po ((Zn l l.length).length) co) ((Zn l l.length).length) ((Zn l l.length).flatMap Je)∧Sin w V∧i≤Ym l) ⟨0,rfl,rfl,hB,hX,hO,(by rw[Zaq];exact a4),c3,c2,g1,Nat.zero_le _⟩ ?_
 rintro _ _ W9 ⟨i,rfl,rfl,b3,c6,c1,a0,c3,e0,hW,hi⟩ J9 h4 r9
 have j8:i<Ym l→l.getD (f+k0+i) 0=0:=fun q=>(hfree2 (f+k0+i) (by omega)).1 (by omega)
 refine xid 6 ((i:Int)<(↑(Ym l):Int)) (fun f9=>?_) (fun f9=>?_)
 ·refine xx 6 _ (Ym l) i 1 (Bt (Ze c3) (by omega) (i:=i) (by omega)).1 ?_
  refine xl 0 ((Bt (Ze c3) (by omega) (i:=i) (by omega)).2) ?_
  refine xx 6 _ l.length (f+k0+i) 1 (Mq (Ze a0) rfl (q:=f+k0) (i:=i) (by omega)).1 ?_
  refine xl 0 ((Mq (Ze a0) rfl (q:=f+k0) (i:=i) (by omega)).2) ?_
  refine xw 0 ((l.getD (f+k0+i) 0)+1) ?_
  refine xx 0 _ l.length (f+k0+i) 1 (Mq (Ze a0) rfl (q:=f+k0) (i:=i) (by omega)).1 ?_
  refine xst 0 fun _ _ _ _ zJ zQ zo zx zy zK=>Gr (t:=3) (k:=(f+k0+i)) (v:=V0 ((l.getD (f+k0+i) 0)+1)) zo zx zy (by kernel_rfl) rfl a0 (by omega) fun k5 b8 g7=>?_
  rw[Zct (l:=l) (f:=f+k0) (j:=i) (by omega)] at g7
  refine zK _ _ ?_
  refine xwm 4 ((i:Int)+1) (↑(i+1):Int) ?_
  have f5:=b8.below b3 (Nat.le_trans hBw (Md a0))
  have g2:=(Fr.upd_new c6 b8 (Md a0))
  have e6:=(Zg.upd_new c1 b8 (Md a0))
  have c9:=b8.own3 c3 (fun j hj e=>h3 _ rfl (e▸hj))
  have d4:=b8.ownRow e0 a0 (by decide)
  have f8:=hW.upd b8 (Md a0)
  exact ze 2 (h4 _ _ _ ⟨i+1,rfl,rfl,f5,g2,e6,g7,c9,d4,f8,by omega⟩ (by omega))
 refine xc 9 (args:=#[P0 ba,V0 5,.slice po ((Zn l l.length).length) co]) (Jj B ba b g nn cc pa ca f N k0 bs 5 po co (Zn l l.length) (Zn l l.length).length _ rfl hC (hA.below hW.b) (by decide) (by decide) (Fk _ _ (by omega)) (by omega) hf1 (by omega) (by omega) (fun W _ h2=>Ze (Zo e0 h2 (by decide))) (Nat.le_trans hBw b3.size)) ?_
 rintro _ j4 ⟨rfl,g5,d2,e5,b5⟩
 have d7:=Zo a0 d2 (by decide)
 refine xc 20 (args:=#[.slice (S1 gb) l.length cq]) (Pt l.length (S1 gb) cq (Yr l (f+k0) (Ym l)) _ (Ql _ _ _) (by have hh:=Ze d7;rw[show i=Ym l by omega] at hh;exact hh) (by omega) i1) ?_
 rintro _ k2 ⟨pb,cb,gs,i8,j3,rfl,a1,hL,h6⟩
 refine xa 21 [S0] 41 fun g8 k4 a3=>?_
 have b2:=blB (b3.trans g5) hBw a1
 have g9:=a3.ge0 b2
 have d9:=(b5.below a1).below a3.below
 have e7:=hL.below a3.below
 have b6:=blB b2 hBw a3.below
 refine xc 8 (args:=#[P0 ba,.slice pb (bmN l.length) cb,.func (.func 61) #[] #[P0 g8]]) (Zbo B ba b g nn cc pa ca f N (k0+(Yi 5 (Zn l l.length).length)) (Kh 5 (Zn l l.length) (f+k0) bs).2 g8 _ pb cb gs (Xh (Zj (Yr l (f+k0) (Ym l))) (bmN l.length)) (bmN l.length) (Kc _ _) _ hC d9 e7 h1 hf1 (by omega) a3.blk (Nat.le_trans hBw g9) (Nat.le_trans hBw b6.size)) ?_
 rintro _ i4 ⟨p8,c8,rfl,d8,f7,e9,b5,h9,i2⟩
 have f2:=(blB b2 hBw a3.below).size
 refine xb 14 0 h9 ?_
 have d6:=Zd i2 f2
 refine xc 0 (args:=#[.slice p8 (bmN l.length) c8]) (Zal (bmN l.length) p8 c8 (Rs (Xh (Zj (Yr l (f+k0) (Ym l))) (bmN l.length)) (f+(k0+(Yi 5 (Zn l l.length).length))) (bmN l.length)) _ (Cf _ _ _) (rs_ok h1 (Kc _ _) (by omega) (by omega) (by omega)) (Rs_sts (Ze d6))) ?_
 rintro _ k7 ⟨_,rfl,a2,pz,cz,rfl,h7⟩
 have f6:=(b6.trans d8).size
 have d0:=b5.below a2
 have a7:=((((c1.trans (d2.wide)).trans (Zg.of_below a1)).trans (Zg.of_below a3.below)).trans (f7.wide)).trans (Zg.of_below a2)
 have d5:=Zd h7 f6
 have c4:=blB (b6.trans d8) hBw a2
 refine xc 21 (args:=#[P0 ba,V0 4,.slice pz 244 cz]) (Hx B ba b g nn cc pa ca f N (k0+(Yi 5 (Zn l l.length).length)+(bmN l.length)) (Hz (Xh (Zj (Yr l (f+k0) (Ym l))) (bmN l.length)) (f+(k0+(Yi 5 (Zn l l.length).length))) (Kh 5 (Zn l l.length) (f+k0) bs).2 (bmN l.length)) 4 pz cz (Lx (Rs (Xh (Zj (Yr l (f+k0) (Ym l))) (bmN l.length)) (f+(k0+(Yi 5 (Zn l l.length).length))) (bmN l.length))) (f+(k0+(Yi 5 (Zn l l.length).length)+(bmN l.length))) 244 _ rfl (Nk (by rw[Cf];omega)) hC d0 (by omega) (by decide) (by decide) (fun W _ a7=>Yl (Ze (Zo d5 a7 (by decide))) (Nk (by rw[Cf];omega))) (by decide) (Nat.le_trans hBw c4.size)) ?_
 rintro _ i6 ⟨rfl,e4,g3,e8,b5⟩
 have f3:=c4.trans e4
 have f0:=a7.trans (g3.wide)
 have f4:=((Fr.trans_new (((c6.trans (e5.mono (by simp))).trans (Fr.of_below a1)).trans (Fr.of_below a3.below)) e9 g9).trans (Fr.of_below a2)).trans (e8.mono (by simp))
 refine xe 27 (.tuple #[V0 (↑(f+(k0+(Yi 5 (Zn l l.length).length)+(bmN l.length))):Int),V0 ((Kh 5 (Zn l l.length) (f+k0) bs).1),.nilIface]) ?_
 have e1:f+(k0+(Yi 5 (Zn l l.length).length)+(bmN l.length))=f+k0+(Yi 5 (Zn l l.length).length)+(bmN l.length):=by omega
 have e2:f+(k0+(Yi 5 (Zn l l.length).length))=f+k0+(Yi 5 (Zn l l.length).length):=by omega
 rw[e1,e2] at b5
 rw[e1]
 have e3:k0+(Yi 5 (Zn l l.length).length)+(bmN l.length)+1=k0+Ym l:=by omega
 rw[e3] at b5
 refine⟨?_,f3,f0,f4,?_⟩
 ·unfold En;rw[As]
 ·unfold En;rw[As];exact b5
theorem leB_get{n w i:Nat}(h:i<w):(leB (n:Int) w).getD i 0=UInt8.ofNat (n/256 ^ i):=by simp[leB,Zl,List.getD,List.getElem?_range h]
theorem Um{a b:Bl}{m w:Nat}(hm:m<256 ^ w):Zh (a++(leB (m:Int) w++b)) a.length w=m:=by
 rw[Ky w a.length m (fun i hi=>?_),Nat.mod_eq_of_lt hm]
 rw[List.getD,List.getElem?_append_right (by omega),List.getElem?_append_left (by rw[Zf];omega),show a.length+i-a.length=i by omega]
 exact leB_get hi
theorem Ak{x:Nat×Nat×Nat}(h1:x.1≤14399)(h2:x.2.1≤960)(h3:x.2.2≤960):Lc Xi (slB x)=[x.1,x.2.1,x.2.2]:=by
 have e0:Zh (slB x) 0 8=x.1:=by
  have h:=Um (a:=[]) (b:=leB (x.2.1:Int) 4++leB (x.2.2:Int) 4) (m:=x.1) (w:=8) (by omega)
  simpa [slB,List.append_assoc] using h
 have e1:Zh (slB x) 8 4=x.2.1:=by
  have h:=Um (a:=leB (x.1:Int) 8) (b:=leB (x.2.2:Int) 4) (m:=x.2.1) (w:=4) (by omega)
  rw[Zf] at h
  simpa [slB,List.append_assoc] using h
 have e2:Zh (slB x) 12 4=x.2.2:=by
  have h:=Um (a:=leB (x.1:Int) 8++leB (x.2.1:Int) 4) (b:=[]) (m:=x.2.2) (w:=4) (by omega)
  rw[List.length_append,Zf,Zf] at h
  simpa [slB,List.append_assoc] using h
 show Jw (slB x) 0 [8,4,4]=_
 simp only[Jw]
 rw[e0,e1,e2]
theorem slB_ok{x:Nat×Nat×Nat}(h0:1≤x.1)(h1:x.1≤14399)(h2:x.2.1≤960)(h3:x.2.2≤960):Yd Xi (slB x)=0:=by
 have hr:Gn Xi (slB x)=true:=by
  unfold Gn
  rw[Ak h1 h2 h3,show Xi.length=3 from rfl]
  unfold Pi
  rw[show List.range 3=[0,1,2] from rfl]
  simp[inP,Xi]
  omega
 unfold Yd
 rw[if_pos (by rw[So];rfl),if_pos hr]
theorem slB_val{x:Nat×Nat×Nat}(h0:1≤x.1)(h1:x.1≤14399)(h2:x.2.1≤960)(h3:x.2.2≤960):Yp Xi (slB x)=[x.1,x.2.1,x.2.2]:=by
 unfold Yp
 rw[if_pos (slB_ok h0 h1 h2 h3),Ak h1 h2 h3]
theorem Dx(S:List (Nat×Nat×Nat))(i:Nat):∀ k,∃ t,Zbz S (i+k)=Zbz S i++t
 | 0=>⟨[],by simp⟩
 | k+1=>by
  obtain⟨t,h⟩:=Dx S i k
  exact⟨t++slB (S.getD (i+k) rsD),by rw[←Nat.add_assoc,Wf,h,List.append_assoc]⟩
theorem Rn{S:List (Nat×Nat×Nat)}{i:Nat}(hi:i<S.length):Ke (Lx S) i=slB (S.getD i rsD):=by
 obtain⟨t,h⟩:=Dx S (i+1) (S.length-(i+1))
 rw[show i+1+(S.length-(i+1))=S.length by omega,Wf] at h
 unfold Ke Lx
 rw[h,List.append_assoc,List.append_assoc,List.drop_left' (Nl S i),List.take_left' (So _)]
theorem Ie{S:List (Nat×Nat×Nat)}(h:S.length≤15):Zh (Lx S) 0 4=S.length:=by
 obtain⟨t,ht⟩:=Dx S 0 S.length
 rw[Nat.zero_add] at ht
 have h2:=Um (a:=[]) (b:=t++List.replicate (244-(4+S.length*16)) 0) (m:=S.length) (w:=4) (by omega)
 unfold Lx
 rw[ht,show Zbz S 0=leB (S.length:Int) 4 from by simp[Zbz],List.append_assoc]
 simpa using h2
theorem Fh{S:List (Nat×Nat×Nat)}(h:Mc S):Dj (Lx S)=0∧Pc (Lx S) S.length=S:=by
 have a0:=h.1
 have hv:∀ i,i<S.length→Yd Xi (Ke (Lx S) i)=0∧sltX (Lx S) i=S.getD i rsD:=fun i hi=>by
  obtain⟨h0,h1,h2,h3⟩:=h.2 i hi
  constructor
  ·rw[Rn hi];exact slB_ok h0 h1 h2 h3
  ·unfold sltX Ki
   rw[Rn hi,slB_val h0 h1 h2 h3]
   rfl
 have hz:Ve ((Lx S).drop (4+S.length*16))=true:=by
  unfold Lx
  rw[List.drop_left' (Nl _ _)]
  exact Bd fun j _=>Uo _ j
 have hs:∀ n,n≤S.length→Jz (Lx S) n=0:=by
  intro n
  induction n with
  | zero=>intro _;rfl
  | succ n ih=>intro hn;exact Bu (ih (by omega)) (hv n (by omega)).1
 constructor
 ·unfold Dj Ea
  rw[Ie (by omega),hz,decide_eq_true (by omega)]
  exact hs _ (Nat.le_refl _)
 ·apply List.ext_getElem (by rw[Fp])
  intro i h1 h2
  have:=(hv i h2).2
  rw[show S.getD i rsD=S[i] from by simp[List.getD,h2]] at this
  simp[Pc,this]
theorem Lf{l:List Int}(h:l.length≤960):Zh (Uz l) 0 4=l.length:=by
 have h2:=Um (a:=[]) (b:=(List.range 240).map (g4B l l.length)) (m:=l.length) (w:=4) (by omega)
 simpa [Uz,Ud] using h2
theorem Dq(l:List Int)(j:Nat):atI l l.length j=l.getD j 0:=by
 unfold atI
 split
 ·rfl
 ·simp[List.getD,Nat.le_of_not_lt (by assumption)]
theorem Oi{l:List Int}(h:Kg l){i:Nat}(hi:i<960):(Zex (Uz l) i:Int)=l.getD i 0:=by
 unfold Zex
 rw[show(Uz l).getD (4+i/4) 0=g4B l l.length (i/4) from Oe l l.length (by omega)]
 have b0:=Vx h (4*(i/4))
 have b1:=Vx h (4*(i/4)+1)
 have b2:=Vx h (4*(i/4)+2)
 have b3:=Vx h (4*(i/4)+3)
 unfold g4B g4
 rw[Dq,Dq,Dq,Dq,UInt8.toNat_ofNat']
 obtain e|e|e|e:i%4=0∨i%4=1∨i%4=2∨i%4=3:=by omega
 ·rw[show l.getD i 0=l.getD (4*(i/4)) 0 by rw[show 4*(i/4)=i by omega],e,show 2 ^ (0*2)=1 from rfl];omega
 ·rw[show l.getD i 0=l.getD (4*(i/4)+1) 0 by rw[show 4*(i/4)+1=i by omega],e,show 2 ^ (1*2)=4 from rfl];omega
 ·rw[show l.getD i 0=l.getD (4*(i/4)+2) 0 by rw[show 4*(i/4)+2=i by omega],e,show 2 ^ (2*2)=16 from rfl];omega
 ·rw[show l.getD i 0=l.getD (4*(i/4)+3) 0 by rw[show 4*(i/4)+3=i by omega],e,show 2 ^ (3*2)=64 from rfl];omega
theorem bitsB_ok{l:List Int}(h:Kg l)(hl:l.length≤960):Dw (Uz l)=true:=by
 rw[Uf]
 refine⟨Qv _ _,by rw[Lf hl];exact hl,fun i hi hc=>?_⟩
 rw[Lf hl] at hc
 have:=Oi h hi
 rw[show l.getD i 0=0 from by simp[List.getD,hc]] at this
 omega
theorem Zdr{l:Bl}{kind:Int}{k:Nat}{li:Bl}(h1:1≤kind)(h2:kind≤4)(hk:k<l.length/256)(h4:k<14400)(hli:li.length=244)(hb:Kd l k=Yg kind (k:Int) li):inE l kind (k:Int)=0∧inB l (k:Int)=li:=by
 constructor
 ·rw[Ri rfl rfl hk,hb];exact Eu h1 h2 (by omega) (by omega) (by omega)
 ·rw[Rd rfl,hb,Zfy (by omega)];unfold Fw;rw[hli,Nat.sub_self];simp
theorem getD_app{P Q:Bl}{k i:Nat}(hk:P.length=k):(P++Q).getD (k+i) 0=Q.getD i 0:=by
 subst hk
 simp[List.getD,List.getElem?_append_right]
theorem getD_hd{P Q:Bl}{i:Nat}(hi:i<P.length):(P++Q).getD i 0=P.getD i 0:=by
 simp[List.getD,List.getElem?_append_left hi]
theorem Jm{P Q:Bl}{k w:Nat}{x:Int}(hk:P.length=k)(h0:0≤x)(hb:x.toNat<256 ^ w):(Zh (P++(leB x w++Q)) k w:Int)=x:=by
 rw[Ky w k x.toNat,Nat.mod_eq_of_lt hb]
 ·omega
 ·intro i hi
  rw[getD_app hk,getD_hd (by rw[Zf];exact hi)]
  simp[leB,Zl,List.getD,List.getElem?_range hi]
theorem Dc{P Q:Bl}{k:Nat}(hk:P.length=k):(P++Q).drop k=Q:=List.drop_left' hk
theorem Ew(n m:Nat):Ve ((List.replicate n (0:UInt8)).take m)=true:=by
 unfold Ve;rw[List.all_eq_true]
 intro x hx
 have:=List.mem_of_mem_take hx
 rw[(List.mem_replicate.1 this).2];rfl
theorem Mw(K:List Int)(n j:Nat):∀ d,∃ X,Yb K n (j+d)=Yb K n j++X
 | 0=>⟨[],by simp⟩
 | d+1=>by
  obtain⟨X,hX⟩:=Mw K n j d
  exact⟨_,by rw[←Nat.add_assoc,Yz,hX,List.append_assoc]⟩
theorem Ma(Vs:List Bl)(j:Nat):∀ d,∃ X,Yq Vs (j+d)=Yq Vs j++X
 | 0=>⟨[],by simp⟩
 | d+1=>by
  obtain⟨X,hX⟩:=Ma Vs j d
  exact⟨_,by rw[←Nat.add_assoc,Jq,hX,List.append_assoc]⟩
theorem Ps{l:Bl}:∀ {n:Nat},(∀ i,i<n→Cp l i=0)→Yf l n=0
 | 0,_=>rfl
 | n+1,h=>Hk (Ps fun i hi=>h i (by omega)) (h n (by omega))
theorem getD_ext{l l':List Int}(h:l.length=l'.length)(h2:∀ j,j<l.length→l.getD j 0=l'.getD j 0):l=l':=by
 apply List.ext_getElem h
 intro j h3 h4
 have:=h2 j h3
 simpa [List.getD,h3,h4] using this
theorem Ze9{l l':List Bl}(h:l.length=l'.length)(h2:∀ j,j<l.length→l.getD j []=l'.getD j []):l=l':=by
 apply List.ext_getElem h
 intro j h3 h4
 have:=h2 j h3
 simpa [List.getD,h3,h4] using this
structure NodBack(b:List UInt8)(t:Int)(leaf:Bool)(n m v:Nat)(K:List Int)(Vs:List (List UInt8)):Prop where
 len:b.length=244
 e:Vd b=0
 t:Yx b=t
 l:Qf b=leaf
 c:Xb b=n
 k:Gb b n=K
 v:Ho b n=Vs
theorem Iw{t:Int}{leaf:Bool}{n m v:Nat}{K:List Int}{Vs:List Bl}(N:NodeOk t leaf n m v K Vs):NodBack (Kf m v (Qo t leaf n m v) K Vs n) t leaf n m v K Vs:=by
 have a9:=Yo t leaf
 rw[N.hm] at a9
 have b1:=Nz t leaf
 rw[N.hv] at b1
 have a1:=fitN t leaf
 rw[N.hm,N.hv] at a1
 have a7:=N.ht1
 have a8:=N.ht2
 have a5:=N.hn
 have a0:=Be (H:=Qo t leaf n m v) (K:=K) (Vs:=Vs) (Qk _ _ _ _ _) a1 a5 (fun j hj=>N.hw j hj)
 have a3:=Mj (H:=Qo t leaf n m v) (K:=K) (Vs:=Vs) (Qk _ _ _ _ _) a1 a5 (fun j hj=>N.hw j hj)
 generalize Kf m v (Qo t leaf n m v) K Vs n=b at a0 a3
 obtain⟨R,hR⟩:∃ R,b=Qo t leaf n m v++R:=⟨_,by rw[a0,List.append_assoc,List.append_assoc]⟩
 have b0:=Ds leaf
 have r0:(Zh b 0 1:Int)=Ji leaf:=by
  rw[hR,Qo];simp only[List.append_assoc]
  exact Jm (P:=[]) (k:=0) (w:=1) (x:=Ji leaf) rfl b0.1 (Nat.lt_of_le_of_lt (show(Ji leaf).toNat≤255 by omega) (by decide))
 have r1:(Zh b 1 1:Int)=t:=by
  rw[hR,Qo];simp only[List.append_assoc]
  exact Jm (P:=leB (Ji leaf) 1) (by rw[Zf]) (by omega) (by omega)
 have r2:(Zh b 2 2:Int)=(n:Int):=by
  rw[hR,Qo];simp only[List.append_assoc]
  rw[←List.append_assoc]
  exact Jm (P:=leB (Ji leaf) 1++leB t 1) (by simp[Zf]) (by omega) (by omega)
 have r4:(Zh b 4 2:Int)=(v:Int):=by
  rw[hR,Qo];simp only[List.append_assoc]
  rw[←List.append_assoc,←List.append_assoc]
  exact Jm (P:=leB (Ji leaf) 1++leB t 1++leB (n:Int) 2) (by simp[Zf]) (by omega) (by omega)
 have r6:(Zh b 6 2:Int)=(m:Int):=by
  rw[hR,Qo];simp only[List.append_assoc]
  rw[←List.append_assoc,←List.append_assoc,←List.append_assoc]
  exact Jm (P:=leB (Ji leaf) 1++leB t 1++leB (n:Int) 2++leB (v:Int) 2) (by simp[Zf]) (by omega) (by omega)
 have r8:(Zh b 8 4:Int)=0:=by
  rw[hR,Qo];simp only[List.append_assoc]
  rw[←List.append_assoc,←List.append_assoc,←List.append_assoc,←List.append_assoc]
  exact Jm (P:=leB (Ji leaf) 1++leB t 1++leB (n:Int) 2++leB (v:Int) 2++leB (m:Int) 2) (by simp[Zf]) (by omega) (by decide)
 have eT:Yx b=t:=r1
 have eL:Qf b=leaf:=by
  unfold Qf;rw[r0];cases leaf<;>rfl
 have eC:Xb b=n:=by unfold Xb;omega
 have eW:Yu b=v:=by unfold Yu;rw[eT,eL,widG,if_pos ⟨a7,a8⟩];exact N.hv
 have eM:Qr b=m:=by unfold Qr;rw[eT,eL,Zfw,if_pos ⟨a7,a8⟩];exact N.hm
 have a2:∀ i,i<n→(El b i:Int)=K.getD i 0:=by
  intro i hi
  obtain⟨X,hX⟩:=Mw K n (i+1) (m-(i+1))
  rw[show i+1+(m-(i+1))=m by omega,Yz,if_pos hi] at hX
  unfold El
  rw[a0,hX]
  have hk:=N.hk0 i hi
  have:=Jm (P:=Qo t leaf n m v++Yb K n i) (Q:=X++(Yq Vs n++List.replicate (232-m*8-n*v) 0)) (k:=12+i*8) (w:=8) (x:=K.getD i 0) (by rw[List.length_append,Qk,Vo]) hk.1 (Nat.lt_of_le_of_lt (show(K.getD i 0).toNat≤281474976710655 by omega) (by decide))
  simp only[List.append_assoc] at this ⊢
  exact this
 have a6:∀ i,i<n→Zbv b i=Vs.getD i []:=by
  intro i hi
  obtain⟨X,hX⟩:=Ma Vs (i+1) (n-(i+1))
  rw[show i+1+(n-(i+1))=n by omega,Jq] at hX
  have a4:(Yq Vs i).length=i*v:=Hw fun j hj=>N.hw j (by omega)
  unfold Zbv
  rw[eM,eW,a0,hX]
  have:=Dc (P:=Qo t leaf n m v++Yb K n m++Yq Vs i) (Q:=Vs.getD i []++(X++List.replicate (232-m*8-n*v) 0)) (k:=12+m*8+i*v) (by rw[List.length_append,List.length_append,Qk,Vo,a4])
  simp only[List.append_assoc] at this ⊢
  rw[this]
  exact List.take_left' (N.hw i hi)
 have b2:n*v≤m*v:=Nat.mul_le_mul_right v a5
 refine⟨a3,?_,eT,eL,eC,?_,?_⟩
 ·have hs:Nu b=true:=by
   unfold Nu
   rw[eW,eM]
   refine decide_eq_true ⟨?_,by omega,by omega,by omega,by omega,by omega,?_⟩
   ·cases leaf<;>simp only[Ji] at r0<;>simp at r0<;>omega
   ·cases leaf with
    | true=>left;simp only[Ji] at r0;simp at r0;omega
    | false=>right;have:=N.hl rfl;omega
  have hz:Sw b=true:=by
   unfold Sw Dv Zaj Cw
   rw[eC,eM,eW,Bool.and_eq_true]
   constructor
   ·have hk:=Vt K n (m-n)
    rw[show n+(m-n)=m by omega] at hk
    have:=Dc (P:=Qo t leaf n m v++Yb K n n) (Q:=List.replicate ((m-n)*8) 0++(Yq Vs n++List.replicate (232-m*8-n*v) 0)) (k:=12+n*8) (by rw[List.length_append,Qk,Vo])
    rw[a0,hk]
    simp only[List.append_assoc] at this ⊢
    rw[this,List.take_append_of_le_length (by rw[List.length_replicate];omega)]
    exact Ew _ _
   ·have a4:(Yq Vs n).length=n*v:=Hw fun j hj=>N.hw j hj
    have:=Dc (P:=Qo t leaf n m v++Yb K n m++Yq Vs n) (Q:=List.replicate (232-m*8-n*v) 0) (k:=12+m*8+n*v) (by rw[List.length_append,List.length_append,Qk,Vo,a4])
    rw[a0,this]
    exact Ew _ _
  unfold Vd
  rw[if_pos hs,if_pos hz,eC]
  refine Ps fun i hi=>?_
  have h1:=a2 i hi
  have h2:=N.hk0 i hi
  unfold Cp
  rw[if_neg (by omega),if_neg ?_]
  rintro⟨h3,h4⟩
  have h5:=a2 (i-1) (by omega)
  have h6:=N.hk1 (i-1) (by omega)
  rw[show i-1+1=i by omega] at h6
  omega
 ·exact getD_ext (by rw[Nx,N.hK]) fun j hj=>by rw[Nx] at hj;rw[Rl b hj];exact a2 j hj
 ·exact Ze9 (by rw[Ku,N.hV]) fun j hj=>by rw[Ku] at hj;rw[Er b hj];exact a6 j hj
theorem blk_back{t:Int}{leaf:Bool}{n m v:Nat}{K:List Int}{Vs:List Bl}(N:NodeOk t leaf n m v K Vs){l:Bl}{j len:Nat}(hl:l.length=len)(hj:j<len/256)(h4:j<14400)(hb:Kd l j=Yg 2 (j:Int) (Kf m v (Qo t leaf n m v) K Vs n))(tree:Int)(ht:tree=0∨t=tree) :
 Xa l (j:Int) tree=0∧inB l (j:Int)=Kf m v (Qo t leaf n m v) K Vs n:=by
 have B:=Iw N
 have a0:inB l (j:Int)=Kf m v (Qo t leaf n m v) K Vs n:=by
  rw[Rd (no:=(j:Int)) (j:=j) rfl,hb,Zfy (by rw[B.len];decide)]
  unfold Fw;rw[B.len];simp
 refine⟨?_,a0⟩
 unfold Xa
 rw[Ri (no:=(j:Int)) (j:=j) hl rfl hj,hb,if_pos (Eu (by decide) (by decide) (by omega) (by omega) (by rw[B.len];decide)),a0]
 unfold Yh
 rw[if_pos B.e,if_pos (by rw[B.t];exact ht)]
theorem bitsB_I{l:List Int}(h:Kg l)(hl:l.length≤960):bitI (Uz l) l.length=l:=by
 apply List.ext_getElem (by rw[Ae])
 intro i h1 h2
 have e:=Oi h (i:=i) (by omega)
 rw[show l.getD i 0=l[i] from by simp[List.getD,h2]] at e
 simp[bitI,Me,e]
theorem Zec{F:Bl}{k:Nat}{c:List Int}(hk:k<F.length/256)(h4:k<14400)(hb:Kd F k=Yg 3 (k:Int) (Uz c))(hs:Kg c)(hl:c.length≤960):Xo F (k:Int)=0∧bitR F (k:Int)=c:=by
 have h:=Zdr (kind:=3) (by decide) (by decide) hk h4 (by unfold Uz;rw[Qv]) hb
 have he:Xo F (k:Int)=0:=by unfold Xo;rw[if_pos h.1,h.2,if_pos (bitsB_ok hs hl)]
 refine⟨he,?_⟩
 unfold bitR
 rw[if_pos he,h.2,Lf hl,bitsB_I hs hl]
def Z25:Bl:=List.replicate 2304 0
theorem Z25_len:Z25.length=2304:=List.length_replicate
theorem Zcq(w:Nat):EntsOk w []:=⟨fun i hi=>absurd hi (by simp),fun j hj=>absurd hj (by simp),fun i hi=>absurd hi (by simp)⟩
def Mn(t:Int)(q:Nat):Bl:=Yg 2 ((q:Nat):Int) (nodB t true (Yy t true) (Lp t true) (Xc [] (Yy t true) 0))
theorem ov0(t:Int):ovN 0 (Yy t true)=1:=by
 have hp:=Qq 0 (Yy t true)
 have hm:=(Yo t true).1
 have h1:ovN 0 (Yy t true)≤1:=by
  unfold ovN
  have:(0+Yy t true-1)/Yy t true=0:=Nat.div_eq_of_lt (by omega)
  omega
 omega
theorem nod0(t:Int):Yi t 0=1:=by
 unfold Yi Ks
 rw[ov0,Ht (by decide)];rfl
theorem tree0(t:Int)(q:Nat)(bs:Bl):Kh t [] q bs=((q:Int),Qs bs (q*256) (Mn t q)):=by
 unfold Kh
 rw[show([]:List Ent).length=0 from rfl,ov0,Ci (by rw[Yc];exact Nat.le_refl _)]
 rfl
theorem Zdd{t:Int}(h1:1≤t)(h2:t≤5):NodeOk t true (Xc [] (Yy t true) 0).length (Yy t true) (Lp t true) (Va (Xc [] (Yy t true) 0)) (Kr (Xc [] (Yy t true) 0)) :=
 Ii (l:=[]) (Zcq _) h1 h2 rfl rfl (fun h=>by cases h) (i:=0) (by rw[show([]:List Ent).length=0 from rfl,ov0];decide)
theorem Hp{t:Int}{q:Nat}(h1:1≤t)(h2:t≤5):(Mn t q).length=256:=Ka (by rw[Iy (Zdd h1 h2)];decide)
theorem Zbb{F:Bl}{t:Int}{k:Nat}(h1:1≤t)(h2:t≤5)(hk:k<F.length/256)(h4:k<14400)(hb:Kd F k=Mn t k):Xa F (k:Int) t=0∧Zad F (k:Int)=[]:=by
 have N:=Zdd h1 h2
 obtain⟨he,a0⟩:=blk_back N rfl hk h4 hb t (.inr rfl)
 refine⟨he,?_⟩
 have hC:Xb (inB F (k:Int))=0:=by rw[a0];exact((Iw N).c).trans (by simp[Xc])
 have hV:Wo F (k:Int)=[]:=by unfold Wo;rw[hC];rfl
 unfold Zad;rw[hV];split<;>rfl
theorem put_25{b x:Bl}{k:Nat}(hb:b.length=2304)(hx:x.length=256)(hk:k<9):(Qs b (k*256) x).length=2304∧Kd (Qs b (k*256) x) k=x∧∀ j,j<9→j≠k→Kd (Qs b (k*256) x) j=Kd b j :=
 ⟨by rw[Qe (by rw[hx,hb];omega),hb],blkB_put hx (by rw[hb];omega),fun j hj a0=>Bb hx (by rw[hb];omega) a0 (by rw[hb];omega)⟩
def l25:List Int:=[1,1,1,1,1,0,0,0,0]
def C25:List Int:=Ja (Zj (Yr l25 5 3)) 0
def R25:List (Nat×Nat×Nat):=[(6,Xp C25,Zy C25)]
def X25 (k:Nat):Bl:=if k=1 then Mn 1 1 else if k=2 then Mn 3 2 else if k=3 then Mn 4 3 else if k=4 then Mn 5 4 else if k=5 then Mn 5 5 else if k=6 then Yg 3 ((6:Nat):Int) (Uz C25) else Yg 4 ((7:Nat):Int) (Lx R25)
theorem X25_len(k:Nat):(X25 k).length=256:=by
 unfold X25
 split
 ·exact Hp (by decide) (by decide)
 split
 ·exact Hp (by decide) (by decide)
 split
 ·exact Hp (by decide) (by decide)
 split
 ·exact Hp (by decide) (by decide)
 split
 ·exact Hp (by decide) (by decide)
 split
 ·exact Ka (by unfold Uz;rw[Qv];decide)
 ·exact Ka (by rw[Nk (by decide)];decide)
def F25:Nat→Bl
 | 0=>Z25
 | k+1=>Qs (F25 k) ((k+1)*256) (X25 (k+1))
theorem Zcz(k:Nat):k≤7→(F25 k).length=2304∧∀ j,1≤j→j≤k→Kd (F25 k) j=X25 j:=by
 induction k with
 | zero=>exact fun _=>⟨Z25_len,fun j h1 h2=>absurd h1 (by omega)⟩
 | succ k ih =>
  intro hk
  obtain⟨a,b⟩:=ih (by omega)
  obtain⟨c,d,e⟩:=put_25 (k:=k+1) a (X25_len (k+1)) (by omega)
  refine⟨c,fun j h1 h2=>?_⟩
  by_cases q:j=k+1
  ·subst q;exact d
  ·exact(e j (by omega) q).trans (b j h1 (by omega))
theorem Ic{k:Nat}{t:Int}(h:X25 (k+1)=Mn t (k+1)):Kh t [] (k+1) (F25 k)=(((k+1:Nat):Int),F25 (k+1)):=by
 rw[tree0,←h];rfl
theorem plot25:Zdi [] 3 (F25 2)=(3,4,F25 4):=by
 have e:Zdi [] 3 (F25 2)=((Kh 4 [] 3 (F25 2)).1,(Kh 5 [] (3+Yi 4 0) (Kh 4 [] 3 (F25 2)).2).1,(Kh 5 [] (3+Yi 4 0) (Kh 4 [] 3 (F25 2)).2).2):=rfl
 rw[e,nod0,Ic (k:=2) (t:=4) rfl,show 3+1=3+1 from rfl,Ic (k:=3) (t:=5) rfl]
 rfl
theorem over25:Zn l25 l25.length=[]:=by decide
theorem Zc3:Ym l25=3:=by unfold Ym;rw[over25,show([]:List Ent).length=0 from rfl,nod0];rfl
theorem meta25:En l25 5 0 (F25 4)=(7,5,F25 7):=by
 have hb:bmN (Yr l25 (5+0) 3).length=1:=by rw[Ql];rfl
 unfold En
 rw[Zc3,hb,over25,show([]:List Ent).length=0 from rfl,nod0,Ic (k:=4) (t:=5) rfl]
 rfl
theorem Zdx:En l25 1 4 (F25 4)=(7,5,F25 7):=by
 rw[←meta25];rfl
theorem free25:Zcm l25 ((1+4:Nat):Int):=fun i hi=>by
 have a0:i<9:=hi
 obtain rfl|rfl|rfl|rfl|rfl|rfl|rfl|rfl|rfl:i=0∨i=1∨i=2∨i=3∨i=4∨i=5∨i=6∨i=7∨i=8:=by omega
 all_goals exact⟨fun q=>by first|rfl|(exfalso;omega),by decide⟩
theorem Zep:Kl l25=0:=Gs (by decide) fun k hk=>by
 have a0:k<9:=hk
 obtain rfl|rfl|rfl|rfl|rfl|rfl|rfl|rfl|rfl:k=0∨k=1∨k=2∨k=3∨k=4∨k=5∨k=6∨k=7∨k=8:=by omega
 all_goals decide
theorem cnt25:Gy 9=[1,0,0,0,0,0,0,0,0]:=by decide
theorem Rm{k:Nat}{t:Int}(hk1:1≤k)(hk:k≤7)(h1:1≤t)(h2:t≤5)(h:X25 k=Mn t k):Us (F25 7) (k:Int) t=0∧Lq (F25 7) (k:Int) t=[]:=by
 obtain⟨a,b⟩:=Zcz 7 (Nat.le_refl _)
 obtain⟨c,d⟩:=Zbb (F:=F25 7) (k:=k) h1 h2 (by rw[a];omega) (by omega) ((b k hk1 hk).trans h)
 unfold Us Lq
 rw[if_neg (by omega),if_neg (by omega),if_neg (by omega),if_neg (by omega)]
 exact⟨c,d⟩
theorem Zfg:Kg C25∧C25.length≤960:=by
 refine⟨Lm (Az (Dk free25 (Ux Zep).2)) 0,?_⟩
 unfold C25;rw[Pg];omega
theorem bits25:Us (F25 7) ((6:Nat):Int) 7=0:=by
 obtain⟨a,b⟩:=Zcz 7 (Nat.le_refl _)
 exact(Zec (k:=6) (c:=C25) (by rw[a];decide) (by decide) (b 6 (by decide) (by decide)) Zfg.1 Zfg.2).1
theorem R25_ok:Mc R25:=⟨by decide,fun i hi=>by
 have a0:i<1:=hi
 obtain rfl:i=0:=by omega
 have h1:=Zfg.2
 exact⟨by decide,by decide,Nat.le_trans (Wc _ _) h1,Nat.le_trans (Uy _) h1⟩⟩
theorem idx25:Us (F25 7) ((7:Nat):Int) 6=0∧Lq (F25 7) ((7:Nat):Int) 6=[(((6:Nat):Int),7,0)]:=by
 obtain⟨a,b⟩:=Zcz 7 (Nat.le_refl _)
 have a0:=Zdr (l:=F25 7) (kind:=4) (k:=7) (li:=Lx R25) (by decide) (by decide) (by rw[a];decide) (by decide) (Nk (by decide)) (b 7 (by decide) (by decide))
 have a1:Xx (F25 7) ((7:Nat):Int)=0:=by unfold Xx;rw[if_pos a0.1,a0.2];exact(Fh R25_ok).1
 have a2:Eo (F25 7) ((7:Nat):Int)=R25:=by rw[(Wu a1).1,a0.2,Ie (by decide)];exact(Fh R25_ok).2
 refine⟨a1,?_⟩
 show(Eo (F25 7) ((7:Nat):Int)).map Jy=_
 rw[a2];rfl
theorem Rz{l:Bl}{cs cs':List Nat}{k:Nat}{t:Int}{L r:List Rx}(h2:k<cs.length)(h3:cs.getD k 0=0)(h4:Us l (k:Int) t=0∧Lq l (k:Int) t=L)(hc:Vf cs (k:Int)=cs'):Ya l cs (((k:Int),t,0)::r)=Ya l cs' (L++r):=by
 rw[←hc,←h4.2]
 exact Hl (x:=((k:Int),t,0)) rfl ⟨by omega,by show(k:Int)<(cs.length:Int);omega⟩ h3 h4.1
def S25:Sup:=⟨0,0,1,0,9,1,2,3,4,7,5⟩
theorem right25:Qj S25=true:=by decide
def c25:List Nat:=[1,1,1,1,1,1,1,1,0]
theorem count25:Qm (F25 7) S25=(c25,[],0):=by
 unfold Qm
 rw[if_neg (by rw[right25];decide),show S25.blocks.toNat=9 from rfl,cnt25]
 show Ya (F25 7) _ [(((1:Nat):Int),1,0),(((2:Nat):Int),3,0),(((3:Nat):Int),4,0),(((4:Nat):Int),5,0),(((7:Nat):Int),6,0),(((5:Nat):Int),5,0)]=_
 rw[Rz (by decide) rfl (Rm (by decide) (by decide) (by decide) (by decide) rfl) (show _=[1,1,0,0,0,0,0,0,0] from rfl),List.nil_append,
  Rz (by decide) rfl (Rm (by decide) (by decide) (by decide) (by decide) rfl) (show _=[1,1,1,0,0,0,0,0,0] from rfl),List.nil_append,
  Rz (by decide) rfl (Rm (by decide) (by decide) (by decide) (by decide) rfl) (show _=[1,1,1,1,0,0,0,0,0] from rfl),List.nil_append,
  Rz (by decide) rfl (Rm (by decide) (by decide) (by decide) (by decide) rfl) (show _=[1,1,1,1,1,0,0,0,0] from rfl),List.nil_append,
  Rz (by decide) rfl idx25 (show _=[1,1,1,1,1,0,0,1,0] from rfl),List.cons_append,List.nil_append,
  Rz (L:=[]) (by decide) rfl ⟨bits25,rfl⟩ (show _=[1,1,1,1,1,0,1,1,0] from rfl),List.nil_append,
  Rz (by decide) rfl (Rm (by decide) (by decide) (by decide) (by decide) rfl) (show _=[1,1,1,1,1,1,1,1,0] from rfl),List.nil_append]
 rfl
theorem Zf5(B ba b g c:Nat)(pa:O0)(ca k:Nat)(t:Int)(r:Int)(w:World)(hk:k<2)(hX:X25 (k+1)=Mn t (k+1))(h1:1≤t)(h2:t≤5)(hr:((k+1:Nat):Int)=r)(hC:AlC B ba 2304 c ca 1 8)(hA:Al B ba b g 2304 c pa ca 1 8 k (F25 k) w)(hBw:B≤w.heap.size) :
 C0 21 #[P0 ba,V0 t,S0] w (fun e' w'=>e'=.returned (.tuple #[V0 r,.nilIface])∧Below B w w'∧Zg [125,5,30] w w'∧Fr [ba,g] w w'∧Al B ba b g 2304 c pa ca 1 8 (k+1) (F25 (k+1)) w'):=by
 subst hr
 have a1:Yi t ([]:List Ent).length=1:=nod0 t
 refine(Jj B ba b g 2304 c pa ca 1 8 k (F25 k) t none 0 [] 0 w rfl hC hA h1 h2 (Zcq _) (by decide) (by decide) (by omega) (by rw[show(0:Nat)=([]:List Ent).length from rfl,a1];omega) (fun W _ _=>.inl ⟨_,_,rfl,rfl,rfl⟩) hBw).mono ?_
 rintro e' w' ⟨rfl,hb,hO,a3,a0⟩
 have a2:=Ic hX
 rw[show 1+k=k+1 by omega] at a0 ⊢
 rw[a1,a2] at a0
 rw[a2]
 exact⟨rfl,hb,hO,a3,a0⟩
theorem Ze5:Fa []=2:=by
 show bmN 0+Yi 4 0+Yi 5 0=2
 rw[nod0,nod0];rfl
theorem data25(B ba b g c:Nat)(pa:O0)(ca:Nat)(w:World)(hC:AlC B ba 2304 c ca 1 8)(hA:Al B ba b g 2304 c pa ca 1 8 2 (F25 2) w)(hBw:B≤w.heap.size) :
 C0 22 #[P0 ba,S0] w (fun e' w'=>e'=.returned (.tuple #[V0 3,V0 4,.nilIface])∧Below B w w'∧Zg [125,5,101,100,30] w w'∧Fr [ba,g] w w'∧Al B ba b g 2304 c pa ca 1 8 4 (F25 4) w'):=by
 refine(Zfj B ba b g 2304 c pa ca 1 8 2 (F25 2) none 0 [] w hC hA (.inl ⟨_,_,rfl,rfl,rfl⟩) (by decide) (Gs (by decide) fun k hk=>absurd hk (by simp)) (by decide) (by decide) (by rw[Ze5];decide) hBw).mono ?_
 rintro e' w' ⟨rfl,hb,hO,hX,a0⟩
 rw[Ze5,show 1+2=3 from rfl,plot25] at a0
 rw[show 1+2=3 from rfl,plot25]
 exact⟨rfl,hb,hO,hX,a0⟩
theorem metaC25(B ba b g c:Nat)(pa:O0)(ca:Nat)(a:Addr)(w:World)(hC:AlC B ba 2304 c ca 1 8)(hA:Al B ba b g 2304 c pa ca 1 8 4 (F25 4) w)(h:Sl w (.slice (some a) 9 9) 9 (l25.map V0))(hBw:B≤w.heap.size) :
 C0 23 #[P0 ba,.slice (some a) 9 9] w (fun e' w'=>e'=.returned (.tuple #[V0 7,V0 5,.nilIface])∧Below B w w'∧Zg [125,5,41,136,30] w w'∧Fr [ba,g] w w'∧Al B ba b g 2304 c pa ca 1 8 7 (F25 7) w'):=by
 refine(Za0 B ba b g 2304 c pa ca 1 8 4 (F25 4) a 9 l25 w hC hA h (by decide) rfl Zep (by decide) (by rw[Zc3];decide) (by decide) free25 hBw).mono ?_
 rintro e' w' ⟨rfl,hb,hO,hX,a0⟩
 rw[Zc3,Zdx] at a0
 rw[Zdx]
 exact⟨rfl,hb,hO,hX,a0⟩
theorem countC25(Bi b:Nat)(pi:O0)(ni ci:Nat)(w:World)(hI:ImgR Bi b pi ni ci (F25 7) w) :
 C0 7 #[P0 b,.agg #[V0 0,V0 0,V0 1,V0 0,V0 9,V0 1,V0 2,V0 3,V0 4,V0 7,V0 5]] w (Qi (fun w' r=>∃ p c,r=.tuple #[.slice p 9 c,.nilIface]∧w'.ownsRow w.heap.size 3 1 (.slice p 9 c) 9 (([1,1,1,1,1,1,1,1,0]:List Int).map V0)) w):=by
 refine(Mb Bi b pi ni ci (F25 7) S25 w hI).mono ?_
 rintro e' w' q
 rw[count25] at q
 rcases q with ⟨h,_⟩|⟨_,p,c,rfl,hb,ho⟩
 ·exact absurd rfl h
 ·exact⟨_,rfl,hb,p,c,rfl,ho⟩
theorem Su(w:World) :
 C0 5 #[] w (Ret (.bool true) w):=by
 refine zin 69 Tryz.func5 ?_
 refine xmk 7 fun _ _ _ _ zJ zQ zo zx zy zK=>Vq 2304 (.int .u8 0) 1 1 ((List.replicate 2304 (0:UInt8)).map bv) zo zx zy Tryz.underlying22 (by kernel_rfl) rfl (by omega) (by omega) (Om 2304) fun b1 W1 n1=>?_
 refine zK _ _ ?_
 have o1:=Xf (size:=1) (n:=2304) n1.blk (n1.ge (B4 w)) (by rw[List.length_map,List.length_replicate]) (by unfold maxLen;omega)
 refine xc 0 (args:=#[.slice (S1 b1) 2304 2304]) (Zf1 (S1 b1) 2304 2304 2304 (List.replicate 2304 (0:UInt8)) _ List.length_replicate (by omega) (Yl (Ze o1) List.length_replicate) (by omega) (Nat.le_refl _)) ?_
 rintro _ W2 ⟨_,rfl,d0,bi,pi,ci,rfl,gi,ki,hd⟩
 have a2:=Zd hd n1.below.size
 rw[List.take_of_length_le (by rw[List.length_replicate];omega)] at a2
 obtain⟨g,rfl,d8⟩:=Hg a2 (by omega)
 have hB:=bln n1.below d0
 have d4:=hB.size
 refine xc 0 (args:=#[P0 bi,V0 1]) (Ou bi (S1 g) 2304 ci 1 8 (1:Int) rfl (by omega) _ ki (by omega) (by decide) (by omega)) ?_
 rintro _ W3 ⟨_,rfl,c4,ba,pa,ca,rfl,ga,ka,ho⟩
 replace ga:=Nat.le_trans d4 ga
 have b6:=ki.below c4
 have c0:=Zb a2 c4
 have b2:=Zd ho hB.size
 have hA:Al w.heap.size ba bi g 2304 ci pa ca 1 8 0 (F25 0) _:=⟨ka,b6,c0,b2⟩
 have d2:8≤ca:=To b2 (by decide)
 have hC:AlC w.heap.size ba 2304 ci ca 1 8:=⟨by omega,d8,d2,by omega,ga⟩
 have a5:=bln hB c4
 refine xc 24 (args:=#[P0 ba,V0 1,S0]) (Zf5 w.heap.size ba bi g _ pa ca 0 1 1 _ (by decide) rfl (by decide) (by decide) rfl hC hA a5.size) ?_
 rintro _ W4 ⟨rfl,d5,e8,e5,hA⟩
 have a4:=a5.trans d5
 refine xc 10 (args:=#[P0 ba,V0 3,S0]) (Zf5 w.heap.size ba bi g _ pa ca 1 3 2 _ (by decide) rfl (by decide) (by decide) rfl hC hA a4.size) ?_
 rintro _ W5 ⟨rfl,d3,d9,e6,hA⟩
 have a7:=a4.trans d3
 refine xc 10 (args:=#[P0 ba,S0]) (data25 w.heap.size ba bi g _ pa ca _ hC hA a7.size) ?_
 rintro _ W6 ⟨rfl,d7,e0,e4,hA⟩
 refine xbs 12 9 [V0 1,V0 1,V0 1,V0 1,V0 1,V0 0,V0 0,V0 0,V0 0] 3 fun b7 W7 n7=>?_
 have b3:=a7.trans d7
 have g7:=n7.ge b3
 have c3:=hA.below n7.below
 have a1:=bln b3 n7.below
 refine xc 0 (args:=#[P0 ba,.slice (S1 b7) 9 9]) (metaC25 w.heap.size ba bi g _ pa ca ⟨b7,0,none⟩ _ hC c3 (Ze (Xf (size:=1) (n:=9) n7.blk g7 rfl (by decide))) a1.size) ?_
 rintro _ W8 ⟨rfl,c6,c8,e3,hA⟩
 refine xr 12 (args:=#[P0 ba]) (Jn ba bi _ _ _ hA.blkA) fun W9 b5=>?_
 have b0:=hA.below b5
 refine xc 7 (args:=#[P0 bi,.agg #[V0 0,V0 0,V0 1,V0 0,V0 9,V0 1,V0 2,V0 3,V0 4,V0 7,V0 5]]) (countC25 w.heap.size bi (S1 g) 2304 ci _ ⟨b0.blkI,b0.data,by omega⟩) ?_
 rintro _ e2 ⟨_,rfl,a8,p9,c9,rfl,d1⟩
 have c2:=(bln (a1.trans c6) b5).size
 refine xbs 13 9 [V0 1,V0 1,V0 1,V0 1,V0 1,V0 1,V0 1,V0 1,V0 0] 3 fun c7 e1 a3=>?_
 have b8:=((n7.blk.only c8 (by decide)).below b5).below a8
 have c1:=a3.ne b8
 have a9:=bln (bln (a1.trans c6) b5) a8
 have d6:=a3.ge a9
 have a0:=Zd d1 c2
 have b4:=Zz a0 a3
 have a6:=Zb a0 a3.below
 refine xr 0 (args:=#[.slice p9 9 c9,.slice (S1 c7) 9 9]) (Zbl p9 (S1 c7) c9 9 ([1,1,1,1,1,1,1,1,0]:List Int) _ (Ze a6) (Ze (Xf (size:=1) (n:=9) a3.blk d6 rfl (by decide)))) fun e7 c5=>?_
 have b9:=bln (bln a9 a3.below) c5
 exact xe 5 (.bool true) ⟨rfl,b9⟩
def dif (a b:List Int)(k:Nat):List Int:=((List.range k).filter fun i=>a[i]? != b[i]?).map Int.ofNat
theorem Ww{a b:List Int}{k:Nat}(h:a[k]? ≠ b[k]?):dif a b (k+1)=dif a b k++[(k:Int)]:=by simp[dif,List.range_succ,h]
theorem Od{a b:List Int}{k:Nat}(h:a[k]? = b[k]?):dif a b (k+1)=dif a b k:=by simp[dif,List.range_succ,h]
theorem Cm(a b:List Int)(k:Nat):(dif a b k).length≤k:=by
 have:=List.length_filter_le (fun i=>a[i]? != b[i]?) (List.range k)
 simpa [dif] using this
theorem Ur{l:List Int}{k:Nat}(h:k<l.length):l[k]? = some (l.getD k 0):=by simp[List.getD,List.getElem?_eq_getElem h]
theorem get_ge{l:List Int}{k:Nat}(h:¬ k<l.length):l[k]? = none:=by simpa using h
theorem Zdp(a b:Nat):(if(b:Int)>(a:Int) then(b:Int) else(a:Int))=((max a b:Nat):Int):=by split<;>omega
theorem Cg{a b:List Int}{k:Nat}(h:k<a.length∨k<b.length)(h2:k<a.length→k<b.length→a.getD k 0≠b.getD k 0):a[k]? ≠ b[k]? := by
 by_cases ha:k<a.length
 ·rw[Ur ha]
  by_cases hb:k<b.length
  ·rw[Ur hb];simpa using h2 ha hb
  ·rw[get_ge hb];simp
 ·rw[get_ge ha,Ur (h.resolve_left ha)];simp
theorem Rp(a b:O0)(ca cb:Nat)(la lb:List Int)(w:World)(ha:Ints w (.slice a la.length ca) la)(hb:Ints w (.slice b lb.length cb) lb)(hla:la.length≤1000000)(hlb:lb.length≤1000000) :
 C0 12 #[.slice a la.length ca,.slice b lb.length cb] w (Qi (fun w' r=>w'.ownsRow w.heap.size 3 1 r (dif la lb (max la.length lb.length)).length ((dif la lb (max la.length lb.length)).map V0)) w):=by
 refine zin 42 Tryz.func12 ?_
 refine xq 17 (congrArg V0 (show(if(lb.length:Int)>(la.length:Int) then(lb.length:Int) else(la.length:Int):Int)=(↑(max la.length lb.length):Int) from Zdp _ _)) ?_
 have hB:=Below.refl w.heap.size w
 refine zl 4 42 (fun zm d4 V=>∃ (k:Nat) (p:O0) (c:Nat),d4=[(0,.slice a la.length ca),(1,.slice b lb.length cb),(4,S0),(5,.slice p ((dif la lb k).length) c),(11,V0 (↑(max la.length lb.length):Int)),(12,V0 (k:Int))]∧zm=max la.length lb.length-((k:Int)).toNat∧B3 w V∧V.ownsRow w.heap.size 3 1 (.slice p (dif la lb k).length c) (dif la lb k).length ((dif la lb k).map V0)∧k≤max la.length lb.length) ⟨0,_,_,rfl,rfl,hB,World.ownsRow_nil _ _ _ _,Nat.zero_le _⟩ ?_
 rintro _ _ W1 ⟨k,p,c,rfl,rfl,a1,o5,hk⟩ J1 b5 r1
 refine xid 6 ((k:Int)<(↑(max la.length lb.length):Int)) (fun d0=>?_) (fun d0=>?_)
 ·refine xd 11 .z ?_
  refine xg (.b [0,1,2,3,4]) [18,19] (decide ((k:Int)≥(la.length:Int))) (fun a7=>?_) (fun a7=>?_)
  ·have a7:=of_decide_eq_true a7
   refine xbs (.r [5,6,7,8,9,10,11,12,13,14,15,16,17,18,19,20] 6) 1 [V0 (k:Int)] 3 fun b4 W4 n4=>?_
   have a5:=bln a1 (Za W1)
   have g4:=n4.ge a5
   have a4:=Zb o5 (Za W1)
   have c6:=Zz a4 n4
   have a2:=Zb a4 n4.below
   have b3:=bln a5 n4.below
   refine xbi 0 fun _ _ _ _ zJ zQ zo zx zy zK=>Zx (m:=1) (news:=[V0 (k:Int)]) (V0 0) 1 8 ((dif la lb (k+1)).length) ((dif la lb (k+1)).map V0) zo Tryz.underlying28 (by kernel_rfl) rfl (by decide) zx a2 zy (n4.blk.sl 1 1 (by decide) (by decide)) rfl (by simp[Value.oneCell']) (by have:=Cm la lb k;unfold maxLen;omega) (by have:=Cm la lb k;omega) b3.size (by rw[Ww (a:=la) (b:=lb) (k:=k) (Cg (by omega) (fun h1 h2=>by first|assumption|omega))];simp) (by rw[Ww (a:=la) (b:=lb) (k:=k) (Cg (by omega) (fun h1 h2=>by first|assumption|omega))];simp) fun e4 e2 W5 a2 d6 d1=>?_
   refine zK _ _ ?_
   refine xw 5 ((k:Int)+1) ?_
   have c1:=b3.trans d1
   exact ze 2 (b5 _ _ _ ⟨k+1,_,_,rfl,rfl,c1,a2,by omega⟩ (by omega))
  have a7:=of_decide_eq_false a7
  refine xg (.b [5,6,7,8,9,10]) [23,24,25] (decide ((k:Int)≥(lb.length:Int))) (fun a8=>?_) (fun a8=>?_)
  ·have a8:=of_decide_eq_true a8
   refine xbs (.r [11,12,13,14,15,16,17,18,19,20] 6) 1 [V0 (k:Int)] 3 fun b7 W7 n7=>?_
   have b2:=bln a1 (Za W1)
   have g7:=n7.ge b2
   have b0:=Zb o5 (Za W1)
   have c5:=Zz b0 n7
   have c0:=Zb b0 n7.below
   have a3:=bln b2 n7.below
   refine xbi 0 fun _ _ _ _ zJ zQ zo zx zy zK=>Zx (m:=1) (news:=[V0 (k:Int)]) (V0 0) 1 8 ((dif la lb (k+1)).length) ((dif la lb (k+1)).map V0) zo Tryz.underlying28 (by kernel_rfl) rfl (by decide) zx c0 zy (n7.blk.sl 1 1 (by decide) (by decide)) rfl (by simp[Value.oneCell']) (by have:=Cm la lb k;unfold maxLen;omega) (by have:=Cm la lb k;omega) a3.size (by rw[Ww (a:=la) (b:=lb) (k:=k) (Cg (by omega) (fun h1 h2=>by first|assumption|omega))];simp) (by rw[Ww (a:=la) (b:=lb) (k:=k) (Cg (by omega) (fun h1 h2=>by first|assumption|omega))];simp) fun d8 e0 W8 o8 e3 c7=>?_
   refine zK _ _ ?_
   refine xw 5 ((k:Int)+1) ?_
   have c3:=a3.trans c7
   exact ze 2 (b5 _ _ _ ⟨k+1,_,_,rfl,rfl,c3,o8,by omega⟩ (by omega))
  have a8:=of_decide_eq_false a8
  refine xx (.e [11,12] 13) _ la.length k 1 (Ints.elem ha (k:=k) (by omega)).1 ?_
  have a0:=bln a1 (Za W1)
  refine xl (.e [] 14) ((Ints.elem (ha.below a0) (k:=k) (by omega)).2) ?_
  refine xx (.e [15,16] 17) _ lb.length k 1 (Ints.elem hb (k:=k) (by omega)).1 ?_
  refine xl (.e [] 18) ((Ints.elem (hb.below a0) (k:=k) (by omega)).2) ?_
  refine xin (.r [19,20] 2) (la.getD k 0) (lb.getD k 0) (fun c9=>?_) (fun c9=>?_)
  ·refine xbs 3 1 [V0 (k:Int)] 3 fun e5 e1 b1=>?_
   have d9:=b1.ge a0
   have a6:=Zb o5 (Za W1)
   have b6:=Zz a6 b1
   have b8:=Zb a6 b1.below
   have a9:=bln a0 b1.below
   refine xbi 0 fun _ _ _ _ zJ zQ zo zx zy zK=>Zx (m:=1) (news:=[V0 (k:Int)]) (V0 0) 1 8 ((dif la lb (k+1)).length) ((dif la lb (k+1)).map V0) zo Tryz.underlying28 (by kernel_rfl) rfl (by decide) zx b8 zy (b1.blk.sl 1 1 (by decide) (by decide)) rfl (by simp[Value.oneCell']) (by have:=Cm la lb k;unfold maxLen;omega) (by have:=Cm la lb k;omega) a9.size (by rw[Ww (a:=la) (b:=lb) (k:=k) (Cg (by omega) (fun h1 h2=>by first|assumption|omega))];simp) (by rw[Ww (a:=la) (b:=lb) (k:=k) (Cg (by omega) (fun h1 h2=>by first|assumption|omega))];simp) fun d2 d5 d7 d3 c8 b9=>?_
   refine zK _ _ ?_
   refine xw 5 ((k:Int)+1) ?_
   have c4:=a9.trans b9
   exact ze 2 (b5 _ _ _ ⟨k+1,_,_,rfl,rfl,c4,d3,by omega⟩ (by omega))
  refine xw 4 ((k:Int)+1) ?_
  refine xv1 2 5 (show(.slice p ((dif la lb k).length) c:Value)=.slice p ((dif la lb (k+1)).length) c from by rw[Od (a:=la) (b:=lb) (k:=k) (by rw[Ur (by omega),Ur (by omega)];congr 1)]) ?_
  have c2:=Zb o5 (Za W1)
  have e:=Od (a:=la) (b:=lb) (k:=k) (by rw[Ur (by omega),Ur (by omega)];congr 1)
  exact ze 0 (b5 _ _ _ ⟨k+1,_,_,rfl,rfl,a0,by rw[Od (a:=la) (b:=lb) (k:=k) (by rw[Ur (by omega),Ur (by omega)];congr 1)];exact c2,by omega⟩ (by omega))
 exact xe 12 (.slice p ((dif la lb k).length) c) ⟨_,rfl,a1,by rw[show max la.length lb.length=k by omega];exact o5⟩
end Go.Proofs.YtgphgaehfdfjjaaGreatDoor
