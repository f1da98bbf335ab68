/- Package reach: Part, Count. -/
import Derived.Test.YtlmaglneeaecdaaGreatDoorMg4
namespace Go.Proofs.YtlmaglneeaecdaaGreatDoor
set_option maxHeartbeats 8000000
set_option maxRecDepth 100000
open Go.RowKit Go.Extern.Stop Go.Stop Go.Extern
set_option linter.unusedVariables false
attribute [local irreducible] wpList wpAnyH Code.wp Oper.wp Go
theorem zerosV(n:Nat):Hk (Value.int .i64 0).cells.toList n=(List.replicate n (0:Nat)).map nv:=by
 rw[show(Value.int .i64 0).cells.toList=[Value.int .i64 0] from rfl,Hk,List.map_replicate]
 induction n with
 | zero=>rfl
 | succ n ih=>rw[List.replicate_succ,List.flatten_cons,ih,List.replicate_succ];rfl
theorem nv_one(cs:List Nat):∀ u∈cs.map nv,u.oneCell'=true:=fun u hu=>by obtain⟨y,_,rfl⟩:=List.mem_map.1 hu;rfl
theorem refs_NewO(n:Int)(w:World)(h:n<0∨65536<n) :
 Calls Tryz.prog 47 #[.int .i64 n] w (Ret (.tuple #[.pointer none,.int .i64 2]) w):=by
 refine zin 14 Tryz.func47 ?_
 refine xg 12 [5,6] (decide (n<(0:Int))) (fun hc1=>?_) (fun hc1=>?_)
 ·have hc1:=of_decide_eq_true hc1
  exact xe 14 (.tuple #[.pointer none,.int .i64 2]) ⟨rfl,(Below.refl w.heap.size _)⟩
 have hc1:=of_decide_eq_false hc1
 refine xk 5 (show(decide (n>(65536:Int)):Bool)=true from decide_eq_true (by omega)) ?_
 exact xe 8 (.tuple #[.pointer none,.int .i64 2]) ⟨rfl,(Below.refl w.heap.size _)⟩
theorem Iy(n:Nat)(w:World)(h:n≤65536) :
 Calls Tryz.prog 47 #[.int .i64 (↑n:Int)] w (Yz (fun w' r=>∃ br g,r=.tuple #[.pointer (some ⟨br,0,none⟩),.int .i64 0]∧w.heap.size≤br∧Blk w' br [.slice (some ⟨g,0,none⟩) n n] 206∧w'.ownsRow w.heap.size 3 1 (.slice (some ⟨g,0,none⟩) n n) n ((List.replicate n (0:Nat)).map nv)) w):=by
 refine zin 14 Tryz.func47 ?_
 refine xgk 12 [5,6] (show(decide ((↑n:Int)<(0:Int)):Bool)=false from decide_eq_false (by omega)) ?_
 refine xk 5 (show(decide ((↑n:Int)>(65536:Int)):Bool)=false from decide_eq_false (by omega)) ?_
 refine xmk 5 fun _ _ _ _ zJ zQ zo zx zy zK=>Vm n (.int .i64 0) 1 8 ((List.replicate n (0:Nat)).map nv) zo zx zy Tryz.underlying31 (by kernel_rfl) rfl (by omega) (by omega) ((zerosV n)) fun b2 W2 n2=>?_
 refine zK _ _ ?_
 refine xa 1 [.slice (some ⟨b2,0,none⟩) n n] 206 fun b3 W3 n3=>?_
 have o2:=Zb (Zw (size:=1) (n:=n) n2.blk (n2.ge (Below.refl w.heap.size _)) (by rw[List.length_map,List.length_replicate,Nat.mul_one]) (by unfold maxLen;omega)) n3.below
 have hB:=bln n2.below n3.below
 have g3:=n3.ge n2.below
 exact xe 5 (.tuple #[.pointer (some ⟨b3,0,none⟩),.int .i64 0]) ⟨_,rfl,hB,_,_,rfl,g3,n3.blk,o2⟩
def RNewP(n:Int)(w:World)(e:Ending)(w':World):Prop :=
 ((n<0∨65536<n)∧e=.returned (.tuple #[.pointer none,.int .i64 2])∧Below w.heap.size w w') ∨
 ((0≤n∧n≤65536)∧∃ br g,e=.returned (.tuple #[.pointer (some ⟨br,0,none⟩),.int .i64 0])∧Below w.heap.size w w'∧w.heap.size≤br∧Blk w' br [.slice (some ⟨g,0,none⟩) n.toNat n.toNat] 206∧w'.ownsRow w.heap.size 3 1 (.slice (some ⟨g,0,none⟩) n.toNat n.toNat) n.toNat ((List.replicate n.toNat (0:Nat)).map nv))
theorem refs_New(n:Int)(w:World):Calls Tryz.prog 47 #[.int .i64 n] w (RNewP n w):=by
 by_cases h:n<0∨65536<n
 ·refine(refs_NewO n w h).mono ?_
  rintro e W ⟨rfl,hb⟩
  exact .inl ⟨h,rfl,hb⟩
 ·obtain⟨m,rfl⟩:∃ m:Nat,n=(m:Int):=⟨n.toNat,by omega⟩
  refine(Iy m w (by omega)).mono ?_
  rintro e W ⟨_,rfl,hb,br,g,rfl,hg,kb,ho⟩
  exact .inr ⟨by omega,br,g,rfl,hb,hg,kb,ho⟩
abbrev Rt:=Int×Int
def Jf(x:Rt):List Value:=[.int .i64 x.1,.int .i64 x.2]
theorem Ye(x:Rt):(Jf x).length=2:=rfl
def Yt(x:Rt):Rx:=(x.1,x.2,0)
def Jq(R:List Rt)(i:Nat):Prop:=∀ j,j<i→1≤(R.getD j (0,0)).2∧(R.getD j (0,0)).2≤5
theorem Jq.next{R:List Rt}{i:Nat}(h:Jq R i)(h2:1≤(R.getD i (0,0)).2∧(R.getD i (0,0)).2≤5):Jq R (i+1):=fun j hj=>by
 by_cases e:j=i
 ·subst e;exact h2
 ·exact h j (by omega)
open Classical in
noncomputable def partO (l:List UInt8) (blocks:Int) (R:List Rt):Cx :=
 if ¬ Jq R R.length∨blocks<0∨14400<blocks then([],[],1) else Xz l (List.replicate blocks.toNat 0) (R.map Yt)
theorem Yi{l:List UInt8}{blocks:Int}{R:List Rt}(h:¬ Jq R R.length∨blocks<0∨14400<blocks):partO l blocks R=([],[],1):=if_pos h
theorem Bq{l:List UInt8}{blocks:Int}{R:List Rt}(h:Jq R R.length)(h1:0≤blocks)(h2:blocks≤14400):partO l blocks R=Xz l (List.replicate blocks.toNat 0) (R.map Yt):=by
 unfold partO;rw[if_neg (fun q=>by rcases q with q|q|q;exact q h;omega;omega)]
theorem rt_take{L:List Rt}{i:Nat}(hi:i<L.length):(L.take (i+1)).map Yt=(L.take i).map Yt++[Yt (L.getD i (0,0))]:=by
 rw[List.take_succ_eq_append_getElem hi,List.map_append,show L.getD i (0,0)=L[i] from by simp[List.getD,hi]];rfl
theorem rt_split{L:List Rt}{i:Nat}(hi:i<L.length):L.map Yt=(L.take i).map Yt++Yt (L.getD i (0,0))::(L.drop (i+1)).map Yt:=by
 rw[show L.getD i (0,0)=L[i] from by simp[List.getD,hi]]
 rw[←List.map_cons,←List.map_append,←List.drop_eq_getElem_cons hi,List.take_append_drop]
def CntsP(O:Cx)(w:World)(e:Ending)(w':World):Prop :=
 (O.2.2≠0∧∃ ty v,e=.returned (.tuple #[.slice none 0 0,.iface ty v])∧Below w.heap.size w w'∧Kk w' (O.2.1.map some) (some O.2.2) (.iface ty v)) ∨
 (O.2.2=0∧∃ p c,e=.returned (.tuple #[.slice p O.1.length c,.nilIface])∧Below w.heap.size w w'∧w'.ownsRow w.heap.size 3 1 (.slice p O.1.length c) O.1.length (O.1.map nv))
theorem Qd{O:Cx}{c:List Nat}{bl:List Int}{er:Int}{w W:World}{ty:TypeId}{v:Value}(h:O=(c,bl,er))(her:er≠0)(hb:Below w.heap.size w W)(hv:Kk W (bl.map some) (some er) (.iface ty v)):CntsP O w (.returned (.tuple #[.slice none 0 0,.iface ty v])) W:=by
 subst h;exact .inl ⟨her,ty,v,rfl,hb,hv⟩
theorem cnts_ok{O:Cx}{c:List Nat}{m d:Nat}{p:Option Addr}{w W:World}(h:O.2.2=0)(h1:O.1=c)(hm:c.length=m)(hb:Below w.heap.size w W)(ho:W.ownsRow w.heap.size 3 1 (.slice p m d) m (c.map nv)):CntsP O w (.returned (.tuple #[.slice p m d,.nilIface])) W:=by
 subst h1 hm;exact .inr ⟨h,p,d,rfl,hb,ho⟩
theorem Sc(n:Nat):phi (List.replicate n 0)≤2001*n:=by
 unfold phi zer
 rw[List.count_replicate_self,List.sum_replicate_nat];omega
theorem refs_own(br n:Nat)(p:Option Addr)(w:World)(kr:Blk w br [.slice p n n] 206) :
 Calls Tryz.prog 96 #[.pointer (some ⟨br,0,none⟩)] w (Ret (.slice p n n) w):=by
 refine zin 9 Tryz.func96 ?_
 refine xb 20 0 kr ?_
 exact xe 4 (.slice p n n) ⟨rfl,(Below.refl w.heap.size _)⟩
theorem Tt(br g n B0:Nat)(cs:List Nat)(w:World)(kr:Blk w br [.slice (some ⟨g,0,none⟩) n n] 206)(hc:w.ownsRow B0 3 1 (.slice (some ⟨g,0,none⟩) n n) n (cs.map nv))(hn:cs.length=n)(hn2:n≤100000) :
 Calls Tryz.prog 50 #[.pointer (some ⟨br,0,none⟩)] w (Yz (fun w' r=>∃ q c2,r=.slice q n c2∧w'.ownsRow w.heap.size 3 1 (.slice q n c2) n (cs.map nv)) w):=by
 refine zin 6 Tryz.func50 ?_
 refine xr 8 (args:=#[.pointer (some ⟨br,0,none⟩)]) (refs_own br n _ _ kr) fun W1 hb1=>?_
 have hc'1:=Zb hc hb1
 refine xc 0 (args:=#[.slice (some ⟨g,0,none⟩) n n]) (Np ⟨g,0,none⟩ n n (cs.map nv) _ (Ze hc'1) (by rw[List.length_map];exact hn) (nv_one _) (by omega)) ?_
 rintro _ W2 ⟨_,rfl,hb2,q,c2,rfl,hq⟩
 have hq'1:=Zd hq hb1.size
 have hB:=bln hb1 hb2
 exact xe 4 (.slice q n c2) ⟨_,rfl,hB,_,_,rfl,hq'1⟩
theorem widG_no{t:Int}{b:Bool}(h:¬ (1≤t∧t≤5)):(Ar t b:Int)=0:=by unfold Ar;rw[if_neg h];rfl
theorem Sy{t:Int}{b:Bool}(h:(Ar t b:Int)=0):¬ (1≤t∧t≤5):=fun q=>by
 unfold Ar at h
 rw[if_pos q] at h
 unfold Br at h
 split at h<;>(try split at h)<;>(try split at h)<;>(try split at h)<;>omega
theorem Fm(l:List UInt8)(m:Nat)(L:List Rx):Xz l (List.replicate m 0) L=Qr (Zu l (m+1)) (List.replicate m 0) L:=by unfold Xz;rw[List.length_replicate]
theorem Zgi(Bi b:Nat)(pi:Option Addr)(ni ci:Nat)(l:List UInt8)(blocks:Int)(pr:Option Addr)(cr:Nat)(R:List Rt)(w:World)(hI:ImgR Bi b pi ni ci l w)(hR:Sts Jf w (.slice pr R.length cr) R)(hRl:R.length≤100000) :
 Calls Tryz.prog 22 #[.pointer (some ⟨b,0,none⟩),.int .i64 blocks,.slice pr R.length cr] w (CntsP (partO l blocks R) w):=by
 refine zin 65 Tryz.func22 ?_
 have hB:=Below.refl w.heap.size w
 refine zl 15 65 (fun zm zkv V=>∃ (i:Nat),zkv=[(0,.pointer (some ⟨b,0,none⟩)),(1,.int .i64 blocks),(2,.slice pr R.length cr),(16,.slice pr R.length cr),(17,.int .i64 (↑R.length:Int)),(18,.int .i64 (↑i:Int))]∧zm=R.length-((↑i:Int)).toNat∧Below w.heap.size w V∧i≤R.length∧Jq R i) ⟨0,rfl,rfl,hB,Nat.zero_le _,fun j hj=>absurd hj (by omega)⟩ ?_
 rintro _ _ W1 ⟨i,rfl,rfl,hB_1,hi,hok⟩ J1 hJ1 r1
 refine xid 6 ((↑i:Int)<(↑R.length:Int)) (fun hc2=>?_) (fun hc2=>?_)
 ·refine xx 6 _ R.length i 2 (Sts.cell (f:=Jf) hR Ye (0,0) (k:=i) (i:=0) (by omega) rfl).1 ?_
  refine xlv 0 (Sts.rp (k:=i) (hR.below hB_1) Ye (0,0) (by omega) (by decide)) ?_
  refine xa 0 [.int .i64 0,.int .i64 0] 62 fun b3 W3 n3=>?_
  have g3:=n3.ge hB_1
  refine xsv 0 n3.blk [.int .i64 ((R.getD i (0,0)).1),.int .i64 ((R.getD i (0,0)).2)] fun W4 u4 k4=>?_
  refine xb 5 1 k4 ?_
  refine xr 0 (args:=#[.int .i64 ((R.getD i (0,0)).2),.bool true]) (Gb (R.getD i (0,0)).2 true _) fun W5 hb5=>?_
  refine xie 3 (↑(Ar (R.getD i (0,0)).2 true):Int) (0:Int) (fun hc6=>?_) (fun hc6=>?_)
  ·have hB'1:=bln (u4.below (bln hB_1 n3.below) g3) hb5
   refine xe 13 (.tuple #[.slice none 0 0,.iface 91 (.int .i64 1)]) ?_
   first|exact Qd (bl:=[]) (Yi (.inr (by omega))) (by decide) hB'1 rfl|exact Qd (bl:=[]) (Yi (.inl (fun q=>Sy (by omega) (q i (by omega))))) (by decide) hB'1 rfl
  refine xwm 4 ((↑i:Int)+1) (↑(i+1):Int) ?_
  have hB'2:=bln (u4.below (bln hB_1 n3.below) g3) hb5
  exact ze 2 (hJ1 _ _ _ ⟨i+1,rfl,rfl,hB'2,by omega,hok.next (by by_cases q:1≤(R.getD i (0,0)).2∧(R.getD i (0,0)).2≤5;exact q;exfalso;have h9:=widG_no (b:=true) q;omega)⟩ (by omega))
 have hii:i=R.length:=by omega
 have hok2:Jq R R.length:=hii▸hok
 have szb:=hB_1.size
 refine xc 8 (args:=#[.int .i64 blocks]) (refs_New blocks _) ?_
 rintro e W7 hq7
 rcases hq7 with ⟨hbl,rfl,hb7⟩|⟨hbl,br,g,rfl,hb7,gbr,kbr,hc⟩
 ·have hB'3:=bln hB_1 hb7
  refine xe 28 (.tuple #[.slice none 0 0,.iface 91 (.int .i64 1)]) ?_
  first|exact Qd (bl:=[]) (Yi (.inr (by omega))) (by decide) hB'3 rfl|exact Qd (bl:=[]) (Yi (.inl (fun q=>Sy (by omega) (q i (by omega))))) (by decide) hB'3 rfl
 replace gbr:=Nat.le_trans szb gbr
 refine xid 18 (blocks>(14400:Int)) (fun hc8=>?_) (fun hc8=>?_)
 ·have hB'4:=bln hB_1 hb7
  refine xe 9 (.tuple #[.slice none 0 0,.iface 91 (.int .i64 1)]) ?_
  first|exact Qd (bl:=[]) (Yi (.inr (by omega))) (by decide) hB'4 rfl|exact Qd (bl:=[]) (Yi (.inl (fun q=>Sy (by omega) (q i (by omega))))) (by decide) hB'4 rfl
 refine xa 7 [.pointer (some ⟨b,0,none⟩),.pointer (some ⟨br,0,none⟩)] 134 fun b9 W9 n9=>?_
 have hB'5:=bln hB_1 hb7
 have g9:=n9.ge hB'5
 have hc'1:=Zb (Zd hc hB_1.size) n9.below
 have hB'6:=bln hB'5 n9.below
 have kbr'1:=kbr.below n9.below
 refine zl 12 65 (fun zm zkv V=>∃ (j:Nat) (c:List Nat),zkv=[(12,.pointer (some ⟨b9,0,none⟩)),(44,.slice pr R.length cr),(45,.int .i64 (↑R.length:Int)),(46,.int .i64 (↑j:Int))]∧zm=R.length-((↑j:Int)).toNat∧Below w.heap.size w V∧Blk V br ([.slice (some ⟨g,0,none⟩) blocks.toNat blocks.toNat]) 206∧Blk V b9 ([.pointer (some ⟨b,0,none⟩),.pointer (some ⟨br,0,none⟩)]) 134∧V.ownsRow w.heap.size 3 1 (.slice (some ⟨g,0,none⟩) blocks.toNat blocks.toNat) blocks.toNat (c.map nv)∧j≤R.length∧Yf (Zu l (blocks.toNat+1)) (List.replicate blocks.toNat 0) ((R.take j).map Yt) c) ⟨0,_,rfl,rfl,hB'6,kbr'1,n9.blk,hc'1,Nat.zero_le _,Yf.nil _ _⟩ ?_
 rintro _ _ W10 ⟨j,c,rfl,rfl,hB_10,k10_br,k10_b9,hc,hj,hf⟩ J10 hJ10 r10
 obtain⟨hw1,hw2,hw3⟩:=hf.well
 rw[List.length_map,List.length_take] at hw3
 rw[List.length_replicate] at hw1
 have hw4:=Nat.min_le_left j R.length
 have hw5:=zer_le (List.replicate blocks.toNat 0)
 rw[List.length_replicate] at hw5
 have hw6:=Sc blocks.toNat
 refine xid 6 ((↑j:Int)<(↑R.length:Int)) (fun hc11=>?_) (fun hc11=>?_)
 ·refine xx 6 _ R.length j 2 (Sts.cell (f:=Jf) hR Ye (0,0) (k:=j) (i:=0) (by omega) rfl).1 ?_
  refine xlv 0 (Sts.rp (k:=j) (hR.below hB_10) Ye (0,0) (by omega) (by decide)) ?_
  refine xa 0 [.int .i64 0,.int .i64 0] 62 fun b12 W12 n12=>?_
  have g12:=n12.ge hB_10
  refine xsv 0 n12.blk [.int .i64 ((R.getD j (0,0)).1),.int .i64 ((R.getD j (0,0)).2)] fun W13 u13 k13=>?_
  refine xb 6 0 k13 ?_
  refine xb 1 1 k13 ?_
  have k10_b9'1:=u13.blkT (k10_b9.below n12.below) n12.blk (by decide)
  have k10_br'1:=u13.blkT (k10_br.below n12.below) n12.blk (by decide)
  have hc'2:=u13.own2 (Zb hc n12.below) n12.blk (by decide)
  have hB'7:=u13.below (bln hB_10 n12.below) g12
  refine xc 0 (args:=#[.pointer (some ⟨b9,0,none⟩),.int .i64 ((R.getD j (0,0)).1),.int .i64 ((R.getD j (0,0)).2)]) ((Mx (blocks.toNat+1) w.heap.size Bi b b9 br pi ni ci l g blocks.toNat).node (cs:=c) (no:=(R.getD j (0,0)).1) (t:=(R.getD j (0,0)).2) ⟨hI.below hB'7,k10_b9'1,k10_br'1,hc'2,(by omega),hB'7.size⟩ (by omega) (by omega) (hok2 j (by omega)).1 (hok2 j (by omega)).2) ?_
  rintro e W14 hq14
  rcases hq14 with ⟨hre,tyr,vr,rfl,hb14,hO14,hv9⟩|⟨hre,rfl,hb14,hO14,hc⟩
  ·have hB'8:=hB'7.trans hb14
   refine xe 23 (.tuple #[.slice none 0 0,.iface tyr (vr)]) ?_
   have e9:=hf.bad (x:=Yt (R.getD j (0,0))) hre ((R.drop (j+1)).map Yt)
   rw[←rt_split (by omega)] at e9
   exact Qd (((Bq hok2 (by omega) (by omega)).trans (Fm _ _ _)).trans e9) hre hB'8 hv9
  refine xwm 14 ((↑j:Int)+1) (↑(j+1):Int) ?_
  have hB'9:=hB'7.trans hb14
  have k10_br'2:=k10_br'1.only hO14 (by decide)
  have k10_b9'2:=k10_b9'1.only hO14 (by decide)
  exact ze 2 (hJ10 _ _ _ ⟨j+1,_,rfl,rfl,hB'9,k10_br'2,k10_b9'2,hc,by omega,(by have q:=hf.next (x:=Yt (R.getD j (0,0))) hre;rwa [←rt_take (by omega)] at q)⟩ (by omega))
 refine xb 10 1 k10_b9 ?_
 refine xc 0 (args:=#[.pointer (some ⟨br,0,none⟩)]) (Tt br g blocks.toNat w.heap.size c _ k10_br hc (by omega) (by omega)) ?_
 rintro _ W15 ⟨_,rfl,hb15,q9,d9,rfl,hq9⟩
 have hq9'1:=Zd hq9 hB_10.size
 have hB'10:=bln hB_10 hb15
 refine xe 5 (.tuple #[.slice q9 blocks.toNat d9,.nilIface]) ?_
 obtain rfl:j=R.length:=by omega
 rw[List.take_length] at hf
 have e9:=(Bq hok2 (by omega) (by omega)).trans (Fm l blocks.toNat (R.map Yt))
 exact cnts_ok (by rw[e9];exact hf.1) (by rw[e9];exact hf.2) (by omega) hB'10 hq9'1
end Go.Proofs.YtlmaglneeaecdaaGreatDoor
namespace Go.Proofs.YtlmaglneeaecdaaGreatDoor
set_option maxHeartbeats 8000000
set_option maxRecDepth 100000
open Go.RowKit Go.Extern.Stop Go.Stop Go.Extern
set_option linter.unusedVariables false
attribute [local irreducible] wpList wpAnyH Code.wp Oper.wp Go
def Zb7(s:Sup)(z:Int):Bool:=(((((((((((true&&decide ((0:Int)≤s.tx∧s.tx≤2147483647))&&decide ((0:Int)≤s.time∧s.time≤16777215))&&decide ((1:Int)≤s.unit∧s.unit≤65536))&&decide ((0:Int)≤s.data∧s.data≤65536))&&decide ((2:Int)≤s.blocks∧s.blocks≤14400))&&decide ((1:Int)≤s.top∧s.top≤z))&&decide ((1:Int)≤s.details∧s.details≤z))&&decide ((1:Int)≤s.dslots∧s.dslots≤z))&&decide ((1:Int)≤s.dover∧s.dover≤z))&&decide ((1:Int)≤s.mindex∧s.mindex≤z))&&decide ((1:Int)≤s.mover∧s.mover≤z))
theorem rightZ_eq{s:Sup}{z:Int}(h:IntKind.i64.wrap (s.blocks-1)=z):Zb7 s z=Gn s:=by
 by_cases hb:(2:Int)≤s.blocks∧s.blocks≤14400
 ·have e:z=s.blocks-1:=by rw[←h];exact IntWalk.i64_in _ (by omega)
  subst e;rfl
 ·have hd:decide ((2:Int)≤s.blocks∧s.blocks≤14400)=false:=decide_eq_false hb
  unfold Zb7 Gn
  rw[hd];simp
theorem Zg0{s:Sup}(h:Gn s=true):2≤s.blocks∧s.blocks≤14400:=by
 by_cases hb:(2:Int)≤s.blocks∧s.blocks≤14400
 ·exact hb
 ·have hd:decide ((2:Int)≤s.blocks∧s.blocks≤14400)=false:=decide_eq_false hb
  unfold Gn at h
  rw[hd] at h;simp at h
theorem Dw(B bs bo:Nat)(s:Sup)(w:World)(hBw:B≤w.heap.size)(hBo:B≤bo)(ks:Blk w bs [.int .i64 s.tx,.int .i64 s.time,.int .i64 s.unit,.int .i64 s.data,.int .i64 s.blocks,.int .i64 s.top,.int .i64 s.details,.int .i64 s.dslots,.int .i64 s.dover,.int .i64 s.mindex,.int .i64 s.mover] 43)(ko:Blk w bo [.bool true] 4) :
 Calls Tryz.prog 93 #[.pointer (some ⟨bs,0,none⟩),.func (.func 94) #[] #[.pointer (some ⟨bo,0,none⟩)]] w ((fun e w'=>∃ u,e=.returned u∧Below B w w'∧Zh [4] w w'∧Blk w' bo [.bool (Zb7 s (IntKind.i64.wrap (s.blocks-1)))] 4)):=by
 refine zin 64 Tryz.func93 ?_
 refine xc 6 (args:=#[.pointer (some ⟨bs,0,none⟩),.int .i64 0,.int .i64 2147483647,.pointer (some ⟨bo,0,none⟩)]) (Yr B bs bo 0 _ s.tx 0 2147483647 true _ (Nat.le_trans hBw (Below.refl B _).size) hBo ks rfl ko) ?_
 rintro _ W1 ⟨u1,rfl,hb1,hO1,kO1⟩
 have ks'1:=ks.only hO1 (by decide)
 refine xc 8 (args:=#[.pointer (some ⟨bs,1,none⟩),.int .i64 0,.int .i64 16777215,.pointer (some ⟨bo,0,none⟩)]) (Yr B bs bo 1 _ s.time 0 16777215 (true&&decide ((0:Int)≤s.tx∧s.tx≤2147483647)) _ (Nat.le_trans hBw hb1.size) hBo ks'1 rfl kO1) ?_
 rintro _ W2 ⟨u2,rfl,hb2,hO2,kO2⟩
 have hB'1:=hb1.trans hb2
 have ks'2:=ks'1.only hO2 (by decide)
 refine xc 8 (args:=#[.pointer (some ⟨bs,2,none⟩),.int .i64 1,.int .i64 65536,.pointer (some ⟨bo,0,none⟩)]) (Yr B bs bo 2 _ s.unit 1 65536 ((true&&decide ((0:Int)≤s.tx∧s.tx≤2147483647))&&decide ((0:Int)≤s.time∧s.time≤16777215)) _ (Nat.le_trans hBw hB'1.size) hBo ks'2 rfl kO2) ?_
 rintro _ W3 ⟨u3,rfl,hb3,hO3,kO3⟩
 have hB'2:=hB'1.trans hb3
 have ks'3:=ks'2.only hO3 (by decide)
 refine xc 8 (args:=#[.pointer (some ⟨bs,3,none⟩),.int .i64 0,.int .i64 65536,.pointer (some ⟨bo,0,none⟩)]) (Yr B bs bo 3 _ s.data 0 65536 (((true&&decide ((0:Int)≤s.tx∧s.tx≤2147483647))&&decide ((0:Int)≤s.time∧s.time≤16777215))&&decide ((1:Int)≤s.unit∧s.unit≤65536)) _ (Nat.le_trans hBw hB'2.size) hBo ks'3 rfl kO3) ?_
 rintro _ W4 ⟨u4,rfl,hb4,hO4,kO4⟩
 have hB'3:=hB'2.trans hb4
 have ks'4:=ks'3.only hO4 (by decide)
 refine xc 8 (args:=#[.pointer (some ⟨bs,4,none⟩),.int .i64 2,.int .i64 14400,.pointer (some ⟨bo,0,none⟩)]) (Yr B bs bo 4 _ s.blocks 2 14400 ((((true&&decide ((0:Int)≤s.tx∧s.tx≤2147483647))&&decide ((0:Int)≤s.time∧s.time≤16777215))&&decide ((1:Int)≤s.unit∧s.unit≤65536))&&decide ((0:Int)≤s.data∧s.data≤65536)) _ (Nat.le_trans hBw hB'3.size) hBo ks'4 rfl kO4) ?_
 rintro _ W5 ⟨u5,rfl,hb5,hO5,kO5⟩
 refine xd 3 .z ?_
 refine xbs (.o [0,1,2,3,4,5,6,7,8,9,10,11,12,13,14,15,16,17,20] 18) 6 [.pointer (some ⟨bs,5,none⟩),.pointer (some ⟨bs,6,none⟩),.pointer (some ⟨bs,7,none⟩),.pointer (some ⟨bs,8,none⟩),.pointer (some ⟨bs,9,none⟩),.pointer (some ⟨bs,10,none⟩)] 203 fun b6 W6 n6=>?_
 have hB'4:=blB (hB'3.trans hb5) hBw (Za W5)
 have g6:=n6.ge0 hB'4
 refine xu (.r [19] 3) 7 ?_
 refine xb 14 0 n6.blk ?_
 have ks'5:=((ks'4.only hO5 (by decide)).below (Za W5)).below n6.below
 refine xb 9 4 ks'5 ?_
 have hB'5:=blB hB'4 hBw n6.below
 have kO5'1:=(kO5.below (Za W5)).below n6.below
 refine xc 1 (args:=#[.pointer (some ⟨bs,5,none⟩),.int .i64 1,.int .i64 (IntKind.i64.wrap (s.blocks-(1:Int))),.pointer (some ⟨bo,0,none⟩)]) (Yr B bs bo 5 _ s.top 1 (IntKind.i64.wrap (s.blocks-(1:Int))) (((((true&&decide ((0:Int)≤s.tx∧s.tx≤2147483647))&&decide ((0:Int)≤s.time∧s.time≤16777215))&&decide ((1:Int)≤s.unit∧s.unit≤65536))&&decide ((0:Int)≤s.data∧s.data≤65536))&&decide ((2:Int)≤s.blocks∧s.blocks≤14400)) _ (Nat.le_trans hBw hB'5.size) hBo ks'5 rfl kO5'1) ?_
 rintro _ W7 ⟨u7,rfl,hb7,hO7,kO7⟩
 have k6'1:=n6.blk.only hO7 (by decide)
 refine xb 22 1 k6'1 ?_
 have ks'6:=ks'5.only hO7 (by decide)
 refine xb 9 4 ks'6 ?_
 have hB'6:=hB'5.trans hb7
 refine xc 1 (args:=#[.pointer (some ⟨bs,6,none⟩),.int .i64 1,.int .i64 (IntKind.i64.wrap (s.blocks-(1:Int))),.pointer (some ⟨bo,0,none⟩)]) (Yr B bs bo 6 _ s.details 1 (IntKind.i64.wrap (s.blocks-(1:Int))) ((((((true&&decide ((0:Int)≤s.tx∧s.tx≤2147483647))&&decide ((0:Int)≤s.time∧s.time≤16777215))&&decide ((1:Int)≤s.unit∧s.unit≤65536))&&decide ((0:Int)≤s.data∧s.data≤65536))&&decide ((2:Int)≤s.blocks∧s.blocks≤14400))&&decide ((1:Int)≤s.top∧s.top≤IntKind.i64.wrap (s.blocks-1))) _ (Nat.le_trans hBw hB'6.size) hBo ks'6 rfl kO7) ?_
 rintro _ W8 ⟨u8,rfl,hb8,hO8,kO8⟩
 have k6'2:=k6'1.only hO8 (by decide)
 refine xb 22 2 k6'2 ?_
 have ks'7:=ks'6.only hO8 (by decide)
 refine xb 9 4 ks'7 ?_
 have hB'7:=hB'6.trans hb8
 refine xc 1 (args:=#[.pointer (some ⟨bs,7,none⟩),.int .i64 1,.int .i64 (IntKind.i64.wrap (s.blocks-(1:Int))),.pointer (some ⟨bo,0,none⟩)]) (Yr B bs bo 7 _ s.dslots 1 (IntKind.i64.wrap (s.blocks-(1:Int))) (((((((true&&decide ((0:Int)≤s.tx∧s.tx≤2147483647))&&decide ((0:Int)≤s.time∧s.time≤16777215))&&decide ((1:Int)≤s.unit∧s.unit≤65536))&&decide ((0:Int)≤s.data∧s.data≤65536))&&decide ((2:Int)≤s.blocks∧s.blocks≤14400))&&decide ((1:Int)≤s.top∧s.top≤IntKind.i64.wrap (s.blocks-1)))&&decide ((1:Int)≤s.details∧s.details≤IntKind.i64.wrap (s.blocks-1))) _ (Nat.le_trans hBw hB'7.size) hBo ks'7 rfl kO8) ?_
 rintro _ W9 ⟨u9,rfl,hb9,hO9,kO9⟩
 have k6'3:=k6'2.only hO9 (by decide)
 refine xb 22 3 k6'3 ?_
 have ks'8:=ks'7.only hO9 (by decide)
 refine xb 9 4 ks'8 ?_
 have hB'8:=hB'7.trans hb9
 refine xc 1 (args:=#[.pointer (some ⟨bs,8,none⟩),.int .i64 1,.int .i64 (IntKind.i64.wrap (s.blocks-(1:Int))),.pointer (some ⟨bo,0,none⟩)]) (Yr B bs bo 8 _ s.dover 1 (IntKind.i64.wrap (s.blocks-(1:Int))) ((((((((true&&decide ((0:Int)≤s.tx∧s.tx≤2147483647))&&decide ((0:Int)≤s.time∧s.time≤16777215))&&decide ((1:Int)≤s.unit∧s.unit≤65536))&&decide ((0:Int)≤s.data∧s.data≤65536))&&decide ((2:Int)≤s.blocks∧s.blocks≤14400))&&decide ((1:Int)≤s.top∧s.top≤IntKind.i64.wrap (s.blocks-1)))&&decide ((1:Int)≤s.details∧s.details≤IntKind.i64.wrap (s.blocks-1)))&&decide ((1:Int)≤s.dslots∧s.dslots≤IntKind.i64.wrap (s.blocks-1))) _ (Nat.le_trans hBw hB'8.size) hBo ks'8 rfl kO9) ?_
 rintro _ W10 ⟨u10,rfl,hb10,hO10,kO10⟩
 have k6'4:=k6'3.only hO10 (by decide)
 refine xb 22 4 k6'4 ?_
 have ks'9:=ks'8.only hO10 (by decide)
 refine xb 9 4 ks'9 ?_
 have hB'9:=hB'8.trans hb10
 refine xc 1 (args:=#[.pointer (some ⟨bs,9,none⟩),.int .i64 1,.int .i64 (IntKind.i64.wrap (s.blocks-(1:Int))),.pointer (some ⟨bo,0,none⟩)]) (Yr B bs bo 9 _ s.mindex 1 (IntKind.i64.wrap (s.blocks-(1:Int))) (((((((((true&&decide ((0:Int)≤s.tx∧s.tx≤2147483647))&&decide ((0:Int)≤s.time∧s.time≤16777215))&&decide ((1:Int)≤s.unit∧s.unit≤65536))&&decide ((0:Int)≤s.data∧s.data≤65536))&&decide ((2:Int)≤s.blocks∧s.blocks≤14400))&&decide ((1:Int)≤s.top∧s.top≤IntKind.i64.wrap (s.blocks-1)))&&decide ((1:Int)≤s.details∧s.details≤IntKind.i64.wrap (s.blocks-1)))&&decide ((1:Int)≤s.dslots∧s.dslots≤IntKind.i64.wrap (s.blocks-1)))&&decide ((1:Int)≤s.dover∧s.dover≤IntKind.i64.wrap (s.blocks-1))) _ (Nat.le_trans hBw hB'9.size) hBo ks'9 rfl kO10) ?_
 rintro _ W11 ⟨u11,rfl,hb11,hO11,kO11⟩
 have k6'5:=k6'4.only hO11 (by decide)
 refine xb 22 5 k6'5 ?_
 have ks'10:=ks'9.only hO11 (by decide)
 refine xb 9 4 ks'10 ?_
 have hB'10:=hB'9.trans hb11
 refine xc 1 (args:=#[.pointer (some ⟨bs,10,none⟩),.int .i64 1,.int .i64 (IntKind.i64.wrap (s.blocks-(1:Int))),.pointer (some ⟨bo,0,none⟩)]) (Yr B bs bo 10 _ s.mover 1 (IntKind.i64.wrap (s.blocks-(1:Int))) ((((((((((true&&decide ((0:Int)≤s.tx∧s.tx≤2147483647))&&decide ((0:Int)≤s.time∧s.time≤16777215))&&decide ((1:Int)≤s.unit∧s.unit≤65536))&&decide ((0:Int)≤s.data∧s.data≤65536))&&decide ((2:Int)≤s.blocks∧s.blocks≤14400))&&decide ((1:Int)≤s.top∧s.top≤IntKind.i64.wrap (s.blocks-1)))&&decide ((1:Int)≤s.details∧s.details≤IntKind.i64.wrap (s.blocks-1)))&&decide ((1:Int)≤s.dslots∧s.dslots≤IntKind.i64.wrap (s.blocks-1)))&&decide ((1:Int)≤s.dover∧s.dover≤IntKind.i64.wrap (s.blocks-1)))&&decide ((1:Int)≤s.mindex∧s.mindex≤IntKind.i64.wrap (s.blocks-1))) _ (Nat.le_trans hBw hB'10.size) hBo ks'10 rfl kO11) ?_
 rintro _ W12 ⟨u12,rfl,hb12,hO12,kO12⟩
 have hB'11:=hB'10.trans hb12
 have hO:=((((((((((((show Zh [4] w _ from hO1).trans hO2).trans hO3).trans hO4).trans hO5).trans (Zh.of_below (Za W5))).trans (Zh.of_below n6.below)).trans hO7).trans hO8).trans hO9).trans hO10).trans hO11).trans hO12
 exact xe 19 (.tuple #[]) ⟨_,rfl,hB'11,hO,kO12⟩
theorem Zfl(s:Sup)(w:World) :
 Calls Tryz.prog 46 #[.agg #[.int .i64 s.tx,.int .i64 s.time,.int .i64 s.unit,.int .i64 s.data,.int .i64 s.blocks,.int .i64 s.top,.int .i64 s.details,.int .i64 s.dslots,.int .i64 s.dover,.int .i64 s.mindex,.int .i64 s.mover]] w (Ret (.bool (Gn s)) w):=by
 refine zin 7 Tryz.func46 ?_
 refine xa 2 [.int .i64 s.tx,.int .i64 s.time,.int .i64 s.unit,.int .i64 s.data,.int .i64 s.blocks,.int .i64 s.top,.int .i64 s.details,.int .i64 s.dslots,.int .i64 s.dover,.int .i64 s.mindex,.int .i64 s.mover] 43 fun b1 W1 n1=>?_
 refine xa 5 [.bool false] 4 fun b2 W2 n2=>?_
 refine xs 0 n2.blk [.bool true] fun W3 u3 k3=>?_
 have g2:=n2.ge n1.below
 have hB:=u3.below (bln n1.below n2.below) g2
 have k1:=u3.blkT (n1.blk.below n2.below) n2.blk (by decide)
 refine xc 5 (args:=#[.pointer (some ⟨b1,0,none⟩),.func (.func 94) #[] #[.pointer (some ⟨b2,0,none⟩)]]) (Dw w.heap.size b1 b2 s _ hB.size g2 k1 k3) ?_
 rintro _ W4 ⟨u4,rfl,hb4,hO4,kO4⟩
 refine xb 4 0 kO4 ?_
 have hB'1:=hB.trans hb4
 exact xe 4 (.bool (Zb7 s (IntKind.i64.wrap (s.blocks-1)))) ⟨by rw[rightZ_eq rfl],hB'1⟩
def supRx(s:Sup):List Rx:=[(s.top,1,0),(s.details,3,0),(s.dslots,4,0),(s.dover,5,0),(s.mindex,6,0),(s.mover,5,0)]
def Sx(n:Nat):List Nat:=Jy (List.replicate n 0) 0
theorem Kj(n:Nat):(Sx n).length=n:=by unfold Sx;rw[Vo,List.length_replicate]
def Fb(l:List UInt8)(s:Sup):Cx:=if Gn s=false then([],[],1) else Xz l (Sx s.blocks.toNat) (supRx s)
theorem Zew{l:List UInt8}{s:Sup}(h:Gn s=false):Fb l s=([],[],1):=if_pos h
theorem Jb{l:List UInt8}{s:Sup}(h:Gn s=true):Fb l s=Qr (Zu l (s.blocks.toNat+1)) (Sx s.blocks.toNat) (supRx s):=by
 unfold Fb;rw[if_neg (by rw[h];decide)];unfold Xz;rw[Kj]
theorem Yf.more{f:List Nat→Rx→Cx}{cs c c':List Nat}{L:List Rx}(h:Yf f cs L c){x:Rx}(hc:(f c x).1=c')(h2:(f c x).2.2=0):Yf f cs (L++[x]) c':=hc▸h.next h2
theorem phi0(n:Nat):phi (Sx n)≤2001*n+1:=by
 unfold Sx
 by_cases h:0<n
 ·have hz:=Ki (cs:=List.replicate n 0) (k:=0) (by decide) (by rw[List.length_replicate];omega)
  have hs:=Pu (cs:=List.replicate n 0) (k:=0) (by decide) (by rw[List.length_replicate];omega)
  have:=Sc n
  unfold phi at this ⊢;omega
 ·obtain rfl:n=0:=by omega
  decide
theorem Zgt(n:Int)(w:World)(h:0≤n∧n≤65536):Calls Tryz.prog 47 #[.int .i64 n] w (Yz (fun w' r=>∃ br g,r=.tuple #[.pointer (some ⟨br,0,none⟩),.int .i64 0]∧w.heap.size≤br∧Blk w' br [.slice (some ⟨g,0,none⟩) n.toNat n.toNat] 206∧w'.ownsRow w.heap.size 3 1 (.slice (some ⟨g,0,none⟩) n.toNat n.toNat) n.toNat ((List.replicate n.toNat (0:Nat)).map nv)) w):=by
 obtain⟨m,rfl⟩:∃ m:Nat,n=(m:Int):=⟨n.toNat,by omega⟩
 exact Iy m w (by omega)
theorem refs_Add0(B br g:Nat)(n:Int)(w:World)(kr:Blk w br [.slice (some ⟨g,0,none⟩) n.toNat n.toNat] 206)(hBw:B≤w.heap.size)(hc:w.ownsRow B 3 1 (.slice (some ⟨g,0,none⟩) n.toNat n.toNat) n.toNat ((List.replicate n.toNat 0).map nv))(hn:1≤n) :
 Calls Tryz.prog 48 #[.pointer (some ⟨br,0,none⟩),.int .i64 0] w (fun e w'=>e=.returned (.tuple #[.int .i64 1,.int .i64 0])∧Below B w w'∧Zh [3] w w'∧w'.ownsRow B 3 1 (.slice (some ⟨g,0,none⟩) n.toNat n.toNat) n.toNat ((Sx n.toNat).map nv)):=by
 have e0:(List.replicate n.toNat (0:Nat)).getD 0 0=0:=by rw[List.getD,List.getElem?_replicate];split<;>rfl
 have q:=Ip B br g n.toNat 0 (List.replicate n.toNat 0) w kr hBw hc List.length_replicate (by omega) (by rw[e0];omega)
 rw[e0] at q
 exact q
theorem Zas(Bi b:Nat)(pi:Option Addr)(ni ci:Nat)(l:List UInt8)(s:Sup)(w:World)(hI:ImgR Bi b pi ni ci l w) :
 Calls Tryz.prog 16 #[.pointer (some ⟨b,0,none⟩),.agg #[.int .i64 s.tx,.int .i64 s.time,.int .i64 s.unit,.int .i64 s.data,.int .i64 s.blocks,.int .i64 s.top,.int .i64 s.details,.int .i64 s.dslots,.int .i64 s.dover,.int .i64 s.mindex,.int .i64 s.mover]] w (CntsP (Fb l s) w):=by
 refine zin 67 Tryz.func16 ?_
 refine xa 2 [.int .i64 s.tx,.int .i64 s.time,.int .i64 s.unit,.int .i64 s.data,.int .i64 s.blocks,.int .i64 s.top,.int .i64 s.details,.int .i64 s.dslots,.int .i64 s.dover,.int .i64 s.mindex,.int .i64 s.mover] 43 fun b1 W1 n1=>?_
 refine xlv 7 n1.blk.rp ?_
 refine xr 0 (args:=#[.agg #[.int .i64 s.tx,.int .i64 s.time,.int .i64 s.unit,.int .i64 s.data,.int .i64 s.blocks,.int .i64 s.top,.int .i64 s.details,.int .i64 s.dslots,.int .i64 s.dover,.int .i64 s.mindex,.int .i64 s.mover]]) (Zfl s _) fun W2 hb2=>?_
 refine xi 3 (!(Gn s)) (fun hc3=>?_) (fun hc3=>?_)
 ·have hrs:Gn s=false:=Zad hc3
  have hB:=bln n1.below hb2
  refine xe 9 (.tuple #[.slice none 0 0,.iface 91 (.int .i64 1)]) ?_
  exact Qd (bl:=[]) (Zew hrs) (by decide) hB rfl
 have hrs:Gn s=true:=Zaj hc3
 have hbd:=Zg0 hrs
 have k1'1:=n1.blk.below hb2
 refine xb 5 4 k1'1 ?_
 have hB:=bln n1.below hb2
 have szb:=hB.size
 refine xc 0 (args:=#[.int .i64 s.blocks]) (Zgt s.blocks _ (by omega)) ?_
 rintro _ W4 ⟨_,rfl,hb4,br,g,rfl,gbr,kbr,hc⟩
 replace gbr:=Nat.le_trans szb gbr
 have hc'1:=Zd hc hB.size
 have hB'1:=bln hB hb4
 refine xc 10 (args:=#[.pointer (some ⟨br,0,none⟩),.int .i64 0]) (refs_Add0 w.heap.size br g s.blocks _ kbr hB'1.size hc'1 (by omega)) ?_
 rintro _ W5 ⟨rfl,hb5,hO5,hc⟩
 have hf0:Yf (Zu l (s.blocks.toNat+1)) (Sx s.blocks.toNat) [] (Sx s.blocks.toNat):=Yf.nil _ _
 have hbd2:2≤s.blocks.toNat∧s.blocks.toNat≤14400:=by omega
 have hq0:=phi0 s.blocks.toNat
 have hz0:=zer_le (Sx s.blocks.toNat)
 rw[Kj] at hz0
 refine xa 7 [.pointer (some ⟨b,0,none⟩),.pointer (some ⟨br,0,none⟩)] 134 fun b6 W6 n6=>?_
 have hB'2:=hB'1.trans hb5
 have g6:=n6.ge hB'2
 have k1'2:=((k1'1.below hb4).only hO5 (by decide)).below n6.below
 refine xb 7 5 k1'2 ?_
 refine xb 2 6 k1'2 ?_
 refine xb 2 7 k1'2 ?_
 refine xb 2 8 k1'2 ?_
 refine xb 2 9 k1'2 ?_
 refine xb 2 10 k1'2 ?_
 refine xbs 1 6 [.int .i64 s.top,.int .i64 1,.int .i64 s.details,.int .i64 3,.int .i64 s.dslots,.int .i64 4,.int .i64 s.dover,.int .i64 5,.int .i64 s.mindex,.int .i64 (-1),.int .i64 s.mover,.int .i64 5] 135 fun b7 W7 n7=>?_
 have hB'3:=bln hB'2 n6.below
 have g7:=n7.ge hB'3
 refine xu 5 7 ?_
 refine xlv 14 (n7.blk.rpp 0 2) ?_
 refine xa 0 [.int .i64 0,.int .i64 0] 135 fun b8 W8 n8=>?_
 have d8_b7:=n8.ne n7.blk
 have hB'4:=bln hB'3 n7.below
 have g8:=n8.ge hB'4
 refine xsv 0 n8.blk [.int .i64 s.top,.int .i64 1] fun W9 u9 k9=>?_
 refine xb 6 0 k9 ?_
 refine xb 1 1 k9 ?_
 have k6:=u9.blkT ((n6.blk.below n7.below).below n8.below) n8.blk (by decide)
 have kbr'1:=u9.blkT ((((kbr.only hO5 (by decide)).below n6.below).below n7.below).below n8.below) n8.blk (by decide)
 have hc'2:=u9.own2 (Zb (Zb (Zb hc n6.below) n7.below) n8.below) n8.blk (by decide)
 have hB'5:=u9.below (bln hB'4 n8.below) g8
 refine xc 0 (args:=#[.pointer (some ⟨b6,0,none⟩),.int .i64 s.top,.int .i64 1]) ((Mx (s.blocks.toNat+1) w.heap.size Bi b b6 br pi ni ci l g s.blocks.toNat) (Sx s.blocks.toNat) s.top 1 _ ⟨hI.below hB'5,k6,kbr'1,hc'2,Kj _,hB'5.size⟩ (by omega) (by omega) (by decide) (by decide)) ?_
 rintro e W10 hq10
 rcases hq10 with ⟨hre,tyr,vr,rfl,hb10,hO10,hv9⟩|⟨hre,rfl,hb10,hO10,hc⟩
 ·have he9:=hf0.bad (x:=(s.top,1,0)) hre [(s.details,3,0),(s.dslots,4,0),(s.dover,5,0),(s.mindex,6,0),(s.mover,5,0)]
  have hB'6:=hB'5.trans hb10
  refine xe 23 (.tuple #[.slice none 0 0,.iface tyr (vr)]) ?_
  exact Qd ((Jb hrs).trans he9) hre hB'6 hv9
 obtain⟨c1,hc1⟩:∃ c,(Zu l (s.blocks.toNat+1) (Sx s.blocks.toNat) (s.top,1,0)).1=c:=⟨_,rfl⟩
 rw[hc1] at hc
 have hf1:Yf (Zu l (s.blocks.toNat+1)) (Sx s.blocks.toNat) [(s.top,1,0)] c1:=hf0.more hc1 hre
 have hw1:=hf1.well
 rw[Kj] at hw1
 have hp1:phi c1≤30000000:=by have:=hw1.2.2;simp only[List.length_cons,List.length_nil] at this;omega
 have hz1:zer c1<s.blocks.toNat+1:=by have:=hw1.2.1;omega
 have k7'1:=(u9.blk (n7.blk.below n8.below) (Ne.symm (Ne.symm d8_b7))).only hO10 (by decide)
 refine xlv 32 (k7'1.rpp 2 2) ?_
 refine xa 0 [.int .i64 0,.int .i64 0] 135 fun b11 W11 n11=>?_
 have d11_b7:=n11.ne k7'1
 have k9'1:=k9.only hO10 (by decide)
 have d11_b8:=n11.ne k9'1
 have hB'7:=hB'5.trans hb10
 have g11:=n11.ge hB'7
 refine xsv 0 n11.blk [.int .i64 s.details,.int .i64 3] fun W12 u12 k12=>?_
 refine xb 6 0 k12 ?_
 refine xb 1 1 k12 ?_
 have k6'1:=u12.blkT ((k6.only hO10 (by decide)).below n11.below) n11.blk (by decide)
 have kbr'2:=u12.blkT ((kbr'1.only hO10 (by decide)).below n11.below) n11.blk (by decide)
 have hc'3:=u12.own2 (Zb hc n11.below) n11.blk (by decide)
 have hB'8:=u12.below (bln hB'7 n11.below) g11
 refine xc 0 (args:=#[.pointer (some ⟨b6,0,none⟩),.int .i64 s.details,.int .i64 3]) ((Mx (s.blocks.toNat+1) w.heap.size Bi b b6 br pi ni ci l g s.blocks.toNat) c1 s.details 3 _ ⟨hI.below hB'8,k6'1,kbr'2,hc'3,hw1.1,hB'8.size⟩ (by omega) (by omega) (by decide) (by decide)) ?_
 rintro e W13 hq13
 rcases hq13 with ⟨hre,tyr,vr,rfl,hb13,hO13,hv9⟩|⟨hre,rfl,hb13,hO13,hc⟩
 ·have he9:=hf1.bad (x:=(s.details,3,0)) hre [(s.dslots,4,0),(s.dover,5,0),(s.mindex,6,0),(s.mover,5,0)]
  have hB'9:=hB'8.trans hb13
  refine xe 23 (.tuple #[.slice none 0 0,.iface tyr (vr)]) ?_
  exact Qd ((Jb hrs).trans he9) hre hB'9 hv9
 obtain⟨c2,hc2⟩:∃ c,(Zu l (s.blocks.toNat+1) c1 (s.details,3,0)).1=c:=⟨_,rfl⟩
 rw[hc2] at hc
 have hf2:Yf (Zu l (s.blocks.toNat+1)) (Sx s.blocks.toNat) [(s.top,1,0),(s.details,3,0)] c2:=hf1.more hc2 hre
 have hw2:=hf2.well
 rw[Kj] at hw2
 have hp2:phi c2≤30000000:=by have:=hw2.2.2;simp only[List.length_cons,List.length_nil] at this;omega
 have hz2:zer c2<s.blocks.toNat+1:=by have:=hw2.2.1;omega
 have k7'2:=(u12.blk (k7'1.below n11.below) (Ne.symm (Ne.symm d11_b7))).only hO13 (by decide)
 refine xlv 32 (k7'2.rpp 4 2) ?_
 refine xa 0 [.int .i64 0,.int .i64 0] 135 fun b14 W14 n14=>?_
 have d14_b7:=n14.ne k7'2
 have k9'2:=(u12.blk (k9'1.below n11.below) (Ne.symm (Ne.symm d11_b8))).only hO13 (by decide)
 have d14_b8:=n14.ne k9'2
 have k12'1:=k12.only hO13 (by decide)
 have d14_b11:=n14.ne k12'1
 have hB'10:=hB'8.trans hb13
 have g14:=n14.ge hB'10
 refine xsv 0 n14.blk [.int .i64 s.dslots,.int .i64 4] fun W15 u15 k15=>?_
 refine xb 6 0 k15 ?_
 refine xb 1 1 k15 ?_
 have k6'2:=u15.blkT ((k6'1.only hO13 (by decide)).below n14.below) n14.blk (by decide)
 have kbr'3:=u15.blkT ((kbr'2.only hO13 (by decide)).below n14.below) n14.blk (by decide)
 have hc'4:=u15.own2 (Zb hc n14.below) n14.blk (by decide)
 have hB'11:=u15.below (bln hB'10 n14.below) g14
 refine xc 0 (args:=#[.pointer (some ⟨b6,0,none⟩),.int .i64 s.dslots,.int .i64 4]) ((Mx (s.blocks.toNat+1) w.heap.size Bi b b6 br pi ni ci l g s.blocks.toNat) c2 s.dslots 4 _ ⟨hI.below hB'11,k6'2,kbr'3,hc'4,hw2.1,hB'11.size⟩ (by omega) (by omega) (by decide) (by decide)) ?_
 rintro e W16 hq16
 rcases hq16 with ⟨hre,tyr,vr,rfl,hb16,hO16,hv9⟩|⟨hre,rfl,hb16,hO16,hc⟩
 ·have he9:=hf2.bad (x:=(s.dslots,4,0)) hre [(s.dover,5,0),(s.mindex,6,0),(s.mover,5,0)]
  have hB'12:=hB'11.trans hb16
  refine xe 23 (.tuple #[.slice none 0 0,.iface tyr (vr)]) ?_
  exact Qd ((Jb hrs).trans he9) hre hB'12 hv9
 obtain⟨c3,hc3⟩:∃ c,(Zu l (s.blocks.toNat+1) c2 (s.dslots,4,0)).1=c:=⟨_,rfl⟩
 rw[hc3] at hc
 have hf3:Yf (Zu l (s.blocks.toNat+1)) (Sx s.blocks.toNat) [(s.top,1,0),(s.details,3,0),(s.dslots,4,0)] c3:=hf2.more hc3 hre
 have hw3:=hf3.well
 rw[Kj] at hw3
 have hp3:phi c3≤30000000:=by have:=hw3.2.2;simp only[List.length_cons,List.length_nil] at this;omega
 have hz3:zer c3<s.blocks.toNat+1:=by have:=hw3.2.1;omega
 have k7'3:=(u15.blk (k7'2.below n14.below) (Ne.symm (Ne.symm d14_b7))).only hO16 (by decide)
 refine xlv 32 (k7'3.rpp 6 2) ?_
 refine xa 0 [.int .i64 0,.int .i64 0] 135 fun b17 W17 n17=>?_
 have d17_b7:=n17.ne k7'3
 have k9'3:=(u15.blk (k9'2.below n14.below) (Ne.symm (Ne.symm d14_b8))).only hO16 (by decide)
 have d17_b8:=n17.ne k9'3
 have k12'2:=(u15.blk (k12'1.below n14.below) (Ne.symm (Ne.symm d14_b11))).only hO16 (by decide)
 have d17_b11:=n17.ne k12'2
 have k15'1:=k15.only hO16 (by decide)
 have d17_b14:=n17.ne k15'1
 have hB'13:=hB'11.trans hb16
 have g17:=n17.ge hB'13
 refine xsv 0 n17.blk [.int .i64 s.dover,.int .i64 5] fun W18 u18 k18=>?_
 refine xb 6 0 k18 ?_
 refine xb 1 1 k18 ?_
 have k6'3:=u18.blkT ((k6'2.only hO16 (by decide)).below n17.below) n17.blk (by decide)
 have kbr'4:=u18.blkT ((kbr'3.only hO16 (by decide)).below n17.below) n17.blk (by decide)
 have hc'5:=u18.own2 (Zb hc n17.below) n17.blk (by decide)
 have hB'14:=u18.below (bln hB'13 n17.below) g17
 refine xc 0 (args:=#[.pointer (some ⟨b6,0,none⟩),.int .i64 s.dover,.int .i64 5]) ((Mx (s.blocks.toNat+1) w.heap.size Bi b b6 br pi ni ci l g s.blocks.toNat) c3 s.dover 5 _ ⟨hI.below hB'14,k6'3,kbr'4,hc'5,hw3.1,hB'14.size⟩ (by omega) (by omega) (by decide) (by decide)) ?_
 rintro e W19 hq19
 rcases hq19 with ⟨hre,tyr,vr,rfl,hb19,hO19,hv9⟩|⟨hre,rfl,hb19,hO19,hc⟩
 ·have he9:=hf3.bad (x:=(s.dover,5,0)) hre [(s.mindex,6,0),(s.mover,5,0)]
  have hB'15:=hB'14.trans hb19
  refine xe 23 (.tuple #[.slice none 0 0,.iface tyr (vr)]) ?_
  exact Qd ((Jb hrs).trans he9) hre hB'15 hv9
 obtain⟨c4,hc4⟩:∃ c,(Zu l (s.blocks.toNat+1) c3 (s.dover,5,0)).1=c:=⟨_,rfl⟩
 rw[hc4] at hc
 have hf4:Yf (Zu l (s.blocks.toNat+1)) (Sx s.blocks.toNat) [(s.top,1,0),(s.details,3,0),(s.dslots,4,0),(s.dover,5,0)] c4:=hf3.more hc4 hre
 have hw4:=hf4.well
 rw[Kj] at hw4
 have hp4:phi c4≤30000000:=by have:=hw4.2.2;simp only[List.length_cons,List.length_nil] at this;omega
 have hz4:zer c4<s.blocks.toNat+1:=by have:=hw4.2.1;omega
 have k7'4:=(u18.blk (k7'3.below n17.below) (Ne.symm (Ne.symm d17_b7))).only hO19 (by decide)
 refine xlv 32 (k7'4.rpp 8 2) ?_
 refine xa 0 [.int .i64 0,.int .i64 0] 135 fun b20 W20 n20=>?_
 have d20_b7:=n20.ne k7'4
 have k9'4:=(u18.blk (k9'3.below n17.below) (Ne.symm (Ne.symm d17_b8))).only hO19 (by decide)
 have d20_b8:=n20.ne k9'4
 have k12'3:=(u18.blk (k12'2.below n17.below) (Ne.symm (Ne.symm d17_b11))).only hO19 (by decide)
 have d20_b11:=n20.ne k12'3
 have k15'2:=(u18.blk (k15'1.below n17.below) (Ne.symm (Ne.symm d17_b14))).only hO19 (by decide)
 have d20_b14:=n20.ne k15'2
 have k18'1:=k18.only hO19 (by decide)
 have d20_b17:=n20.ne k18'1
 have hB'16:=hB'14.trans hb19
 have g20:=n20.ge hB'16
 refine xsv 0 n20.blk [.int .i64 s.mindex,.int .i64 (-1)] fun W21 u21 k21=>?_
 refine xb 6 0 k21 ?_
 refine xb 1 1 k21 ?_
 have k6'4:=u21.blkT ((k6'3.only hO19 (by decide)).below n20.below) n20.blk (by decide)
 have kbr'5:=u21.blkT ((kbr'4.only hO19 (by decide)).below n20.below) n20.blk (by decide)
 have hc'6:=u21.own2 (Zb hc n20.below) n20.blk (by decide)
 have hB'17:=u21.below (bln hB'16 n20.below) g20
 refine xc 0 (args:=#[.pointer (some ⟨b6,0,none⟩),.int .i64 s.mindex,.int .i64 (-1)]) ((Mx (s.blocks.toNat+1) w.heap.size Bi b b6 br pi ni ci l g s.blocks.toNat) c4 s.mindex 6 _ ⟨hI.below hB'17,k6'4,kbr'5,hc'6,hw4.1,hB'17.size⟩ (by omega) (by omega) (by decide) (by decide)) ?_
 rintro e W22 hq22
 rcases hq22 with ⟨hre,tyr,vr,rfl,hb22,hO22,hv9⟩|⟨hre,rfl,hb22,hO22,hc⟩
 ·have he9:=hf4.bad (x:=(s.mindex,6,0)) hre [(s.mover,5,0)]
  have hB'18:=hB'17.trans hb22
  refine xe 23 (.tuple #[.slice none 0 0,.iface tyr (vr)]) ?_
  exact Qd ((Jb hrs).trans he9) hre hB'18 hv9
 obtain⟨c5,hc5⟩:∃ c,(Zu l (s.blocks.toNat+1) c4 (s.mindex,6,0)).1=c:=⟨_,rfl⟩
 rw[hc5] at hc
 have hf5:Yf (Zu l (s.blocks.toNat+1)) (Sx s.blocks.toNat) [(s.top,1,0),(s.details,3,0),(s.dslots,4,0),(s.dover,5,0),(s.mindex,6,0)] c5:=hf4.more hc5 hre
 have hw5:=hf5.well
 rw[Kj] at hw5
 have hp5:phi c5≤30000000:=by have:=hw5.2.2;simp only[List.length_cons,List.length_nil] at this;omega
 have hz5:zer c5<s.blocks.toNat+1:=by have:=hw5.2.1;omega
 have k7'5:=(u21.blk (k7'4.below n20.below) (Ne.symm (Ne.symm d20_b7))).only hO22 (by decide)
 refine xlv 32 (k7'5.rpp 10 2) ?_
 refine xa 0 [.int .i64 0,.int .i64 0] 135 fun b23 W23 n23=>?_
 have d23_b7:=n23.ne k7'5
 have k9'5:=(u21.blk (k9'4.below n20.below) (Ne.symm (Ne.symm d20_b8))).only hO22 (by decide)
 have d23_b8:=n23.ne k9'5
 have k12'4:=(u21.blk (k12'3.below n20.below) (Ne.symm (Ne.symm d20_b11))).only hO22 (by decide)
 have d23_b11:=n23.ne k12'4
 have k15'3:=(u21.blk (k15'2.below n20.below) (Ne.symm (Ne.symm d20_b14))).only hO22 (by decide)
 have d23_b14:=n23.ne k15'3
 have k18'2:=(u21.blk (k18'1.below n20.below) (Ne.symm (Ne.symm d20_b17))).only hO22 (by decide)
 have d23_b17:=n23.ne k18'2
 have k21'1:=k21.only hO22 (by decide)
 have d23_b20:=n23.ne k21'1
 have hB'19:=hB'17.trans hb22
 have g23:=n23.ge hB'19
 refine xsv 0 n23.blk [.int .i64 s.mover,.int .i64 5] fun W24 u24 k24=>?_
 refine xb 6 0 k24 ?_
 refine xb 1 1 k24 ?_
 have k6'5:=u24.blkT ((k6'4.only hO22 (by decide)).below n23.below) n23.blk (by decide)
 have kbr'6:=u24.blkT ((kbr'5.only hO22 (by decide)).below n23.below) n23.blk (by decide)
 have hc'7:=u24.own2 (Zb hc n23.below) n23.blk (by decide)
 have hB'20:=u24.below (bln hB'19 n23.below) g23
 refine xc 0 (args:=#[.pointer (some ⟨b6,0,none⟩),.int .i64 s.mover,.int .i64 5]) ((Mx (s.blocks.toNat+1) w.heap.size Bi b b6 br pi ni ci l g s.blocks.toNat) c5 s.mover 5 _ ⟨hI.below hB'20,k6'5,kbr'6,hc'7,hw5.1,hB'20.size⟩ (by omega) (by omega) (by decide) (by decide)) ?_
 rintro e W25 hq25
 rcases hq25 with ⟨hre,tyr,vr,rfl,hb25,hO25,hv9⟩|⟨hre,rfl,hb25,hO25,hc⟩
 ·have he9:=hf5.bad (x:=(s.mover,5,0)) hre []
  have hB'21:=hB'20.trans hb25
  refine xe 23 (.tuple #[.slice none 0 0,.iface tyr (vr)]) ?_
  exact Qd ((Jb hrs).trans he9) hre hB'21 hv9
 obtain⟨c6,hc6⟩:∃ c,(Zu l (s.blocks.toNat+1) c5 (s.mover,5,0)).1=c:=⟨_,rfl⟩
 rw[hc6] at hc
 have hf6:Yf (Zu l (s.blocks.toNat+1)) (Sx s.blocks.toNat) [(s.top,1,0),(s.details,3,0),(s.dslots,4,0),(s.dover,5,0),(s.mindex,6,0),(s.mover,5,0)] c6:=hf5.more hc6 hre
 have hw6:=hf6.well
 rw[Kj] at hw6
 have hp6:phi c6≤30000000:=by have:=hw6.2.2;simp only[List.length_cons,List.length_nil] at this;omega
 have hz6:zer c6<s.blocks.toNat+1:=by have:=hw6.2.1;omega
 have k6'6:=k6'5.only hO25 (by decide)
 refine xb 35 1 k6'6 ?_
 have kbr'7:=kbr'6.only hO25 (by decide)
 refine xc 0 (args:=#[.pointer (some ⟨br,0,none⟩)]) (Tt br g s.blocks.toNat w.heap.size c6 _ kbr'7 hc (hw6.1) (by omega)) ?_
 rintro _ W26 ⟨_,rfl,hb26,q9,d9,rfl,hq9⟩
 have hs26:=(hB'20.trans hb25).size
 have hq9'1:=Zd hq9 hs26
 have hB'22:=bln (hB'20.trans hb25) hb26
 refine xe 5 (.tuple #[.slice q9 s.blocks.toNat d9,.nilIface]) ?_
 have e9:=Jb (l:=l) hrs
 exact cnts_ok (by rw[e9];exact hf6.1) (by rw[e9];exact hf6.2) hw6.1 hB'22 hq9'1
def ClosP(B Bx bl:Nat)(L:List (List Int))(q i:Nat)(w:World)(e:Ending)(w':World):Prop :=
 ∃ u p c,e=.returned u∧Below B w w'∧Zh [75,74] w w'∧Blk w' bl [.slice p (i+1) c] 75∧w'.ownsRow Bx 74 3 (.slice p (i+1) c) (i+1) ((Ym L q (i+1)).flatMap Hr)∧FrB Bx [bl] w w'
theorem Vp(L:List (List Int))(q i:Nat):(Ym L q i).flatMap Hr++[.int .i64 (i:Int),.string ⟨(leB ((q+i:Nat):Int) 8++leB (Yg (L.getD i []):Int) 4++leB (Xi (L.getD i []):Int) 4).toArray⟩,.int .i64 0]=(Ym L q (i+1)).flatMap Hr:=by
 rw[Zbh];simp[Hr,Zei,slotB]
structure FrZ(Bx:Nat)(S:List Nat)(a w:World):Prop where
 fr:FrB Bx S a w
 le:Bx≤a.heap.size
theorem FrZ.refl{Bx:Nat}{S:List Nat}{w:World}(h:Bx≤w.heap.size):FrZ Bx S w w:=⟨⟨Nat.le_refl _,fun _ _ _=>rfl⟩,h⟩
theorem FrZ.below{Bx:Nat}{S:List Nat}{a w W:World}(h:FrZ Bx S a w)(hb:Below w.heap.size w W):FrZ Bx S a W:=⟨⟨Nat.le_trans h.fr.1 hb.size,fun k hk hn=>(hb.block k (by have:=h.fr.1;have:=h.le;omega)).trans (h.fr.2 k hk hn)⟩,h.le⟩
theorem FrZ.upd{Bx b:Nat}{S:List Nat}{a w W:World}(h:FrZ Bx S a w)(u:Upd w b W)(hb:b∈S):FrZ Bx S a W:=⟨⟨Nat.le_trans h.fr.1 (Nat.le_of_eq u.size.symm),fun k hk hn=>(u.block k fun e=>hn (e▸hb)).trans (h.fr.2 k hk hn)⟩,h.le⟩
theorem FrZ.grown{Bx:Nat}{S:List Nat}{a w W:World}{size n:Nat}{e:TypeId}{v:Value}{xs:List Value}(h:FrZ Bx S a w)(hg:w.grownBy W v.ownBlock)(hown:w.ownsRow Bx e size v n xs):FrZ Bx S a W:=⟨⟨Nat.le_trans h.fr.1 hg.size,fun k hk hn=>(hg.block k (by have:=h.fr.1;have:=h.le;omega) (fun e=>by have:=(hown.lt k e.symm).1;omega)).trans (h.fr.2 k hk hn)⟩,h.le⟩
theorem Zga(B Bx bl:Nat)(p:Option Addr)(c:Nat)(L:List (List Int))(q i:Nat)(w:World)(hBm:B≤Bx)(hBx:Bx≤w.heap.size)(hBw:B≤w.heap.size)(hBl:B≤bl)(kl:Blk w bl [.slice p i c] 75)(hup:w.ownsRow Bx 74 3 (.slice p i c) i ((Ym L q i).flatMap Hr))(hq:1≤q+i)(hq2:q+i≤14399)(hi:i≤100000)(hf:Yg (L.getD i [])≤960)(hg:Xi (L.getD i [])≤960) :
 Calls Tryz.prog 85 #[.agg #[.int .i64 (↑(q+i):Int),.int .i64 (↑(Yg (L.getD i [])):Int),.int .i64 (↑(Xi (L.getD i [])):Int)],.pointer (some ⟨bl,0,none⟩)] w (ClosP B Bx bl L q i w):=by
 have hZ:FrZ Bx [bl] w w:=FrZ.refl hBx
 refine zin 11 Tryz.func85 ?_
 refine xa 2 [.int .i64 (↑(q+i):Int),.int .i64 (↑(Yg (L.getD i [])):Int),.int .i64 (↑(Xi (L.getD i [])):Int)] 191 fun b1 W1 n1=>?_
 refine xd 2 (.t B [75,74]) ?_
 have k1:=n1.blk.below (Za W1)
 refine xlvt (.e [] 3) (.t B [75,74]) (fun V hV=>(k1.only hV.2 (by decide)).rp) ?_
 refine xm3 0 0 1 4 ?_ ?_ ?_
 ·have kl'1:=(kl.below n1.below).below (Za W1)
  refine xb 0 0 kl'1 ?_
  refine xm2 0 1 4 ?_ ?_
  ·refine xb 0 0 kl'1 ?_
   refine xr (.o [2] 4) (args:=#[.agg #[.int .i64 (↑(q+i):Int),.int .i64 (↑(Yg (L.getD i [])):Int),.int .i64 (↑(Xi (L.getD i [])):Int)]]) (Ko (↑(q+i):Int) (↑(Yg (L.getD i [])):Int) (↑(Xi (L.getD i [])):Int) (by omega) (by omega) (by omega) (by omega) (by omega) (by omega) _) fun W2 hb2=>?_
   refine xbs (.o [5] 6) 1 [.int .i64 (↑i:Int),.string ⟨(leB (↑(q+i):Int) 8++leB (↑(Yg (L.getD i [])):Int) 4++leB (↑(Xi (L.getD i [])):Int) 4).toArray⟩,.int .i64 0] 74 fun b3 W3 n3=>?_
   have hup'1:=Zb (Zb (Zb hup n1.below) (Za W1)) hb2
   have r3_hup:=Zr hup'1 n3
   have hup'2:=Zb hup'1 n3.below
   have hB:=blB (blB (blB (blB (Below.refl B w) hBw n1.below) hBw (Za W1)) hBw hb2) hBw n3.below
   refine ybi (.o [] 7) (.t B [75,74]) fun _ _ _ _ zJ zQ zo zx zy zK=>Zo (m:=1) (news:=[.int .i64 (↑i:Int),.string ⟨(leB (↑(q+i):Int) 8++leB (↑(Yg (L.getD i [])):Int) 4++leB (↑(Xi (L.getD i [])):Int) 4).toArray⟩,.int .i64 0]) (.agg #[.int .i64 0,.string ⟨#[]⟩,.int .i64 0]) 3 32 (i+1) ((Ym L q (i+1)).flatMap Hr) zo Tryz.underlying75 (by kernel_rfl) rfl (by decide) zx hup'2 zy (n3.blk.sl 1 1 (by decide) (by decide)) rfl (by simp[Value.oneCell']) (by unfold maxLen;omega) (by omega) (Nat.le_trans hBx hB.size) (by rfl) (Vp L q i) fun px4 cx4 W4 o4 hg4 hb4=>?_
   refine zK _ _ (Xb (hb4.mono hBm) hg4 hup'2 (by decide)) ?_
   have kl'2:=((kl'1.below hb2).below n3.below).grown hg4 hup'2 (by decide)
   refine ys (.o [] 8) kl'2 [.slice px4 (i+1) cx4] (.t B [75,74]) fun W5 u5 k5=>⟨(Zx u5 kl'2 hBl (by decide)),?_⟩
   have hB'1:=u5.below (hB.trans (hb4.mono hBm)) hBl
   have hO:=(((((show Zh [75,74] w _ from(Zh.of_below n1.below)).trans (Zh.of_below (Za W1))).trans (Zh.of_below hb2)).trans (Zh.of_below n3.below)).trans (Zh.of_grown hg4 hup'2 (by decide))).trans (Zh.of_upd u5 kl'2 (by decide))
   have o4'1:=u5.own2 o4 kl'2 (by decide)
   have hZ'1:=(((((hZ.below n1.below).below (Za W1)).below hb2).below n3.below).grown hg4 hup'2).upd u5 (by simp)
   exact xe 1 (.tuple #[]) ⟨_,_,_,rfl,hB'1,hO,k5,o4'1,hZ'1.fr⟩
  refine xr 0 (args:=#[.agg #[.int .i64 (↑(q+i):Int),.int .i64 (↑(Yg (L.getD i [])):Int),.int .i64 (↑(Xi (L.getD i [])):Int)]]) (Ko (↑(q+i):Int) (↑(Yg (L.getD i [])):Int) (↑(Xi (L.getD i [])):Int) (by omega) (by omega) (by omega) (by omega) (by omega) (by omega) _) fun W6 hb6=>?_
  have kl'3:=kl'1.below hb6
  refine xb (.o [] 1) 0 kl'3 ?_
  refine xbs (.o [2,5] 6) 1 [.int .i64 (↑i:Int),.string ⟨(leB (↑(q+i):Int) 8++leB (↑(Yg (L.getD i [])):Int) 4++leB (↑(Xi (L.getD i [])):Int) 4).toArray⟩,.int .i64 0] 74 fun b7 W7 n7=>?_
  have hup'3:=Zb (Zb (Zb hup n1.below) (Za W1)) hb6
  have r7_hup:=Zr hup'3 n7
  have hup'4:=Zb hup'3 n7.below
  have hB:=blB (blB (blB (blB (Below.refl B w) hBw n1.below) hBw (Za W1)) hBw hb6) hBw n7.below
  refine ybi (.o [] 7) (.t B [75,74]) fun _ _ _ _ zJ zQ zo zx zy zK=>Zo (m:=1) (news:=[.int .i64 (↑i:Int),.string ⟨(leB (↑(q+i):Int) 8++leB (↑(Yg (L.getD i [])):Int) 4++leB (↑(Xi (L.getD i [])):Int) 4).toArray⟩,.int .i64 0]) (.agg #[.int .i64 0,.string ⟨#[]⟩,.int .i64 0]) 3 32 (i+1) ((Ym L q (i+1)).flatMap Hr) zo Tryz.underlying75 (by kernel_rfl) rfl (by decide) zx hup'4 zy (n7.blk.sl 1 1 (by decide) (by decide)) rfl (by simp[Value.oneCell']) (by unfold maxLen;omega) (by omega) (Nat.le_trans hBx hB.size) (by rfl) (Vp L q i) fun px8 cx8 W8 o8 hg8 hb8=>?_
  refine zK _ _ (Xb (hb8.mono hBm) hg8 hup'4 (by decide)) ?_
  have kl'4:=(kl'3.below n7.below).grown hg8 hup'4 (by decide)
  refine ys (.o [] 8) kl'4 [.slice px8 (i+1) cx8] (.t B [75,74]) fun W9 u9 k9=>⟨(Zx u9 kl'4 hBl (by decide)),?_⟩
  have hB'2:=u9.below (hB.trans (hb8.mono hBm)) hBl
  have hO:=(((((show Zh [75,74] w _ from(Zh.of_below n1.below)).trans (Zh.of_below (Za W1))).trans (Zh.of_below hb6)).trans (Zh.of_below n7.below)).trans (Zh.of_grown hg8 hup'4 (by decide))).trans (Zh.of_upd u9 kl'4 (by decide))
  have o8'1:=u9.own2 o8 kl'4 (by decide)
  have hZ'2:=(((((hZ.below n1.below).below (Za W1)).below hb6).below n7.below).grown hg8 hup'4).upd u9 (by simp)
  exact xe 1 (.tuple #[]) ⟨_,_,_,rfl,hB'2,hO,k9,o8'1,hZ'2.fr⟩
 ·have kl'5:=(kl.below n1.below).below (Za W1)
  refine xb 0 0 kl'5 ?_
  refine xm2 (.b [2]) 0 4 ?_ ?_
  ·refine xb 0 0 kl'5 ?_
   refine xr (.o [] 4) (args:=#[.agg #[.int .i64 (↑(q+i):Int),.int .i64 (↑(Yg (L.getD i [])):Int),.int .i64 (↑(Xi (L.getD i [])):Int)]]) (Ko (↑(q+i):Int) (↑(Yg (L.getD i [])):Int) (↑(Xi (L.getD i [])):Int) (by omega) (by omega) (by omega) (by omega) (by omega) (by omega) _) fun W10 hb10=>?_
   refine xbs (.o [5] 6) 1 [.int .i64 (↑i:Int),.string ⟨(leB (↑(q+i):Int) 8++leB (↑(Yg (L.getD i [])):Int) 4++leB (↑(Xi (L.getD i [])):Int) 4).toArray⟩,.int .i64 0] 74 fun b11 W11 n11=>?_
   have hup'5:=Zb (Zb (Zb hup n1.below) (Za W1)) hb10
   have r11_hup:=Zr hup'5 n11
   have hup'6:=Zb hup'5 n11.below
   have hB:=blB (blB (blB (blB (Below.refl B w) hBw n1.below) hBw (Za W1)) hBw hb10) hBw n11.below
   refine ybi (.o [] 7) (.t B [75,74]) fun _ _ _ _ zJ zQ zo zx zy zK=>Zo (m:=1) (news:=[.int .i64 (↑i:Int),.string ⟨(leB (↑(q+i):Int) 8++leB (↑(Yg (L.getD i [])):Int) 4++leB (↑(Xi (L.getD i [])):Int) 4).toArray⟩,.int .i64 0]) (.agg #[.int .i64 0,.string ⟨#[]⟩,.int .i64 0]) 3 32 (i+1) ((Ym L q (i+1)).flatMap Hr) zo Tryz.underlying75 (by kernel_rfl) rfl (by decide) zx hup'6 zy (n11.blk.sl 1 1 (by decide) (by decide)) rfl (by simp[Value.oneCell']) (by unfold maxLen;omega) (by omega) (Nat.le_trans hBx hB.size) (by rfl) (Vp L q i) fun px12 cx12 W12 o12 hg12 hb12=>?_
   refine zK _ _ (Xb (hb12.mono hBm) hg12 hup'6 (by decide)) ?_
   have kl'6:=((kl'5.below hb10).below n11.below).grown hg12 hup'6 (by decide)
   refine ys (.o [] 8) kl'6 [.slice px12 (i+1) cx12] (.t B [75,74]) fun W13 u13 k13=>⟨(Zx u13 kl'6 hBl (by decide)),?_⟩
   have hB'3:=u13.below (hB.trans (hb12.mono hBm)) hBl
   have hO:=(((((show Zh [75,74] w _ from(Zh.of_below n1.below)).trans (Zh.of_below (Za W1))).trans (Zh.of_below hb10)).trans (Zh.of_below n11.below)).trans (Zh.of_grown hg12 hup'6 (by decide))).trans (Zh.of_upd u13 kl'6 (by decide))
   have o12'1:=u13.own2 o12 kl'6 (by decide)
   have hZ'3:=(((((hZ.below n1.below).below (Za W1)).below hb10).below n11.below).grown hg12 hup'6).upd u13 (by simp)
   exact xe 1 (.tuple #[]) ⟨_,_,_,rfl,hB'3,hO,k13,o12'1,hZ'3.fr⟩
  refine xr 0 (args:=#[.agg #[.int .i64 (↑(q+i):Int),.int .i64 (↑(Yg (L.getD i [])):Int),.int .i64 (↑(Xi (L.getD i [])):Int)]]) (Ko (↑(q+i):Int) (↑(Yg (L.getD i [])):Int) (↑(Xi (L.getD i [])):Int) (by omega) (by omega) (by omega) (by omega) (by omega) (by omega) _) fun W14 hb14=>?_
  refine xm2 (.b [5]) 0 6 ?_ ?_
  ·have kl'7:=kl'5.below hb14
   refine xb 0 0 kl'7 ?_
   refine xbs (.o [] 6) 1 [.int .i64 (↑i:Int),.string ⟨(leB (↑(q+i):Int) 8++leB (↑(Yg (L.getD i [])):Int) 4++leB (↑(Xi (L.getD i [])):Int) 4).toArray⟩,.int .i64 0] 74 fun b15 W15 n15=>?_
   have hup'7:=Zb (Zb (Zb hup n1.below) (Za W1)) hb14
   have r15_hup:=Zr hup'7 n15
   have hup'8:=Zb hup'7 n15.below
   have hB:=blB (blB (blB (blB (Below.refl B w) hBw n1.below) hBw (Za W1)) hBw hb14) hBw n15.below
   refine ybi (.o [] 7) (.t B [75,74]) fun _ _ _ _ zJ zQ zo zx zy zK=>Zo (m:=1) (news:=[.int .i64 (↑i:Int),.string ⟨(leB (↑(q+i):Int) 8++leB (↑(Yg (L.getD i [])):Int) 4++leB (↑(Xi (L.getD i [])):Int) 4).toArray⟩,.int .i64 0]) (.agg #[.int .i64 0,.string ⟨#[]⟩,.int .i64 0]) 3 32 (i+1) ((Ym L q (i+1)).flatMap Hr) zo Tryz.underlying75 (by kernel_rfl) rfl (by decide) zx hup'8 zy (n15.blk.sl 1 1 (by decide) (by decide)) rfl (by simp[Value.oneCell']) (by unfold maxLen;omega) (by omega) (Nat.le_trans hBx hB.size) (by rfl) (Vp L q i) fun px16 cx16 W16 o16 hg16 hb16=>?_
   refine zK _ _ (Xb (hb16.mono hBm) hg16 hup'8 (by decide)) ?_
   have kl'8:=(kl'7.below n15.below).grown hg16 hup'8 (by decide)
   refine ys (.o [] 8) kl'8 [.slice px16 (i+1) cx16] (.t B [75,74]) fun W17 u17 k17=>⟨(Zx u17 kl'8 hBl (by decide)),?_⟩
   have hB'4:=u17.below (hB.trans (hb16.mono hBm)) hBl
   have hO:=(((((show Zh [75,74] w _ from(Zh.of_below n1.below)).trans (Zh.of_below (Za W1))).trans (Zh.of_below hb14)).trans (Zh.of_below n15.below)).trans (Zh.of_grown hg16 hup'8 (by decide))).trans (Zh.of_upd u17 kl'8 (by decide))
   have o16'1:=u17.own2 o16 kl'8 (by decide)
   have hZ'4:=(((((hZ.below n1.below).below (Za W1)).below hb14).below n15.below).grown hg16 hup'8).upd u17 (by simp)
   exact xe 1 (.tuple #[]) ⟨_,_,_,rfl,hB'4,hO,k17,o16'1,hZ'4.fr⟩
  refine xbs 0 1 [.int .i64 (↑i:Int),.string ⟨(leB (↑(q+i):Int) 8++leB (↑(Yg (L.getD i [])):Int) 4++leB (↑(Xi (L.getD i [])):Int) 4).toArray⟩,.int .i64 0] 74 fun b18 W18 n18=>?_
  have hup'9:=Zb (Zb (Zb hup n1.below) (Za W1)) hb14
  have r18_hup:=Zr hup'9 n18
  have kl'9:=(kl'5.below hb14).below n18.below
  refine xb (.o [] 0) 0 kl'9 ?_
  have hup'10:=Zb hup'9 n18.below
  have hB:=blB (blB (blB (blB (Below.refl B w) hBw n1.below) hBw (Za W1)) hBw hb14) hBw n18.below
  refine ybi (.o [] 7) (.t B [75,74]) fun _ _ _ _ zJ zQ zo zx zy zK=>Zo (m:=1) (news:=[.int .i64 (↑i:Int),.string ⟨(leB (↑(q+i):Int) 8++leB (↑(Yg (L.getD i [])):Int) 4++leB (↑(Xi (L.getD i [])):Int) 4).toArray⟩,.int .i64 0]) (.agg #[.int .i64 0,.string ⟨#[]⟩,.int .i64 0]) 3 32 (i+1) ((Ym L q (i+1)).flatMap Hr) zo Tryz.underlying75 (by kernel_rfl) rfl (by decide) zx hup'10 zy (n18.blk.sl 1 1 (by decide) (by decide)) rfl (by simp[Value.oneCell']) (by unfold maxLen;omega) (by omega) (Nat.le_trans hBx hB.size) (by rfl) (Vp L q i) fun px19 cx19 W19 o19 hg19 hb19=>?_
  refine zK _ _ (Xb (hb19.mono hBm) hg19 hup'10 (by decide)) ?_
  have kl'10:=kl'9.grown hg19 hup'10 (by decide)
  refine ys (.o [] 8) kl'10 [.slice px19 (i+1) cx19] (.t B [75,74]) fun W20 u20 k20=>⟨(Zx u20 kl'10 hBl (by decide)),?_⟩
  have hB'5:=u20.below (hB.trans (hb19.mono hBm)) hBl
  have hO:=(((((show Zh [75,74] w _ from(Zh.of_below n1.below)).trans (Zh.of_below (Za W1))).trans (Zh.of_below hb14)).trans (Zh.of_below n18.below)).trans (Zh.of_grown hg19 hup'10 (by decide))).trans (Zh.of_upd u20 kl'10 (by decide))
  have o19'1:=u20.own2 o19 kl'10 (by decide)
  have hZ'5:=(((((hZ.below n1.below).below (Za W1)).below hb14).below n18.below).grown hg19 hup'10).upd u20 (by simp)
  exact xe 1 (.tuple #[]) ⟨_,_,_,rfl,hB'5,hO,k20,o19'1,hZ'5.fr⟩
 refine xr 0 (args:=#[.agg #[.int .i64 (↑(q+i):Int),.int .i64 (↑(Yg (L.getD i [])):Int),.int .i64 (↑(Xi (L.getD i [])):Int)]]) (Ko (↑(q+i):Int) (↑(Yg (L.getD i [])):Int) (↑(Xi (L.getD i [])):Int) (by omega) (by omega) (by omega) (by omega) (by omega) (by omega) _) fun W21 hb21=>?_
 refine xm2 0 0 1 ?_ ?_
 ·have kl'11:=((kl.below n1.below).below (Za W1)).below hb21
  refine xb 0 0 kl'11 ?_
  refine xb (.o [] 1) 0 kl'11 ?_
  refine xbs (.o [2,5] 6) 1 [.int .i64 (↑i:Int),.string ⟨(leB (↑(q+i):Int) 8++leB (↑(Yg (L.getD i [])):Int) 4++leB (↑(Xi (L.getD i [])):Int) 4).toArray⟩,.int .i64 0] 74 fun b22 W22 n22=>?_
  have hup'11:=Zb (Zb (Zb hup n1.below) (Za W1)) hb21
  have r22_hup:=Zr hup'11 n22
  have hup'12:=Zb hup'11 n22.below
  have hB:=blB (blB (blB (blB (Below.refl B w) hBw n1.below) hBw (Za W1)) hBw hb21) hBw n22.below
  refine ybi (.o [] 7) (.t B [75,74]) fun _ _ _ _ zJ zQ zo zx zy zK=>Zo (m:=1) (news:=[.int .i64 (↑i:Int),.string ⟨(leB (↑(q+i):Int) 8++leB (↑(Yg (L.getD i [])):Int) 4++leB (↑(Xi (L.getD i [])):Int) 4).toArray⟩,.int .i64 0]) (.agg #[.int .i64 0,.string ⟨#[]⟩,.int .i64 0]) 3 32 (i+1) ((Ym L q (i+1)).flatMap Hr) zo Tryz.underlying75 (by kernel_rfl) rfl (by decide) zx hup'12 zy (n22.blk.sl 1 1 (by decide) (by decide)) rfl (by simp[Value.oneCell']) (by unfold maxLen;omega) (by omega) (Nat.le_trans hBx hB.size) (by rfl) (Vp L q i) fun px23 cx23 W23 o23 hg23 hb23=>?_
  refine zK _ _ (Xb (hb23.mono hBm) hg23 hup'12 (by decide)) ?_
  have kl'12:=(kl'11.below n22.below).grown hg23 hup'12 (by decide)
  refine ys (.o [] 8) kl'12 [.slice px23 (i+1) cx23] (.t B [75,74]) fun W24 u24 k24=>⟨(Zx u24 kl'12 hBl (by decide)),?_⟩
  have hB'6:=u24.below (hB.trans (hb23.mono hBm)) hBl
  have hO:=(((((show Zh [75,74] w _ from(Zh.of_below n1.below)).trans (Zh.of_below (Za W1))).trans (Zh.of_below hb21)).trans (Zh.of_below n22.below)).trans (Zh.of_grown hg23 hup'12 (by decide))).trans (Zh.of_upd u24 kl'12 (by decide))
  have o23'1:=u24.own2 o23 kl'12 (by decide)
  have hZ'6:=(((((hZ.below n1.below).below (Za W1)).below hb21).below n22.below).grown hg23 hup'12).upd u24 (by simp)
  exact xe 1 (.tuple #[]) ⟨_,_,_,rfl,hB'6,hO,k24,o23'1,hZ'6.fr⟩
 have kl'13:=((kl.below n1.below).below (Za W1)).below hb21
 refine xb 0 0 kl'13 ?_
 refine xm2 (.b [2,5]) 0 6 ?_ ?_
 ·refine xb 0 0 kl'13 ?_
  refine xbs (.o [] 6) 1 [.int .i64 (↑i:Int),.string ⟨(leB (↑(q+i):Int) 8++leB (↑(Yg (L.getD i [])):Int) 4++leB (↑(Xi (L.getD i [])):Int) 4).toArray⟩,.int .i64 0] 74 fun b25 W25 n25=>?_
  have hup'13:=Zb (Zb (Zb hup n1.below) (Za W1)) hb21
  have r25_hup:=Zr hup'13 n25
  have hup'14:=Zb hup'13 n25.below
  have hB:=blB (blB (blB (blB (Below.refl B w) hBw n1.below) hBw (Za W1)) hBw hb21) hBw n25.below
  refine ybi (.o [] 7) (.t B [75,74]) fun _ _ _ _ zJ zQ zo zx zy zK=>Zo (m:=1) (news:=[.int .i64 (↑i:Int),.string ⟨(leB (↑(q+i):Int) 8++leB (↑(Yg (L.getD i [])):Int) 4++leB (↑(Xi (L.getD i [])):Int) 4).toArray⟩,.int .i64 0]) (.agg #[.int .i64 0,.string ⟨#[]⟩,.int .i64 0]) 3 32 (i+1) ((Ym L q (i+1)).flatMap Hr) zo Tryz.underlying75 (by kernel_rfl) rfl (by decide) zx hup'14 zy (n25.blk.sl 1 1 (by decide) (by decide)) rfl (by simp[Value.oneCell']) (by unfold maxLen;omega) (by omega) (Nat.le_trans hBx hB.size) (by rfl) (Vp L q i) fun px26 cx26 W26 o26 hg26 hb26=>?_
  refine zK _ _ (Xb (hb26.mono hBm) hg26 hup'14 (by decide)) ?_
  have kl'14:=(kl'13.below n25.below).grown hg26 hup'14 (by decide)
  refine ys (.o [] 8) kl'14 [.slice px26 (i+1) cx26] (.t B [75,74]) fun W27 u27 k27=>⟨(Zx u27 kl'14 hBl (by decide)),?_⟩
  have hB'7:=u27.below (hB.trans (hb26.mono hBm)) hBl
  have hO:=(((((show Zh [75,74] w _ from(Zh.of_below n1.below)).trans (Zh.of_below (Za W1))).trans (Zh.of_below hb21)).trans (Zh.of_below n25.below)).trans (Zh.of_grown hg26 hup'14 (by decide))).trans (Zh.of_upd u27 kl'14 (by decide))
  have o26'1:=u27.own2 o26 kl'14 (by decide)
  have hZ'7:=(((((hZ.below n1.below).below (Za W1)).below hb21).below n25.below).grown hg26 hup'14).upd u27 (by simp)
  exact xe 1 (.tuple #[]) ⟨_,_,_,rfl,hB'7,hO,k27,o26'1,hZ'7.fr⟩
 refine xbs 0 1 [.int .i64 (↑i:Int),.string ⟨(leB (↑(q+i):Int) 8++leB (↑(Yg (L.getD i [])):Int) 4++leB (↑(Xi (L.getD i [])):Int) 4).toArray⟩,.int .i64 0] 74 fun b28 W28 n28=>?_
 have hup'15:=Zb (Zb (Zb hup n1.below) (Za W1)) hb21
 have r28_hup:=Zr hup'15 n28
 have kl'15:=kl'13.below n28.below
 refine xb (.o [] 0) 0 kl'15 ?_
 have hup'16:=Zb hup'15 n28.below
 have hB:=blB (blB (blB (blB (Below.refl B w) hBw n1.below) hBw (Za W1)) hBw hb21) hBw n28.below
 refine ybi (.o [] 7) (.t B [75,74]) fun _ _ _ _ zJ zQ zo zx zy zK=>Zo (m:=1) (news:=[.int .i64 (↑i:Int),.string ⟨(leB (↑(q+i):Int) 8++leB (↑(Yg (L.getD i [])):Int) 4++leB (↑(Xi (L.getD i [])):Int) 4).toArray⟩,.int .i64 0]) (.agg #[.int .i64 0,.string ⟨#[]⟩,.int .i64 0]) 3 32 (i+1) ((Ym L q (i+1)).flatMap Hr) zo Tryz.underlying75 (by kernel_rfl) rfl (by decide) zx hup'16 zy (n28.blk.sl 1 1 (by decide) (by decide)) rfl (by simp[Value.oneCell']) (by unfold maxLen;omega) (by omega) (Nat.le_trans hBx hB.size) (by rfl) (Vp L q i) fun px29 cx29 W29 o29 hg29 hb29=>?_
 refine zK _ _ (Xb (hb29.mono hBm) hg29 hup'16 (by decide)) ?_
 have kl'16:=kl'15.grown hg29 hup'16 (by decide)
 refine ys (.o [] 8) kl'16 [.slice px29 (i+1) cx29] (.t B [75,74]) fun W30 u30 k30=>⟨(Zx u30 kl'16 hBl (by decide)),?_⟩
 have hB'8:=u30.below (hB.trans (hb29.mono hBm)) hBl
 have hO:=(((((show Zh [75,74] w _ from(Zh.of_below n1.below)).trans (Zh.of_below (Za W1))).trans (Zh.of_below hb21)).trans (Zh.of_below n28.below)).trans (Zh.of_grown hg29 hup'16 (by decide))).trans (Zh.of_upd u30 kl'16 (by decide))
 have o29'1:=u30.own2 o29 kl'16 (by decide)
 have hZ'8:=(((((hZ.below n1.below).below (Za W1)).below hb21).below n28.below).grown hg29 hup'16).upd u30 (by simp)
 exact xe 1 (.tuple #[]) ⟨_,_,_,rfl,hB'8,hO,k30,o29'1,hZ'8.fr⟩
def LevelPost(B ba b g nn cc:Nat)(pa:Option Addr)(ca f N k0:Nat)(bs:List UInt8)(t:Int)(leaf:Bool)(m v:Nat)(l:List Ent)(w:World)(e:Ending)(w':World):Prop :=
 ∃ p c,e=.returned (.tuple #[.slice p (ovN l.length m) c,.nilIface])∧Below B w w'∧Zh [153,5] w w'∧Fr [ba,g] w w'∧Al B ba b g nn cc pa ca f N (k0+ovN l.length m) (levB t leaf m v l (f+k0) bs (ovN l.length m)) w'∧w'.ownsRow w.heap.size 74 3 (.slice p (ovN l.length m) c) (ovN l.length m) ((upE l m (f+k0) (ovN l.length m)).flatMap Hr)
theorem Za7(B ba b g nn cc:Nat)(pa:Option Addr)(ca f N k0:Nat)(bs:List UInt8)(t:Int)(leaf:Bool)(m v:Nat)(a:Option Addr)(c:Nat)(l:List Ent)(w:World)(hC:AlC B ba nn cc ca f N)(hA:Al B ba b g nn cc pa ca f N k0 bs w)(ht1:1≤t)(ht2:t≤5)(hm:Qu t leaf=m)(hv:Br t leaf=v)(E:EntsOk v l)(hl:leaf=false→1≤l.length)(hn:l.length≤32768)(hf1:1≤f)(hk:k0+ovN l.length m≤N)(hin:∀ W,Below B w W→Zh [153,5] w W→Sts Hr W (.slice a l.length c) l)(hBw:B≤w.heap.size) :
 Calls Tryz.prog 62 #[.pointer (some ⟨ba,0,none⟩),.int .i64 t,.bool leaf,.slice a l.length c] w (LevelPost B ba b g nn cc pa ca f N k0 bs t leaf m v l w):=by
 have hmb:=Qk t leaf
 rw[hm] at hmb
 have hcf:=hC.hf
 have hcn:=hC.hn
 refine zin 96 Tryz.func62 ?_
 refine xr 18 (args:=#[.int .i64 t,.bool leaf]) (Dx t leaf m hm ht1 ht2 _) fun W1 hb1=>?_
 refine xc 0 (args:=#[.int .i64 (↑l.length:Int),.int .i64 (↑m:Int)]) (Zd6 l.length m _ hn (by omega) (by omega)) ?_
 rintro _ W2 ⟨_,rfl,hb2,ps,cs,rfl,hsz⟩
 have hs2:=(blB (Below.refl B w) hBw hb1).size
 have hsz'1:=Zd hsz hs2
 have hA'1:=(hA.below hb1).below hb2
 have hB:=blB (blB (Below.refl B w) hBw hb1) hBw hb2
 have hX:=(show Fr [ba,g] w _ from(Fr.of_below hb1)).trans (Fr.of_below hb2)
 have hO:=(show Zh [153,5] w _ from(Zh.of_below hb1)).trans (Zh.of_below hb2)
 refine zl 5 96 (fun zm zkv V=>∃ (i:Nat) (a2:Option Addr) (c2:Nat) (l2:List Ent) (p4:Option Addr) (c4:Nat),zkv=[(0,.pointer (some ⟨ba,0,none⟩)),(1,.int .i64 t),(2,.bool leaf),(3,.slice a2 l2.length c2),(10,.slice p4 i c4),(26,.slice ps (ovN l.length m) cs),(27,.int .i64 (↑(ovN l.length m):Int)),(28,.int .i64 (↑i:Int))]∧zm=ovN l.length m-((↑i:Int)).toNat∧Below B w V∧Fr [ba,g] w V∧Zh [153,5] w V∧V.ownsRow w.heap.size 3 1 (.slice ps (ovN l.length m) cs) (ovN l.length m) ((sizL l.length m).map nv)∧V.ownsRow w.heap.size 74 3 (.slice p4 i c4) i ((upE l m (f+k0) i).flatMap Hr)∧Al B ba b g nn cc pa ca f N (k0+i) (levB t leaf m v l (f+k0) bs i) V∧(∀ W,Below B w W→Zh [153,5] w W→Sts Hr W (.slice a2 l2.length c2) l2)∧i≤ovN l.length m∧l2=l.drop (i*m)) ⟨0,a,c,l,none,0,rfl,rfl,hB,hX,hO,hsz'1,World.ownsRow_nil _ _ _ _,hA'1,?_,Nat.zero_le _,by simp⟩ ?_
 ·exact hin
 rintro _ _ W3 ⟨i,a2,c2,l2,p4,c4,rfl,rfl,hB_3,hX_3,hO_3,hsz,hup,hA,hen,hi,hl2⟩ J3 hJ3 r3
 have hcap:=Sl.cap (hen _ hB_3 hO_3)
 have hsl:i<ovN l.length m→i*m≤l.length:=siz_le (by omega)
 have hl2n:l2.length=l.length-i*m:=by rw[hl2];simp
 have hszn:Vu l.length m i≤l2.length:=by rw[hl2n];unfold Vu;omega
 refine xid 6 ((↑i:Int)<(↑(ovN l.length m):Int)) (fun hc4=>?_) (fun hc4=>?_)
 ·refine xx 6 _ (ovN l.length m) i 1 (Zbq (Ze hsz) (k:=i) (by omega)).1 ?_
  refine xl 0 ((Zbq (Ze hsz) (k:=i) (by omega)).2) ?_
  have hF5:=hB_3
  have hOhF5:=hO_3
  have hXhF5:=hX_3
  refine xa 8 [.int .i64 0,.bool false,.slice none 0 0,.slice none 0 0] 220 fun b6 W6 n6=>?_
  refine xsv 0 n6.blk [.int .i64 t,.bool leaf,.slice none 0 0,.slice none 0 0] fun W7 u7 k7=>?_
  have g6:=n6.ge (Below.refl W3.heap.size _)
  refine xsH 7 (fun _ _ _ _ zo zx zy V=>Qz (k:=(Vu l.length m i)) (b:=a2) (n:=l2.length) (c:=c2) (i:=(↑(Vu l.length m i):Int)) (ki:=.i64) zo zx zy rfl (by omega) Tryz.underlying75 (by kernel_rfl) V) ?_
  have hB:=u7.below n6.below g6
  refine zl 5 96 (fun zm zkv V=>∃ (j:Nat) (kp:Option Addr) (kc:Nat) (vp:Option Addr) (vc:Nat),zkv=[(0,.pointer (some ⟨ba,0,none⟩)),(1,.int .i64 t),(2,.bool leaf),(3,.slice a2 l2.length c2),(10,.slice p4 i c4),(12,.int .i64 (↑(Vu l.length m i):Int)),(13,.pointer (some ⟨b6,0,none⟩)),(26,.slice ps (ovN l.length m) cs),(27,.int .i64 (↑(ovN l.length m):Int)),(28,.int .i64 (↑i:Int)),(37,.slice a2 (Vu l.length m i) c2),(38,.int .i64 (↑(Vu l.length m i):Int)),(39,.int .i64 (↑j:Int))]∧zm=Vu l.length m i-((↑j:Int)).toNat∧Below W3.heap.size W3 V∧Blk V b6 ([.int .i64 t,.bool leaf,.slice kp j kc,.slice vp j vc]) 220∧V.ownsRow W3.heap.size 3 1 (.slice kp j kc) j (((Vt l2).take j).map (Value.int .i64))∧V.ownsRow W3.heap.size 9 1 (.slice vp j vc) j (((Jn l2).take j).map sv)∧j≤Vu l.length m i) ⟨0,none,0,none,0,rfl,rfl,hB,k7,World.ownsRow_nil _ _ _ _,World.ownsRow_nil _ _ _ _,Nat.zero_le _⟩ ?_
  rintro _ _ W8 ⟨j,kp,kc,vp,vc,rfl,rfl,hB_8,k8_b6,hK,hV,hj⟩ J8 hJ8 r8
  refine xid 6 ((↑j:Int)<(↑(Vu l.length m i):Int)) (fun hc9=>?_) (fun hc9=>?_)
  ·have hen_hF5:=hen _ hF5 hOhF5
   refine xx 6 _ (Vu l.length m i) j 3 (Sts.cell hen_hF5 Jl Vy (k:=j) (i:=0) (by omega) rfl).1 ?_
   refine xlv 0 (Sts.rp (k:=j) (hen_hF5.below hB_8) Jl Vy (by omega) (by decide)) ?_
   refine xa 0 [.int .i64 0,.string ⟨#[]⟩,.int .i64 0] 74 fun b10 W10 n10=>?_
   have g10:=n10.ge hB_8
   refine xsv 0 n10.blk [.int .i64 ((l2.getD j Vy).1),.string ⟨((l2.getD j Vy).2.1).toArray⟩,.int .i64 ((l2.getD j Vy).2.2)] fun W11 u11 k11=>?_
   have k8_b6'1:=u11.blkT (k8_b6.below n10.below) n10.blk (by decide)
   refine xb 5 2 k8_b6'1 ?_
   refine xb 1 0 k11 ?_
   refine xbs 0 1 [.int .i64 ((l2.getD j Vy).1)] 3 fun b12 W12 n12=>?_
   have hB'1:=u11.below (bln hB_8 n10.below) g10
   have g12:=n12.ge hB'1
   have hK'1:=u11.own2 (Zb hK n10.below) n10.blk (by decide)
   have r12_hK:=Zr hK'1 n12
   have hK'2:=Zb hK'1 n12.below
   have hB'2:=bln hB'1 n12.below
   refine xbi 0 fun _ _ _ _ zJ zQ zo zx zy zK=>Zo (m:=1) (news:=[.int .i64 ((l2.getD j Vy).1)]) (.int .i64 0) 1 8 (j+1) (((Vt l2).take (j+1)).map (Value.int .i64)) zo Tryz.underlying31 (by kernel_rfl) rfl (by decide) zx hK'2 zy (n12.blk.sl 1 1 (by decide) (by decide)) rfl (by simp[Value.oneCell']) (by unfold maxLen;omega) (by omega) hB'2.size (by rfl) ((Zgw (by omega)).symm) fun px13 cx13 W13 o13 hg13 hb13=>?_
   refine zK _ _ ?_
   have k8_b6'2:=(k8_b6'1.below n12.below).grown hg13 hK'2 (by decide)
   refine xs 1 k8_b6'2 [.int .i64 t,.bool leaf,.slice px13 (j+1) cx13,.slice vp j vc] fun W14 u14 k14=>?_
   refine xb 4 3 k14 ?_
   have k11'1:=u14.blkT ((k11.below n12.below).grown hg13 hK'2 (by decide)) k8_b6'2 (by decide)
   refine xb 1 1 k11'1 ?_
   refine xbs 0 1 [.string ⟨((l2.getD j Vy).2.1).toArray⟩] 9 fun b15 W15 n15=>?_
   have hB'3:=u14.below (hB'2.trans hb13) g6
   have g15:=n15.ge hB'3
   have hV'1:=u14.own2 (Xc (Zb (u11.own2 (Zb hV n10.below) n10.blk (by decide)) n12.below) hg13 hK'2 (by decide)) k8_b6'2 (by decide)
   have r15_hV:=Zr hV'1 n15
   have hV'2:=Zb hV'1 n15.below
   have hB'4:=bln hB'3 n15.below
   refine xbi 0 fun _ _ _ _ zJ zQ zo zx zy zK=>Zo (m:=1) (news:=[.string ⟨((l2.getD j Vy).2.1).toArray⟩]) (.string ⟨#[]⟩) 1 16 (j+1) (((Jn l2).take (j+1)).map sv) zo Tryz.underlying119 (by kernel_rfl) rfl (by decide) zx hV'2 zy (n15.blk.sl 1 1 (by decide) (by decide)) rfl (by simp[Value.oneCell']) (by unfold maxLen;omega) (by omega) hB'4.size (by rfl) ((vals_take (by omega)).symm) fun px16 cx16 W16 o16 hg16 hb16=>?_
   refine zK _ _ ?_
   have k14'1:=(k14.below n15.below).grown hg16 hV'2 (by decide)
   refine xs 1 k14'1 [.int .i64 t,.bool leaf,.slice px13 (j+1) cx13,.slice px16 (j+1) cx16] fun W17 u17 k17=>?_
   refine xwm 4 ((↑j:Int)+1) (↑(j+1):Int) ?_
   have hB'5:=u17.below (hB'4.trans hb16) g6
   have o13'1:=u17.own2 (Xc (Zb (u14.own2 o13 k8_b6'2 (by decide)) n15.below) hg16 hV'2 (by decide)) k14'1 (by decide)
   have o16'1:=u17.own2 o16 k14'1 (by decide)
   exact ze 2 (hJ8 _ _ _ ⟨j+1,_,_,_,_,rfl,rfl,hB'5,k17,o13'1,o16'1,by omega⟩ (by omega))
  refine xsL 9 (fun _ _ _ _ zo zx zy V=>Xv (k:=(Vu l.length m i)) (b:=a2) (n:=l2.length) (c:=c2) (i:=(↑(Vu l.length m i):Int)) (ki:=.i64) 3 zo zx zy rfl (by omega) Tryz.underlying75 (by kernel_rfl) V) ?_
  refine xlv 5 k8_b6.rp ?_
  have hT18:Below W3.heap.size W3 W8:=hB_8
  have hs18:w.heap.size≤W3.heap.size:=hF5.size
  have hjs:Vu l.length m i=j:=by omega
  have hck:(Vt l2).take j=Vt (Xj l m i):=by rw[hl2];exact Zdr hjs
  have hcv:(Jn l2).take j=Jn (Xj l m i):=by rw[hl2];exact Zes hjs
  have hcl:(Xj l m i).length=j:=by rw[Nr,hjs]
  have hK'3:=Zd hK hs18
  rw[hck] at hK'3
  have hV'3:=Zd hV hs18
  rw[hcv] at hV'3
  have hN:=Zda E ht1 ht2 hm hv hl (show i<ovN l.length m by omega)
  have hlen:=Zbs hN
  rw[hcl] at hN
  have hnd:Jc m v (Vf t leaf j m v) (Vt (Xj l m i)) (Jn (Xj l m i)) j=nodB t leaf m v (Xj l m i):=by rw[←hcl];rfl
  refine xc 0 (args:=#[.agg #[.int .i64 t,.bool leaf,.slice kp j kc,.slice vp j vc]]) (node_Put t leaf j m v (Vt (Xj l m i)) (Jn (Xj l m i)) kp vp kc vc _ hN (Ze hK'3) (Ze hV'3)) ?_
  rintro _ W19 ⟨_,rfl,hb19,p6,c6,rfl,h6⟩
  have hs19:=(blB hF5 hBw hT18).size
  have h6'1:=Zd h6 hs19
  rw[hnd] at h6'1
  have hA'2:=(hA.below hT18).below hb19
  have hO:=(hOhF5.trans (Zh.of_below hT18)).trans (Zh.of_below hb19)
  have hB:=blB (blB hF5 hBw hT18) hBw hb19
  refine xc 21 (args:=#[.pointer (some ⟨ba,0,none⟩),.int .i64 2,.slice p6 244 c6]) (Ut B ba b g nn cc pa ca f N (k0+i) (levB t leaf m v l (f+k0) bs i) 2 p6 c6 (nodB t leaf m v (Xj l m i)) (f+k0+i) 244 _ (Nat.add_assoc _ _ _).symm hlen hC hA'2 (by omega) (by decide) (by decide) (fun W _ hO=>Yk (Ze (Zj h6'1 hO (by decide))) hlen) (by decide) (Nat.le_trans hBw hB.size)) ?_
  rintro _ W20 ⟨rfl,hb20,hO20,hX20,hA⟩
  refine xr 20 (args:=#[.int .i64 (↑(f+k0+i):Int)]) (Zek ((f+k0+i:Nat):Int) (by omega) (by omega) _) fun W21 hb21=>?_
  refine xa 2 [.int .i64 0,.string ⟨#[]⟩,.int .i64 0] 74 fun b22 W22 n22=>?_
  have hB'6:=blB (hB.trans hb20) hBw hb21
  have g22:=n22.ge0 hB'6
  have hup'1:=Zb (Zj (Zb (Zb hup hT18) hb19) hO20 (by decide)) hb21
  have r22_hup:=Zr hup'1 n22
  refine xsv 0 n22.blk [.int .i64 0,.string ⟨(leB (↑(f+k0+i):Int) 4).toArray⟩,.int .i64 (↑(f+k0+i):Int)] fun W23 u23 k23=>?_
  refine xid 9 ((↑(Vu l.length m i):Int)>(0:Int)) (fun hc24=>?_) (fun hc24=>?_)
  ·have hkey:((Vt (Xj l m i))).getD 0 0=((Xj l m i).getD 0 Vy).1:=Zhi hjs (by omega)
   have k8_b6'3:=u23.blkT ((((k8_b6.below hb19).only hO20 (by decide)).below hb21).below n22.below) n22.blk (by decide)
   refine xb 2 2 k8_b6'3 ?_
   have hK'4:=u23.own2 (Zb (Zb (Zj (Zb hK'3 hb19) hO20 (by decide)) hb21) n22.below) n22.blk (by decide)
   refine xx 0 _ j 0 1 (IntsN.elem (Ze hK'4) (by rw[Nk,hcl]) (k:=0) (by omega)).1 ?_
   refine xl 0 ((IntsN.elem (Ze hK'4) (by rw[Nk,hcl]) (k:=0) (by omega)).2) ?_
   refine xs 1 k23 [.int .i64 ((Vt (Xj l m i)).getD 0 0),.string ⟨(leB (↑(f+k0+i):Int) 4).toArray⟩,.int .i64 (↑(f+k0+i):Int)] fun W25 u25 k25=>?_
   refine xlv 4 k25.rp ?_
   refine xbs 0 1 [.int .i64 ((Vt (Xj l m i)).getD 0 0),.string ⟨(leB (↑(f+k0+i):Int) 4).toArray⟩,.int .i64 (↑(f+k0+i):Int)] 74 fun b26 W26 n26=>?_
   have d26_b22:=n26.ne k25
   have hB'7:=u25.below (u23.below (blB hB'6 hBw n22.below) (Nat.le_trans hBw g22)) (Nat.le_trans hBw g22)
   have g26:=n26.ge0 hB'7
   have hup'2:=u25.own3 (u23.own3 (Zb hup'1 n22.below) r22_hup) r22_hup
   have r26_hup:=Zr hup'2 n26
   have hup'3:=Zb hup'2 n26.below
   have hB'8:=blB hB'7 hBw n26.below
   refine xbi 0 fun _ _ _ _ zJ zQ zo zx zy zK=>Zo (m:=1) (news:=[.int .i64 ((Vt (Xj l m i)).getD 0 0),.string ⟨(leB (↑(f+k0+i):Int) 4).toArray⟩,.int .i64 (↑(f+k0+i):Int)]) (.agg #[.int .i64 0,.string ⟨#[]⟩,.int .i64 0]) 3 32 (i+1) ((upE l m (f+k0) (i+1)).flatMap Hr) zo Tryz.underlying75 (by kernel_rfl) rfl (by decide) zx hup'3 zy (n26.blk.sl 1 1 (by decide) (by decide)) rfl (by simp[Value.oneCell']) (by unfold maxLen;omega) (by omega) hB'8.size (by rfl) (up_row (by first|exact hkey|exact hkey0)) fun px27 cx27 W27 o27 hg27 hb27=>?_
   refine zK _ _ ?_
   refine xwm 5 ((↑i:Int)+1) (↑(i+1):Int) ?_
   refine xv1 2 3 (show(.slice (Qy a2 (Vu l.length m i) c2 3) (l2.length-(Vu l.length m i)) (c2-(Vu l.length m i)):Value)=.slice (Qy a2 (Vu l.length m i) c2 3) ((l2.drop (Vu l.length m i)).length) (c2-Vu l.length m i) from by rw[List.length_drop]) ?_
   have hA'3:=(((((hA.below hb21).below n22.below).only (Zh.of_upd (T:=[74]) u23 n22.blk (by decide)) (by decide)).only (Zh.of_upd (T:=[74]) u25 k23 (by decide)) (by decide)).below n26.below).only (Zh.of_grown (T:=[74]) hg27 hup'3 (by decide)) (by decide)
   have hl2s:l2.drop (Vu l.length m i)=l.drop ((i+1)*m):=by
    rw[hl2,List.drop_drop,Nat.add_mul,Nat.one_mul]
    unfold Vu
    rcases Nat.le_total m (l.length-i*m) with q|q
    ·rw[Nat.min_eq_left q]
    ·rw[Nat.min_eq_right q,List.drop_eq_nil_of_le (by omega),List.drop_eq_nil_of_le (by omega)]
   have hB'9:=hB'8.trans (hb27.mono hBw)
   have hX:=(Fr.grown_new ((Fr.upd_new (Fr.upd_new (((((hXhF5.trans (Fr.of_below hT18)).trans (Fr.of_below hb19)).trans (hX20.mono (by simp))).trans (Fr.of_below hb21)).trans (Fr.of_below n22.below)) u23 g22) u25 g22).trans (Fr.of_below n26.below)) hg27 hup'3)
   have hO'1:=(Zh.grown_new ((Zh.upd_new (Zh.upd_new (((hO.trans hO20).trans (Zh.of_below hb21)).trans (Zh.of_below n22.below)) u23 g22) u25 g22).trans (Zh.of_below n26.below)) hg27 hup'3)
   have hsz'2:=Xc (Zb (u25.own2 (u23.own2 (Zb (Zb (Zj (Zb (Zb hsz hT18) hb19) hO20 (by decide)) hb21) n22.below) n22.blk (by decide)) k23 (by decide)) n26.below) hg27 hup'3 (by decide)
   exact ze 0 (hJ3 _ _ _ ⟨i+1,_,_,(l2.drop (Vu l.length m i)),_,_,rfl,rfl,hB'9,hX,hO'1,hsz'2,o27,hA'3,fun W h1 h2=>Sts.cut Jl (hen W h1 h2) _ hszn,by omega,hl2s⟩ (by omega))
  have hkey0:(0:Int)=((Xj l m i).getD 0 Vy).1:=Za4 hjs (by omega)
  refine xlv 4 k23.rp ?_
  refine xbs 0 1 [.int .i64 0,.string ⟨(leB (↑(f+k0+i):Int) 4).toArray⟩,.int .i64 (↑(f+k0+i):Int)] 74 fun b28 W28 n28=>?_
  have d28_b22:=n28.ne k23
  have hB'10:=u23.below (blB hB'6 hBw n22.below) (Nat.le_trans hBw g22)
  have g28:=n28.ge0 hB'10
  have hup'4:=u23.own3 (Zb hup'1 n22.below) r22_hup
  have r28_hup:=Zr hup'4 n28
  have hup'5:=Zb hup'4 n28.below
  have hB'11:=blB hB'10 hBw n28.below
  refine xbi 0 fun _ _ _ _ zJ zQ zo zx zy zK=>Zo (m:=1) (news:=[.int .i64 0,.string ⟨(leB (↑(f+k0+i):Int) 4).toArray⟩,.int .i64 (↑(f+k0+i):Int)]) (.agg #[.int .i64 0,.string ⟨#[]⟩,.int .i64 0]) 3 32 (i+1) ((upE l m (f+k0) (i+1)).flatMap Hr) zo Tryz.underlying75 (by kernel_rfl) rfl (by decide) zx hup'5 zy (n28.blk.sl 1 1 (by decide) (by decide)) rfl (by simp[Value.oneCell']) (by unfold maxLen;omega) (by omega) hB'11.size (by rfl) (up_row (by first|exact hkey|exact hkey0)) fun px29 cx29 W29 o29 hg29 hb29=>?_
  refine zK _ _ ?_
  refine xwm 5 ((↑i:Int)+1) (↑(i+1):Int) ?_
  refine xv1 2 3 (show(.slice (Qy a2 (Vu l.length m i) c2 3) (l2.length-(Vu l.length m i)) (c2-(Vu l.length m i)):Value)=.slice (Qy a2 (Vu l.length m i) c2 3) ((l2.drop (Vu l.length m i)).length) (c2-Vu l.length m i) from by rw[List.length_drop]) ?_
  have hA'4:=((((hA.below hb21).below n22.below).only (Zh.of_upd (T:=[74]) u23 n22.blk (by decide)) (by decide)).below n28.below).only (Zh.of_grown (T:=[74]) hg29 hup'5 (by decide)) (by decide)
  have hl2s:l2.drop (Vu l.length m i)=l.drop ((i+1)*m):=by
   rw[hl2,List.drop_drop,Nat.add_mul,Nat.one_mul]
   unfold Vu
   rcases Nat.le_total m (l.length-i*m) with q|q
   ·rw[Nat.min_eq_left q]
   ·rw[Nat.min_eq_right q,List.drop_eq_nil_of_le (by omega),List.drop_eq_nil_of_le (by omega)]
  have hB'12:=hB'11.trans (hb29.mono hBw)
  have hX:=(Fr.grown_new ((Fr.upd_new (((((hXhF5.trans (Fr.of_below hT18)).trans (Fr.of_below hb19)).trans (hX20.mono (by simp))).trans (Fr.of_below hb21)).trans (Fr.of_below n22.below)) u23 g22).trans (Fr.of_below n28.below)) hg29 hup'5)
  have hO'2:=(Zh.grown_new ((Zh.upd_new (((hO.trans hO20).trans (Zh.of_below hb21)).trans (Zh.of_below n22.below)) u23 g22).trans (Zh.of_below n28.below)) hg29 hup'5)
  have hsz'3:=Xc (Zb (u23.own2 (Zb (Zb (Zj (Zb (Zb hsz hT18) hb19) hO20 (by decide)) hb21) n22.below) n22.blk (by decide)) n28.below) hg29 hup'5 (by decide)
  exact ze 0 (hJ3 _ _ _ ⟨i+1,_,_,(l2.drop (Vu l.length m i)),_,_,rfl,rfl,hB'12,hX,hO'2,hsz'3,o29,hA'4,fun W h1 h2=>Sts.cut Jl (hen W h1 h2) _ hszn,by omega,hl2s⟩ (by omega))
 refine xe 13 (.tuple #[.slice p4 i c4,.nilIface]) ?_
 obtain rfl:i=ovN l.length m:=by omega
 exact⟨_,_,rfl,hB_3,hO_3,hX_3,hA,hup⟩
theorem Zg4{w w':World}(h:Zh [153,5] w w'):Zh [153,5,26] w w':=h.mono fun t ht=>by simp at ht ⊢;exact⟨ht.1,ht.2.1⟩
def Tree1Post(B ba b g nn cc:Nat)(pa:Option Addr)(ca f N k0:Nat)(bs:List UInt8)(t:Int)(leaf:Bool)(m v:Nat)(l:List Ent)(b8:Nat)(w:World)(e:Ending)(w':World):Prop :=
 ∃ p c,e=.returned (.slice p (ovN l.length m) c)∧Below B w w'∧Zh [153,5,26] w w'∧Fr [ba,g,b8] w w'∧Blk w' b8 [.nilIface] 26∧Al B ba b g nn cc pa ca f N (k0+ovN l.length m) (levB t leaf m v l (f+k0) bs (ovN l.length m)) w'∧w'.ownsRow w.heap.size 74 3 (.slice p (ovN l.length m) c) (ovN l.length m) ((upE l m (f+k0) (ovN l.length m)).flatMap Hr)
theorem Dq(B ba b g nn cc:Nat)(pa:Option Addr)(ca f N k0:Nat)(bs:List UInt8)(t:Int)(leaf:Bool)(m v:Nat)(a:Option Addr)(c:Nat)(l:List Ent)(b3 b4 b8:Nat)(w:World)(k3:Blk w b3 [.pointer (some ⟨ba,0,none⟩)] 66)(k4:Blk w b4 [.int .i64 t] 3)(k8:Blk w b8 [.nilIface] 26)(h38:b3≠b8)(h48:b4≠b8)(hB8:B≤b8)(hC:AlC B ba nn cc ca f N)(hA:Al B ba b g nn cc pa ca f N k0 bs w)(ht1:1≤t)(ht2:t≤5)(hm:Qu t leaf=m)(hv:Br t leaf=v)(E:EntsOk v l)(hl:leaf=false→1≤l.length)(hn:l.length≤32768)(hf1:1≤f)(hk:k0+ovN l.length m≤N)(hin:∀ W,Below B w W→Zh [153,5,26] w W→Sts Hr W (.slice a l.length c) l)(hBw:B≤w.heap.size) :
 Calls Tryz.prog 61 #[.bool leaf,.slice a l.length c,.pointer (some ⟨b3,0,none⟩),.pointer (some ⟨b4,0,none⟩),.pointer (some ⟨b8,0,none⟩)] w (Tree1Post B ba b g nn cc pa ca f N k0 bs t leaf m v l b8 w):=by
 refine zin 20 Tryz.func61 ?_
 refine xb 7 0 k3 ?_
 refine xb 0 0 k4 ?_
 refine xc 2 (args:=#[.pointer (some ⟨ba,0,none⟩),.int .i64 t,.bool leaf,.slice a l.length c]) (Za7 B ba b g nn cc pa ca f N k0 bs t leaf m v a c l _ hC hA ht1 ht2 hm hv E hl hn hf1 hk (fun W h1 h2=>hin W ((Below.refl B _).trans h1) ((Zh.refl _ _).trans (Zg4 h2))) (Nat.le_trans hBw (Below.refl B _).size)) ?_
 rintro _ W1 ⟨p4,c4,rfl,hb1,hO1,hX1,hA,hup⟩
 have hs1:=Nat.le_refl w.heap.size
 have k8'1:=k8.only hO1 (by decide)
 refine xs 10 k8'1 [.nilIface] fun W2 u2 k2=>?_
 have hB:=u2.below hb1 hB8
 have hO:=(show Zh [153,5,26] w _ from(Zg4 hO1)).trans (Zh.of_upd u2 k8'1 (by decide))
 have hX:=(show Fr [ba,g,b8] w _ from(hX1.mono (by simp))).trans (Fr.of_upd u2 (by simp))
 have hA'1:=hA.only (Zh.of_upd (T:=[26]) u2 k8'1 (by decide)) (by decide)
 have hup'1:=u2.own2 (Zd hup hs1) k8'1 (by decide)
 exact xe 9 (.slice p4 (ovN l.length m) c4) ⟨_,_,rfl,hB,hO,hX,k2,hA'1,hup'1⟩
def Zcx(B ba b g nn cc:Nat)(pa:Option Addr)(ca f N k0:Nat)(bs:List UInt8)(t:Int)(l:List Ent)(w:World)(e:Ending)(w':World):Prop :=
 e=.returned (.tuple #[.int .i64 (Je t l (f+k0) bs).1,.nilIface])∧Below B w w'∧Zh [153,5,26] w w'∧Fr [ba,g] w w'∧Al B ba b g nn cc pa ca f N (k0+Qe t l.length) (Je t l (f+k0) bs).2 w'
theorem Ze6(B ba b g nn cc:Nat)(pa:Option Addr)(ca f N k0:Nat)(bs:List UInt8)(t:Int)(a:Option Addr)(c:Nat)(l:List Ent)(w:World)(hC:AlC B ba nn cc ca f N)(hA:Al B ba b g nn cc pa ca f N k0 bs w)(ht1:1≤t)(ht2:t≤5)(E:EntsOk (Br t true) l)(hn:l.length≤32768)(hf1:1≤f)(hkN:k0≤N)(hk:k0+Qe t l.length≤N)(hin:∀ W,Below B w W→Zh [153,5,26] w W→Sts Hr W (.slice a l.length c) l)(hBw:B≤w.heap.size) :
 Calls Tryz.prog 25 #[.pointer (some ⟨ba,0,none⟩),.int .i64 t,.slice a l.length c] w (Zcx B ba b g nn cc pa ca f N k0 bs t l w):=by
 have hnp:=Zcp t l.length
 have hog:(ovN l.length (Qu t true))≤Qe t l.length:=Bz _
 have hov:=Oa l.length (Qu t true) (Qk t true).1
 have hop:=Vn l.length (Qu t true)
 have hcf:=hC.hf
 have hcn:=hC.hn
 refine zin 52 Tryz.func25 ?_
 refine xa 2 [.pointer (some ⟨ba,0,none⟩)] 66 fun b1 W1 n1=>?_
 refine xa 0 [.int .i64 t] 3 fun b2 W2 n2=>?_
 have k1:=n1.blk.below n2.below
 refine xb 8 0 k1 ?_
 have hA'1:=(hA.below n1.below).below n2.below
 refine xr 0 (args:=#[.pointer (some ⟨ba,0,none⟩)]) (Hv ba b _ _ _ hA'1.blkA) fun W3 hb3=>?_
 have k2:=n2.blk.below hb3
 refine xb 7 0 k2 ?_
 have hB:=blB (blB (blB (Below.refl B w) hBw n1.below) hBw n2.below) hBw hb3
 have hO:=((show Zh [153,5,26] w _ from(Zh.of_below n1.below)).trans (Zh.of_below n2.below)).trans (Zh.of_below hb3)
 refine xr 1 (args:=#[.int .i64 t,.slice a l.length c]) (Zaq t (Br t true) a c l _ ht1 ht2 rfl E (hin _ hB hO) hn) fun W4 hb4=>?_
 refine xd 6 .z ?_
 have k1'1:=((k1.below hb3).below hb4).below (Za W4)
 refine xb (.e [] 0) 0 k1'1 ?_
 have k2'1:=(k2.below hb4).below (Za W4)
 refine xb (.e [] 2) 0 k2'1 ?_
 have hA'2:=((hA'1.below hb3).below hb4).below (Za W4)
 refine xr (.o [3,4] 1) (args:=#[.pointer (some ⟨ba,0,none⟩)]) (Ns ba b pa N ca k0 _ hA'2.blkA hkN) fun W5 hb5=>?_
 refine xr (.o [] 5) (args:=#[.int .i64 t,.int .i64 (↑l.length:Int)]) (Ju t l.length _ ht1 ht2 hn) fun W6 hb6=>?_
 refine xk (.r [6,7] 2) (show(decide ((↑(N-k0):Int)<(↑(Qe t l.length):Int)):Bool)=false from decide_eq_false (by omega)) ?_
 refine xa 5 [.nilIface] 26 fun b7 W7 n7=>?_
 have hB'1:=blB (blB (blB (blB hB hBw hb4) hBw (Za W4)) hBw hb5) hBw hb6
 have g7:=n7.ge0 hB'1
 have k1'2:=((k1'1.below hb5).below hb6).below n7.below
 have k2'2:=((k2'1.below hb5).below hb6).below n7.below
 have hA'3:=((hA'2.below hb5).below hb6).below n7.below
 have hB'2:=blB hB'1 hBw n7.below
 have hO'1:=((((hO.trans (Zh.of_below hb4)).trans (Zh.of_below (Za W4))).trans (Zh.of_below hb5)).trans (Zh.of_below hb6)).trans (Zh.of_below n7.below)
 refine xc 12 (args:=#[.bool true,.slice a l.length c,.pointer (some ⟨b1,0,none⟩),.pointer (some ⟨b2,0,none⟩),.pointer (some ⟨b7,0,none⟩)]) (Dq B ba b g nn cc pa ca f N k0 bs t true (Qu t true) (Br t true) a c l b1 b2 b7 _ k1'2 k2'2 n7.blk (Blk.tne k1'2 n7.blk (by decide)) (Blk.tne k2'2 n7.blk (by decide)) (Nat.le_trans hBw g7) hC hA'3 ht1 ht2 rfl rfl E (by simp) hn hf1 (by omega) (fun W h1 h2=>hin W (hB'2.trans h1) (hO'1.trans h2)) (Nat.le_trans hBw hB'2.size)) ?_
 rintro _ W8 ⟨p41,c41,rfl,hb8,hO8,hX8,k8n,hA,hup⟩
 have hs8:=(blB hB'1 hBw n7.below).size
 refine xv1 5 10 (show(.slice p41 (ovN l.length (Qu t true)) c41:Value)=.slice p41 ((upE l (Qu t true) (f+k0) (ovN l.length (Qu t true))).length) c41 from by rw[Yw]) ?_
 have hup'1:=Zd hup hs8
 have hB'3:=hB'2.trans hb8
 have hX:=(Fr.trans_new ((((((((show Fr [ba,g] w _ from(Fr.of_below n1.below)).trans (Fr.of_below n2.below)).trans (Fr.of_below hb3)).trans (Fr.of_below hb4)).trans (Fr.of_below (Za W4))).trans (Fr.of_below hb5)).trans (Fr.of_below hb6)).trans (Fr.of_below n7.below)) hX8 g7)
 have hO'2:=hO'1.trans hO8
 have k1'3:=k1'2.only hO8 (by decide)
 have k2'3:=k2'2.only hO8 (by decide)
 refine zl 0 52 (fun zm zkv V=>∃ (u:List Ent) (K:Nat) (bs2:List UInt8) (p:Option Addr) (c2:Nat),zkv=[(6,.int .i64 0),(7,.nilIface),(8,.pointer (some ⟨b7,0,none⟩)),(9,.func (.func 61) #[] #[.pointer (some ⟨b1,0,none⟩),.pointer (some ⟨b2,0,none⟩),.pointer (some ⟨b7,0,none⟩)]),(10,.slice p u.length c2)]∧zm=u.length∧Below B w V∧Fr [ba,g] w V∧Zh [153,5,26] w V∧Blk V b1 ([.pointer (some ⟨ba,0,none⟩)]) 66∧Blk V b2 ([.int .i64 t]) 3∧Blk V b7 ([.nilIface]) 26∧V.ownsRow w.heap.size 74 3 (.slice p u.length c2) u.length (u.flatMap Hr)∧Al B ba b g nn cc pa ca f N K bs2 V∧K+(Zc4 u.length).sum=k0+Qe t l.length+u.length∧1≤u.length∧u.length≤32768∧EntsOk 4 u∧Lh t u (f+K) bs2=Je t l (f+k0) bs) ⟨(upE l (Qu t true) (f+k0) (ovN l.length (Qu t true))),(k0+(ovN l.length (Qu t true))),(levB t true (Qu t true) (Br t true) l (f+k0) bs (ovN l.length (Qu t true))),p41,c41,rfl,rfl,hB'3,hX,hO'2,k1'3,k2'3,k8n,(by rw[Yw];exact hup'1),hA,(by rw[Yw];unfold Qe Hd;omega),(by rw[Yw];exact hop),(by rw[Yw];omega),up_ok E (Qk t true).1,(by rw[←Nat.add_assoc];rfl)⟩ ?_
 rintro _ _ W9 ⟨u,K,bs2,p,c2,rfl,rfl,hB_9,hX_9,hO_9,k9_b1,k9_b2,k9_b7,hup,hA,hK,hu1,hun,hE,htr⟩ J9 hJ9 r9
 have hlm:¬ u.length≤1→(Zc4 u.length).sum=u.length+(Zc4 (ovN u.length 18)).sum:=fun h=>by rw[Gy h];rfl
 have hlg:=Bz (ovN u.length 18)
 have h18:2≤u.length→ovN u.length 18≤u.length/2:=ov18
 have h18p:=Vn u.length 18
 refine xb 3 0 k9_b7 ?_
 refine xid 8 ((↑u.length:Int)>(1:Int)) (fun hc10=>?_) (fun hc10=>?_)
 ·refine xc 6 (args:=#[.bool false,.slice p u.length c2,.pointer (some ⟨b1,0,none⟩),.pointer (some ⟨b2,0,none⟩),.pointer (some ⟨b7,0,none⟩)]) (Dq B ba b g nn cc pa ca f N K bs2 t false 18 4 p c2 u b1 b2 b7 _ k9_b1 k9_b2 k9_b7 (Blk.tne k9_b1 k9_b7 (by decide)) (Blk.tne k9_b2 k9_b7 (by decide)) (Nat.le_trans hBw g7) hC hA ht1 ht2 rfl rfl hE (fun _=>hu1) (by omega) hf1 (by omega) (fun W _ h2=>Ze (Zj hup h2 (by decide))) (Nat.le_trans hBw hB_9.size)) ?_
  rintro _ W11 ⟨p42,c42,rfl,hb11,hO11,hX11,k8n,hA,hup⟩
  refine xv1 3 10 (show(.slice p42 (ovN u.length 18) c42:Value)=.slice p42 ((upE u 18 (f+K) (ovN u.length 18)).length) c42 from by rw[Yw]) ?_
  have hup'2:=Zd hup hB_9.size
  have hB'4:=hB_9.trans hb11
  have hX'1:=(Fr.trans_new hX_9 hX11 g7)
  have hO'3:=hO_9.trans hO11
  have k9_b1'1:=k9_b1.only hO11 (by decide)
  have k9_b2'1:=k9_b2.only hO11 (by decide)
  refine ze 0 (hJ9 _ _ _ ⟨(upE u 18 (f+K) (ovN u.length 18)),(K+ovN u.length 18),_,_,_,rfl,rfl,hB'4,hX'1,hO'3,k9_b1'1,k9_b2'1,k8n,(by rw[Yw];exact hup'2),hA,(by rw[Yw];omega),(by rw[Yw];exact h18p),(by rw[Yw];omega),up_ok hE (by decide),(by rw[←htr,←Nat.add_assoc];exact(Zbb (by omega)).symm)⟩ ?_)
  show((upE u 18 (f+K) (ovN u.length 18)).length)<u.length
  rw[Yw];omega
 refine xb 8 0 k9_b7 ?_
 refine xx 9 _ u.length 0 3 (Sts.cell (Ze hup) Jl Vy (k:=0) (i:=0) (by omega) rfl).1 ?_
 refine xl 1 ((Sts.cell (Ze hup) Jl Vy (k:=0) (i:=2) (by omega) rfl).2) ?_
 refine xe 5 (.tuple #[.int .i64 ((u.getD 0 Vy).2.2),.nilIface]) ?_
 have h1:u.length≤1:=by omega
 rw[Rf h1] at htr
 rw[Uu h1] at hK
 simp only[List.sum_cons,List.sum_nil] at hK
 obtain rfl:K=k0+Qe t l.length:=by omega
 refine⟨by rw[←htr],hB_9,hO_9,hX_9,by rw[←htr];exact hA⟩
def entE(v:Nat)(l:List Ent)(i:Nat):Prop:=lastK l i<(l.getD i Vy).1∧(l.getD i Vy).1≤281474976710655∧(l.getD i Vy).2.1.length=v
instance (v:Nat) (l:List Ent) (i:Nat):Decidable (entE v l i):=by unfold entE;infer_instance
structure AlG(B ba b:Nat)(pa:Option Addr)(N ca k:Nat)(L:List Int)(w:World):Prop where
 blk:Blk w ba [.slice pa N ca,.int .i64 (k:Int),.pointer (some ⟨b,0,none⟩)] 153
 nums:w.ownsRow B 3 1 (.slice pa N ca) N (L.map (Value.int .i64))
 hL:L.length=N
 hB:B≤ba
 hN:N≤1000000
 hk:k≤N
theorem AlG.below{B ba b:Nat}{pa:Option Addr}{N ca k:Nat}{L:List Int}{w W:World}(h:AlG B ba b pa N ca k L w)(hb:Below w.heap.size w W):AlG B ba b pa N ca k L W:=⟨h.blk.below hb,Zb h.nums hb,h.hL,h.hB,h.hN,h.hk⟩
theorem AlG.only{B ba b:Nat}{pa:Option Addr}{N ca k:Nat}{L:List Int}{w W:World}{T:List TypeId}(h:AlG B ba b pa N ca k L w)(hO:Zh T w W)(hT:T.contains 153=false∧T.contains 3=false):AlG B ba b pa N ca k L W:=⟨h.blk.only hO hT.1,Zj h.nums hO hT.2,h.hL,h.hB,h.hN,h.hk⟩
theorem AlG.mono{B B' ba b:Nat}{pa:Option Addr}{N ca k:Nat}{L:List Int}{w:World}(h:AlG B ba b pa N ca k L w)(hB:B'≤B):AlG B' ba b pa N ca k L w:=⟨h.blk,Zd h.nums hB,h.hL,Nat.le_trans hB h.hB,h.hN,h.hk⟩
theorem Ze7(p:Addr)(N c:Nat)(xs:List Value)(w:World)(h:Sl w (.slice (some p) N c) N xs)(hl:xs.length=N)(h1:∀ u∈xs,u.oneCell'=true)(hn:N≤1000000) :
 Calls Tryz.prog 88 #[.slice (some p) N c] w (Yz (fun w' r=>∃ q c2,r=.slice q N c2∧w'.ownsRow w.heap.size 3 1 (.slice q N c2) N xs) w):=by
 refine zin 8 Tryz.func88 ?_
 refine xb0 17 3 fun b1 W1 n1=>?_
 have o1:=Zw (size:=1) (n:=0) n1.blk (n1.ge (Below.refl w.heap.size _)) rfl (by decide)
 refine xbi 1 fun _ _ _ _ zJ zQ zo zx zy zK=>Zo (m:=N) (news:=xs) (.int .i64 0) 1 8 (N) (xs) zo Tryz.underlying31 (by kernel_rfl) rfl (by decide) zx o1 zy (h.below n1.below) (by rw[hl,Nat.mul_one]) h1 (by unfold maxLen;omega) (by omega) n1.below.size (by omega) (by rfl) fun px2 cx2 W2 o2 hg2 hb2=>?_
 refine zK _ _ ?_
 have hB'1:=n1.below.trans hb2
 exact xe 4 (.slice px2 N cx2) ⟨_,rfl,hB'1,_,_,rfl,o2⟩
theorem Em(w:World) :
 Calls Tryz.prog 88 #[.slice none 0 0] w (Ret (.slice none 0 0) w):=by
 refine zin 8 Tryz.func88 ?_
 exact xe 20 (.slice none 0 0) ⟨rfl,(Below.refl w.heap.size _)⟩
theorem Zaf(a:Option Addr)(N c:Nat)(xs:List Value)(w:World)(h:Sl w (.slice a N c) N xs)(hc:a=none→c=0)(hl:xs.length=N)(h1:∀ u∈xs,u.oneCell'=true)(hn:N≤1000000) :
 Calls Tryz.prog 88 #[.slice a N c] w (Yz (fun w' r=>∃ q c2,r=.slice q N c2∧w'.ownsRow w.heap.size 3 1 (.slice q N c2) N xs) w):=by
 cases a with
 | some p=>exact Ze7 p N c xs w h hl h1 hn
 | none =>
  have hN:N=0∧xs=[]:=by
   rcases h with ⟨a',c',h2,h3,h4⟩|⟨b',off,cap,h2,_⟩
   ·simp only[Value.slice.injEq] at h2;exact⟨h2.2.1,h4⟩
   ·cases h2
  obtain⟨rfl,rfl⟩:=hN
  obtain rfl:=hc rfl
  refine(Em w).mono ?_
  rintro e W ⟨rfl,hb⟩
  exact⟨_,rfl,hb,none,0,rfl,World.ownsRow_nil _ _ _ _⟩
theorem sl_cut{w:World}{b:Option Addr}{n c:Nat}{xs:List Value}(h:Sl w (.slice b n c) n xs)(hl:xs.length=n)(k:Nat)(hk:k≤n):Sl w (.slice (Qy b k c 1) (n-k) (c-k)) (n-k) (xs.drop k):=by
 rcases h with ⟨a',c',h1,h2,h3⟩|⟨g,off,cap,h1,h2,h3,h4⟩
 ·obtain rfl:k=0:=by omega
  subst h3 h2
  exact .inl ⟨Qy b 0 c 1,c-0,rfl,rfl,rfl⟩
 ·simp only[Value.slice.injEq] at h1
  obtain⟨rfl,_,rfl⟩:=h1
  by_cases hz:n-k=0
  ·refine .inl ⟨Qy (some ⟨g,off,none⟩) k c 1,c-k,by rw[hz],by omega,?_⟩
   exact List.drop_eq_nil_of_le (by omega)
  ·refine .inr ⟨g,off+k*1,c-k,?_,by omega,by omega,fun j x hj=>?_⟩
   ·rw[Qy,if_neg (by omega)];simp[Addr.add]
   ·rw[List.getElem?_drop] at hj
    have:=h4 (k+j) x hj
    rwa [Nat.mul_one,Nat.add_assoc]
theorem sl_take{w:World}{b:Option Addr}{n c:Nat}{xs:List Value}(h:Sl w (.slice b n c) n xs)(hl:xs.length=n)(m:Nat)(hm:m≤n):Sl w (.slice b m c) m (xs.take m):=Sl.head h hl m hm
theorem aheadSl{w:World}{b:Option Addr}{n c k i:Nat}{L:List Int}(h:Sl w (.slice b n c) n (L.map (Value.int .i64)))(hl:L.length=n)(hk:k≤n):Sl w (.slice (Qy b k c 1) (min i (n-k)) (c-k)) (min i (n-k)) (((L.drop k).take i).map (Value.int .i64)):=by
 have h1:=sl_cut h (by simpa using hl) k hk
 have h2:=sl_take h1 (by simp[hl]) (min i (n-k)) (by omega)
 rw[←List.map_drop,←List.map_take] at h2
 have e:(L.drop k).take (min i (n-k))=(L.drop k).take i:=by
  rcases Nat.le_total i (n-k) with q|q
  ·rw[Nat.min_eq_left q]
  ·rw[Nat.min_eq_right q,List.take_of_length_le (by simp[hl]),List.take_of_length_le (by simp[hl];omega)]
 rw[e] at h2
 exact h2
theorem aheadN{w:World}{B:Nat}{b:Option Addr}{n c k:Nat}{xs:List Value}{e size:Nat}(h:w.ownsRow B e size (.slice b n c) n xs):Qy b k c 1=none→c-k=0:=by
 intro hn
 have hb:b=none:=by
  unfold Qy at hn
  split at hn
  ·exact hn
  ·simpa using hn
 subst hb
 rcases h.2 with ⟨h2,_⟩|⟨g,cap,cur,h2,_⟩
 ·simp only[Value.slice.injEq] at h2;omega
 ·cases h2
theorem Ow(B ba b:Nat)(p0:Option Addr)(N ca k i:Nat)(L:List Int)(w:World)(hA:AlG B ba b p0 N ca k L w)(hi:i≤1000000) :
 Calls Tryz.prog 89 #[.pointer (some ⟨ba,0,none⟩),.int .i64 (↑i:Int)] w (Yz (fun w' r=>∃ q c2,r=.slice q (min i (N-k)) c2∧w'.ownsRow w.heap.size 3 1 (.slice q (min i (N-k)) c2) (min i (N-k)) (((L.drop k).take i).map (Value.int .i64))) w):=by
 have hk:=hA.blk
 have hkN:=hA.hk
 have hL:=hA.hL
 have hN:=hA.hN
 have hca:N≤ca:=by
  rcases Nat.eq_zero_or_pos N with q|q
  ·omega
  ·exact Ol hA.nums q
 refine zin 23 Tryz.func89 ?_
 refine xr 9 (args:=#[.pointer (some ⟨ba,0,none⟩)]) (Jj ba b _ _ _ hk) fun W1 hb1=>?_
 refine xid 6 ((↑i:Int)<(1:Int)) (fun hc2=>?_) (fun hc2=>?_)
 ·refine xe 7 (.slice none 0 0) ?_
  obtain rfl:i=0:=by omega
  exact⟨_,rfl,hb1,none,0,by rw[Nat.zero_min],by rw[Nat.zero_min,List.take_zero];exact World.ownsRow_nil _ _ _ _⟩
 have hk'1:=hk.below hb1
 refine xr 7 (args:=#[.pointer (some ⟨ba,0,none⟩)]) (Fh ba p0 N ca k _ _ hk'1 hkN) fun W3 hb3=>?_
 refine xq 9 (congrArg (Value.int .i64) (show(if(↑(N-k):Int)<(↑i:Int) then(↑(N-k):Int) else(↑i:Int):Int)=(↑(min i (N-k)):Int) from Td i (N-k))) ?_
 refine xsH 0 (fun _ _ _ _ zo zx zy V=>Qz (k:=(min i (N-k))) (b:=(Qy p0 k ca 1)) (n:=(N-k)) (c:=(ca-k)) (i:=(↑(min i (N-k)):Int)) (ki:=.i64) zo zx zy rfl (by omega) Tryz.underlying31 (by kernel_rfl) V) ?_
 have hB:=bln hb1 hb3
 refine xc 0 (args:=#[.slice (Qy p0 k ca 1) (min i (N-k)) (ca-k)]) (Zaf (Qy p0 k ca 1) (min i (N-k)) (ca-k) (((L.drop k).take i).map (Value.int .i64)) _ (aheadSl (Ze (Zb hA.nums hB)) hL hkN) (aheadN hA.nums) (by simp;omega) (Zcz _) (by omega)) ?_
 rintro _ W4 ⟨_,rfl,hb4,pq,cq,rfl,hq⟩
 have hs4:=(bln hb1 hb3).size
 have hB'1:=bln hB hb4
 have hq'1:=Zd hq hs4
 exact xe 4 (.slice pq (min i (N-k)) cq) ⟨_,rfl,hB'1,_,_,rfl,hq'1⟩
def rsV (L:List (List Int))(q i:Nat):List Value:=[.int .i64 ((q+i:Nat):Int),.int .i64 (Yg (L.getD i []):Int),.int .i64 (Xi (L.getD i []):Int)]
def rsL (L:List (List Int))(q n:Nat):List Value:=(List.range n).flatMap (rsV L q)
theorem rsL_succ(L:List (List Int))(q n:Nat):rsL L q (n+1)=rsL L q n++rsV L q n:=by simp[rsL,List.range_succ]
def ClosM(B Bx bl:Nat)(L:List (List Int))(q i:Nat)(w:World)(e:Ending)(w':World):Prop :=
 ∃ u p c,e=.returned u∧Below B w w'∧Zh [197,191] w w'∧Blk w' bl [.slice p (i+1) c] 197∧w'.ownsRow Bx 191 3 (.slice p (i+1) c) (i+1) (rsL L q (i+1))∧FrB Bx [bl] w w'
theorem Zd9(B Bx bl:Nat)(p:Option Addr)(c:Nat)(L:List (List Int))(q i:Nat)(w:World)(hBm:B≤Bx)(hBx:Bx≤w.heap.size)(hBw:B≤w.heap.size)(hBl:B≤bl)(kl:Blk w bl [.slice p i c] 197)(hup:w.ownsRow Bx 191 3 (.slice p i c) i (rsL L q i))(hi:i≤100000) :
 Calls Tryz.prog 90 #[.agg #[.int .i64 (↑(q+i):Int),.int .i64 (↑(Yg (L.getD i [])):Int),.int .i64 (↑(Xi (L.getD i [])):Int)],.pointer (some ⟨bl,0,none⟩)] w (ClosM B Bx bl L q i w):=by
 have hZ:FrZ Bx [bl] w w:=FrZ.refl hBx
 refine zin 7 Tryz.func90 ?_
 refine xa 2 [.int .i64 (↑(q+i):Int),.int .i64 (↑(Yg (L.getD i [])):Int),.int .i64 (↑(Xi (L.getD i [])):Int)] 191 fun b1 W1 n1=>?_
 have r1_hup:=Zr hup n1
 have kl'1:=kl.below n1.below
 refine xb 3 0 kl'1 ?_
 refine xlv 0 n1.blk.rp ?_
 refine xbs 0 1 [.int .i64 (↑(q+i):Int),.int .i64 (↑(Yg (L.getD i [])):Int),.int .i64 (↑(Xi (L.getD i [])):Int)] 191 fun b2 W2 n2=>?_
 have d2_b1:=n2.ne n1.blk
 have hup'1:=Zb hup n1.below
 have r2_hup:=Zr hup'1 n2
 have hup'2:=Zb hup'1 n2.below
 have hB:=blB (blB (Below.refl B w) hBw n1.below) hBw n2.below
 refine xbi 0 fun _ _ _ _ zJ zQ zo zx zy zK=>Zo (m:=1) (news:=[.int .i64 (↑(q+i):Int),.int .i64 (↑(Yg (L.getD i [])):Int),.int .i64 (↑(Xi (L.getD i [])):Int)]) (.agg #[.int .i64 0,.int .i64 0,.int .i64 0]) 3 24 (i+1) ((rsL L q (i+1))) zo Tryz.underlying197 (by kernel_rfl) rfl (by decide) zx hup'2 zy (n2.blk.sl 1 1 (by decide) (by decide)) rfl (by simp[Value.oneCell']) (by unfold maxLen;omega) (by omega) (Nat.le_trans hBx hB.size) (by rfl) (by rw[rsL_succ];rfl) fun px3 cx3 W3 o3 hg3 hb3=>?_
 refine zK _ _ ?_
 have kl'2:=(kl'1.below n2.below).grown hg3 hup'2 (by decide)
 refine xs 0 kl'2 [.slice px3 (i+1) cx3] fun W4 u4 k4=>?_
 have hB'1:=u4.below (hB.trans (hb3.mono hBm)) hBl
 have hO:=(((show Zh [197,191] w _ from(Zh.of_below n1.below)).trans (Zh.of_below n2.below)).trans (Zh.of_grown hg3 hup'2 (by decide))).trans (Zh.of_upd u4 kl'2 (by decide))
 have o3'1:=u4.own2 o3 kl'2 (by decide)
 have hZ'1:=(((hZ.below n1.below).below n2.below).grown hg3 hup'2).upd u4 (by simp)
 exact xe 1 (.tuple #[]) ⟨_,_,_,rfl,hB'1,hO,k4,o3'1,hZ'1.fr⟩
def LayPostM(B ba b g nn cc:Nat)(pa:Option Addr)(ca f N k0:Nat)(bs:List UInt8)(bl:Nat)(L:List (List Int))(w:World)(e:Ending)(w':World):Prop :=
 ∃ p c,e=.returned .nilIface∧Below B w w'∧Zh [153,5,197,191] w w'∧Fr [ba,g,bl] w w'∧Al B ba b g nn cc pa ca f N (k0+L.length) (Uz L (f+k0) bs L.length) w'∧Blk w' bl [.slice p L.length c] 197∧w'.ownsRow w.heap.size 191 3 (.slice p L.length c) L.length (rsL L (f+k0) L.length)
theorem plot_layM(B ba b g nn cc:Nat)(pa:Option Addr)(ca f N k0:Nat)(bs:List UInt8)(bl B2:Nat)(pl:Option Addr)(cl:Nat)(gs:List (Nat×Nat))(L:List (List Int))(w:World)(hC:AlC B ba nn cc ca f N)(hA:Al B ba b g nn cc pa ca f N k0 bs w)(hL:Lists w B2 (.slice pl L.length cl) gs L)(hS:∀ i,i<L.length→Vw (L.getD i [])∧(L.getD i []).length≤960)(hf1:1≤f)(hk:k0+L.length≤N)(kl:Blk w bl [.slice none 0 0] 197)(hBl:B≤bl)(hBw:B≤w.heap.size) :
 Calls Tryz.prog 84 #[.pointer (some ⟨ba,0,none⟩),.slice pl L.length cl,.func (.func 90) #[] #[.pointer (some ⟨bl,0,none⟩)]] w (LayPostM B ba b g nn cc pa ca f N k0 bs bl L w):=by
 have hcf:=hC.hf
 have hcn:=hC.hn
 refine zin 51 Tryz.func84 ?_
 have hB:=Below.refl B w
 refine zl 14 51 (fun zm zkv V=>∃ (i:Nat) (p:Option Addr) (c:Nat),zkv=[(0,.pointer (some ⟨ba,0,none⟩)),(2,.func (.func 90) #[] #[.pointer (some ⟨bl,0,none⟩)]),(15,.slice pl L.length cl),(16,.int .i64 (↑L.length:Int)),(17,.int .i64 (↑i:Int))]∧zm=L.length-((↑i:Int)).toNat∧Below B w V∧Fr [ba,g,bl] w V∧Zh [153,5,197,191] w V∧Blk V bl ([.slice p i c]) 197∧Al B ba b g nn cc pa ca f N (k0+i) (Uz L (f+k0) bs i) V∧Lists V B2 (.slice pl L.length cl) gs L∧V.ownsRow w.heap.size 191 3 (.slice p i c) i (rsL L (f+k0) i)∧i≤L.length) ⟨0,none,0,rfl,rfl,hB,(Fr.refl _ _),(Zh.refl _ _),kl,hA,hL,World.ownsRow_nil _ _ _ _,Nat.zero_le _⟩ ?_
 rintro _ _ W1 ⟨i,p,c,rfl,rfl,hB_1,hX_1,hO_1,k1_bl,hA,hL,hup,hi⟩ J1 hJ1 r1
 refine xid 6 ((↑i:Int)<(↑L.length:Int)) (fun hc2=>?_) (fun hc2=>?_)
 ·refine xx 6 _ L.length i 1 (Lists.elem hL rfl (k:=i) (by omega)).1 ?_
  refine xl 0 ((Lists.elem hL rfl (k:=i) (by omega)).2) ?_
  refine xc 6 (args:=#[.slice (some ⟨(gs.getD i (0,0)).1,0,none⟩) ((L.getD i []).length) ((gs.getD i (0,0)).2)]) (Zc6 _ _ (L.getD i []) _ (hS i (by omega)).1 (hS i (by omega)).2 (Ze (hL.each i (by omega)))) ?_
  rintro _ W3 ⟨_,rfl,hb3,g6,rfl,h6⟩
  have hA'1:=hA.below hb3
  have hO'1:=hO_1.trans (Zh.of_below hb3)
  have h6'1:=Zd h6 hB_1.size
  have hB'1:=blB hB_1 hBw hb3
  refine xc 21 (args:=#[.pointer (some ⟨ba,0,none⟩),.int .i64 3,.slice (some ⟨g6,0,none⟩) 244 244]) (Ut B ba b g nn cc pa ca f N (k0+i) (Uz L (f+k0) bs i) 3 (some ⟨g6,0,none⟩) 244 (Jd (L.getD i [])) (f+k0+i) 244 _ (Nat.add_assoc _ _ _).symm (Qf _ _) hC hA'1 (by omega) (by decide) (by decide) (fun W _ hO'1=>Yk (Ze (Zj h6'1 hO'1 (by decide))) (Qf _ _)) (by decide) (Nat.le_trans hBw hB'1.size)) ?_
  rintro _ W4 ⟨rfl,hb4,hO4,hX4,hA⟩
  have hL'1:=(hL.below hb3).only hO4 (by decide)
  refine xr 20 (args:=#[.slice (some ⟨(gs.getD i (0,0)).1,0,none⟩) ((L.getD i []).length) ((gs.getD i (0,0)).2)]) (Il _ _ (L.getD i []) _ (hS i (by omega)).2 (Ze (hL'1.each i (by omega)))) fun W5 hb5=>?_
  have hf9:Yg (L.getD i [])≤960:=Nat.le_trans (Pt _ _) (hS i (by omega)).2
  have hg9:Xi (L.getD i [])≤960:=Nat.le_trans (Pr _) (hS i (by omega)).2
  have hB'2:=blB (hB'1.trans hb4) hBw hb5
  have k1_bl'1:=((k1_bl.below hb3).only hO4 (by decide)).below hb5
  have hup'1:=Zb (Zj (Zb hup hb3) hO4 (by decide)) hb5
  refine xc 13 (args:=#[.agg #[.int .i64 (↑(f+k0+i):Int),.int .i64 (↑(Yg (L.getD i [])):Int),.int .i64 (↑(Xi (L.getD i [])):Int)],.pointer (some ⟨bl,0,none⟩)]) (Zd9 B w.heap.size bl p c L (f+k0) i _ hBw hB'2.size (Nat.le_trans hBw hB'2.size) hBl k1_bl'1 hup'1 (by omega)) ?_
  rintro _ W6 ⟨_,p9,c9,rfl,hb6,hO6,kln,hup,hX6⟩
  refine xwm 4 ((↑i:Int)+1) (↑(i+1):Int) ?_
  have hA'2:=(hA.below hb5).only hO6 (by decide)
  have hL'2:=(hL'1.below hb5).only hO6 (by decide)
  have hB'3:=hB'2.trans hb6
  have hX'1:=(Fr.trans_B (((hX_1.trans (Fr.of_below hb3)).trans (hX4.mono (by simp))).trans (Fr.of_below hb5)) hX6 (by simp))
  have hO'2:=((hO'1.trans (hO4.wide)).trans (Zh.of_below hb5)).trans (hO6.wide)
  exact ze 2 (hJ1 _ _ _ ⟨i+1,_,_,rfl,rfl,hB'3,hX'1,hO'2,kln,hA'2,hL'2,hup,by omega⟩ (by omega))
 refine xe 11 .nilIface ?_
 obtain rfl:i=L.length:=by omega
 exact⟨_,_,rfl,hB_1,hO_1,hX_1,hA,k1_bl,hup⟩
def rsC (x:Nat×Nat×Nat):List Value:=[.int .i64 (x.1:Int),.int .i64 (x.2.1:Int),.int .i64 (x.2.2:Int)]
theorem Zhc(x:Nat×Nat×Nat):(rsC x).length=3:=rfl
def rsD:Nat×Nat×Nat:=(0,0,0)
def Rs (L:List (List Int))(q n:Nat):List (Nat×Nat×Nat):=(List.range n).map fun i=>(q+i,Yg (L.getD i []),Xi (L.getD i []))
theorem Fa(L:List (List Int))(q n:Nat):(Rs L q n).length=n:=by simp[Rs]
theorem Rs_get{L:List (List Int)}{q n i:Nat}(h:i<n):(Rs L q n).getD i rsD=(q+i,Yg (L.getD i []),Xi (L.getD i [])):=by simp[Rs,List.getD,List.getElem?_range h]
theorem rsL_Rs(L:List (List Int))(q n:Nat):rsL L q n=(Rs L q n).flatMap rsC:=by simp[rsL,Rs,List.flatMap_map];rfl
theorem Rs_sts{L:List (List Int)}{q n c:Nat}{p:Option Addr}{w:World}(h:Sl w (.slice p n c) n (rsL L q n)):Sts rsC w (.slice p (Rs L q n).length c) (Rs L q n):=by unfold Sts;rw[Fa,←rsL_Rs];exact h
def slB (x:Nat×Nat×Nat):List UInt8:=leB (x.1:Int) 8++leB (x.2.1:Int) 4++leB (x.2.2:Int) 4
theorem Za9(x:Nat×Nat×Nat):(slB x).length=16:=by simp[slB,Zg]
def Zdw(S:List (Nat×Nat×Nat))(i:Nat):List UInt8:=leB (S.length:Int) 4++(List.range i).flatMap fun j=>slB (S.getD j rsD)
theorem Pe(S:List (Nat×Nat×Nat))(i:Nat):Zdw S (i+1)=Zdw S i++slB (S.getD i rsD):=by simp[Zdw,List.range_succ]
theorem Bp(S:List (Nat×Nat×Nat)):∀ i,(Zdw S i).length=4+i*16
 | 0=>by simp[Zdw,Zg]
 | i+1=>by rw[Pe,List.length_append,Bp S i,Za9];omega
def Eu(S:List (Nat×Nat×Nat)):List UInt8:=Zdw S S.length++List.replicate (244-(4+S.length*16)) 0
theorem Bs{S:List (Nat×Nat×Nat)}(h:S.length≤15):(Eu S).length=244:=by unfold Eu;rw[List.length_append,Bp,List.length_replicate];omega
def Co(S:List (Nat×Nat×Nat)):Prop:=S.length≤14∧∀ i,i<S.length→1≤(S.getD i rsD).1∧(S.getD i rsD).1≤14399∧(S.getD i rsD).2.1≤960∧(S.getD i rsD).2.2≤960
theorem slB_ne(x:Nat×Nat×Nat):((⟨(leB (x.1:Int) 8++leB (x.2.1:Int) 4++leB (x.2.2:Int) 4).toArray⟩:ByteArray).toList==(⟨#[]⟩:ByteArray).toList)=false:=by
 rw[show(⟨#[]⟩:ByteArray)=⟨([]:List UInt8).toArray⟩ from rfl,Ww]
 apply beq_false_of_ne
 intro q
 have h1:=congrArg List.length q
 simp[Zg] at h1
theorem slots_Put(a:Option Addr)(c:Nat)(S:List (Nat×Nat×Nat))(w:World)(hS:Co S)(h:Sts rsC w (.slice a S.length c) S) :
 Calls Tryz.prog 91 #[.slice a S.length c] w (Yz (fun w' r=>∃ p c,r=.tuple #[.slice p 244 c,.int .i64 0]∧w'.ownsRow w.heap.size 5 1 (.slice p 244 c) 244 ((Eu S).map bv)) w):=by
 have h15:=hS.1
 refine zin 39 Tryz.func91 ?_
 refine xk 14 (show(decide ((↑S.length:Int)>(15:Int)):Bool)=false from decide_eq_false (by omega)) ?_
 refine xbs 7 1 [.int .i64 4,.int .i64 (↑S.length:Int)] 226 fun b1 W1 n1=>?_
 refine xc 0 (args:=#[.slice (some ⟨b1,0,none⟩) 1 1]) (Mz b1 (↑S.length:Int) (by omega) (by omega) _ n1.blk) ?_
 rintro _ W2 ⟨_,rfl,hb2,p2,c2,rfl,h2⟩
 have h2'1:=Zd h2 n1.below.size
 have hB:=bln n1.below hb2
 have k1'1:=n1.blk.below hb2
 refine zl 16 39 (fun zm zkv V=>∃ (i:Nat) (p4:Option Addr) (c4:Nat),zkv=[(4,.slice p4 (4+i*16) c4),(20,.slice a S.length c),(21,.int .i64 (↑S.length:Int)),(22,.int .i64 (↑i:Int))]∧zm=S.length-((↑i:Int)).toNat∧Below w.heap.size w V∧Blk V b1 ([.int .i64 4,.int .i64 (↑S.length:Int)]) 226∧V.ownsRow w.heap.size 5 1 (.slice p4 (4+i*16) c4) (4+i*16) ((Zdw S i).map bv)∧i≤S.length) ⟨0,p2,c2,rfl,rfl,hB,k1'1,(by simpa [Zdw] using h2'1),Nat.zero_le _⟩ ?_
 rintro _ _ W3 ⟨i,p4,c4,rfl,rfl,hB_3,k3_b1,ho,hi⟩ J3 hJ3 r3
 refine xid 6 ((↑i:Int)<(↑S.length:Int)) (fun hc4=>?_) (fun hc4=>?_)
 ·refine xx 6 _ S.length i 3 (Sts.cell h Zhc rsD (k:=i) (i:=0) (by omega) rfl).1 ?_
  refine xlv 0 (Sts.rp (k:=i) (h.below hB_3) Zhc rsD (by omega) (by decide)) ?_
  refine xa 0 [.int .i64 0,.int .i64 0,.int .i64 0] 191 fun b5 W5 n5=>?_
  have g5:=n5.ge hB_3
  refine xsv 0 n5.blk [.int .i64 (↑(S.getD i rsD).1:Int),.int .i64 (↑(S.getD i rsD).2.1:Int),.int .i64 (↑(S.getD i rsD).2.2:Int)] fun W6 u6 k6=>?_
  refine xlv 4 k6.rp ?_
  refine xr 0 (args:=#[.agg #[.int .i64 (↑(S.getD i rsD).1:Int),.int .i64 (↑(S.getD i rsD).2.1:Int),.int .i64 (↑(S.getD i rsD).2.2:Int)]]) (Ko (↑(S.getD i rsD).1:Int) (↑(S.getD i rsD).2.1:Int) (↑(S.getD i rsD).2.2:Int) (by have:=hS.2 i (by omega);omega) (by have:=hS.2 i (by omega);omega) (by omega) (by have:=hS.2 i (by omega);omega) (by omega) (by have:=hS.2 i (by omega);omega) _) fun W7 hb7=>?_
  refine xk 10 (show(((⟨(leB (↑(S.getD i rsD).1:Int) 8++leB (↑(S.getD i rsD).2.1:Int) 4++leB (↑(S.getD i rsD).2.2:Int) 4).toArray⟩:ByteArray).toList==(⟨#[]⟩:ByteArray).toList):Bool)=false from slB_ne _) ?_
  have ho'1:=Zb (u6.own2 (Zb ho n5.below) n5.blk (by decide)) hb7
  have hB'1:=bln (u6.below (bln hB_3 n5.below) g5) hb7
  refine xbi 5 (t2:=9) fun _ _ _ _ zJ zQ zo zx zy zK=>op_appS (leB (↑(S.getD i rsD).1:Int) 8++leB (↑(S.getD i rsD).2.1:Int) 4++leB (↑(S.getD i rsD).2.2:Int) 4) ((4+(i+1)*16)) ((Zdw S (i+1)).map bv) zo Tryz.underlying22 Tryz.underlying9 (by kernel_rfl) zx ho'1 zy (by simp[Zg];omega) hB'1.size (by simp[Zg];omega) (by simp[Pe,slB]) fun px8 cx8 W8 o8 hg8 hb8=>?_
  refine zK _ _ ?_
  refine xwm 5 ((↑i:Int)+1) (↑(i+1):Int) ?_
  have hB'2:=hB'1.trans hb8
  have k3_b1'1:=((u6.blkT (k3_b1.below n5.below) n5.blk (by decide)).below hb7).grown hg8 ho'1 (by decide)
  exact ze 2 (hJ3 _ _ _ ⟨i+1,_,_,rfl,rfl,hB'2,k3_b1'1,o8,by omega⟩ (by omega))
 refine xwm 10 (244-(↑(4+i*16):Int)) (↑(244-(4+i*16)):Int) ?_
 refine xbi 0 (t2:=3) fun _ _ _ _ zJ zQ zo zx zy zK=>op_appZo (kq:=.i64) (244-(4+i*16)) (244) ((Eu S).map bv) zo Tryz.underlying22 Tryz.underlying3 (by kernel_rfl) zx ho zy (by omega) (by omega) hB_3.size (by omega) (by rw[show i=S.length by omega];unfold Eu;rw[List.map_append,List.map_replicate];rfl) fun px9 cx9 W9 o9 hg9 hb9=>?_
 refine zK _ _ ?_
 have hB'3:=hB_3.trans hb9
 exact xe 5 (.tuple #[.slice px9 244 cx9,.int .i64 0]) ⟨_,rfl,hB'3,_,_,rfl,o9⟩
def Qp(l:List Int)(f n:Nat):List Int:=(List.range l.length).map fun i=>l.getD i 0+(if f≤i∧i<f+n then 1 else 0)
theorem Vd(l:List Int)(f n:Nat):(Qp l f n).length=l.length:=by simp[Qp]
theorem Od{l:List Int}{f n i:Nat}(h:i<l.length):(Qp l f n).getD i 0=l.getD i 0+(if f≤i∧i<f+n then 1 else 0):=by simp[Qp,List.getD,List.getElem?_range h]
theorem Zf5(l:List Int)(f:Nat):Qp l f 0=l:=by
 apply List.ext_getElem (by simp[Qp])
 intro i h1 h2
 simp[Qp,List.getD,h2]
 omega
theorem bumpL_set{l:List Int}{f j:Nat}(h:f+j<l.length):((Qp l f j).map (Value.int .i64)).set (f+j) (.int .i64 (l.getD (f+j) 0+1))=(Qp l f (j+1)).map (Value.int .i64):=by
 apply List.ext_getElem?
 intro i
 by_cases hi:i<l.length
 ·by_cases e:f+j=i
  ·subst e
   rw[List.getElem?_set_self (by simp[Vd];exact h)]
   simp[Qp,List.getElem?_range h]
  ·rw[List.getElem?_set_ne e]
   have hc:(f≤i∧i<f+j)↔(f≤i∧i<f+(j+1)):=by omega
   simp only[Qp,List.getElem?_map,List.getElem?_range hi,Option.map_some]
   by_cases q:f≤i∧i<f+j
   ·rw[if_pos q,if_pos (hc.1 q)]
   ·rw[if_neg q,if_neg (fun z=>q (hc.2 z))]
 ·rw[List.getElem?_eq_none (by simp[Vd];omega),List.getElem?_eq_none (by simp[Vd];omega)]
def Zgo(l:List Int)(f:Int):Prop:=∀ i,i<l.length→(f≤(i:Int)→l.getD i 0=0)∧l.getD i 0≤1073741824
theorem Si{l:List Int}{f n:Nat}(h:Zgo l (f:Int))(hc:∀ k,k<l.length→Wr (l.getD k 0)):∀ k,k<(Qp l f n).length→Wr ((Qp l f n).getD k 0):=by
 intro k hk
 rw[Vd] at hk
 rw[Od hk]
 have h1:=(h k hk).2
 have h2:=hc k hk
 unfold Wr at h2 ⊢
 split<;>omega
def Qn(l:List Int):Nat:=Qe 5 (Zt l l.length).length+bmN l.length+1
theorem Rd{w:World}{b:Option Addr}{n c f N k i:Nat}(h:Sl w (.slice b n c) n ((((Fn f N).drop k).take n).map (Value.int .i64)))(hn:k+n≤N)(hi:i<n):b.isSome=true∧w.cell? (Xa b (i*1))=some (.int .i64 ((f+k+i:Nat):Int)):=by
 have hlen:(((Fn f N).drop k).take n).length=n:=by simp[Fn];omega
 have h1:=IntsN.elem h hlen hi
 have e:(((Fn f N).drop k).take n).getD i 0=((f+k+i:Nat):Int):=by
  have h2:=Zb1 (f:=f) (N:=N) (k:=k+i) (by omega)
  rw[←Nat.add_assoc] at h2
  rw[←h2]
  simp only[List.getD,List.getElem?_take,List.getElem?_drop,if_pos hi]
 rwa [e] at h1
def Aa(l:List Int)(f k0:Nat)(bs:List UInt8):Int×Int×List UInt8:=(((f+k0+(Qe 5 (Zt l l.length).length)+(bmN (Qp l (f+k0) (Qn l)).length)):Nat),(Je 5 (Zt l l.length) (f+k0) bs).1,Vj (Uz (Xq (Zp (Qp l (f+k0) (Qn l))) (bmN (Qp l (f+k0) (Qn l)).length)) (f+k0+(Qe 5 (Zt l l.length).length)) (Je 5 (Zt l l.length) (f+k0) bs).2 (bmN (Qp l (f+k0) (Qn l)).length)) ((f+k0+(Qe 5 (Zt l l.length).length)+(bmN (Qp l (f+k0) (Qn l)).length))*256) (Qa 4 (((f+k0+(Qe 5 (Zt l l.length).length)+(bmN (Qp l (f+k0) (Qn l)).length)):Nat):Int) (Eu (Rs (Xq (Zp (Qp l (f+k0) (Qn l))) (bmN (Qp l (f+k0) (Qn l)).length)) (f+k0+(Qe 5 (Zt l l.length).length)) (bmN (Qp l (f+k0) (Qn l)).length)))))
theorem Zdb(l:List Int)(q n:Nat):bmN (Qp l q n).length=bmN l.length:=by rw[Vd]
theorem Dl{w:World}{b:Option Addr}{n c q i:Nat}{l:List Int}(h:Sl w (.slice b n c) n ((Qp l q i).map (Value.int .i64)))(hn:l.length=n)(hi:q+i<n):b.isSome=true∧w.cell? (Xa b ((q+i)*1))=some (.int .i64 (l.getD (q+i) 0)):=by
 have h1:=IntsN.elem h (by rw[Vd];exact hn) hi
 rw[Od (by omega),if_neg (by omega),Int.add_zero] at h1
 exact h1
def LayPost(B ba b g nn cc:Nat)(pa:Option Addr)(ca f N k0:Nat)(bs:List UInt8)(bl:Nat)(L:List (List Int))(w:World)(e:Ending)(w':World):Prop :=
 ∃ p c,e=.returned .nilIface∧Below B w w'∧Zh [153,5,75,74] w w'∧Fr [ba,g,bl] w w'∧Al B ba b g nn cc pa ca f N (k0+L.length) (Uz L (f+k0) bs L.length) w'∧Blk w' bl [.slice p L.length c] 75∧w'.ownsRow w.heap.size 74 3 (.slice p L.length c) L.length ((Ym L (f+k0) L.length).flatMap Hr)
theorem plot_layD(B ba b g nn cc:Nat)(pa:Option Addr)(ca f N k0:Nat)(bs:List UInt8)(bl B2:Nat)(pl:Option Addr)(cl:Nat)(gs:List (Nat×Nat))(L:List (List Int))(w:World)(hC:AlC B ba nn cc ca f N)(hA:Al B ba b g nn cc pa ca f N k0 bs w)(hL:Lists w B2 (.slice pl L.length cl) gs L)(hS:∀ i,i<L.length→Vw (L.getD i [])∧(L.getD i []).length≤960)(hf1:1≤f)(hk:k0+L.length≤N)(kl:Blk w bl [.slice none 0 0] 75)(hBl:B≤bl)(hBw:B≤w.heap.size) :
 Calls Tryz.prog 84 #[.pointer (some ⟨ba,0,none⟩),.slice pl L.length cl,.func (.func 85) #[] #[.pointer (some ⟨bl,0,none⟩)]] w (LayPost B ba b g nn cc pa ca f N k0 bs bl L w):=by
 have hcf:=hC.hf
 have hcn:=hC.hn
 refine zin 51 Tryz.func84 ?_
 have hB:=Below.refl B w
 refine zl 14 51 (fun zm zkv V=>∃ (i:Nat) (p:Option Addr) (c:Nat),zkv=[(0,.pointer (some ⟨ba,0,none⟩)),(2,.func (.func 85) #[] #[.pointer (some ⟨bl,0,none⟩)]),(15,.slice pl L.length cl),(16,.int .i64 (↑L.length:Int)),(17,.int .i64 (↑i:Int))]∧zm=L.length-((↑i:Int)).toNat∧Below B w V∧Fr [ba,g,bl] w V∧Zh [153,5,75,74] w V∧Blk V bl ([.slice p i c]) 75∧Al B ba b g nn cc pa ca f N (k0+i) (Uz L (f+k0) bs i) V∧Lists V B2 (.slice pl L.length cl) gs L∧V.ownsRow w.heap.size 74 3 (.slice p i c) i ((Ym L (f+k0) i).flatMap Hr)∧i≤L.length) ⟨0,none,0,rfl,rfl,hB,(Fr.refl _ _),(Zh.refl _ _),kl,hA,hL,World.ownsRow_nil _ _ _ _,Nat.zero_le _⟩ ?_
 rintro _ _ W1 ⟨i,p,c,rfl,rfl,hB_1,hX_1,hO_1,k1_bl,hA,hL,hup,hi⟩ J1 hJ1 r1
 refine xid 6 ((↑i:Int)<(↑L.length:Int)) (fun hc2=>?_) (fun hc2=>?_)
 ·refine xx 6 _ L.length i 1 (Lists.elem hL rfl (k:=i) (by omega)).1 ?_
  refine xl 0 ((Lists.elem hL rfl (k:=i) (by omega)).2) ?_
  refine xc 6 (args:=#[.slice (some ⟨(gs.getD i (0,0)).1,0,none⟩) ((L.getD i []).length) ((gs.getD i (0,0)).2)]) (Zc6 _ _ (L.getD i []) _ (hS i (by omega)).1 (hS i (by omega)).2 (Ze (hL.each i (by omega)))) ?_
  rintro _ W3 ⟨_,rfl,hb3,g6,rfl,h6⟩
  have hA'1:=hA.below hb3
  have hO'1:=hO_1.trans (Zh.of_below hb3)
  have h6'1:=Zd h6 hB_1.size
  have hB'1:=blB hB_1 hBw hb3
  refine xc 21 (args:=#[.pointer (some ⟨ba,0,none⟩),.int .i64 3,.slice (some ⟨g6,0,none⟩) 244 244]) (Ut B ba b g nn cc pa ca f N (k0+i) (Uz L (f+k0) bs i) 3 (some ⟨g6,0,none⟩) 244 (Jd (L.getD i [])) (f+k0+i) 244 _ (Nat.add_assoc _ _ _).symm (Qf _ _) hC hA'1 (by omega) (by decide) (by decide) (fun W _ hO'1=>Yk (Ze (Zj h6'1 hO'1 (by decide))) (Qf _ _)) (by decide) (Nat.le_trans hBw hB'1.size)) ?_
  rintro _ W4 ⟨rfl,hb4,hO4,hX4,hA⟩
  have hL'1:=(hL.below hb3).only hO4 (by decide)
  refine xr 20 (args:=#[.slice (some ⟨(gs.getD i (0,0)).1,0,none⟩) ((L.getD i []).length) ((gs.getD i (0,0)).2)]) (Il _ _ (L.getD i []) _ (hS i (by omega)).2 (Ze (hL'1.each i (by omega)))) fun W5 hb5=>?_
  have hf9:Yg (L.getD i [])≤960:=Nat.le_trans (Pt _ _) (hS i (by omega)).2
  have hg9:Xi (L.getD i [])≤960:=Nat.le_trans (Pr _) (hS i (by omega)).2
  have hB'2:=blB (hB'1.trans hb4) hBw hb5
  have k1_bl'1:=((k1_bl.below hb3).only hO4 (by decide)).below hb5
  have hup'1:=Zb (Zj (Zb hup hb3) hO4 (by decide)) hb5
  refine xc 13 (args:=#[.agg #[.int .i64 (↑(f+k0+i):Int),.int .i64 (↑(Yg (L.getD i [])):Int),.int .i64 (↑(Xi (L.getD i [])):Int)],.pointer (some ⟨bl,0,none⟩)]) (Zga B w.heap.size bl p c L (f+k0) i _ hBw hB'2.size (Nat.le_trans hBw hB'2.size) hBl k1_bl'1 hup'1 (by omega) (by omega) (by omega) hf9 hg9) ?_
  rintro _ W6 ⟨_,p9,c9,rfl,hb6,hO6,kln,hup,hX6⟩
  refine xwm 4 ((↑i:Int)+1) (↑(i+1):Int) ?_
  have hA'2:=(hA.below hb5).only hO6 (by decide)
  have hL'2:=(hL'1.below hb5).only hO6 (by decide)
  have hB'3:=hB'2.trans hb6
  have hX'1:=(Fr.trans_B (((hX_1.trans (Fr.of_below hb3)).trans (hX4.mono (by simp))).trans (Fr.of_below hb5)) hX6 (by simp))
  have hO'2:=((hO'1.trans (hO4.wide)).trans (Zh.of_below hb5)).trans (hO6.wide)
  exact ze 2 (hJ1 _ _ _ ⟨i+1,_,_,rfl,rfl,hB'3,hX'1,hO'2,kln,hA'2,hL'2,hup,by omega⟩ (by omega))
 refine xe 11 .nilIface ?_
 obtain rfl:i=L.length:=by omega
 exact⟨_,_,rfl,hB_1,hO_1,hX_1,hA,k1_bl,hup⟩
theorem Al.mono{B B' ba b g n c:Nat}{pa:Option Addr}{ca f N k:Nat}{l:List UInt8}{w:World}(h:Al B' ba b g n c pa ca f N k l w)(hB:B≤B'):Al B ba b g n c pa ca f N k l w:=⟨h.blkA,h.blkI,Zd h.data hB,Zd h.nums hB⟩
theorem AlC.mono{B B' ba n c ca f N:Nat}(h:AlC B' ba n c ca f N)(hB:B≤B'):AlC B ba n c ca f N:=⟨h.hn,h.hc,h.hca,h.hf,Nat.le_trans hB h.hB⟩
theorem row_at{w:World}{base g n c size:Nat}{e:TypeId}{xs:List Value}(h:w.ownsRow base e size (.slice (some ⟨g,0,none⟩) n c) n xs):∃ cur,w.heap[g]? = some (.cells cur e (0,0)):=by
 rcases h.2 with ⟨hv,_⟩|⟨g2,cap,cur,hv,_,hh,_⟩
 ·cases hv
 ·simp only[Value.slice.injEq,Option.some.injEq,Addr.mk.injEq] at hv
  obtain⟨⟨rfl,_,_⟩,_⟩:=hv
  exact⟨cur,hh⟩
theorem Al.ne{B ba b g n c:Nat}{pa:Option Addr}{ca f N k:Nat}{l:List UInt8}{B2 ba2 b2 g2 n2 c2:Nat}{pa2:Option Addr}{ca2 f2 N2 k2:Nat}{l2:List UInt8}{w:World}(h:Al B ba b g n c pa ca f N k l w)(h2:Al B2 ba2 b2 g2 n2 c2 pa2 ca2 f2 N2 k2 l2 w):b2≠ba∧b2≠g:=by
 constructor
 ·rintro rfl
  exact absurd (h.blkA.ty h2.blkI) (by decide)
 ·rintro rfl
  obtain⟨cur,hh⟩:=row_at h.data
  have h3:w.heap[b2]? = some (.cells [.slice (some ⟨g2,0,none⟩) n2 c2].toArray 103 (0,0)):=h2.blkI
  rw[hh] at h3
  simp only[Option.some.injEq,Obj.cells.injEq] at h3
  exact absurd h3.2.1 (by decide)
theorem Al.apart{B2 ba2 b2 g2 n2 c2:Nat}{pa2:Option Addr}{ca2 f2 N2 k2:Nat}{l2:List UInt8}{w W:World}{ba g:Nat}(h:Al B2 ba2 b2 g2 n2 c2 pa2 ca2 f2 N2 k2 l2 w)(hC:AlC B2 ba2 n2 c2 ca2 f2 N2)(h1:ba<B2)(h2:g<B2)(hne:b2≠ba∧b2≠g)(hX:Fr [ba,g] w W):Al B2 ba2 b2 g2 n2 c2 pa2 ca2 f2 N2 k2 l2 W:=by
 have hB:=hC.hB
 refine⟨h.blkA.fr hX (by simp;omega),h.blkI.fr hX (by simp;exact hne),Zhb h.data hX fun k hk=>?_,Zhb h.nums hX fun k hk=>?_⟩
 ·have:=(h.data.lt k hk).1;simp;omega
 ·have:=(h.nums.lt k hk).1;simp;omega
theorem Gd(B ba b g nn cc:Nat)(pa:Option Addr)(ca f N k0:Nat)(bs:List UInt8)(t:Int)(a:Option Addr)(c:Nat)(l:List Ent)(n:Nat)(w:World)(hl:l.length=n)(hC:AlC B ba nn cc ca f N)(hA:Al B ba b g nn cc pa ca f N k0 bs w)(ht1:1≤t)(ht2:t≤5)(E:EntsOk (Br t true) l)(hn:n≤32768)(hf1:1≤f)(hkN:k0≤N)(hk:k0+Qe t n≤N)(hin:∀ W,Below B w W→Zh [153,5,26] w W→Sts Hr W (.slice a l.length c) l)(hBw:B≤w.heap.size) :
 Calls Tryz.prog 25 #[.pointer (some ⟨ba,0,none⟩),.int .i64 t,.slice a n c] w (Zcx B ba b g nn cc pa ca f N k0 bs t l w):=by
 subst hl;exact Ze6 B ba b g nn cc pa ca f N k0 bs t a c l w hC hA ht1 ht2 E hn hf1 hkN hk hin hBw
theorem Wj(a:Option Addr)(c:Nat)(l:List Int)(w:World)(h:Sl w (.slice a l.length c) l.length (l.map (Value.int .i64)))(hl:l.length≤65536)(hs:Jh l=0):Calls Tryz.prog 83 #[.slice a l.length c] w (fun e w'=>∃ pb cb gs po co,e=.returned (.tuple #[.slice pb (bmN l.length) cb,.slice po (Zt l l.length).length co,.int .i64 0])∧Below w.heap.size w w'∧Lists w' w.heap.size (.slice pb (bmN l.length) cb) gs (Xq (Zp l) (bmN l.length))∧w'.ownsRow w.heap.size 74 3 (.slice po (Zt l l.length).length co) (Zt l l.length).length ((Zt l l.length).flatMap Hr)) :=
 (Zbl a c l w h hl).mono fun e w' q=>(q.resolve_left fun z=>z.1 hs).2
theorem Zdm(B ba b g nn cc:Nat)(pa:Option Addr)(ca f N k0:Nat)(bs:List UInt8)(bl B2:Nat)(pl:Option Addr)(cl:Nat)(gs:List (Nat×Nat))(L:List (List Int))(n:Nat)(hn:L.length=n)(w:World)(hC:AlC B ba nn cc ca f N)(hA:Al B ba b g nn cc pa ca f N k0 bs w)(hL:Lists w B2 (.slice pl n cl) gs L)(hS:∀ i,i<L.length→Vw (L.getD i [])∧(L.getD i []).length≤960)(hf1:1≤f)(hk:k0+n≤N)(kl:Blk w bl [.slice none 0 0] 75)(hBl:B≤bl)(hBw:B≤w.heap.size) :
 Calls Tryz.prog 84 #[.pointer (some ⟨ba,0,none⟩),.slice pl n cl,.func (.func 85) #[] #[.pointer (some ⟨bl,0,none⟩)]] w (fun e w'=>∃ p c,e=.returned .nilIface∧Below B w w'∧Zh [153,5,75,74] w w'∧Fr ([ba,g]++[bl]) w w'∧Al B ba b g nn cc pa ca f N (k0+n) (Uz L (f+k0) bs n) w'∧Blk w' bl [.slice p n c] 75∧w'.ownsRow w.heap.size 74 3 (.slice p n c) n ((Ym L (f+k0) n).flatMap Hr)):=by
 subst hn;exact plot_layD B ba b g nn cc pa ca f N k0 bs bl B2 pl cl gs L w hC hA hL hS hf1 hk kl hBl hBw
theorem Lp{l:List Int}(h:∀ k,k<l.length→Wr (l.getD k 0))(n:Nat):∀ i,i<(Xq (Zp l) n).length→Vw ((Xq (Zp l) n).getD i [])∧((Xq (Zp l) n).getD i []).length≤960:=fun i hi=>by
 rw[Kw] at hi
 rw[Ot hi]
 exact⟨Cr (Zcs h) i,by rw[Ny];omega⟩
theorem own_keep{w W:World}{B ba b g nn cc:Nat}{pa:Option Addr}{ca f N k0 bl:Nat}{bs:List UInt8}{cs:List Value}{base n:Nat}{v:Value}{xs:List Value}(k:w.ownsRow base 74 3 v n xs)(hA:Al B ba b g nn cc pa ca f N k0 bs w)(kl:Blk w bl cs 75)(hX:Fr ([ba,g]++[bl]) w W):W.ownsRow base 74 3 v n xs:=Zhb k hX fun j hj hm=>by
 obtain⟨cs',kb⟩:=Tg hA.data
 simp only[List.cons_append,List.nil_append,List.mem_cons,List.not_mem_nil,or_false] at hm
 rcases hm with h|h|h
 ·exact Dd k hA.blkA (by decide) _ hj h
 ·exact Dd k kb (by decide) _ hj h
 ·exact Dd k kl (by decide) _ hj h
def DataP(B ba b g nn cc:Nat)(pa:Option Addr)(ca f N k0:Nat)(bs:List UInt8)(l:List Int)(w:World)(e:Ending)(w':World):Prop :=
 e=.returned (.tuple #[.int .i64 (Zg6 l (f+k0) bs).1,.int .i64 (Zg6 l (f+k0) bs).2.1,.nilIface])∧Below B w w'∧Zh [153,5,75,74,26] w w'∧Fr [ba,g] w w'∧Al B ba b g nn cc pa ca f N (k0+Af l) (Zg6 l (f+k0) bs).2.2 w'
theorem Im(n:Nat)(w:World)(hn:n≤65536) :
 Calls Tryz.prog 87 #[.int .i64 (↑n:Int)] w (Ret (.int .i64 (↑(bmN n):Int)) w):=by
 refine zin 9 Tryz.func87 ?_
 refine xid 12 ((↑n:Int)<(1:Int)) (fun hc1=>?_) (fun hc1=>?_)
 ·exact xe 7 (.int .i64 0) ⟨by rw[show bmN n=0 from by unfold bmN;omega];rfl,(Below.refl w.heap.size _)⟩
 refine xwm 5 ((↑n:Int)-1) (↑(n-1):Int) ?_
 refine xq 0 (congrArg (Value.int .i64) (show(IntKind.i64.wrap (Int.tdiv (↑(n-1):Int) 960):Int)=(↑((n-1)/960):Int) from Gc (n-1) 960 (by omega) (by decide))) ?_
 refine xw 0 ((↑((n-1)/960):Int)+1) ?_
 exact xe 4 (.int .i64 ((↑((n-1)/960):Int)+1)) ⟨by rw[show bmN n=(n-1)/960+1 from by unfold bmN;omega,Int.natCast_add];rfl,(Below.refl w.heap.size _)⟩
theorem plot_Data(B ba b g nn cc:Nat)(pa:Option Addr)(ca f N k0:Nat)(bs:List UInt8)(a:Option Addr)(c:Nat)(l:List Int)(w:World)(hC:AlC B ba nn cc ca f N)(hA:Al B ba b g nn cc pa ca f N k0 bs w)(h:Sl w (.slice a l.length c) l.length (l.map (Value.int .i64)))(hl:l.length≤3000)(hs:Jh l=0)(hf1:1≤f)(hkN:k0≤N)(hk:k0+Af l≤N)(hBw:B≤w.heap.size) :
 Calls Tryz.prog 44 #[.pointer (some ⟨ba,0,none⟩),.slice a l.length c] w (DataP B ba b g nn cc pa ca f N k0 bs l w):=by
 have hcf:=hC.hf
 have hcn:=hC.hn
 have hbd:=plotN_bd hl
 have hsp:=Nm hs
 have hol:=Gs l l.length
 have hpn:Af l=(bmN l.length)+Qe 4 (bmN l.length)+Qe 5 (Zt l l.length).length:=rfl
 have hn4:=Cz 4 (bmN l.length)
 have hn5:=Cz 5 (Zt l l.length).length
 refine zin 70 Tryz.func44 ?_
 refine xr 11 (args:=#[.pointer (some ⟨ba,0,none⟩)]) (Hv ba b _ _ _ hA.blkA) fun W1 hb1=>?_
 refine xc 9 (args:=#[.slice a l.length c]) (Wj a c l _ (h.below hb1) (by omega) hs) ?_
 rintro _ W2 ⟨pb,cb,gs,po,co,rfl,hb2,hL,hov⟩
 have hs2:=(blB (Below.refl B w) hBw hb1).size
 have hA'1:=(hA.below hb1).below hb2
 refine xr 23 (args:=#[.pointer (some ⟨ba,0,none⟩)]) (Ns ba b pa N ca k0 _ hA'1.blkA hkN) fun W3 hb3=>?_
 refine xr 4 (args:=#[.int .i64 4,.int .i64 (↑(bmN l.length):Int)]) (Ju 4 (bmN l.length) _ (by decide) (by decide) (by omega)) fun W4 hb4=>?_
 refine xwm 0 ((↑(bmN l.length):Int)+(↑(Qe 4 (bmN l.length)):Int)) (↑((bmN l.length)+(Qe 4 (bmN l.length))):Int) ?_
 refine xr 2 (args:=#[.int .i64 5,.int .i64 (↑((Zt l l.length).length):Int)]) (Ju 5 (Zt l l.length).length _ (by decide) (by decide) (by omega)) fun W5 hb5=>?_
 refine xwm 0 ((↑((bmN l.length)+(Qe 4 (bmN l.length))):Int)+(↑(Qe 5 (Zt l l.length).length):Int)) (↑(((bmN l.length)+(Qe 4 (bmN l.length)))+(Qe 5 (Zt l l.length).length)):Int) ?_
 refine xk 3 (show(decide ((↑(N-k0):Int)<(↑(((bmN l.length)+(Qe 4 (bmN l.length)))+(Qe 5 (Zt l l.length).length)):Int)):Bool)=false from decide_eq_false (by omega)) ?_
 refine xa 4 [.slice none 0 0] 75 fun b6 W6 n6=>?_
 have hX:=(((((show Fr [ba,g] w _ from(Fr.of_below hb1)).trans (Fr.of_below hb2)).trans (Fr.of_below hb3)).trans (Fr.of_below hb4)).trans (Fr.of_below hb5)).trans (Fr.of_below n6.below)
 have hov'1:=Zb (Zb (Zb (Zb (Zd hov hs2) hb3) hb4) hb5) n6.below
 have hA'2:=(((hA'1.below hb3).below hb4).below hb5).below n6.below
 have hovk:=fun(W:World) (hX:Fr ([ba,g]++[b6]) _ W)=>own_keep hov'1 hA'2 n6.blk hX
 have hL'1:=(((hL.below hb3).below hb4).below hb5).below n6.below
 have g6:=n6.ge0 (blB (blB (blB (blB (blB (Below.refl B w) hBw hb1) hBw hb2) hBw hb3) hBw hb4) hBw hb5)
 have hB:=blB (blB (blB (blB (blB (blB (Below.refl B w) hBw hb1) hBw hb2) hBw hb3) hBw hb4) hBw hb5) hBw n6.below
 refine xc 8 (args:=#[.pointer (some ⟨ba,0,none⟩),.slice pb (bmN l.length) cb,.func (.func 85) #[] #[.pointer (some ⟨b6,0,none⟩)]]) (Zdm B ba b g nn cc pa ca f N k0 bs b6 _ pb cb gs (Xq (Zp l) (bmN l.length)) (bmN l.length) (Kw _ _) _ hC hA'2 hL'1 (Lp hsp.2 _) hf1 (by omega) n6.blk (Nat.le_trans hBw g6) (Nat.le_trans hBw hB.size)) ?_
 rintro _ W7 ⟨p8,c8,rfl,hb7,hO7,hX7,hA,kln,hup⟩
 have hs7:=(blB (blB (blB (blB (blB (blB (Below.refl B w) hBw hb1) hBw hb2) hBw hb3) hBw hb4) hBw hb5) hBw n6.below).size
 replace hov:=hovk _ hX7
 refine xb 15 0 kln ?_
 have hup'1:=Zd hup hs7
 have hB'1:=hB.trans hb7
 refine xc 0 (args:=#[.pointer (some ⟨ba,0,none⟩),.int .i64 4,.slice p8 (bmN l.length) c8]) (Gd B ba b g nn cc pa ca f N (k0+(bmN l.length)) (Uz (Xq (Zp l) (bmN l.length)) (f+k0) bs (bmN l.length)) 4 p8 c8 (Ym (Xq (Zp l) (bmN l.length)) (f+k0) (bmN l.length)) (bmN l.length) _ (Uk _ _ _) hC hA (by decide) (by decide) (Zf1 _ _ _ (by omega)) (by omega) hf1 (by omega) (by omega) (fun W _ h2=>by unfold Sts;rw[Uk];exact Ze (Zj hup'1 h2 (by decide))) (Nat.le_trans hBw hB'1.size)) ?_
 rintro _ W8 ⟨rfl,hb8,hO8,hX8,hA⟩
 rw[Uk] at hA
 have hov'2:=Zj hov hO8 (by decide)
 have hB'2:=hB'1.trans hb8
 refine xc 21 (args:=#[.pointer (some ⟨ba,0,none⟩),.int .i64 5,.slice po ((Zt l l.length).length) co]) (Gd B ba b g nn cc pa ca f N (k0+(bmN l.length)+Qe 4 (bmN l.length)) (Je 4 (Ym (Xq (Zp l) (bmN l.length)) (f+k0) (bmN l.length)) (f+(k0+(bmN l.length))) (Uz (Xq (Zp l) (bmN l.length)) (f+k0) bs (bmN l.length))).2 5 po co (Zt l l.length) (Zt l l.length).length _ rfl hC hA (by decide) (by decide) (Iq _ _ (by omega)) (by omega) hf1 (by omega) (by omega) (fun W _ h2=>Ze (Zj hov'2 h2 (by decide))) (Nat.le_trans hBw hB'2.size)) ?_
 rintro _ W9 ⟨rfl,hb9,hO9,hX9,hA⟩
 have hB'3:=hB'2.trans hb9
 have hO:=((((((((show Zh [153,5,75,74,26] w _ from(Zh.of_below hb1)).trans (Zh.of_below hb2)).trans (Zh.of_below hb3)).trans (Zh.of_below hb4)).trans (Zh.of_below hb5)).trans (Zh.of_below n6.below)).trans (hO7.wide)).trans (hO8.wide)).trans (hO9.wide)
 have hX'1:=((Fr.trans_new hX hX7 g6).trans (hX8.mono (by simp))).trans (hX9.mono (by simp))
 refine xe 27 (.tuple #[.int .i64 ((Je 4 (Ym (Xq (Zp l) (bmN l.length)) (f+k0) (bmN l.length)) (f+(k0+(bmN l.length))) (Uz (Xq (Zp l) (bmN l.length)) (f+k0) bs (bmN l.length))).1),.int .i64 ((Je 5 (Zt l l.length) (f+(k0+(bmN l.length)+Qe 4 (bmN l.length))) (Je 4 (Ym (Xq (Zp l) (bmN l.length)) (f+k0) (bmN l.length)) (f+(k0+(bmN l.length))) (Uz (Xq (Zp l) (bmN l.length)) (f+k0) bs (bmN l.length))).2).1),.nilIface]) ?_
 have e1:f+(k0+(bmN l.length))=f+k0+(bmN l.length):=by omega
 have e2:f+(k0+(bmN l.length)+Qe 4 (bmN l.length))=f+k0+(bmN l.length)+Qe 4 (bmN l.length):=by omega
 rw[e2,e1] at hA ⊢
 have e3:k0+(bmN l.length)+Qe 4 (bmN l.length)+Qe 5 (Zt l l.length).length=k0+Af l:=by omega
 rw[e3] at hA
 exact⟨rfl,hB'3,hO,hX'1,hA⟩
structure Sin(w W:World):Prop where
 b:Below w.heap.size w W
theorem Sin.below{w W V:World}(h:Sin w W)(hb:Below W.heap.size W V):Sin w V:=⟨bln h.b hb⟩
theorem Sin.trans{w W V:World}(h:Sin w W)(hb:Below w.heap.size W V):Sin w V:=⟨h.b.trans hb⟩
theorem Sin.upd{w W V:World}{b:Nat}(h:Sin w W)(u:Upd W b V)(hb:w.heap.size≤b):Sin w V:=⟨u.below h.b hb⟩
theorem rs_ok{L:List (List Int)}{q n:Nat}(hS:∀ i,i<L.length→Vw (L.getD i [])∧(L.getD i []).length≤960)(hn:L.length=n)(h1:1≤q)(h2:q+n≤14400)(h3:n≤14):Co (Rs L q n):=by
 refine⟨by rw[Fa];exact h3,fun i hi=>?_⟩
 rw[Fa] at hi
 rw[Rs_get hi]
 have hc:=(hS i (by omega)).2
 exact⟨by show 1≤q+i;omega,by show q+i≤14399;omega,Nat.le_trans (Pt _ _) hc,Nat.le_trans (Pr _) hc⟩
theorem Ob(j:Nat)(B ba b g nn cc:Nat)(pa:Option Addr)(ca f N k0:Nat)(bs:List UInt8)(w:World)(hC:AlC B ba nn cc ca f N)(hA:Al B ba b g nn cc pa ca f N k0 bs w)(hk:k0≤N)(hN:N≤1000000)(hj:j≤1000000)(hjn:j≤N-k0) :
 Calls Tryz.prog 89 #[.pointer (some ⟨ba,0,none⟩),.int .i64 (↑j:Int)] w (Yz (fun w' r=>∃ q c2,r=.slice q j c2∧w'.ownsRow w.heap.size 3 1 (.slice q j c2) j ((((Fn f N).drop k0).take j).map (Value.int .i64))) w):=by
 have h:=Ow B ba b pa N ca k0 j (Fn f N) w ⟨hA.blkA,hA.nums,Zbn _ _,hC.hB,hN,hk⟩ hj
 rwa [Nat.min_eq_left hjn] at h
theorem Lk(n:Nat)(a:Option Addr)(c:Nat)(l:List Int)(w:World)(hn:l.length=n)(h:Sl w (.slice a n c) n (l.map (Value.int .i64)))(hl:n≤65536)(hs:Jh l=0):Calls Tryz.prog 83 #[.slice a n c] w (fun e w'=>∃ pb cb gs po co,e=.returned (.tuple #[.slice pb (bmN n) cb,.slice po (Zt l n).length co,.int .i64 0])∧Below w.heap.size w w'∧Lists w' w.heap.size (.slice pb (bmN n) cb) gs (Xq (Zp l) (bmN n))∧w'.ownsRow w.heap.size 74 3 (.slice po (Zt l n).length co) (Zt l n).length ((Zt l n).flatMap Hr)):=by
 subst hn;exact Wj a c l w h hl hs
theorem Zeh(n:Nat)(a:Option Addr)(c:Nat)(S:List (Nat×Nat×Nat))(w:World)(hn:S.length=n)(hS:Co S)(h:Sts rsC w (.slice a S.length c) S):Calls Tryz.prog 91 #[.slice a n c] w (Yz (fun w' r=>∃ p c,r=.tuple #[.slice p 244 c,.int .i64 0]∧w'.ownsRow w.heap.size 5 1 (.slice p 244 c) 244 ((Eu S).map bv)) w):=by
 subst hn;exact slots_Put a c S w hS h
theorem Zfg(B ba b g nn cc:Nat)(pa:Option Addr)(ca f N k0:Nat)(bs:List UInt8)(bl B2:Nat)(pl:Option Addr)(cl:Nat)(gs:List (Nat×Nat))(L:List (List Int))(n:Nat)(hn:L.length=n)(w:World)(hC:AlC B ba nn cc ca f N)(hA:Al B ba b g nn cc pa ca f N k0 bs w)(hL:Lists w B2 (.slice pl n cl) gs L)(hS:∀ i,i<L.length→Vw (L.getD i [])∧(L.getD i []).length≤960)(hf1:1≤f)(hk:k0+n≤N)(kl:Blk w bl [.slice none 0 0] 197)(hBl:B≤bl)(hBw:B≤w.heap.size) :
 Calls Tryz.prog 84 #[.pointer (some ⟨ba,0,none⟩),.slice pl n cl,.func (.func 90) #[] #[.pointer (some ⟨bl,0,none⟩)]] w (fun e w'=>∃ p c,e=.returned .nilIface∧Below B w w'∧Zh [153,5,197,191] w w'∧Fr ([ba,g]++[bl]) w w'∧Al B ba b g nn cc pa ca f N (k0+n) (Uz L (f+k0) bs n) w'∧Blk w' bl [.slice p n c] 197∧w'.ownsRow w.heap.size 191 3 (.slice p n c) n (rsL L (f+k0) n)):=by
 subst hn;exact plot_layM B ba b g nn cc pa ca f N k0 bs bl B2 pl cl gs L w hC hA hL hS hf1 hk kl hBl hBw
def MetaP(B ba b g nn cc:Nat)(pa:Option Addr)(ca f N k0:Nat)(bs:List UInt8)(l:List Int)(w:World)(e:Ending)(w':World):Prop :=
 e=.returned (.tuple #[.int .i64 (Aa l f k0 bs).1,.int .i64 (Aa l f k0 bs).2.1,.nilIface])∧Below B w w'∧Zh [153,5,197,191,26] w w'∧Fr [ba,g] w w'∧Al B ba b g nn cc pa ca f N (k0+Qn l) (Aa l f k0 bs).2.2 w'
theorem Zfn(B ba b g nn cc:Nat)(pa:Option Addr)(ca f N k0:Nat)(bs:List UInt8)(a:Addr)(c:Nat)(l:List Int)(w:World)(hC:AlC B ba nn cc ca f N)(hA:Al B ba b g nn cc pa ca f N k0 bs w)(h:Sl w (.slice (some a) l.length c) l.length (l.map (Value.int .i64)))(hl:l.length≤3000)(hlen:l.length=nn/256)(hs:Jh l=0)(hkN:k0≤N)(hk:k0+Qn l≤N)(hf1:1≤f)(hfree2:Zgo l ((f+k0:Nat):Int))(hBw:B≤w.heap.size) :
 Calls Tryz.prog 45 #[.pointer (some ⟨ba,0,none⟩),.slice (some a) l.length c] w (MetaP B ba b g nn cc pa ca f N k0 bs l w):=by
 have hW:Sin w w:=⟨Below.refl _ _⟩
 have hcf:=hC.hf
 have hcn:=hC.hn
 have hsp:=Nm hs
 have hol:=Gs l l.length
 have hpn:Qn l=(Qe 5 (Zt l l.length).length)+(bmN l.length)+1:=rfl
 have hn5:=Cz 5 (Zt l l.length).length
 have hnb:bmN l.length≤4:=by unfold bmN;omega
 have hsB:Jh (Qp l (f+k0) (Qn l))=0:=by unfold Jh;rw[if_neg (by rw[Vd];omega),if_pos (Si hfree2 hsp.2)]
 have hcs:=Lp (Si (n:=Qn l) hfree2 hsp.2) (bmN l.length)
 refine zin 120 Tryz.func45 ?_
 refine xr 10 (args:=#[.pointer (some ⟨ba,0,none⟩)]) (Hv ba b _ _ _ (hA.below hW.b).blkA) fun W1 hb1=>?_
 have hW'1:=hW.below hb1
 refine xr 19 (args:=#[.pointer (some ⟨b,0,none⟩)]) (Ka b _ nn cc _ (hA.below hW'1.b).blkI (by omega)) fun W2 hb2=>?_
 refine xk 3 (show(((↑l.length:Int) != (↑(nn/256):Int)):Bool)=false from by rw[hlen];simp) ?_
 have hW'2:=hW'1.below hb2
 refine xc 5 (args:=#[.slice (some a) l.length c]) (Lk l.length (some a) c l _ rfl (Sl.below h hW'2.b) (by omega) hs) ?_
 rintro _ W3 ⟨pb0,cb0,gs0,po,co,rfl,hb3,hL0,hov⟩
 have hs3:=(blB (blB (Below.refl B w) hBw hb1) hBw hb2).size
 refine xr 23 (args:=#[.int .i64 5,.int .i64 (↑((Zt l l.length).length):Int)]) (Ju 5 (Zt l l.length).length _ (by decide) (by decide) (by omega)) fun W4 hb4=>?_
 refine xr 2 (args:=#[.int .i64 (↑l.length:Int)]) (Im l.length _ (by omega)) fun W5 hb5=>?_
 refine xwm 0 ((↑(Qe 5 (Zt l l.length).length):Int)+(↑(bmN l.length):Int)) (↑((Qe 5 (Zt l l.length).length)+(bmN l.length)):Int) ?_
 refine xwm 0 ((↑((Qe 5 (Zt l l.length).length)+(bmN l.length)):Int)+1) (↑(((Qe 5 (Zt l l.length).length)+(bmN l.length))+1):Int) ?_
 have hW'3:=((hW'2.below hb3).below hb4).below hb5
 refine xr 7 (args:=#[.pointer (some ⟨ba,0,none⟩)]) (Ns ba b pa N ca k0 _ (hA.below hW'3.b).blkA hkN) fun W6 hb6=>?_
 refine xk 4 (show(decide ((↑(N-k0):Int)<(↑(((Qe 5 (Zt l l.length).length)+(bmN l.length))+1):Int)):Bool)=false from decide_eq_false (by omega)) ?_
 have hW'4:=hW'3.below hb6
 have hsc:=hW'4.b.size
 refine xc 5 (args:=#[.slice (some a) l.length c]) (Np a l.length c (l.map (Value.int .i64)) _ (Sl.below h hW'4.b) (by simp) (Zcz _) (by omega)) ?_
 rintro _ W7 ⟨_,rfl,hb7,qb,cq,rfl,hbm0⟩
 have hs7:=(blB (blB (blB (blB (blB (blB (Below.refl B w) hBw hb1) hBw hb2) hBw hb3) hBw hb4) hBw hb5) hBw hb6).size
 have hbm:=Zd hbm0 hsc
 have hW'5:=hW'4.below hb7
 have hsw:=hW'5.b.size
 have hbm1:=hbm
 refine xc 8 (args:=#[.pointer (some ⟨ba,0,none⟩),.int .i64 (↑(((Qe 5 (Zt l l.length).length)+(bmN l.length))+1):Int)]) (Ob (Qn l) B ba b g nn cc pa ca f N k0 bs _ hC (hA.below hW'5.b) hkN (by omega) (by omega) (by omega)) ?_
 rintro _ W8 ⟨_,rfl,hb8,qa,ca2,rfl,hah0⟩
 have hs8:=(blB (blB (blB (blB (blB (blB (blB (Below.refl B w) hBw hb1) hBw hb2) hBw hb3) hBw hb4) hBw hb5) hBw hb6) hBw hb7).size
 have hAp:=Ws.of_lt hbm1 hah0 (Nat.le_refl _)
 have hah:=Zd hah0 hsw
 have hbm'1:=Zb hbm hb8
 obtain⟨gb,rfl,hgc⟩:=Gz hbm'1 (by omega)
 have hov'1:=Zb (Zb (Zb (Zb (Zb (Zd hov hs3) hb4) hb5) hb6) hb7) hb8
 have hW'6:=hW'5.below hb8
 have hB:=blB (blB (blB (blB (blB (blB (blB (blB (Below.refl B w) hBw hb1) hBw hb2) hBw hb3) hBw hb4) hBw hb5) hBw hb6) hBw hb7) hBw hb8
 have hX:=(((((((show Fr [ba,g] w _ from(Fr.of_below hb1)).trans (Fr.of_below hb2)).trans (Fr.of_below hb3)).trans (Fr.of_below hb4)).trans (Fr.of_below hb5)).trans (Fr.of_below hb6)).trans (Fr.of_below hb7)).trans (Fr.of_below hb8)
 have hO:=(((((((show Zh [153,5,197,191,26] w _ from(Zh.of_below hb1)).trans (Zh.of_below hb2)).trans (Zh.of_below hb3)).trans (Zh.of_below hb4)).trans (Zh.of_below hb5)).trans (Zh.of_below hb6)).trans (Zh.of_below hb7)).trans (Zh.of_below hb8)
 refine zl 5 120 (fun zm zkv V=>∃ (i:Nat),zkv=[(0,.pointer (some ⟨ba,0,none⟩)),(4,.int .i64 0),(5,.int .i64 0),(6,.nilIface),(9,.slice po ((Zt l l.length).length) co),(10,.int .i64 0),(12,.slice (some ⟨gb,0,none⟩) l.length cq),(61,.slice qa (Qn l) ca2),(62,.int .i64 (↑(Qn l):Int)),(63,.int .i64 (↑i:Int))]∧zm=Qn l-((↑i:Int)).toNat∧Below B w V∧Fr [ba,g] w V∧Zh [153,5,197,191,26] w V∧V.ownsRow w.heap.size 3 1 (.slice (some ⟨gb,0,none⟩) l.length cq) l.length ((Qp l (f+k0) i).map (Value.int .i64))∧V.ownsRow w.heap.size 3 1 (.slice qa (Qn l) ca2) (Qn l) ((((Fn f N).drop k0).take (Qn l)).map (Value.int .i64))∧V.ownsRow w.heap.size 74 3 (.slice po ((Zt l l.length).length) co) ((Zt l l.length).length) ((Zt l l.length).flatMap Hr)∧Sin w V∧i≤Qn l) ⟨0,rfl,rfl,hB,hX,hO,(by rw[Zf5];exact hbm'1),hah,hov'1,hW'6,Nat.zero_le _⟩ ?_
 rintro _ _ W9 ⟨i,rfl,rfl,hB_9,hX_9,hO_9,hbm,hah,hov,hW,hi⟩ J9 hJ9 r9
 have hz0:i<Qn l→l.getD (f+k0+i) 0=0:=fun q=>(hfree2 (f+k0+i) (by omega)).1 (by omega)
 refine xid 6 ((↑i:Int)<(↑(Qn l):Int)) (fun hc10=>?_) (fun hc10=>?_)
 ·refine xx 6 _ (Qn l) i 1 (Rd (Ze hah) (by omega) (i:=i) (by omega)).1 ?_
  refine xl 0 ((Rd (Ze hah) (by omega) (i:=i) (by omega)).2) ?_
  refine xx 6 _ l.length (f+k0+i) 1 (Dl (Ze hbm) rfl (q:=f+k0) (i:=i) (by omega)).1 ?_
  refine xl 0 ((Dl (Ze hbm) rfl (q:=f+k0) (i:=i) (by omega)).2) ?_
  refine xw 0 ((l.getD (f+k0+i) 0)+1) ?_
  refine xx 0 _ l.length (f+k0+i) 1 (Dl (Ze hbm) rfl (q:=f+k0) (i:=i) (by omega)).1 ?_
  refine xst 0 fun _ _ _ _ zJ zQ zo zx zy zK=>Ja (t:=3) (k:=(f+k0+i)) (v:=.int .i64 ((l.getD (f+k0+i) 0)+1)) zo zx zy (by kernel_rfl) rfl hbm (by omega) fun W11 u11 o11=>?_
  rw[bumpL_set (l:=l) (f:=f+k0) (j:=i) (by omega)] at o11
  refine zK _ _ ?_
  refine xwm 4 ((↑i:Int)+1) (↑(i+1):Int) ?_
  have hB'1:=u11.below hB_9 (Nat.le_trans hBw (Hb hbm))
  have hX'1:=(Fr.upd_new hX_9 u11 (Hb hbm))
  have hO'1:=(Zh.upd_new hO_9 u11 (Hb hbm))
  have hah'1:=u11.own3 hah (fun j hj e=>hAp _ rfl (e▸hj))
  have hov'2:=u11.ownRow hov hbm (by decide)
  have hW'7:=hW.upd u11 (Hb hbm)
  exact ze 2 (hJ9 _ _ _ ⟨i+1,rfl,rfl,hB'1,hX'1,hO'1,o11,hah'1,hov'2,hW'7,by omega⟩ (by omega))
 refine xc 9 (args:=#[.pointer (some ⟨ba,0,none⟩),.int .i64 5,.slice po ((Zt l l.length).length) co]) (Gd B ba b g nn cc pa ca f N k0 bs 5 po co (Zt l l.length) (Zt l l.length).length _ rfl hC (hA.below hW.b) (by decide) (by decide) (Iq _ _ (by omega)) (by omega) hf1 (by omega) (by omega) (fun W _ h2=>Ze (Zj hov h2 (by decide))) (Nat.le_trans hBw hB_9.size)) ?_
 rintro _ W12 ⟨rfl,hb12,hO12,hX12,hA2⟩
 have hbm'2:=Zj hbm hO12 (by decide)
 refine xc 20 (args:=#[.slice (some ⟨gb,0,none⟩) l.length cq]) (Lk l.length (some ⟨gb,0,none⟩) cq (Qp l (f+k0) (Qn l)) _ (Vd _ _ _) (by have hh:=Ze hbm'2;rw[show i=Qn l by omega] at hh;exact hh) (by omega) hsB) ?_
 rintro _ W13 ⟨pb,cb,gs,po3,co3,rfl,hb13,hL,hov3⟩
 refine xa 21 [.slice none 0 0] 197 fun b14 W14 n14=>?_
 have hB'2:=blB (hB_9.trans hb12) hBw hb13
 have g14:=n14.ge0 hB'2
 have hA2'1:=(hA2.below hb13).below n14.below
 have hL'1:=hL.below n14.below
 have hB'3:=blB hB'2 hBw n14.below
 refine xc 8 (args:=#[.pointer (some ⟨ba,0,none⟩),.slice pb (bmN l.length) cb,.func (.func 90) #[] #[.pointer (some ⟨b14,0,none⟩)]]) (Zfg B ba b g nn cc pa ca f N (k0+(Qe 5 (Zt l l.length).length)) (Je 5 (Zt l l.length) (f+k0) bs).2 b14 _ pb cb gs (Xq (Zp (Qp l (f+k0) (Qn l))) (bmN l.length)) (bmN l.length) (Kw _ _) _ hC hA2'1 hL'1 hcs hf1 (by omega) n14.blk (Nat.le_trans hBw g14) (Nat.le_trans hBw hB'3.size)) ?_
 rintro _ W15 ⟨p8,c8,rfl,hb15,hO15,hX15,hA2,kln,hsl⟩
 have hs15:=(blB hB'2 hBw n14.below).size
 refine xb 14 0 kln ?_
 have hsl'1:=Zd hsl hs15
 refine xc 0 (args:=#[.slice p8 (bmN l.length) c8]) (Zeh (bmN l.length) p8 c8 (Rs (Xq (Zp (Qp l (f+k0) (Qn l))) (bmN l.length)) (f+(k0+(Qe 5 (Zt l l.length).length))) (bmN l.length)) _ (Fa _ _ _) (rs_ok hcs (Kw _ _) (by omega) (by omega) (by omega)) (Rs_sts (Ze hsl'1))) ?_
 rintro _ W16 ⟨_,rfl,hb16,pz,cz,rfl,hkb⟩
 have hs16:=(hB'3.trans hb15).size
 have hA2'2:=hA2.below hb16
 have hO'2:=((((hO_9.trans (hO12.wide)).trans (Zh.of_below hb13)).trans (Zh.of_below n14.below)).trans (hO15.wide)).trans (Zh.of_below hb16)
 have hkb'1:=Zd hkb hs16
 have hB'4:=blB (hB'3.trans hb15) hBw hb16
 refine xc 21 (args:=#[.pointer (some ⟨ba,0,none⟩),.int .i64 4,.slice pz 244 cz]) (Ut B ba b g nn cc pa ca f N (k0+(Qe 5 (Zt l l.length).length)+(bmN l.length)) (Uz (Xq (Zp (Qp l (f+k0) (Qn l))) (bmN l.length)) (f+(k0+(Qe 5 (Zt l l.length).length))) (Je 5 (Zt l l.length) (f+k0) bs).2 (bmN l.length)) 4 pz cz (Eu (Rs (Xq (Zp (Qp l (f+k0) (Qn l))) (bmN l.length)) (f+(k0+(Qe 5 (Zt l l.length).length))) (bmN l.length))) (f+(k0+(Qe 5 (Zt l l.length).length)+(bmN l.length))) 244 _ rfl (Bs (by rw[Fa];omega)) hC hA2'2 (by omega) (by decide) (by decide) (fun W _ hO'2=>Yk (Ze (Zj hkb'1 hO'2 (by decide))) (Bs (by rw[Fa];omega))) (by decide) (Nat.le_trans hBw hB'4.size)) ?_
 rintro _ W17 ⟨rfl,hb17,hO17,hX17,hA2⟩
 have hB'5:=hB'4.trans hb17
 have hO'3:=hO'2.trans (hO17.wide)
 have hX'2:=((Fr.trans_new (((hX_9.trans (hX12.mono (by simp))).trans (Fr.of_below hb13)).trans (Fr.of_below n14.below)) hX15 g14).trans (Fr.of_below hb16)).trans (hX17.mono (by simp))
 refine xe 27 (.tuple #[.int .i64 (↑(f+(k0+(Qe 5 (Zt l l.length).length)+(bmN l.length))):Int),.int .i64 ((Je 5 (Zt l l.length) (f+k0) bs).1),.nilIface]) ?_
 have e1:f+(k0+(Qe 5 (Zt l l.length).length)+(bmN l.length))=f+k0+(Qe 5 (Zt l l.length).length)+(bmN l.length):=by omega
 have e2:f+(k0+(Qe 5 (Zt l l.length).length))=f+k0+(Qe 5 (Zt l l.length).length):=by omega
 rw[e1,e2] at hA2
 rw[e1]
 have e3:k0+(Qe 5 (Zt l l.length).length)+(bmN l.length)+1=k0+Qn l:=by omega
 rw[e3] at hA2
 refine⟨?_,hB'5,hO'3,hX'2,?_⟩
 ·unfold Aa;rw[Zdb]
 ·unfold Aa;rw[Zdb];exact hA2
theorem leB_get{n w i:Nat}(h:i<w):(leB (n:Int) w).getD i 0=UInt8.ofNat (n/256 ^ i):=by simp[leB,Zl,List.getD,List.getElem?_range h]
theorem Nl{a b:List UInt8}{m w:Nat}(hm:m<256 ^ w):Zf (a++(leB (m:Int) w++b)) a.length w=m:=by
 rw[Jz w a.length m (fun i hi=>?_),Nat.mod_eq_of_lt hm]
 rw[List.getD,List.getElem?_append_right (by omega),List.getElem?_append_left (by rw[Zg];omega),show a.length+i-a.length=i by omega]
 exact leB_get hi
theorem Zc3{x:Nat×Nat×Nat}(h1:x.1≤14399)(h2:x.2.1≤960)(h3:x.2.2≤960):Bc Zy (slB x)=[x.1,x.2.1,x.2.2]:=by
 have e0:Zf (slB x) 0 8=x.1:=by
  have h:=Nl (a:=[]) (b:=leB (x.2.1:Int) 4++leB (x.2.2:Int) 4) (m:=x.1) (w:=8) (by omega)
  simpa [slB,List.append_assoc] using h
 have e1:Zf (slB x) 8 4=x.2.1:=by
  have h:=Nl (a:=leB (x.1:Int) 8) (b:=leB (x.2.2:Int) 4) (m:=x.2.1) (w:=4) (by omega)
  rw[Zg] at h
  simpa [slB,List.append_assoc] using h
 have e2:Zf (slB x) 12 4=x.2.2:=by
  have h:=Nl (a:=leB (x.1:Int) 8++leB (x.2.1:Int) 4) (b:=[]) (m:=x.2.2) (w:=4) (by omega)
  rw[List.length_append,Zg,Zg] at h
  simpa [slB,List.append_assoc] using h
 show Kc (slB x) 0 [8,4,4]=_
 simp only[Kc]
 rw[e0,e1,e2]
theorem slB_ok{x:Nat×Nat×Nat}(h0:1≤x.1)(h1:x.1≤14399)(h2:x.2.1≤960)(h3:x.2.2≤960):Xk Zy (slB x)=0:=by
 have hr:Gm Zy (slB x)=true:=by
  unfold Gm
  rw[Zc3 h1 h2 h3,show Zy.length=3 from rfl]
  unfold Pv
  rw[show List.range 3=[0,1,2] from rfl]
  simp[inP,Zy]
  omega
 unfold Xk
 rw[if_pos (by rw[Za9];rfl),if_pos hr]
theorem slB_val{x:Nat×Nat×Nat}(h0:1≤x.1)(h1:x.1≤14399)(h2:x.2.1≤960)(h3:x.2.2≤960):Yb Zy (slB x)=[x.1,x.2.1,x.2.2]:=by
 unfold Yb
 rw[if_pos (slB_ok h0 h1 h2 h3),Zc3 h1 h2 h3]
theorem Tk(S:List (Nat×Nat×Nat))(i:Nat):∀ k,∃ t,Zdw S (i+k)=Zdw S i++t
 | 0=>⟨[],by simp⟩
 | k+1=>by
  obtain⟨t,h⟩:=Tk S i k
  exact⟨t++slB (S.getD (i+k) rsD),by rw[←Nat.add_assoc,Pe,h,List.append_assoc]⟩
theorem Ik{S:List (Nat×Nat×Nat)}{i:Nat}(hi:i<S.length):Qb (Eu S) i=slB (S.getD i rsD):=by
 obtain⟨t,h⟩:=Tk S (i+1) (S.length-(i+1))
 rw[show i+1+(S.length-(i+1))=S.length by omega,Pe] at h
 unfold Qb Eu
 rw[h,List.append_assoc,List.append_assoc,List.drop_left' (Bp S i),List.take_left' (Za9 _)]
theorem Zcw{S:List (Nat×Nat×Nat)}(h:S.length≤15):Zf (Eu S) 0 4=S.length:=by
 obtain⟨t,ht⟩:=Tk S 0 S.length
 rw[Nat.zero_add] at ht
 have h2:=Nl (a:=[]) (b:=t++List.replicate (244-(4+S.length*16)) 0) (m:=S.length) (w:=4) (by omega)
 unfold Eu
 rw[ht,show Zdw S 0=leB (S.length:Int) 4 from by simp[Zdw],List.append_assoc]
 simpa using h2
theorem Ak{S:List (Nat×Nat×Nat)}(h:Co S):Wk (Eu S)=0∧Ux (Eu S) S.length=S:=by
 have h15:=h.1
 have hv:∀ i,i<S.length→Xk Zy (Qb (Eu S) i)=0∧sltX (Eu S) i=S.getD i rsD:=fun i hi=>by
  obtain⟨h0,h1,h2,h3⟩:=h.2 i hi
  constructor
  ·rw[Ik hi];exact slB_ok h0 h1 h2 h3
  ·unfold sltX Ys
   rw[Ik hi,slB_val h0 h1 h2 h3]
   rfl
 have hz:Yy ((Eu S).drop (4+S.length*16))=true:=by
  unfold Eu
  rw[List.drop_left' (Bp _ _)]
  exact Ma fun j _=>Nd _ j
 have hs:∀ n,n≤S.length→Gv (Eu S) n=0:=by
  intro n
  induction n with
  | zero=>intro _;rfl
  | succ n ih=>intro hn;exact Nw (ih (by omega)) (hv n (by omega)).1
 constructor
 ·unfold Wk Pb
  rw[Zcw (by omega),hz,decide_eq_true (by omega)]
  exact hs _ (Nat.le_refl _)
 ·apply List.ext_getElem (by rw[An])
  intro i h1 h2
  have:=(hv i h2).2
  rw[show S.getD i rsD=S[i] from by simp[List.getD,h2]] at this
  simp[Ux,this]
theorem Da{l:List Int}(h:l.length≤960):Zf (Jd l) 0 4=l.length:=by
 have h2:=Nl (a:=[]) (b:=(List.range 240).map (g4B l l.length)) (m:=l.length) (w:=4) (by omega)
 simpa [Jd,Gp] using h2
theorem Sf(l:List Int)(j:Nat):atI l l.length j=l.getD j 0:=by
 unfold atI
 split
 ·rfl
 ·simp[List.getD,Nat.le_of_not_lt (by assumption)]
theorem Zb4{l:List Int}(h:Vw l){i:Nat}(hi:i<960):(Ei (Jd l) i:Int)=l.getD i 0:=by
 unfold Ei
 rw[show(Jd l).getD (4+i/4) 0=g4B l l.length (i/4) from Zcd l l.length (by omega)]
 have b0:=Vi h (4*(i/4))
 have b1:=Vi h (4*(i/4)+1)
 have b2:=Vi h (4*(i/4)+2)
 have b3:=Vi h (4*(i/4)+3)
 unfold g4B g4
 rw[Sf,Sf,Sf,Sf,UInt8.toNat_ofNat']
 obtain e|e|e|e:i%4=0∨i%4=1∨i%4=2∨i%4=3:=by omega
 ·rw[show l.getD i 0=l.getD (4*(i/4)) 0 by rw[show 4*(i/4)=i by omega],e,show 2 ^ (0*2)=1 from rfl];omega
 ·rw[show l.getD i 0=l.getD (4*(i/4)+1) 0 by rw[show 4*(i/4)+1=i by omega],e,show 2 ^ (1*2)=4 from rfl];omega
 ·rw[show l.getD i 0=l.getD (4*(i/4)+2) 0 by rw[show 4*(i/4)+2=i by omega],e,show 2 ^ (2*2)=16 from rfl];omega
 ·rw[show l.getD i 0=l.getD (4*(i/4)+3) 0 by rw[show 4*(i/4)+3=i by omega],e,show 2 ^ (3*2)=64 from rfl];omega
theorem bitsB_ok{l:List Int}(h:Vw l)(hl:l.length≤960):Gg (Jd l)=true:=by
 rw[Kv]
 refine⟨Qf _ _,by rw[Da hl];exact hl,fun i hi hc=>?_⟩
 rw[Da hl] at hc
 have:=Zb4 h hi
 rw[show l.getD i 0=0 from by simp[List.getD,hc]] at this
 omega
theorem seal_in{l:List UInt8}{kind:Int}{k:Nat}{li:List UInt8}(h1:1≤kind)(h2:kind≤4)(hk:k<l.length/256)(h4:k<14400)(hli:li.length=244)(hb:Va l k=Qa kind (k:Int) li):inE l kind (k:Int)=0∧inB l (k:Int)=li:=by
 constructor
 ·rw[Fj rfl rfl hk,hb];exact Oc h1 h2 (by omega) (by omega) (by omega)
 ·rw[Rg rfl,hb,in_seal (by omega)];unfold Av;rw[hli,Nat.sub_self];simp
theorem getD_app{P Q:List UInt8}{k i:Nat}(hk:P.length=k):(P++Q).getD (k+i) 0=Q.getD i 0:=by
 subst hk
 simp[List.getD,List.getElem?_append_right]
theorem getD_hd{P Q:List UInt8}{i:Nat}(hi:i<P.length):(P++Q).getD i 0=P.getD i 0:=by
 simp[List.getD,List.getElem?_append_left hi]
theorem Gf{P Q:List UInt8}{k w:Nat}{x:Int}(hk:P.length=k)(h0:0≤x)(hb:x.toNat<256 ^ w):(Zf (P++(leB x w++Q)) k w:Int)=x:=by
 rw[Jz w k x.toNat,Nat.mod_eq_of_lt hb]
 ·omega
 ·intro i hi
  rw[getD_app hk,getD_hd (by rw[Zg];exact hi)]
  simp[leB,Zl,List.getD,List.getElem?_range hi]
theorem Ti{P Q:List UInt8}{k:Nat}(hk:P.length=k):(P++Q).drop k=Q:=List.drop_left' hk
theorem Ic(n m:Nat):Yy ((List.replicate n (0:UInt8)).take m)=true:=by
 unfold Yy;rw[List.all_eq_true]
 intro x hx
 have:=List.mem_of_mem_take hx
 rw[(List.mem_replicate.1 this).2];rfl
theorem Dv(K:List Int)(n j:Nat):∀ d,∃ X,Yu K n (j+d)=Yu K n j++X
 | 0=>⟨[],by simp⟩
 | d+1=>by
  obtain⟨X,hX⟩:=Dv K n j d
  exact⟨_,by rw[←Nat.add_assoc,Qw,hX,List.append_assoc]⟩
theorem Cf(Vs:List (List UInt8))(j:Nat):∀ d,∃ X,Qo Vs (j+d)=Qo Vs j++X
 | 0=>⟨[],by simp⟩
 | d+1=>by
  obtain⟨X,hX⟩:=Cf Vs j d
  exact⟨_,by rw[←Nat.add_assoc,Ga,hX,List.append_assoc]⟩
theorem Mw{l:List UInt8}:∀ {n:Nat},(∀ i,i<n→Ps l i=0)→Qi l n=0
 | 0,_=>rfl
 | n+1,h=>Qg (Mw fun i hi=>h i (by omega)) (h n (by omega))
theorem getD_ext{l l':List Int}(h:l.length=l'.length)(h2:∀ j,j<l.length→l.getD j 0=l'.getD j 0):l=l':=by
 apply List.ext_getElem h
 intro j h3 h4
 have:=h2 j h3
 simpa [List.getD,h3,h4] using this
theorem getD_extV{l l':List (List UInt8)}(h:l.length=l'.length)(h2:∀ j,j<l.length→l.getD j []=l'.getD j []):l=l':=by
 apply List.ext_getElem h
 intro j h3 h4
 have:=h2 j h3
 simpa [List.getD,h3,h4] using this
structure NodBack(b:List UInt8)(t:Int)(leaf:Bool)(n m v:Nat)(K:List Int)(Vs:List (List UInt8)):Prop where
 len:b.length=244
 e:Yn b=0
 t:Xm b=t
 l:Xr b=leaf
 c:Xf b=n
 k:Kf b n=K
 v:Kg b n=Vs
theorem Zbv{t:Int}{leaf:Bool}{n m v:Nat}{K:List Int}{Vs:List (List UInt8)}(N:NodeOk t leaf n m v K Vs):NodBack (Jc m v (Vf t leaf n m v) K Vs n) t leaf n m v K Vs:=by
 have hmb:=Qk t leaf
 rw[N.hm] at hmb
 have hwb:=Cp t leaf
 rw[N.hv] at hwb
 have hfit:=fitN t leaf
 rw[N.hm,N.hv] at hfit
 have ht1:=N.ht1
 have ht2:=N.ht2
 have hnm:=N.hn
 have hform:=Re (H:=Vf t leaf n m v) (K:=K) (Vs:=Vs) (Vb _ _ _ _ _) hfit hnm (fun j hj=>N.hw j hj)
 have hlen:=Ci (H:=Vf t leaf n m v) (K:=K) (Vs:=Vs) (Vb _ _ _ _ _) hfit hnm (fun j hj=>N.hw j hj)
 generalize Jc m v (Vf t leaf n m v) K Vs n=b at hform hlen
 obtain⟨R,hR⟩:∃ R,b=Vf t leaf n m v++R:=⟨_,by rw[hform,List.append_assoc,List.append_assoc]⟩
 have hfl:=Sn leaf
 have r0:(Zf b 0 1:Int)=Hs leaf:=by
  rw[hR,Vf];simp only[List.append_assoc]
  exact Gf (P:=[]) (k:=0) (w:=1) (x:=Hs leaf) rfl hfl.1 (Nat.lt_of_le_of_lt (show(Hs leaf).toNat≤255 by omega) (by decide))
 have r1:(Zf b 1 1:Int)=t:=by
  rw[hR,Vf];simp only[List.append_assoc]
  exact Gf (P:=leB (Hs leaf) 1) (by rw[Zg]) (by omega) (by omega)
 have r2:(Zf b 2 2:Int)=(n:Int):=by
  rw[hR,Vf];simp only[List.append_assoc]
  rw[←List.append_assoc]
  exact Gf (P:=leB (Hs leaf) 1++leB t 1) (by simp[Zg]) (by omega) (by omega)
 have r4:(Zf b 4 2:Int)=(v:Int):=by
  rw[hR,Vf];simp only[List.append_assoc]
  rw[←List.append_assoc,←List.append_assoc]
  exact Gf (P:=leB (Hs leaf) 1++leB t 1++leB (n:Int) 2) (by simp[Zg]) (by omega) (by omega)
 have r6:(Zf b 6 2:Int)=(m:Int):=by
  rw[hR,Vf];simp only[List.append_assoc]
  rw[←List.append_assoc,←List.append_assoc,←List.append_assoc]
  exact Gf (P:=leB (Hs leaf) 1++leB t 1++leB (n:Int) 2++leB (v:Int) 2) (by simp[Zg]) (by omega) (by omega)
 have r8:(Zf b 8 4:Int)=0:=by
  rw[hR,Vf];simp only[List.append_assoc]
  rw[←List.append_assoc,←List.append_assoc,←List.append_assoc,←List.append_assoc]
  exact Gf (P:=leB (Hs leaf) 1++leB t 1++leB (n:Int) 2++leB (v:Int) 2++leB (m:Int) 2) (by simp[Zg]) (by omega) (by decide)
 have eT:Xm b=t:=r1
 have eL:Xr b=leaf:=by
  unfold Xr;rw[r0];cases leaf<;>rfl
 have eC:Xf b=n:=by unfold Xf;omega
 have eW:Xd b=v:=by unfold Xd;rw[eT,eL,Ar,if_pos ⟨ht1,ht2⟩];exact N.hv
 have eM:Xe b=m:=by unfold Xe;rw[eT,eL,Zep,if_pos ⟨ht1,ht2⟩];exact N.hm
 have hkey:∀ i,i<n→(Bt b i:Int)=K.getD i 0:=by
  intro i hi
  obtain⟨X,hX⟩:=Dv K n (i+1) (m-(i+1))
  rw[show i+1+(m-(i+1))=m by omega,Qw,if_pos hi] at hX
  unfold Bt
  rw[hform,hX]
  have hk:=N.hk0 i hi
  have:=Gf (P:=Vf t leaf n m v++Yu K n i) (Q:=X++(Qo Vs n++List.replicate (232-m*8-n*v) 0)) (k:=12+i*8) (w:=8) (x:=K.getD i 0) (by rw[List.length_append,Vb,Kl]) hk.1 (Nat.lt_of_le_of_lt (show(K.getD i 0).toNat≤281474976710655 by omega) (by decide))
  simp only[List.append_assoc] at this ⊢
  exact this
 have hval:∀ i,i<n→Bd b i=Vs.getD i []:=by
  intro i hi
  obtain⟨X,hX⟩:=Cf Vs (i+1) (n-(i+1))
  rw[show i+1+(n-(i+1))=n by omega,Ga] at hX
  have hvl:(Qo Vs i).length=i*v:=Ur fun j hj=>N.hw j (by omega)
  unfold Bd
  rw[eM,eW,hform,hX]
  have:=Ti (P:=Vf t leaf n m v++Yu K n m++Qo Vs i) (Q:=Vs.getD i []++(X++List.replicate (232-m*8-n*v) 0)) (k:=12+m*8+i*v) (by rw[List.length_append,List.length_append,Vb,Kl,hvl])
  simp only[List.append_assoc] at this ⊢
  rw[this]
  exact List.take_left' (N.hw i hi)
 have hmv:n*v≤m*v:=Nat.mul_le_mul_right v hnm
 refine⟨hlen,?_,eT,eL,eC,?_,?_⟩
 ·have hs:Qt b=true:=by
   unfold Qt
   rw[eW,eM]
   refine decide_eq_true ⟨?_,by omega,by omega,by omega,by omega,by omega,?_⟩
   ·cases leaf<;>simp only[Hs] at r0<;>simp at r0<;>omega
   ·cases leaf with
    | true=>left;simp only[Hs] at r0;simp at r0;omega
    | false=>right;have:=N.hl rfl;omega
  have hz:Nq b=true:=by
   unfold Nq De Ij Ed
   rw[eC,eM,eW,Bool.and_eq_true]
   constructor
   ·have hk:=Kz K n (m-n)
    rw[show n+(m-n)=m by omega] at hk
    have:=Ti (P:=Vf t leaf n m v++Yu K n n) (Q:=List.replicate ((m-n)*8) 0++(Qo Vs n++List.replicate (232-m*8-n*v) 0)) (k:=12+n*8) (by rw[List.length_append,Vb,Kl])
    rw[hform,hk]
    simp only[List.append_assoc] at this ⊢
    rw[this,List.take_append_of_le_length (by rw[List.length_replicate];omega)]
    exact Ic _ _
   ·have hvl:(Qo Vs n).length=n*v:=Ur fun j hj=>N.hw j hj
    have:=Ti (P:=Vf t leaf n m v++Yu K n m++Qo Vs n) (Q:=List.replicate (232-m*8-n*v) 0) (k:=12+m*8+n*v) (by rw[List.length_append,List.length_append,Vb,Kl,hvl])
    rw[hform,this]
    exact Ic _ _
  unfold Yn
  rw[if_pos hs,if_pos hz,eC]
  refine Mw fun i hi=>?_
  have h1:=hkey i hi
  have h2:=N.hk0 i hi
  unfold Ps
  rw[if_neg (by omega),if_neg ?_]
  rintro⟨h3,h4⟩
  have h5:=hkey (i-1) (by omega)
  have h6:=N.hk1 (i-1) (by omega)
  rw[show i-1+1=i by omega] at h6
  omega
 ·exact getD_ext (by rw[Uf,N.hK]) fun j hj=>by rw[Uf] at hj;rw[Pi b hj];exact hkey j hj
 ·exact getD_extV (by rw[Hj,N.hV]) fun j hj=>by rw[Hj] at hj;rw[Ir b hj];exact hval j hj
theorem blk_back{t:Int}{leaf:Bool}{n m v:Nat}{K:List Int}{Vs:List (List UInt8)}(N:NodeOk t leaf n m v K Vs){l:List UInt8}{j len:Nat}(hl:l.length=len)(hj:j<len/256)(h4:j<14400)(hb:Va l j=Qa 2 (j:Int) (Jc m v (Vf t leaf n m v) K Vs n))(tree:Int)(ht:tree=0∨t=tree) :
 Xg l (j:Int) tree=0∧inB l (j:Int)=Jc m v (Vf t leaf n m v) K Vs n:=by
 have B:=Zbv N
 have hin:inB l (j:Int)=Jc m v (Vf t leaf n m v) K Vs n:=by
  rw[Rg (no:=(j:Int)) (j:=j) rfl,hb,in_seal (by rw[B.len];decide)]
  unfold Av;rw[B.len];simp
 refine⟨?_,hin⟩
 unfold Xg
 rw[Fj (no:=(j:Int)) (j:=j) hl rfl hj,hb,if_pos (Oc (by decide) (by decide) (by omega) (by omega) (by rw[B.len];decide)),hin]
 unfold Yv
 rw[if_pos B.e,if_pos (by rw[B.t];exact ht)]
theorem bitsB_I{l:List Int}(h:Vw l)(hl:l.length≤960):Uq (Jd l) l.length=l:=by
 apply List.ext_getElem (by rw[Bj])
 intro i h1 h2
 have e:=Zb4 h (i:=i) (by omega)
 rw[show l.getD i 0=l[i] from by simp[List.getD,h2]] at e
 simp[Uq,Lz,e]
theorem data_bits{F:List UInt8}{k:Nat}{c:List Int}(hk:k<F.length/256)(h4:k<14400)(hb:Va F k=Qa 3 (k:Int) (Jd c))(hs:Vw c)(hl:c.length≤960):Xh F (k:Int)=0∧Tq F (k:Int)=c:=by
 have h:=seal_in (kind:=3) (by decide) (by decide) hk h4 (by unfold Jd;rw[Qf]) hb
 have he:Xh F (k:Int)=0:=by unfold Xh;rw[if_pos h.1,h.2,if_pos (bitsB_ok hs hl)]
 refine⟨he,?_⟩
 unfold Tq
 rw[if_pos he,h.2,Da hl,bitsB_I hs hl]
def Z25:List UInt8:=List.replicate 2304 0
theorem Z25_len:Z25.length=2304:=List.length_replicate
theorem entsNil(w:Nat):EntsOk w []:=⟨fun i hi=>absurd hi (by simp),fun j hj=>absurd hj (by simp),fun i hi=>absurd hi (by simp)⟩
def Ct(t:Int)(q:Nat):List UInt8:=Qa 2 ((q:Nat):Int) (nodB t true (Qu t true) (Br t true) (Xj [] (Qu t true) 0))
theorem ov0(t:Int):ovN 0 (Qu t true)=1:=by
 have hp:=Vn 0 (Qu t true)
 have hm:=(Qk t true).1
 have h1:ovN 0 (Qu t true)≤1:=by
  unfold ovN
  have:(0+Qu t true-1)/Qu t true=0:=Nat.div_eq_of_lt (by omega)
  omega
 omega
theorem nod0(t:Int):Qe t 0=1:=by
 unfold Qe Hd
 rw[ov0,Uu (by decide)];rfl
theorem tree0(t:Int)(q:Nat)(bs:List UInt8):Je t [] q bs=((q:Int),Vj bs (q*256) (Ct t q)):=by
 unfold Je
 rw[show([]:List Ent).length=0 from rfl,ov0,Rf (by rw[Yw];exact Nat.le_refl _)]
 rfl
theorem nod0_ok{t:Int}(h1:1≤t)(h2:t≤5):NodeOk t true (Xj [] (Qu t true) 0).length (Qu t true) (Br t true) (Vt (Xj [] (Qu t true) 0)) (Jn (Xj [] (Qu t true) 0)) :=
 Zda (l:=[]) (entsNil _) h1 h2 rfl rfl (fun h=>by cases h) (i:=0) (by rw[show([]:List Ent).length=0 from rfl,ov0];decide)
theorem Ub{t:Int}{q:Nat}(h1:1≤t)(h2:t≤5):(Ct t q).length=256:=Ku (by rw[Zbs (nod0_ok h1 h2)];decide)
theorem Ze3{F:List UInt8}{t:Int}{k:Nat}(h1:1≤t)(h2:t≤5)(hk:k<F.length/256)(h4:k<14400)(hb:Va F k=Ct t k):Xg F (k:Int) t=0∧Zc0 F (k:Int)=[]:=by
 have N:=nod0_ok h1 h2
 obtain⟨he,hin⟩:=blk_back N rfl hk h4 hb t (.inr rfl)
 refine⟨he,?_⟩
 have hC:Xf (inB F (k:Int))=0:=by rw[hin];exact((Zbv N).c).trans (by simp[Xj])
 have hV:Yx F (k:Int)=[]:=by unfold Yx;rw[hC];rfl
 unfold Zc0;rw[hV];split<;>rfl
theorem put_25{b x:List UInt8}{k:Nat}(hb:b.length=2304)(hx:x.length=256)(hk:k<9):(Vj b (k*256) x).length=2304∧Va (Vj b (k*256) x) k=x∧∀ j,j<9→j≠k→Va (Vj b (k*256) x) j=Va b j :=
 ⟨by rw[Ve (by rw[hx,hb];omega),hb],blkB_put hx (by rw[hb];omega),fun j hj hne=>Et hx (by rw[hb];omega) hne (by rw[hb];omega)⟩
def l25:List Int:=[1,1,1,1,1,0,0,0,0]
def C25:List Int:=Hh (Zp (Qp l25 5 3)) 0
def R25:List (Nat×Nat×Nat):=[(6,Yg C25,Xi C25)]
def X25 (k:Nat):List UInt8:=if k=1 then Ct 1 1 else if k=2 then Ct 3 2 else if k=3 then Ct 4 3 else if k=4 then Ct 5 4 else if k=5 then Ct 5 5 else if k=6 then Qa 3 ((6:Nat):Int) (Jd C25) else Qa 4 ((7:Nat):Int) (Eu R25)
theorem X25_len(k:Nat):(X25 k).length=256:=by
 unfold X25
 split
 ·exact Ub (by decide) (by decide)
 split
 ·exact Ub (by decide) (by decide)
 split
 ·exact Ub (by decide) (by decide)
 split
 ·exact Ub (by decide) (by decide)
 split
 ·exact Ub (by decide) (by decide)
 split
 ·exact Ku (by unfold Jd;rw[Qf];decide)
 ·exact Ku (by rw[Bs (by decide)];decide)
def F25:Nat→List UInt8
 | 0=>Z25
 | k+1=>Vj (F25 k) ((k+1)*256) (X25 (k+1))
theorem Zg8(k:Nat):k≤7→(F25 k).length=2304∧∀ j,1≤j→j≤k→Va (F25 k) j=X25 j:=by
 induction k with
 | zero=>exact fun _=>⟨Z25_len,fun j h1 h2=>absurd h1 (by omega)⟩
 | succ k ih =>
  intro hk
  obtain⟨a,b⟩:=ih (by omega)
  obtain⟨c,d,e⟩:=put_25 (k:=k+1) a (X25_len (k+1)) (by omega)
  refine⟨c,fun j h1 h2=>?_⟩
  by_cases q:j=k+1
  ·subst q;exact d
  ·exact(e j (by omega) q).trans (b j h1 (by omega))
theorem Zc1{k:Nat}{t:Int}(h:X25 (k+1)=Ct t (k+1)):Je t [] (k+1) (F25 k)=(((k+1:Nat):Int),F25 (k+1)):=by
 rw[tree0,←h];rfl
theorem plot25:Zg6 [] 3 (F25 2)=(3,4,F25 4):=by
 have e:Zg6 [] 3 (F25 2)=((Je 4 [] 3 (F25 2)).1,(Je 5 [] (3+Qe 4 0) (Je 4 [] 3 (F25 2)).2).1,(Je 5 [] (3+Qe 4 0) (Je 4 [] 3 (F25 2)).2).2):=rfl
 rw[e,nod0,Zc1 (k:=2) (t:=4) rfl,show 3+1=3+1 from rfl,Zc1 (k:=3) (t:=5) rfl]
 rfl
theorem over25:Zt l25 l25.length=[]:=by decide
theorem need25:Qn l25=3:=by unfold Qn;rw[over25,show([]:List Ent).length=0 from rfl,nod0];rfl
theorem meta25:Aa l25 5 0 (F25 4)=(7,5,F25 7):=by
 have hb:bmN (Qp l25 (5+0) 3).length=1:=by rw[Vd];rfl
 unfold Aa
 rw[need25,hb,over25,show([]:List Ent).length=0 from rfl,nod0,Zc1 (k:=4) (t:=5) rfl]
 rfl
theorem meta25':Aa l25 1 4 (F25 4)=(7,5,F25 7):=by
 rw[←meta25];rfl
theorem free25:Zgo l25 ((1+4:Nat):Int):=fun i hi=>by
 have hi':i<9:=hi
 obtain rfl|rfl|rfl|rfl|rfl|rfl|rfl|rfl|rfl:i=0∨i=1∨i=2∨i=3∨i=4∨i=5∨i=6∨i=7∨i=8:=by omega
 all_goals exact⟨fun q=>by first|rfl|(exfalso;omega),by decide⟩
theorem split25:Jh l25=0:=Wo (by decide) fun k hk=>by
 have hk':k<9:=hk
 obtain rfl|rfl|rfl|rfl|rfl|rfl|rfl|rfl|rfl:k=0∨k=1∨k=2∨k=3∨k=4∨k=5∨k=6∨k=7∨k=8:=by omega
 all_goals decide
theorem cnt25:Sx 9=[1,0,0,0,0,0,0,0,0]:=by decide
theorem Ag{k:Nat}{t:Int}(hk1:1≤k)(hk:k≤7)(h1:1≤t)(h2:t≤5)(h:X25 k=Ct t k):Gq (F25 7) (k:Int) t=0∧Wz (F25 7) (k:Int) t=[]:=by
 obtain⟨a,b⟩:=Zg8 7 (Nat.le_refl _)
 obtain⟨c,d⟩:=Ze3 (F:=F25 7) (k:=k) h1 h2 (by rw[a];omega) (by omega) ((b k hk1 hk).trans h)
 unfold Gq Wz
 rw[if_neg (by omega),if_neg (by omega),if_neg (by omega),if_neg (by omega)]
 exact⟨c,d⟩
theorem C25_ok:Vw C25∧C25.length≤960:=by
 refine⟨Cr (Zcs (Si free25 (Nm split25).2)) 0,?_⟩
 unfold C25;rw[Ny];omega
theorem bits25:Gq (F25 7) ((6:Nat):Int) 7=0:=by
 obtain⟨a,b⟩:=Zg8 7 (Nat.le_refl _)
 exact(data_bits (k:=6) (c:=C25) (by rw[a];decide) (by decide) (b 6 (by decide) (by decide)) C25_ok.1 C25_ok.2).1
theorem R25_ok:Co R25:=⟨by decide,fun i hi=>by
 have hi':i<1:=hi
 obtain rfl:i=0:=by omega
 have h1:=C25_ok.2
 exact⟨by decide,by decide,Nat.le_trans (Pt _ _) h1,Nat.le_trans (Pr _) h1⟩⟩
theorem idx25:Gq (F25 7) ((7:Nat):Int) 6=0∧Wz (F25 7) ((7:Nat):Int) 6=[(((6:Nat):Int),7,0)]:=by
 obtain⟨a,b⟩:=Zg8 7 (Nat.le_refl _)
 have hid:=seal_in (l:=F25 7) (kind:=4) (k:=7) (li:=Eu R25) (by decide) (by decide) (by rw[a];decide) (by decide) (Bs (by decide)) (b 7 (by decide) (by decide))
 have hie:Xl (F25 7) ((7:Nat):Int)=0:=by unfold Xl;rw[if_pos hid.1,hid.2];exact(Ak R25_ok).1
 have hir:Wh (F25 7) ((7:Nat):Int)=R25:=by rw[(Mr hie).1,hid.2,Zcw (by decide)];exact(Ak R25_ok).2
 refine⟨hie,?_⟩
 show(Wh (F25 7) ((7:Nat):Int)).map Kb=_
 rw[hir];rfl
theorem Oq{l:List UInt8}{cs cs':List Nat}{k:Nat}{t:Int}{L r:List Rx}(h2:k<cs.length)(h3:cs.getD k 0=0)(h4:Gq l (k:Int) t=0∧Wz l (k:Int) t=L)(hc:Jy cs (k:Int)=cs'):Xz l cs (((k:Int),t,0)::r)=Xz l cs' (L++r):=by
 rw[←hc,←h4.2]
 exact Lw (x:=((k:Int),t,0)) rfl ⟨by omega,by show(k:Int)<(cs.length:Int);omega⟩ h3 h4.1
def S25:Sup:=⟨0,0,1,0,9,1,2,3,4,7,5⟩
theorem right25:Gn S25=true:=by decide
def c25:List Nat:=[1,1,1,1,1,1,1,1,0]
theorem count25:Fb (F25 7) S25=(c25,[],0):=by
 unfold Fb
 rw[if_neg (by rw[right25];decide),show S25.blocks.toNat=9 from rfl,cnt25]
 show Xz (F25 7) _ [(((1:Nat):Int),1,0),(((2:Nat):Int),3,0),(((3:Nat):Int),4,0),(((4:Nat):Int),5,0),(((7:Nat):Int),6,0),(((5:Nat):Int),5,0)]=_
 rw[Oq (by decide) rfl (Ag (by decide) (by decide) (by decide) (by decide) rfl) (show _=[1,1,0,0,0,0,0,0,0] from rfl),List.nil_append,
  Oq (by decide) rfl (Ag (by decide) (by decide) (by decide) (by decide) rfl) (show _=[1,1,1,0,0,0,0,0,0] from rfl),List.nil_append,
  Oq (by decide) rfl (Ag (by decide) (by decide) (by decide) (by decide) rfl) (show _=[1,1,1,1,0,0,0,0,0] from rfl),List.nil_append,
  Oq (by decide) rfl (Ag (by decide) (by decide) (by decide) (by decide) rfl) (show _=[1,1,1,1,1,0,0,0,0] from rfl),List.nil_append,
  Oq (by decide) rfl idx25 (show _=[1,1,1,1,1,0,0,1,0] from rfl),List.cons_append,List.nil_append,
  Oq (L:=[]) (by decide) rfl ⟨bits25,rfl⟩ (show _=[1,1,1,1,1,0,1,1,0] from rfl),List.nil_append,
  Oq (by decide) rfl (Ag (by decide) (by decide) (by decide) (by decide) rfl) (show _=[1,1,1,1,1,1,1,1,0] from rfl),List.nil_append]
 rfl
theorem build25(B ba b g c:Nat)(pa:Option Addr)(ca k:Nat)(t:Int)(r:Int)(w:World)(hk:k<2)(hX:X25 (k+1)=Ct t (k+1))(h1:1≤t)(h2:t≤5)(hr:((k+1:Nat):Int)=r)(hC:AlC B ba 2304 c ca 1 8)(hA:Al B ba b g 2304 c pa ca 1 8 k (F25 k) w)(hBw:B≤w.heap.size) :
 Calls Tryz.prog 25 #[.pointer (some ⟨ba,0,none⟩),.int .i64 t,.slice none 0 0] w (fun e' w'=>e'=.returned (.tuple #[.int .i64 r,.nilIface])∧Below B w w'∧Zh [153,5,26] w w'∧Fr [ba,g] w w'∧Al B ba b g 2304 c pa ca 1 8 (k+1) (F25 (k+1)) w'):=by
 subst hr
 have hnn:Qe t ([]:List Ent).length=1:=nod0 t
 refine(Gd B ba b g 2304 c pa ca 1 8 k (F25 k) t none 0 [] 0 w rfl hC hA h1 h2 (entsNil _) (by decide) (by decide) (by omega) (by rw[show(0:Nat)=([]:List Ent).length from rfl,hnn];omega) (fun W _ _=>.inl ⟨_,_,rfl,rfl,rfl⟩) hBw).mono ?_
 rintro e' w' ⟨rfl,hb,hO,hX',hA'⟩
 have hnx:=Zc1 hX
 rw[show 1+k=k+1 by omega] at hA' ⊢
 rw[hnn,hnx] at hA'
 rw[hnx]
 exact⟨rfl,hb,hO,hX',hA'⟩
theorem plotN25:Af []=2:=by
 show bmN 0+Qe 4 0+Qe 5 0=2
 rw[nod0,nod0];rfl
theorem data25(B ba b g c:Nat)(pa:Option Addr)(ca:Nat)(w:World)(hC:AlC B ba 2304 c ca 1 8)(hA:Al B ba b g 2304 c pa ca 1 8 2 (F25 2) w)(hBw:B≤w.heap.size) :
 Calls Tryz.prog 44 #[.pointer (some ⟨ba,0,none⟩),.slice none 0 0] w (fun e' w'=>e'=.returned (.tuple #[.int .i64 3,.int .i64 4,.nilIface])∧Below B w w'∧Zh [153,5,75,74,26] w w'∧Fr [ba,g] w w'∧Al B ba b g 2304 c pa ca 1 8 4 (F25 4) w'):=by
 refine(plot_Data B ba b g 2304 c pa ca 1 8 2 (F25 2) none 0 [] w hC hA (.inl ⟨_,_,rfl,rfl,rfl⟩) (by decide) (Wo (by decide) fun k hk=>absurd hk (by simp)) (by decide) (by decide) (by rw[plotN25];decide) hBw).mono ?_
 rintro e' w' ⟨rfl,hb,hO,hX,hA'⟩
 rw[plotN25,show 1+2=3 from rfl,plot25] at hA'
 rw[show 1+2=3 from rfl,plot25]
 exact⟨rfl,hb,hO,hX,hA'⟩
theorem metaC25(B ba b g c:Nat)(pa:Option Addr)(ca:Nat)(a:Addr)(w:World)(hC:AlC B ba 2304 c ca 1 8)(hA:Al B ba b g 2304 c pa ca 1 8 4 (F25 4) w)(h:Sl w (.slice (some a) 9 9) 9 (l25.map (Value.int .i64)))(hBw:B≤w.heap.size) :
 Calls Tryz.prog 45 #[.pointer (some ⟨ba,0,none⟩),.slice (some a) 9 9] w (fun e' w'=>e'=.returned (.tuple #[.int .i64 7,.int .i64 5,.nilIface])∧Below B w w'∧Zh [153,5,197,191,26] w w'∧Fr [ba,g] w w'∧Al B ba b g 2304 c pa ca 1 8 7 (F25 7) w'):=by
 refine(Zfn B ba b g 2304 c pa ca 1 8 4 (F25 4) a 9 l25 w hC hA h (by decide) rfl split25 (by decide) (by rw[need25];decide) (by decide) free25 hBw).mono ?_
 rintro e' w' ⟨rfl,hb,hO,hX,hA'⟩
 rw[need25,meta25'] at hA'
 rw[meta25']
 exact⟨rfl,hb,hO,hX,hA'⟩
theorem countC25(Bi b:Nat)(pi:Option Addr)(ni ci:Nat)(w:World)(hI:ImgR Bi b pi ni ci (F25 7) w) :
 Calls Tryz.prog 16 #[.pointer (some ⟨b,0,none⟩),.agg #[.int .i64 0,.int .i64 0,.int .i64 1,.int .i64 0,.int .i64 9,.int .i64 1,.int .i64 2,.int .i64 3,.int .i64 4,.int .i64 7,.int .i64 5]] w (Yz (fun w' r=>∃ p c,r=.tuple #[.slice p 9 c,.nilIface]∧w'.ownsRow w.heap.size 3 1 (.slice p 9 c) 9 (([1,1,1,1,1,1,1,1,0]:List Int).map (Value.int .i64))) w):=by
 refine(Zas Bi b pi ni ci (F25 7) S25 w hI).mono ?_
 rintro e' w' q
 rw[count25] at q
 rcases q with ⟨h,_⟩|⟨_,p,c,rfl,hb,ho⟩
 ·exact absurd rfl h
 ·exact⟨_,rfl,hb,p,c,rfl,ho⟩
theorem Se(w:World) :
 Calls Tryz.prog 15 #[] w (Ret (.bool true) w):=by
 refine zin 69 Tryz.func15 ?_
 refine xmk 7 fun _ _ _ _ zJ zQ zo zx zy zK=>Vm 2304 (.int .u8 0) 1 1 ((List.replicate 2304 (0:UInt8)).map bv) zo zx zy Tryz.underlying22 (by kernel_rfl) rfl (by omega) (by omega) (Zcn 2304) fun b1 W1 n1=>?_
 refine zK _ _ ?_
 have o1:=Zw (size:=1) (n:=2304) n1.blk (n1.ge (Below.refl w.heap.size _)) (by rw[List.length_map,List.length_replicate]) (by unfold maxLen;omega)
 refine xc 0 (args:=#[.slice (some ⟨b1,0,none⟩) 2304 2304]) (image_OfN (some ⟨b1,0,none⟩) 2304 2304 2304 (List.replicate 2304 (0:UInt8)) _ List.length_replicate (by omega) (Yk (Ze o1) List.length_replicate) (by omega) (Nat.le_refl _)) ?_
 rintro _ W2 ⟨_,rfl,hb2,bi,pi,ci,rfl,gi,ki,hd⟩
 have hd'1:=Zd hd n1.below.size
 rw[List.take_of_length_le (by rw[List.length_replicate];omega)] at hd'1
 obtain⟨g,rfl,hci⟩:=Gz hd'1 (by omega)
 have hB:=bln n1.below hb2
 have hs9:=hB.size
 refine xc 0 (args:=#[.pointer (some ⟨bi,0,none⟩),.int .i64 1]) (Zdp bi (some ⟨g,0,none⟩) 2304 ci 1 8 (1:Int) rfl (by omega) _ ki (by omega) (by decide) (by omega)) ?_
 rintro _ W3 ⟨_,rfl,hb3,ba,pa,ca,rfl,ga,ka,ho⟩
 replace ga:=Nat.le_trans hs9 ga
 have ki'1:=ki.below hb3
 have hd'2:=Zb hd'1 hb3
 have ho'1:=Zd ho hB.size
 have hA:Al w.heap.size ba bi g 2304 ci pa ca 1 8 0 (F25 0) _:=⟨ka,ki'1,hd'2,ho'1⟩
 have hca:8≤ca:=Ol ho'1 (by decide)
 have hC:AlC w.heap.size ba 2304 ci ca 1 8:=⟨by omega,hci,hca,by omega,ga⟩
 have hB'1:=bln hB hb3
 refine xc 24 (args:=#[.pointer (some ⟨ba,0,none⟩),.int .i64 1,.slice none 0 0]) (build25 w.heap.size ba bi g _ pa ca 0 1 1 _ (by decide) rfl (by decide) (by decide) rfl hC hA hB'1.size) ?_
 rintro _ W4 ⟨rfl,hb4,hO4,hX4,hA⟩
 have hB'2:=hB'1.trans hb4
 refine xc 10 (args:=#[.pointer (some ⟨ba,0,none⟩),.int .i64 3,.slice none 0 0]) (build25 w.heap.size ba bi g _ pa ca 1 3 2 _ (by decide) rfl (by decide) (by decide) rfl hC hA hB'2.size) ?_
 rintro _ W5 ⟨rfl,hb5,hO5,hX5,hA⟩
 have hB'3:=hB'2.trans hb5
 refine xc 10 (args:=#[.pointer (some ⟨ba,0,none⟩),.slice none 0 0]) (data25 w.heap.size ba bi g _ pa ca _ hC hA hB'3.size) ?_
 rintro _ W6 ⟨rfl,hb6,hO6,hX6,hA⟩
 refine xbs 12 9 [.int .i64 1,.int .i64 1,.int .i64 1,.int .i64 1,.int .i64 1,.int .i64 0,.int .i64 0,.int .i64 0,.int .i64 0] 3 fun b7 W7 n7=>?_
 have hB'4:=hB'3.trans hb6
 have g7:=n7.ge hB'4
 have hA'1:=hA.below n7.below
 have hB'5:=bln hB'4 n7.below
 refine xc 0 (args:=#[.pointer (some ⟨ba,0,none⟩),.slice (some ⟨b7,0,none⟩) 9 9]) (metaC25 w.heap.size ba bi g _ pa ca ⟨b7,0,none⟩ _ hC hA'1 (Ze (Zw (size:=1) (n:=9) n7.blk g7 rfl (by decide))) hB'5.size) ?_
 rintro _ W8 ⟨rfl,hb8,hO8,hX8,hA⟩
 refine xr 12 (args:=#[.pointer (some ⟨ba,0,none⟩)]) (Hv ba bi _ _ _ hA.blkA) fun W9 hb9=>?_
 have hA'2:=hA.below hb9
 refine xc 7 (args:=#[.pointer (some ⟨bi,0,none⟩),.agg #[.int .i64 0,.int .i64 0,.int .i64 1,.int .i64 0,.int .i64 9,.int .i64 1,.int .i64 2,.int .i64 3,.int .i64 4,.int .i64 7,.int .i64 5]]) (countC25 w.heap.size bi (some ⟨g,0,none⟩) 2304 ci _ ⟨hA'2.blkI,hA'2.data,by omega⟩) ?_
 rintro _ W10 ⟨_,rfl,hb10,p9,c9,rfl,ho9⟩
 have hs10:=(bln (hB'5.trans hb8) hb9).size
 refine xbs 13 9 [.int .i64 1,.int .i64 1,.int .i64 1,.int .i64 1,.int .i64 1,.int .i64 1,.int .i64 1,.int .i64 1,.int .i64 0] 3 fun b11 W11 n11=>?_
 have k7'1:=((n7.blk.only hO8 (by decide)).below hb9).below hb10
 have d11_b7:=n11.ne k7'1
 have hB'6:=bln (bln (hB'5.trans hb8) hb9) hb10
 have g11:=n11.ge hB'6
 have ho9'1:=Zd ho9 hs10
 have r11_ho9:=Zr ho9'1 n11
 have ho9'2:=Zb ho9'1 n11.below
 refine xr 0 (args:=#[.slice p9 9 c9,.slice (some ⟨b11,0,none⟩) 9 9]) (Fg p9 (some ⟨b11,0,none⟩) c9 9 ([1,1,1,1,1,1,1,1,0]:List Int) _ (Ze ho9'2) (Ze (Zw (size:=1) (n:=9) n11.blk g11 rfl (by decide)))) fun W12 hb12=>?_
 have hB'7:=bln (bln hB'6 n11.below) hb12
 exact xe 5 (.bool true) ⟨rfl,hB'7⟩
theorem Ox(B bm:Nat)(p:Option Addr)(k c:Nat)(l:List UInt8)(no:Int)(w:World)(hI:RefI B bm p k c l w) :
 Calls Tryz.prog 140 #[.pointer (some ⟨bm,0,none⟩),.int .i64 no] w (fun e w' =>
 (Xh l no≠0∧∃ p c a c2,e=.returned (.tuple #[.slice p 0 c,.agg #[.slice a 1 c2,.int .i64 (Xh l no)]])∧Below w.heap.size w w'∧w'.ownsRow w.heap.size 3 1 (.slice a 1 c2) 1 (([no]:List Int).map (Value.int .i64))) ∨
 (Xh l no=0∧∃ p c a c2,e=.returned (.tuple #[.slice p (Tq l no).length c,.agg #[.slice a 0 c2,.int .i64 0]])∧Below w.heap.size w w'∧w'.ownsRow w.heap.size 3 1 (.slice p (Tq l no).length c) (Tq l no).length ((Tq l no).map (Value.int .i64)))):=by
 refine(Zft B bm p k c l no w hI).mono ?_
 rintro e W ⟨p,c,a5,c5,rfl,hb,ho,hf⟩
 by_cases h:Xh l no=0
 ·refine .inr ⟨h,p,c,a5,c5,?_,hb,ho⟩
  rw[h];rfl
 ·refine .inl ⟨h,p,c,a5,c5,?_,hb,?_⟩
  ·rw[Ta h,Mq h];rfl
  ·rw[Mq h] at hf;exact hf
theorem Tz(B bm:Nat)(p:Option Addr)(k c:Nat)(l:List UInt8)(no:Int)(w:World)(hI:RefI B bm p k c l w) :
 Calls Tryz.prog 138 #[.pointer (some ⟨bm,0,none⟩),.int .i64 no] w (fun e w' =>
 (Xl l no≠0∧∃ p c a c2,e=.returned (.tuple #[.slice p 0 c,.agg #[.slice a 1 c2,.int .i64 (Xl l no)]])∧Below w.heap.size w w'∧w'.ownsRow w.heap.size 3 1 (.slice a 1 c2) 1 (([no]:List Int).map (Value.int .i64))) ∨
 (Xl l no=0∧∃ p c a c2,e=.returned (.tuple #[.slice p (Wh l no).length c,.agg #[.slice a 0 c2,.int .i64 0]])∧Below w.heap.size w w'∧w'.ownsRow w.heap.size 191 3 (.slice p (Wh l no).length c) (Wh l no).length ((Wh l no).flatMap Og))):=by
 refine(Za0 B bm p k c l no w hI).mono ?_
 rintro e W ⟨p,c,a5,c5,rfl,hb,ho,hf⟩
 by_cases h:Xl l no=0
 ·refine .inr ⟨h,p,c,a5,c5,?_,hb,ho⟩
  rw[h];rfl
 ·refine .inl ⟨h,p,c,a5,c5,?_,hb,?_⟩
  ·rw[Bk h,Mq h];rfl
  ·rw[Mq h] at hf;exact hf
def rxC (x:Rx):List Value:=[.int .i64 x.1,.int .i64 x.2.1,.int .i64 x.2.2]
theorem Tj(x:Rx):(rxC x).length=3:=rfl
theorem rx_one(ts:List Rx):∀ u∈ts.flatMap rxC,u.oneCell'=true:=by
 intro u hu
 obtain⟨t,_,h⟩:=List.mem_flatMap.1 hu
 simp only[rxC,List.mem_cons,List.not_mem_nil,or_false] at h
 rcases h with rfl|rfl|rfl<;>rfl
def Tn(B:Nat)(w:World)(a:Option Addr)(c:Nat)(ts:List Rx):Prop:=∃ v0 n0 xs0,w.ownsRow B 141 3 v0 n0 xs0∧∀ W,W.ownsRow B 141 3 v0 n0 xs0→Sts rxC W (.slice a ts.length c) ts
theorem Tn.below{B:Nat}{w W:World}{a:Option Addr}{c:Nat}{ts:List Rx}(h:Tn B w a c ts)(hb:Below w.heap.size w W):Tn B W a c ts:=by
 obtain⟨v0,n0,xs0,h1,h2⟩:=h
 exact⟨v0,n0,xs0,Zb h1 hb,h2⟩
theorem Tn.sts{B:Nat}{w:World}{a:Option Addr}{c:Nat}{ts:List Rx}(h:Tn B w a c ts):Sts rxC w (.slice a ts.length c) ts:=by
 obtain⟨v0,n0,xs0,h1,h2⟩:=h
 exact h2 w h1
theorem Tn.of{B:Nat}{w:World}{a:Option Addr}{n c:Nat}{ts:List Rx}(h:w.ownsRow B 141 3 (.slice a n c) n (ts.flatMap rxC))(hn:n=ts.length):Tn B w a c ts:=by
 subst hn
 exact⟨_,_,_,h,fun W k=>Ze k⟩
theorem Tn.tail{B:Nat}{w:World}{a:Option Addr}{c:Nat}{t:Rx}{ts:List Rx}(h:Tn B w a c (t::ts)):Tn B w (Qy a 1 c 3) (c-1) ts:=by
 obtain⟨v0,n0,xs0,h1,h2⟩:=h
 exact⟨v0,n0,xs0,h1,fun W k=>Sts.cut Tj (h2 W k) 1 (by simp)⟩
def Ry(B N:Nat)(w:World)(a:Option Addr)(c:Nat)(ts:List Rx):Prop:=∃ v0 n0 xs0,w.ownsRow B 141 3 v0 n0 xs0∧(∀ j,v0.ownBlock=some j→j<N)∧∀ W,W.ownsRow B 141 3 v0 n0 xs0→Sts rxC W (.slice a ts.length c) ts
theorem Tn.at_{B:Nat}{w:World}{a:Option Addr}{c:Nat}{ts:List Rx}(h:Tn B w a c ts):Ry B w.heap.size w a c ts:=by
 obtain⟨v0,n0,xs0,h1,h2⟩:=h
 exact⟨v0,n0,xs0,h1,fun j hj=>(h1.lt j hj).2,h2⟩
theorem Ry.un{B N:Nat}{w:World}{a:Option Addr}{c:Nat}{ts:List Rx}(h:Ry B N w a c ts):Tn B w a c ts:=by
 obtain⟨v0,n0,xs0,h1,_,h2⟩:=h
 exact⟨v0,n0,xs0,h1,h2⟩
theorem Ry.below{B N:Nat}{w W:World}{a:Option Addr}{c:Nat}{ts:List Rx}(h:Ry B N w a c ts)(hb:Below w.heap.size w W):Ry B N W a c ts:=by
 obtain⟨v0,n0,xs0,h1,h3,h2⟩:=h
 exact⟨v0,n0,xs0,Zb h1 hb,h3,h2⟩
theorem Ry.only{B N:Nat}{w W:World}{a:Option Addr}{c:Nat}{ts:List Rx}{T:List TypeId}(h:Ry B N w a c ts)(hO:Zh T w W)(hT:T.contains 141=false):Ry B N W a c ts:=by
 obtain⟨v0,n0,xs0,h1,h3,h2⟩:=h
 exact⟨v0,n0,xs0,Zj h1 hO hT,h3,h2⟩
theorem Ry.updN{B N:Nat}{w w0 W W2:World}{b:Nat}{cs:List Value}{e:TypeId}{a:Option Addr}{c:Nat}{ts:List Rx}(h:Ry B N w a c ts)(u:Upd w b W)(n:New w0 b cs e W2)(hN:N≤w0.heap.size):Ry B N W a c ts:=by
 obtain⟨v0,n0,xs0,h1,h3,h2⟩:=h
 exact⟨v0,n0,xs0,u.own3 h1 (fun j hj=>by have:=h3 j hj;have:=n.at_;omega),h3,h2⟩
theorem sufx_eq{w:World}{a:Option Addr}{c:Nat}{ts us:List Rx}(h:Sts rxC w (.slice a ts.length c) ts)(e:ts=us):Sts rxC w (.slice a us.length c) us:=by subst e;exact h
theorem Ry.sts{B N:Nat}{w:World}{a:Option Addr}{c:Nat}{ts us:List Rx}(h:Ry B N w a c ts)(e:ts=us):Sts rxC w (.slice a us.length c) us:=sufx_eq h.un.sts e
theorem Ry.tail{B N:Nat}{w:World}{a:Option Addr}{c:Nat}{ts us:List Rx}{t:Rx}(h:Ry B N w a c ts)(e:ts=t::us):Tn B w (Qy a 1 c 3) (c-1) us:=by subst e;exact h.un.tail
theorem Ry.slN{B N:Nat}{w:World}{a:Option Addr}{c:Nat}{ts us:List Rx}{t:Rx}(h:Ry B N w a c ts)(e:ts=t::us):Sl w (.slice (Qy a 1 c 3) (ts.length-1) (c-1)) (ts.length-1) (us.flatMap rxC):=by subst e;exact h.un.tail.sts
theorem slt_takeR(L:List (Nat×Nat×Nat)){i:Nat}(hi:i<L.length):((L.take (i+1)).map Kb).flatMap rxC=((L.take i).map Kb).flatMap rxC++rxC (Kb (L.getD i (0,0,0))):=by
 rw[List.take_succ_eq_append_getElem hi,List.map_append,List.flatMap_append,show L.getD i (0,0,0)=L[i] from by simp[List.getD,hi]]
 simp
theorem Um(pl:Option Addr)(cl:Nat)(L:List (Nat×Nat×Nat))(w:World)(hL:Sts Og w (.slice pl L.length cl) L)(hl:L.length≤1000) :
 Calls Tryz.prog 139 #[.slice pl L.length cl] w (Yz (fun w' r=>∃ p c,r=.slice p L.length c∧w'.ownsRow w.heap.size 141 3 (.slice p L.length c) L.length ((L.map Kb).flatMap rxC)) w):=by
 refine zin 21 Tryz.func139 ?_
 have hB:=Below.refl w.heap.size w
 refine zl 17 21 (fun zm zkv V=>∃ (i:Nat) (p:Option Addr) (c:Nat),zkv=[(0,.slice pl L.length cl),(2,.slice none 0 0),(3,.slice p i c),(4,.int .i64 (↑i:Int))]∧zm=L.length-((↑i:Int)).toNat∧Below w.heap.size w V∧V.ownsRow w.heap.size 141 3 (.slice p i c) i (((L.take i).map Kb).flatMap rxC)∧i≤L.length) ⟨0,none,0,rfl,rfl,hB,World.ownsRow_nil _ _ _ _,Nat.zero_le _⟩ ?_
 rintro _ _ W1 ⟨i,p,c,rfl,rfl,hB_1,ho,hi⟩ J1 hJ1 r1
 refine xid 9 ((↑i:Int)<(↑L.length:Int)) (fun hc2=>?_) (fun hc2=>?_)
 ·refine xx 8 _ L.length i 3 (Sts.cell (f:=Og) hL Be (0,0,0) (k:=i) (i:=0) (by omega) rfl).1 ?_
  refine xl 1 ((Sts.cell (hL.below hB_1) Be (0,0,0) (k:=i) (i:=0) (by omega) rfl).2) ?_
  refine xbs 1 1 [.int .i64 (↑(L.getD i (0,0,0)).1:Int),.int .i64 7,.int .i64 0] 141 fun b3 W3 n3=>?_
  have g3:=n3.ge hB_1
  have r3_ho:=Zr ho n3
  have ho'1:=Zb ho n3.below
  have hB'1:=bln hB_1 n3.below
  refine xbi 0 fun _ _ _ _ zJ zQ zo zx zy zK=>Zo (m:=1) (news:=[.int .i64 (↑(L.getD i (0,0,0)).1:Int),.int .i64 7,.int .i64 0]) (.agg #[.int .i64 0,.int .i64 0,.int .i64 0]) 3 24 (i+1) ((((L.take (i+1)).map Kb).flatMap rxC)) zo Tryz.underlying142 (by kernel_rfl) rfl (by decide) zx ho'1 zy (n3.blk.sl 1 1 (by decide) (by decide)) rfl (by simp[Value.oneCell']) (by unfold maxLen;omega) (by omega) hB'1.size (rfl) (by rw[slt_takeR L (by omega)];rfl) fun px4 cx4 W4 o4 hg4 hb4=>?_
  refine zK _ _ ?_
  refine xwm 6 ((↑i:Int)+1) (↑(i+1):Int) ?_
  have hB'2:=hB'1.trans hb4
  exact ze 2 (hJ1 _ _ _ ⟨i+1,_,_,rfl,rfl,hB'2,o4,by omega⟩ (by omega))
 refine xe 12 (.slice p i c) ?_
 obtain rfl:i=L.length:=by omega
 rw[List.take_length] at ho
 exact⟨_,rfl,hB_1,_,_,rfl,ho⟩
def Zf6(l:List UInt8)(no ak:Int)(w:World)(e:Ending)(w':World):Prop :=
 (Gq l no ak≠0∧∃ p m c a d,e=.returned (.tuple #[.slice p m c,.agg #[.slice a 1 d,.int .i64 (Gq l no ak)]])∧Below w.heap.size w w'∧w'.ownsRow w.heap.size 3 1 (.slice a 1 d) 1 (([no]:List Int).map (Value.int .i64))) ∨
 (Gq l no ak=0∧∃ p c a d,e=.returned (.tuple #[.slice p (Wz l no ak).length c,.agg #[.slice a 0 d,.int .i64 0]])∧Below w.heap.size w w'∧w'.ownsRow w.heap.size 141 3 (.slice p (Wz l no ak).length c) (Wz l no ak).length ((Wz l no ak).flatMap rxC))
theorem Bu{l:List UInt8}{no ak er:Int}{w W:World}{p a:Option Addr}{m c d:Nat}(h:Gq l no ak=er)(her:er≠0)(hb:Below w.heap.size w W)(ho:W.ownsRow w.heap.size 3 1 (.slice a 1 d) 1 (([no]:List Int).map (Value.int .i64))):Zf6 l no ak w (.returned (.tuple #[.slice p m c,.agg #[.slice a 1 d,.int .i64 er]])) W:=by
 subst h;exact .inl ⟨her,p,m,c,a,d,rfl,hb,ho⟩
theorem Sd{l:List UInt8}{no ak:Int}{L:List Rx}{n:Nat}{w W:World}{p a:Option Addr}{c d:Nat}(h:Gq l no ak=0)(hL:Wz l no ak=L)(hn:L.length=n)(hb:Below w.heap.size w W)(ho:W.ownsRow w.heap.size 141 3 (.slice p n c) n (L.flatMap rxC)):Zf6 l no ak w (.returned (.tuple #[.slice p n c,.agg #[.slice a 0 d,.int .i64 0]])) W:=by
 subst hL hn;exact .inr ⟨h,p,c,a,d,rfl,hb,ho⟩
theorem Sm(l:List UInt8)(no:Int):Gq l no 6=Xl l no:=if_pos rfl
theorem hasE_7R(l:List UInt8)(no:Int):Gq l no 7=Xh l no:=by unfold Gq;rw[if_neg (by decide),if_pos rfl]
theorem hasE_nR{l:List UInt8}{no t:Int}(h6:t≠6)(h7:t≠7):Gq l no t=Xg l no t:=by unfold Gq;rw[if_neg h6,if_neg h7]
theorem Zhd(l:List UInt8)(no:Int):Wz l no 6=(Wh l no).map Kb:=if_pos rfl
theorem hasL_7R(l:List UInt8)(no:Int):Wz l no 7=[]:=by unfold Wz;rw[if_neg (by decide),if_pos rfl]
theorem hasL_nR{l:List UInt8}{no t:Int}(h6:t≠6)(h7:t≠7):Wz l no t=Zc0 l no:=by unfold Wz;rw[if_neg h6,if_neg h7]
def Xw(l:List UInt8)(no:Int)(i:Nat):List Rx:=if Kh (Xm (inB l no)) (Xr (inB l no)) then [] else((Yx l no).take i).map (Er no (Xm (inB l no)) (Xr (inB l no)))
theorem Dz(l:List UInt8)(no:Int):Xw l no 0=[]:=by unfold Xw;split<;>simp
theorem Zde{l:List UInt8}{no:Int}{i:Nat}(h:i=(Yx l no).length):Xw l no i=Zc0 l no:=by subst h;unfold Xw Zc0;rw[List.take_length]
theorem Pa{l:List UInt8}{no:Int}{i:Nat}(h:Kh (Xm (inB l no)) (Xr (inB l no))):Xw l no (i+1)=Xw l no i:=by unfold Xw;rw[if_pos h,if_pos h]
theorem Xu{l:List UInt8}{no:Int}{i:Nat}(hi:i<(Yx l no).length)(h:¬ Kh (Xm (inB l no)) (Xr (inB l no))):Xw l no (i+1)=Xw l no i++[Er no (Xm (inB l no)) (Xr (inB l no)) ((Yx l no).getD i [])]:=by
 unfold Xw
 rw[if_neg h,if_neg h,List.take_succ_eq_append_getElem hi,List.map_append,show(Yx l no).getD i []=(Yx l no)[i] from by simp[List.getD,hi]];rfl
theorem Zer(l:List UInt8)(no:Int)(i:Nat):(Xw l no i).length≤i:=by
 unfold Xw
 split
 ·exact Nat.zero_le _
 ·rw[List.length_map,List.length_take];exact Nat.min_le_left _ _
theorem Kt(l:List UInt8)(no:Int):(Yx l no).length=Xf (inB l no):=by unfold Yx;exact Hj _ _
theorem Me{no t:Int}{leaf:Bool}{v:List UInt8}(h:leaf=true)(h4:t=4)(he:Xk Zy v=0):rxC (Er no t leaf v)=[.int .i64 (((Yb Zy v).getD 0 0:Nat):Int),.int .i64 7,.int .i64 (Xk Zy v)]:=by
 unfold Er;rw[if_pos ⟨h,h4⟩,if_neg (fun q=>q he),he];rfl
theorem Uv{no t:Int}{leaf:Bool}{v:List UInt8}(h:leaf=true)(h4:t=4)(he:Xk Zy v≠0):rxC (Er no t leaf v)=[.int .i64 no,.int .i64 7,.int .i64 (Xk Zy v)]:=by
 unfold Er;rw[if_pos ⟨h,h4⟩,if_pos he];rfl
theorem Us{no t:Int}{leaf:Bool}{v:List UInt8}(h:leaf=true)(h4:t≠4)(he:Xx v=0):rxC (Er no t leaf v)=[.int .i64 (Vg v:Int),.int .i64 2,.int .i64 (Xx v)]:=by
 unfold Er;rw[if_neg (fun q=>h4 q.2),if_neg (fun q=>q he),if_pos h,he];rfl
theorem Hi{no t:Int}{leaf:Bool}{v:List UInt8}(h:leaf=true)(h4:t≠4)(he:Xx v≠0):rxC (Er no t leaf v)=[.int .i64 no,.int .i64 2,.int .i64 (Xx v)]:=by
 unfold Er;rw[if_neg (fun q=>h4 q.2),if_pos he,if_pos h];rfl
theorem Un{no t:Int}{leaf:Bool}{v:List UInt8}(h:leaf=false)(he:Xx v=0):rxC (Er no t leaf v)=[.int .i64 (Vg v:Int),.int .i64 t,.int .i64 (Xx v)]:=by
 unfold Er;rw[if_neg (fun q=>by rw[h] at q;exact absurd q.1 (by decide)),if_neg (fun q=>q he),h,he];rfl
theorem Jv{no t:Int}{leaf:Bool}{v:List UInt8}(h:leaf=false)(he:Xx v≠0):rxC (Er no t leaf v)=[.int .i64 no,.int .i64 t,.int .i64 (Xx v)]:=by
 unfold Er;rw[if_neg (fun q=>by rw[h] at q;exact absurd q.1 (by decide)),if_pos he,h];rfl
end Go.Proofs.YtlmaglneeaecdaaGreatDoor
